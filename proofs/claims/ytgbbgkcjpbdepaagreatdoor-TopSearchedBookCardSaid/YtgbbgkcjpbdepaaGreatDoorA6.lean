/- Joined texts: what the statement needs, walks by program (wip/tools). -/
import Derived.Test.YtgbbgkcjpbdepaaGreatDoorA5
import Derived.Test.YtgbbgkcjpbdepaaGreatDoorA2
import Derived.Test.YtgbbgkcjpbdepaaGreatDoorA4
import Derived.Test.YtgbbgkcjpbdepaaGreatDoorA3
import Derived.Test.YtgbbgkcjpbdepaaGreatDoorProg
import Derived.KernelRfl
set_option linter.unusedVariables false
set_option linter.unusedSimpArgs false
set_option linter.unusedSectionVars false
set_option linter.unnecessarySimpa false
namespace Go.Ex
open Go.Fip
section
variable {φ φ' : Phi} {sd sd' : Ex.T AV} {sn sn' : Nat}
theorem CV.narrow {c : Nat} {v0 v : Value} (h0 : CV φ sd sn c v0) (he : Ext φ sd sn φ' sd' sn') (h : CV φ' sd' sn' c v) : CV φ sd sn c v := by
  induction h0 generalizing v with
  | int p hp =>
    obtain ⟨_, rfl⟩ : AR φ' sd' sn' (.i p) v := h.rel (by rw [dec_code _ _ (by decide)]; rfl)
    exact .int p hp
  | boo p hp =>
    obtain ⟨_, rfl⟩ : AR φ' sd' sn' (.b p) v := h.rel (by rw [dec_code _ _ (by decide)]; rfl)
    exact .boo p hp
  | ptr r o q hr ho hq =>
    have e1 : (o * 16777216 + r) % 16777216 = r := by omega
    have e2 : (o * 16777216 + r) / 16777216 = o := by omega
    have hd : dec (code (o * 16777216 + r) 3) sd' = some (.pt r o) := by
      rw [dec_code _ _ (by decide)]
      show some (AV.pt ((o * 16777216 + r) % 16777216) ((o * 16777216 + r) / 16777216)) = _
      rw [e1, e2]
    obtain ⟨q', hq', _, _, rfl⟩ : AR φ' sd' sn' (.pt r o) v := h.rel hd
    rw [he.rows r q hq] at hq'; cases hq'
    exact .ptr r o q hr ho hq
  | sl r o n c cap q hr ho hn hc hq hcap hnc =>
    have hd : dec (code (((c * 16777216 + n) * 16777216 + o) * 16777216 + r) 4) sd' = some (.sl r o n c) := by
      rw [dec_code _ _ (by decide)]
      generalize hp : ((c * 16777216 + n) * 16777216 + o) * 16777216 + r = p
      show some (AV.sl (p % 16777216) (p / 16777216 % 16777216) (p / 281474976710656 % 16777216) (p / 4722366482869645213696)) = _
      have e1 : p % 16777216 = r := by omega
      have e2 : p / 16777216 % 16777216 = o := by omega
      have e3 : p / 281474976710656 % 16777216 = n := by omega
      have e4 : p / 4722366482869645213696 = c := by omega
      rw [e1, e2, e3, e4]
    obtain ⟨q', cap', hq', _, _, _, _, hcap', hnc', rfl⟩ : AR φ' sd' sn' (.sl r o n c) v := h.rel hd
    rw [he.rows r q hq] at hq'; cases hq'
    exact .sl r o n c cap' q hr ho hn hc hq hcap' hnc'
  | mp r q hr hq =>
    obtain ⟨q', hq', _, rfl⟩ : AR φ' sd' sn' (.mp r) v := h.rel (by rw [dec_code _ _ (by decide)]; rfl)
    rw [he.rows r q hq] at hq'; cases hq'
    exact .mp r q hr hq
  | gone i v0 hh hb hg => exact .gone i v hh hb hg
  | x i v0 hh hb hg h1 =>
    have e : v = v0 := h.rel (a := .x v0) (by rw [dec_code _ _ (by decide)]; show sd'.get i = _; rw [he.side i hh]; exact hg)
    subst e
    exact .x i v hh hb hg h1
  | fn i f n c m d xs ys hh hb hg hx hy hc hd hxs hys ihx ihy =>
    obtain ⟨xs', ys', rfl, hx', hy', _, _, hxs', hys'⟩ : AR φ' sd' sn' (.fn f n c m d) v := h.rel (by rw [dec_code _ _ (by decide)]; show sd'.get i = _; rw [he.side i hh]; exact hg)
    refine .fn i f n c m d xs' ys' hh hb hg hx' hy' hc hd (fun j u hj => ?_) fun j u hj => ?_
    · have hlt : j < xs.size := by have := (Array.getElem?_eq_some_iff.1 hj).1; omega
      exact ihx j xs[j] (by simp [hlt]) (hxs' j u hj)
    · have hlt : j < ys.size := by have := (Array.getElem?_eq_some_iff.1 hj).1; omega
      exact ihy j ys[j] (by simp [hlt]) (hys' j u hj)
  | ag i n c xs hh hb hg hx hc h1 hxs ih =>
    obtain ⟨xs', rfl, hx', _, h1', hxs'⟩ : AR φ' sd' sn' (.ag n c) v := h.rel (by rw [dec_code _ _ (by decide)]; show sd'.get i = _; rw [he.side i hh]; exact hg)
    refine .ag i n c xs' hh hb hg hx' hc h1' fun j u hj hne => ?_
    have hlt : j < xs.size := by have := (Array.getElem?_eq_some_iff.1 hj).1; omega
    exact ih j xs[j] (by simp [hlt]) hne (hxs' j u hj hne)
  | tu i n c xs hh hb hg hx hxs ih =>
    obtain ⟨xs', rfl, hx', hxs'⟩ : AR φ' sd' sn' (.tu n c) v := h.rel (by rw [dec_code _ _ (by decide)]; show sd'.get i = _; rw [he.side i hh]; exact hg)
    refine .tu i n c xs' hh hb hg hx' fun j u hj hne => ?_
    have hlt : j < xs.size := by have := (Array.getElem?_eq_some_iff.1 hj).1; omega
    exact ih j xs[j] (by simp [hlt]) hne (hxs' j u hj hne)
  | em a cap =>
    obtain ⟨a', cap', rfl⟩ : AR φ' sd' sn' .em v := h.rel (by rw [dec_code _ _ (by decide)]; rfl)
    exact .em a' cap'
  | yd r q hr hq =>
    obtain ⟨q', hq', _, rfl⟩ : AR φ' sd' sn' (.yd r) v := h.rel (by rw [dec_code _ _ (by decide)]; rfl)
    rw [he.rows r q hq] at hq'; cases hq'
    exact .yd r q hr hq
  | sy p n y hl hp hn hg =>
    obtain ⟨rfl, _⟩ : AR φ' sd' sn' (.sy p (y p)) v := h.rel (by rw [dec_code _ _ (by decide)]; show symT (sd'.get 0) p = _; rw [he.side 0 hn, hg]; rfl)
    exact .sy p n y hl hp hn hg
  | syg p v0 hp hn hg => exact .syg p v hp hn hg
theorem CellsR.narrow {cur0 cur : Array Value} {off n d : Nat} (h0 : CellsR φ sd sn cur0 off n d) (he : Ext φ sd sn φ' sd' sn') (h : CellsR φ' sd' sn' cur off n d) : CellsR φ sd sn cur off n d :=
  ⟨h.1, fun i hi => by
    obtain ⟨u, h1, h2, h3⟩ := h.2 i hi
    obtain ⟨u0, _, _, g3⟩ := h0.2 i hi
    exact ⟨u, h1, h2, fun hn => (g3 hn).narrow he (h3 hn)⟩⟩
theorem ens_all:∀ {l:List (Nat×Nat×Nat×Nat)} {m:List MapEntry},EnsR φ sd sn l m→∀ x∈l,∃ e,EnR φ sd sn x e
 | y::l,e::m,h,x,hx=>by
  rcases List.mem_cons.1 hx with rfl | hx
  ·exact ⟨e,h.1⟩
  ·exact ens_all h.2 x hx
 | _::_,[],h,_,_=>h.elim
theorem EnsR.narrow (he:Ext φ sd sn φ' sd' sn'):∀ {l:List (Nat×Nat×Nat×Nat)} {m:List MapEntry},(∀ x∈l,∃ e,EnR φ sd sn x e)→EnsR φ' sd' sn' l m→EnsR φ sd sn l m
 | [],[],_,_=>trivial
 | x::l,e::m,h0,h=>by
  obtain ⟨e0,g⟩:=h0 x (by simp)
  exact ⟨⟨h.1.1,h.1.2.1,g.2.2.1.narrow he h.1.2.2.1,h.1.2.2.2⟩,EnsR.narrow he (fun y hy=>h0 y (by simp [hy])) h.2⟩
 | [],_::_,_,h=>h.elim
 | _::_,[],_,h=>h.elim
theorem ORm.narrow (he:Ext φ sd sn φ' sd' sn') {w:World} {q:Pl} {es:List (Nat×Nat×Nat×Nat)} {c:Nat} (h0:∀ x∈es,∃ e,EnR φ sd sn x e) (h:ORm φ' sd' sn' w q es c):ORm φ sd sn w q es c:=by
 obtain ⟨es',h1,h2,h3⟩:=h; exact ⟨es',h1,EnsR.narrow he h0 h2,h3⟩
theorem ORi.narrow (he:Ext φ sd sn φ' sd' sn') {w:World} {q:Pl} {m:Option Nat} {since cur last:Nat} {seen:List Nat} (h0:∀ r,m=some r→(φ r).isSome=true) (h:ORi φ' w q m since seen cur last):ORi φ w q m since seen cur last:=by
 obtain ⟨seen',h1,h2,h3⟩:=h
 refine ⟨seen',?_,h0,h3⟩
 cases m with
 | none=>exact h1
 | some r =>
  have hr:=h0 r rfl
  cases hq:φ r with
  | none=>rw [hq] at hr; cases hr
  | some q=>simp only [Option.bind_some,hq,he.rows _ _ hq,Option.map_some] at h1 ⊢; exact h1
theorem ORm.all {w:World} {q:Pl} {es:List (Nat×Nat×Nat×Nat)} {c:Nat} (h:ORm φ sd sn w q es c):∀ x∈es,∃ e,EnR φ sd sn x e:=by
 obtain ⟨es',_,h2,_⟩:=h; exact ens_all h2
theorem GR.narrow {G G':Nat→Option GD} {w0 w:World} {q:Pl} {g:Nat} {k:GK} (hG:∀ i D,G i=some D→G' i=some D) (h0:GR G φ sd sn w0 q g k) (he:Ext φ sd sn φ' sd' sn') (h:GR G' φ' sd' sn' w q g k):GR G' φ sd sn w q g k:=by
 cases k with
 | itV m c es kill =>
  obtain ⟨D0,g1,_,_,_,_,_,_,g8,_⟩:=h0
  obtain ⟨D,h1,h2,h3,h4,h5,h6⟩:=h
  exact ⟨D,h1,h2,h3,h4,h5,h6.narrow he g8⟩
 | itD m c es kill x =>
  obtain ⟨D0,g1,_,_,_,_,_,_,_,_,g8,_⟩:=h0
  obtain ⟨D,h1,h2,h3,h4,h5,h6,h7,h8⟩:=h
  exact ⟨D,h1,h2,h3,h4,h5,h6,h7,h8.narrow he g8⟩
 | mpV it =>
  obtain ⟨D0,g1,g2⟩:=h0
  obtain ⟨D,h1,h2⟩:=h
  rw [hG _ _ g1] at h1; cases h1
  exact ⟨D0,hG _ _ g1,h2.narrow he g2.all⟩
 | mpX it x =>
  obtain ⟨D0,j0,g1,g2,g3⟩:=h0
  obtain ⟨D,j,h1,h2,h3⟩:=h
  rw [hG _ _ g1] at h1; cases h1
  rw [ex_gone _ _ _ D0.ndx g2] at g3
  refine ⟨D0,j,hG _ _ g1,h2,h3.narrow he ?_⟩
  rw [ex_gone _ _ _ D0.ndx h2]
  exact g3.all
 | itB m c es seen cur =>
  obtain ⟨D0,sc0,cc0,g1,_,_,_,_,_,_,_,g8,_⟩:=h0
  obtain ⟨D,sc,cc,h1,h2,h3,h4,h5,h6,h7⟩:=h
  exact ⟨D,sc,cc,h1,h2,h3,h4,h5,h6,h7.narrow he g8⟩
 | bgV c es =>
  obtain ⟨D0,g1,_,_,g4⟩:=h0
  obtain ⟨D,h1,h2,h3,h4⟩:=h
  rw [hG _ _ g1] at h1; cases h1
  exact ⟨D0,hG _ _ g1,h2,h3,h4.narrow he g4.all⟩
theorem OR.narrow {P:Program} {G G':Nat→Option GD} {w0 w:World} {q:Pl} {o:AO} (hl:noLoop (some o)=true) (hG:∀ i D,G i=some D→G' i=some D) (h0:OR P G φ sd sn w0 q o) (he:Ext φ sd sn φ' sd' sn') (h:OR P G' φ' sd' sn' w q o):OR P G' φ sd sn w q o:=by
 cases o with
 | row E n d=>obtain ⟨_,_,_,g2,_⟩:=h0; obtain ⟨cur,E',h1,h2,h3⟩:=h; exact ⟨cur,E',h1,g2.narrow he h2,h3⟩
 | map es clock=>obtain ⟨_,_,g2,_⟩:=h0; obtain ⟨es',h1,h2,h3⟩:=h; exact ⟨es',h1,EnsR.narrow he (ens_all g2) h2,h3⟩
 | iter m since seen cur last =>
  obtain ⟨_,_,g2,_⟩:=h0
  exact ORi.narrow he g2 h
 | mark=>exact h
 | loop N env ps assign body st pend=>cases hl
 | gh g k=>exact GR.narrow hG h0 he h
 | bag es c =>
  obtain ⟨ec0,g1,g2⟩:=h0
  obtain ⟨ec,h1,h2⟩:=h
  refine ⟨ec,h1.narrow he fun x hx=>?_,h2⟩
  have hx2:tri x∈ec0.map tri:=(g2.symm.trans h2).mem_iff.2 (List.mem_map_of_mem hx)
  obtain ⟨y,hy,e⟩:=List.mem_map.1 hx2
  obtain ⟨en,k1,k2,k3,k4⟩:=g1.all y hy
  have e1:y.1=x.1:=congrArg (·.1) e
  have e2:y.2.1=x.2.1:=congrArg (·.2.1) e
  have e3:y.2.2.1=x.2.2.1:=congrArg (·.2.2) e
  rw [e1,e2] at k1 k2
  rw [e3] at k3
  exact ⟨{ en with born:=x.2.2.2 },k1,k2,k3,rfl⟩
 | ro E n d=>obtain ⟨_,_,_,_,g2,_⟩:=h0; obtain ⟨cur,E',fz,h1,h2,h3⟩:=h; exact ⟨cur,E',fz,h1,g2.narrow he h2,h3⟩
theorem DR.narrow (he:∀ r q,φ r=some q→φ' r=some q):∀ {l:List Nat} {m0 m:List Deferred},DR φ l m0→DR φ' l m→DR φ l m
 | [],_,[],_,_=>trivial
 | r::l,_::_,_::_,h0,h=>by
  obtain ⟨⟨q0,g1,g2,_⟩,g4⟩:=h0
  obtain ⟨⟨q,h1,h2,h3⟩,h4⟩:=h
  rw [he _ _ g1] at h1; cases h1
  exact ⟨⟨q0,g1,h2,h3⟩,DR.narrow he g4 h4⟩
 | _::_,[],_,h,_=>h.elim
 | _::_,_::_,[],_,h=>h.elim
 | [],_,_::_,_,h=>h.elim
end
theorem yes2_eq {b:Bool} (h:yes2 b=2):b=true:=by cases b; cases h; rfl
theorem one1_ne {b:Bool} (h:one1 b=2):False:=by cases b <;> cases h
theorem cmpM_eq {es es':List (Nat×Nat×Nat×Nat)} {q q':Nat} (h:cmpM es es' q q'=2):es=es'∧q=q':=by
 unfold cmpM at h
 cases hc:Bool.and (Nat.beq q q') (eqE es es') with
 | true=>obtain ⟨h1,h2⟩:=and_t hc; exact ⟨eqE_eq _ _ h2,beq_eq h1⟩
 | false=>rw [hc] at h; exact (one1_ne h).elim
theorem rec2 {b c:Bool} (h:Bool.rec (motive:=fun _=>Nat) 0 (Bool.rec (motive:=fun _=>Nat) 1 2 b) c=2):b=true∧c=true:=by cases b <;> cases c <;> first | exact ⟨rfl,rfl⟩ | cases h
theorem sameO_eq {x y:Option AO} (h:isSame x y=true):x=y:=by
 have h:cmpO x y=2:=beq_eq h
 unfold cmpO at h
 split at h
 ·rfl
 ·obtain ⟨h1,h2⟩:=and_t (yes2_eq h)
  obtain ⟨h3,h4⟩:=and_t h2
  rw [beq_eq h1,beq_eq h3,beq_eq h4]
 ·obtain ⟨h1,h2⟩:=cmpM_eq h; rw [h1,h2]
 ·exact (one1_ne h).elim
 ·exact (one1_ne h).elim
 ·obtain ⟨h1,h2⟩:=cmpM_eq h; rw [h1,h2]
 ·obtain ⟨h1,h2⟩:=rec2 h
  obtain ⟨h3,h4⟩:=and_t h2
  obtain ⟨h5,h6⟩:=and_t h3
  obtain ⟨h7,h8⟩:=and_t h4
  obtain ⟨h9,h10⟩:=and_t h8
  rw [beq_eq h1,beq_eq h5,beq_eq h6,beq_eq h7,eqE_eq _ _ h9,eqL_eq _ _ h10]
 ·unfold cmpI at h
  obtain ⟨h1,h2⟩:=rec2 h
  obtain ⟨h3,h4⟩:=and_t h2
  obtain ⟨h5,h6⟩:=and_t h4
  obtain ⟨h7,h8⟩:=and_t h6
  rw [beq_eq h1,eqL_eq _ _ h3,eqM_eq h5,beq_eq h7,beq_eq h8]
 ·rfl
 ·obtain ⟨h1,h2⟩:=and_t (yes2_eq h)
  obtain ⟨h3,h4⟩:=and_t h2
  rw [beq_eq h1,beq_eq h3,beq_eq h4]
 ·obtain ⟨h1,h2⟩:=and_t (yes2_eq h)
  rw [beq_eq h1,eqG_eq h2]
 ·cases h
theorem keepR_spec {h h':Ex.T AO} (hf:Full 25 h):∀ (l:List Nat),(∀ r∈l,r<16777216)→Full 25 (keepR h h' l)∧(∀ i o,(keepR h h' l).get i=some o→h.get i=some o)∧∀ i,i ∉ l→(keepR h h' l).get i=h.get i
 | [],_=>⟨hf,fun _ _ h=>h,fun _ _=>rfl⟩
 | r::l,hl=>by
  obtain ⟨h1,h2,h3⟩:=keepR_spec hf l fun x hx=>hl x (by simp [hx])
  have hr:=hl r (by simp)
  show Full 25 (Bool.rec (motive:=fun _=>Ex.T AO) ((keepR h h' l).put r none) (keepR h h' l) (isSame (h.get r) (h'.get r)))∧(∀ i o,(Bool.rec (motive:=fun _=>Ex.T AO) ((keepR h h' l).put r none) (keepR h h' l) (isSame (h.get r) (h'.get r)):Ex.T AO).get i=some o→_)∧∀ i,_→(Bool.rec (motive:=fun _=>Ex.T AO) ((keepR h h' l).put r none) (keepR h h' l) (isSame (h.get r) (h'.get r)):Ex.T AO).get i=_
  cases isSame (h.get r) (h'.get r) with
  | true=>exact ⟨h1,h2,fun i hi=>h3 i fun e=>hi (by simp [e])⟩
  | false =>
   refine ⟨h1.put _ _,fun i o hi=>?_,fun i hi=>?_⟩
   ·have hi:((keepR h h' l).put r none).get i=some o:=hi
    rw [h1.get_put' hr] at hi
    by_cases e:i=r
    ·rw [if_pos e] at hi; cases hi
    ·rw [if_neg e] at hi; exact h2 i o hi
   ·show ((keepR h h' l).put r none).get i=_
    rw [h1.get_put' hr,if_neg (fun e=>hi (by simp [e]))]
    exact h3 i fun e=>hi (by simp [e])
theorem coverR_spec {h h':Ex.T AO}:∀ {l:List Nat},coverR h h' l=true→∀ r∈l,∀ o,h.get r=some o→h'.get r=some o
 | x::l,hc,r,hr,o,ho=>by
  obtain ⟨h1,h2⟩:=and_t hc
  rcases List.mem_cons.1 hr with rfl | hr
  ·rw [ho] at h1
   exact (sameO_eq (x:=some o) h1).symm
  ·exact coverR_spec h2 r hr o ho
theorem coverL_spec {N:Nat} {rows:List Nat} {i:St}:∀ {l:List Out},coverL N rows i l=true→∀ o∈l,coverO N rows i o=true
 | x::l,h,o,ho=>by
  obtain ⟨h1,h2⟩:=and_t h
  rcases List.mem_cons.1 ho with rfl | ho
  ·exact h1
  ·exact coverL_spec h2 o ho
theorem noLoops_spec {h:Ex.T AO}:∀ {n:Nat},noLoops h n=true→∀ i,i<n→noLoop (h.get i)=true
 | n+1,hh,i,hi=>by
  obtain ⟨h1,h2⟩:=and_t hh
  by_cases e:i=n
  ·rw [e]; exact h1
  ·exact noLoops_spec h2 i (by omega)
section
variable {T : Out → Prop} {φ : Phi} {s : St} {N : Nat} {a : Act} {P : Program} {w : World} {C : Cx} {call : CallR} {r : Option Nat}
theorem narrow_ok {base : St} {a0 : Act} {w0 : World} {g it m c n : Nat} {es : List (Nat × Nat × Nat × Nat)} {kill : List Nat} {D : GD} {o : Out} {I : St} (hS : SR P C N φ base a0 w0) (hL : LP C base g it m c es) (hg : g = base.next)
    (hi : base.heap.get it = some (.iter (some m) c [] 0 c)) (hm : base.heap.get m = some (.map es c)) (hno : noLoops base.heap base.next = true) (hD : DI D it m c es kill n)
    (hf : Full 25 I.heap) (hrow : ∀ r x, I.heap.get r = some x → o.s.heap.get r = some x ∧ (firstS it m c es kill base).s.heap.get r = some x) (hlow : ∀ r, r < base.lim → I.heap.get r = base.heap.get r)
    (hslot : ∀ t, dg I.env (t + 1) ≠ 0 → dg I.env (t + 1) = dg base.env (t + 1) ∧ dg I.env (t + 1) = dg o.s.env (t + 1)) (hds : o.s.ds = base.ds) (hds2 : I.ds = base.ds) (hnx : I.next = base.next + 1) (hsd : I.side = base.side) (hsn : I.sn = base.sn) (hlim : I.lim = base.lim)
    (h : OutR P (C.gh g D) N φ base o .normal a w) : OutR P (C.gh g D) N φ base ⟨0, 0, I⟩ .normal a w := by
  obtain ⟨φ', hen, he, hS'⟩ := h
  have hw := hS'.wr
  have hfirst : ∀ r, (firstS it m c es kill base).s.heap.get r = if r = m then some (.gh base.next (.mpV it)) else if r = it then some (.gh base.next (.itV m c es kill)) else base.heap.get r := fun r => by
    show ((base.heap.put it _).put m _).get r = _
    rw [(hS.wr.full.put _ _).get_put' hL.m24, hS.wr.full.get_put' hL.i24]
  have live : ∀ r x, I.heap.get r = some x → ∃ y, base.heap.get r = some y := fun r x hr => by
    have h1 := (hrow r x hr).2
    rw [hfirst] at h1
    by_cases e1 : r = m
    · rw [e1]; exact ⟨_, hm⟩
    · by_cases e2 : r = it
      · rw [e2]; exact ⟨_, hi⟩
      · rw [if_neg e1, if_neg e2] at h1; exact ⟨_, h1⟩
  obtain ⟨_, qm, hqm, _, hM0⟩ := hS.wr.row m _ hm
  obtain ⟨_, qi, hqi, _, hI0⟩ := hS.wr.row it _ hi
  have hM0 : ORm φ base.side base.sn w0 qm es c := hM0
  have hext : Ext φ I.side I.sn φ' o.s.side o.s.sn := by rw [hsd, hsn]; exact he
  refine ⟨φ, rfl, by rw [hsd, hsn]; exact .refl, ⟨?_, ⟨hS'.er.size, fun t ht => ?_⟩, ?_⟩⟩
  · exact
      { full := hf
        sok := ⟨by rw [hsd]; exact hS.wr.sok.1, fun i hi => by rw [hsd]; rw [hsn] at hi; exact hS.wr.sok.2 i hi⟩
        row := fun r x hr => by
          obtain ⟨h1, h2⟩ := hrow r x hr
          obtain ⟨y, hy⟩ := live r x hr
          obtain ⟨j1, q, j2, j3, j4⟩ := hS.wr.row r y hy
          obtain ⟨_, q', k2, k3, k4⟩ := hw.row r x h1
          rw [he.rows r q j2] at k2; cases k2
          refine ⟨by rw [hnx]; omega, q, j2, k3, ?_⟩
          rw [hsd, hsn]
          rw [hfirst] at h2
          by_cases e1 : r = m
          · rw [if_pos e1] at h2; cases h2
            obtain ⟨D2, g1, g2⟩ := k4
            rw [← hg] at g1 ⊢
            refine ⟨D2, g1, g2.narrow he fun z hz => ?_⟩
            have g1 : (C.gh g D).G g = some D2 := g1
            rw [gh_G] at g1; cases g1
            exact hM0.all z (hD.h_es ▸ D.sub z hz)
          · rw [if_neg e1] at h2
            by_cases e2 : r = it
            · rw [if_pos e2] at h2; cases h2
              obtain ⟨D2, g1, g2, g3, g4, g5, g6⟩ := k4
              refine ⟨D2, g1, g2, g3, g4, g5, g6.narrow he fun z hz => ?_⟩
              cases hz
              rw [hqm]; rfl
            · rw [if_neg e2] at h2
              rw [hy] at h2; cases h2
              refine OR.narrow ?_ (fun i D2 hi => ?_) j4 he k4
              · have := noLoops_spec hno r j1
                rw [hy] at this; exact this
              · show (C.gh g D).G i = some D2
                rw [gh_ne (fun e => by rw [e, hL.no] at hi; cases hi)]; exact hi
        inj := fun r r' x x' q q' h1 h2 => by
          obtain ⟨y1, k1⟩ := live r x h1
          obtain ⟨y2, k2⟩ := live r' x' h2
          exact hS.wr.inj r r' y1 y2 q q' k1 k2
        new := fun r hr => hS.wr.new r (by rw [hnx] at hr; omega)
        rng := fun r q hr => hw.rng r q (he.rows r q hr)
        lim := hlim
        limn := by rw [hnx]; have := hS.wr.limn; have e : base.lim = C.lim := hS.wr.lim; show base.lim ≤ _; omega
        low := hlow
        sn := by rw [hsn]; exact Nat.le_refl _
        sdl := fun i _ => by rw [hsd]; rfl
        os := hw.os
        tape := hw.tape
        output := hw.output
        size := hw.size
        frame := hw.frame
        gid := fun r i k hr => hw.gid r i k (hrow r _ hr).1
        ghl := fun i D2 hi => by
          rw [hnx]
          by_cases e : i = g
          · omega
          · have : C.G i = some D2 := (gh_ne e).symm.trans hi
            have := hS.wr.ghl i D2 this
            omega
        gw := hw.gw
        b0 := hw.b0 }
  · have ht : dg I.env (t + 1) ≠ 0 := ht
    obtain ⟨h1, h2⟩ := hslot t ht
    obtain ⟨v, k1, k2⟩ := hS'.er.slot t (by rw [← h2]; exact ht)
    obtain ⟨v0, _, g2⟩ := hS.er.slot t (by rw [← h1]; exact ht)
    refine ⟨v, k1, ?_⟩
    show CV φ I.side I.sn (dg I.env (t + 1)) v
    rw [hsd, hsn, h1]
    rw [← h2, h1] at k2
    exact g2.narrow he k2
  · have h1 := hS.dr
    have h2 := hS'.dr
    rw [hds] at h2
    show DR φ I.ds a.defers
    rw [hds2]
    exact DR.narrow he.rows h1 h2
end
end Go.Ex
namespace Go.Ex
open Go.Fip
section
variable {T : Out → Prop} {φ : Phi} {s : St} {N : Nat} {a : Act} {P : Program} {w : World} {C : Cx} {call : CallR} {r : Option Nat}
theorem nd_le:∀ (l m:List Nat),l.Nodup→(∀ x∈l,x∈m)→l.length≤m.length
 | [],_,_,_=>Nat.zero_le _
 | x::l,m,hn,hs=>by
  rw [List.nodup_cons] at hn
  have hx:x∈m:=hs x (by simp)
  have h1:=nd_le l (m.erase x) hn.2 fun y hy=>by
   have hne:y≠x:=fun e=>hn.1 (e ▸ hy)
   exact (List.mem_erase_of_ne hne).2 (hs y (by simp [hy]))
  rw [List.length_erase_of_mem hx] at h1
  have:0<m.length:=List.length_pos_of_mem hx
  simp only [List.length_cons]
  omega
theorem DI.le {D:GD} {it m c n:Nat} {es:List (Nat×Nat×Nat×Nat)} {kill:List Nat} (h:DI D it m c es kill n):n≤es.length:=by
 have:=nd_le D.seen (es.map (·.2.2.2)) h.h_nd fun x hx=>by
  obtain ⟨y,hy,e⟩:=h.h_sub x hx
  exact e ▸ List.mem_map_of_mem hy
 rw [h.h_len,List.length_map] at this
 exact this
section
variable {body : St → (Nat → St → R) → R} {base : St} {z : Nat} {k : Nat → St → R} {g it m c : Nat} {es : List (Nat × Nat × Nat × Nat)} {kill : List Nat}
theorem roundsM_0 {now done:List Out} (h:Ok T (roundsM body N base.lim z base k g it m c es kill 0 now done)) :
  ∃ outs st,bodyO body now=some outs∧normL g it m c es kill (staysO outs)=some st∧Ok T (outsR (fun o=>k o.e o.s) (meets N base.lim z base (cutL it m (goesO outs)) done)):=by
 obtain ⟨outs,h1,h2⟩:=ok_opt (show Ok T (optR (bodyO body now) _) from h)
 obtain ⟨st,h3,h4⟩:=ok_opt h2
 exact ⟨outs,st,h1,h3,h4⟩
theorem roundsM_s {j:Nat} {now done:List Out} (h:Ok T (roundsM body N base.lim z base k g it m c es kill (j+1) now done)) :
  ∃ outs st,bodyO body now=some outs∧normL g it m c es kill (staysO outs)=some st∧Ok T (roundsM body N base.lim z base k g it m c es kill j (meets N base.lim z base st []) (meets N base.lim z base (cutL it m (goesO outs)) done)):=by
 obtain ⟨outs,h1,h2⟩:=ok_opt (show Ok T (optR (bodyO body now) _) from h)
 obtain ⟨st,h3,h4⟩:=ok_opt h2
 exact ⟨outs,st,h1,h3,h4⟩
theorem roundsM_done {e:Exit} (hB:BR φ base):∀ (j:Nat) (now done:List Out),Ok T (roundsM body N base.lim z base k g it m c es kill j now done)→Rp P C N φ base done e a w→∃ o,OutR P C N φ base o e a w∧Ok T (k o.e o.s)
 | 0,now,done,h,hr=>by
  obtain ⟨outs,st,h1,h2,h3⟩:=roundsM_0 h
  obtain ⟨o,ho,h4⟩:=rp_meets (z:=z) hB (cutL it m (goesO outs)) done (.inr hr)
  exact ⟨o,h4,ok_outsR h3 o ho⟩
 | j+1,now,done,h,hr=>by
  obtain ⟨outs,st,h1,h2,h3⟩:=roundsM_s h
  exact roundsM_done hB j _ _ h3 (rp_meets (z:=z) hB (cutL it m (goesO outs)) done (.inr hr))
end
theorem rounds_ok {F z:Nat} {c:Code} {k:Nat→St→R} {base:St} {Q:Exit→Act→World→Prop} {g it m c0:Nat} {es:List (Nat×Nat×Nat×Nat)} {kill:List Nat} (hc:CodeOK P call F N r c) (hok:okC N c=true) (hr:r.isSome=true→noRange c=true) (hB:BR φ base) (hL:LP C base g it m c0 es)
  (hQ:∀ o e a w,OutR P C N φ base o e a w→Ok T (k o.e o.s)→Q e a w):∀ (j n:Nat) (D:GD) (now done:List Out) (a:Act) (w:World),n+j=es.length→DI D it m c0 es kill n→Ok T (roundsM (fun s k=>codeX c call P F N s k) N base.lim z base k g it m c0 es kill j now done)→Rp P (C.gh g D) N φ base now .normal a w →
  Code.roundsIn (Fr r) 0 P c Q (j+1) a w:=by
 intro j
 induction j with
 | zero =>
  intro n D now done a w hn hD h hR
  obtain ⟨outs,st,h1,h2,h3⟩:=roundsM_0 h
  obtain ⟨o,ho,φ1,hen,he,hS⟩:=hR
  rw [roundsIn_succ]
  refine Go.wpIn_mono (hc _ φ1 o.s a w _ endO hok hr hS (ok_bodyO h1 o ho)) fun e a' w' hq=>?_
  obtain ⟨en,hen',φ',s',he',hS',hk⟩:=hq
  have hmem:(⟨en,0,s'⟩:Out)∈outs:=by
   obtain ⟨l,hl,hk⟩:=hk
   have hl:some [(⟨en,0,s'⟩:Out)]=some l:=hl
   cases hl
   exact hk _ (List.mem_singleton.2 rfl)
  have hO:OutR P (C.gh g D) N φ base ⟨en,0,s'⟩ e a' w':=⟨φ',hen',he.trans he',hS'⟩
  have goes:∀ {n},en=n+1→Q e a' w':=fun {n} hn=>by
   obtain ⟨o,ho,h4⟩:=rp_meets (z:=z) hB (cutL it m (goesO outs)) done (.inl ⟨_,cutL_mem (mem_goes hmem hn),cut_ok hL hD hO⟩)
   exact hQ o e a' w' h4 (ok_outsR h3 o ho)
  cases e with
  | normal =>
   cases hen'
   obtain ⟨o',ho',hno⟩:=normL_mem h2 _ (mem_stays hmem rfl)
   obtain ⟨D',hD',_⟩:=norm_ok hL hD hO hno
   have:=hD'.le
   omega
  | ret=>cases hen'; exact goes (n:=0) rfl
  | exit i=>cases hen'; exact goes (n:=1+2 * i) (by omega)
  | goto i=>cases hen'; exact goes (n:=2+2 * i) (by omega)
  | panic c=>cases hen'
  | outgrown=>cases hen'
 | succ j ih =>
  intro n D now done a w hn hD h hR
  obtain ⟨outs,st,h1,h2,h3⟩:=roundsM_s h
  obtain ⟨o,ho,φ1,hen,he,hS⟩:=hR
  rw [roundsIn_succ]
  refine Go.wpIn_mono (hc _ φ1 o.s a w _ endO hok hr hS (ok_bodyO h1 o ho)) fun e a' w' hq=>?_
  obtain ⟨en,hen',φ',s',he',hS',hk⟩:=hq
  have hmem:(⟨en,0,s'⟩:Out)∈outs:=by
   obtain ⟨l,hl,hk⟩:=hk
   have hl:some [(⟨en,0,s'⟩:Out)]=some l:=hl
   cases hl
   exact hk _ (List.mem_singleton.2 rfl)
  have hO:OutR P (C.gh g D) N φ base ⟨en,0,s'⟩ e a' w':=⟨φ',hen',he.trans he',hS'⟩
  have goes:∀ {n},en=n+1→Q e a' w':=fun {n} hn=>by
   obtain ⟨o,h4,h5⟩:=roundsM_done hB j _ _ h3 (rp_meets (z:=z) hB (cutL it m (goesO outs)) done (.inl ⟨_,cutL_mem (mem_goes hmem hn),cut_ok hL hD hO⟩))
   exact hQ o e a' w' h4 h5
  cases e with
  | normal =>
   cases hen'
   obtain ⟨o',ho',hno⟩:=normL_mem h2 _ (mem_stays hmem rfl)
   obtain ⟨D',hD',hO'⟩:=norm_ok hL hD hO hno
   exact ih (n+1) D' _ _ a' w' (by omega) hD' h3 (rp_meets (z:=z) hB st [] (.inl ⟨o',ho',hO'⟩))
  | ret=>cases hen'; exact goes (n:=0) rfl
  | exit i=>cases hen'; exact goes (n:=1+2 * i) (by omega)
  | goto i=>cases hen'; exact goes (n:=2+2 * i) (by omega)
  | panic c=>cases hen'
  | outgrown=>cases hen'
theorem fix_ok {F z:Nat} {c:Code} {k:Nat→St→R} {base I:St} {Q:Exit→Act→World→Prop} {g it m c0:Nat} {es:List (Nat×Nat×Nat×Nat)} {kill:List Nat} {outs st:List Out} (hc:CodeOK P call F N r c) (hok:okC N c=true) (hr:r.isSome=true→noRange c=true) (hB:BR φ base) (hL:LP C base g it m c0 es)
  (hQ:∀ o e a w,OutR P C N φ base o e a w→Ok T (k o.e o.s)→Q e a w)
  (h1:bodyO (fun s k=>codeX c call P F N s k) [⟨0,0,I⟩]=some outs) (h2:normL g it m c0 es kill (staysO outs)=some st) (h3:∀ (D:GD) (n:Nat) (o:Out) (a:Act) (w:World),o∈st→DI D it m c0 es kill n→OutR P (C.gh g D) N φ base o .normal a w→OutR P (C.gh g D) N φ base ⟨0,0,I⟩ .normal a w)
  (h4:Ok T (outsR (fun o=>k o.e o.s) (meets N base.lim z base (cutL it m (goesO outs)) []))):∀ (j n:Nat) (D:GD) (a:Act) (w:World),n+j=es.length→DI D it m c0 es kill n→OutR P (C.gh g D) N φ base ⟨0,0,I⟩ .normal a w→Code.roundsIn (Fr r) 0 P c Q (j+1) a w:=by
 intro j
 induction j with
 | zero =>
  intro n D a w hn hD hR
  obtain ⟨φ1,hen,he,hS⟩:=hR
  rw [roundsIn_succ]
  refine Go.wpIn_mono (hc _ φ1 I a w _ endO hok hr hS (ok_bodyO h1 _ (List.mem_singleton.2 rfl))) fun e a' w' hq=>?_
  obtain ⟨en,hen',φ',s',he',hS',hk⟩:=hq
  have hmem:(⟨en,0,s'⟩:Out)∈outs:=by
   obtain ⟨l,hl,hk⟩:=hk
   have hl:some [(⟨en,0,s'⟩:Out)]=some l:=hl
   cases hl
   exact hk _ (List.mem_singleton.2 rfl)
  have hO:OutR P (C.gh g D) N φ base ⟨en,0,s'⟩ e a' w':=⟨φ',hen',he.trans he',hS'⟩
  have goes:∀ {n},en=n+1→Q e a' w':=fun {n} hn=>by
   obtain ⟨o,ho,h5⟩:=rp_meets (z:=z) hB (cutL it m (goesO outs)) [] (.inl ⟨_,cutL_mem (mem_goes hmem hn),cut_ok hL hD hO⟩)
   exact hQ o e a' w' h5 (ok_outsR h4 o ho)
  cases e with
  | normal =>
   cases hen'
   obtain ⟨o',ho',hno⟩:=normL_mem h2 _ (mem_stays hmem rfl)
   obtain ⟨D',hD',_⟩:=norm_ok hL hD hO hno
   have:=hD'.le
   omega
  | ret=>cases hen'; exact goes (n:=0) rfl
  | exit i=>cases hen'; exact goes (n:=1+2 * i) (by omega)
  | goto i=>cases hen'; exact goes (n:=2+2 * i) (by omega)
  | panic c=>cases hen'
  | outgrown=>cases hen'
 | succ j ih =>
  intro n D a w hn hD hR
  obtain ⟨φ1,hen,he,hS⟩:=hR
  rw [roundsIn_succ]
  refine Go.wpIn_mono (hc _ φ1 I a w _ endO hok hr hS (ok_bodyO h1 _ (List.mem_singleton.2 rfl))) fun e a' w' hq=>?_
  obtain ⟨en,hen',φ',s',he',hS',hk⟩:=hq
  have hmem:(⟨en,0,s'⟩:Out)∈outs:=by
   obtain ⟨l,hl,hk⟩:=hk
   have hl:some [(⟨en,0,s'⟩:Out)]=some l:=hl
   cases hl
   exact hk _ (List.mem_singleton.2 rfl)
  have hO:OutR P (C.gh g D) N φ base ⟨en,0,s'⟩ e a' w':=⟨φ',hen',he.trans he',hS'⟩
  have goes:∀ {n},en=n+1→Q e a' w':=fun {n} hn=>by
   obtain ⟨o,ho,h5⟩:=rp_meets (z:=z) hB (cutL it m (goesO outs)) [] (.inl ⟨_,cutL_mem (mem_goes hmem hn),cut_ok hL hD hO⟩)
   exact hQ o e a' w' h5 (ok_outsR h4 o ho)
  cases e with
  | normal =>
   cases hen'
   obtain ⟨o',ho',hno⟩:=normL_mem h2 _ (mem_stays hmem rfl)
   obtain ⟨D',hD',hO'⟩:=norm_ok hL hD hO hno
   exact ih (n+1) D' a' w' (by omega) hD' (h3 D' _ o' a' w' ho' hD' hO')
  | ret=>cases hen'; exact goes (n:=0) rfl
  | exit i=>cases hen'; exact goes (n:=1+2 * i) (by omega)
  | goto i=>cases hen'; exact goes (n:=2+2 * i) (by omega)
  | panic c=>cases hen'
  | outgrown=>cases hen'
theorem ptT_spec {o:Option AV} {it:Nat} (h:ptT o=some it):o=some (.pt it 0):=by
 unfold ptT at h
 split at h
 ·cases h; rfl
 ·cases h
theorem startT_spec {h:Ex.T AO} {o:Option AO} {y:Nat×Nat×List (Nat×Nat×Nat×Nat)} (hy:startT h o=some y):o=some (.iter (some y.1) y.2.1 [] 0 y.2.1)∧h.get y.1=some (.map y.2.2 y.2.1):=by
 unfold startT at hy
 split at hy
 ·rename_i m since last
  split at hy
  ·rename_i es c hm
   cases hb:Bool.and (Nat.beq since c) (Nat.beq last c) with
   | false=>rw [hb] at hy; cases hy
   | true =>
    rw [hb] at hy
    obtain ⟨b1,b2⟩:=and_t hb
    cases hy
    exact ⟨by rw [beq_eq b1,beq_eq b2],hm⟩
  ·cases hy
 ·cases hy
theorem planM_spec {body:St→(Nat→St→R)→R} {b:Code} {y:Nat×Nat×Nat×List (Nat×Nat×Nat×Nat)×List Nat×Out} (h:planM body N b s=some y) :
  ∃ t,dec (dg s.env (Nat.succ t)) s.side=some (.pt y.1 0)∧s.heap.get y.1=some (.iter (some y.2.1) y.2.2.1 [] 0 y.2.2.1)∧s.heap.get y.2.1=some (.map y.2.2.2.1 y.2.2.1)∧s.next<16777215∧s.lim≤y.1∧s.lim≤y.2.1∧y.1≠y.2.1∧okKill y.2.2.1 y.2.2.2.1 y.2.2.2.2.1=true:=by
 unfold planM at h
 cases h1:firstNext b with
 | none=>rw [h1] at h; cases h
 | some t =>
  rw [h1] at h
  simp only [Option.bind_some] at h
  cases h2:ptT (dec (dg s.env (Nat.succ t)) s.side) with
  | none=>rw [h2] at h; cases h
  | some it =>
   rw [h2] at h
   simp only [Option.bind_some] at h
   cases h3:startT s.heap (s.heap.get it) with
   | none=>rw [h3] at h; cases h
   | some u =>
    rw [h3] at h
    simp only [Option.bind_some] at h
    cases hb:Bool.and (Bool.and (Nat.ble 4 u.2.2.length) (Nat.blt s.next 16777215)) (Bool.and (Bool.and (Nat.ble s.lim it) (Nat.ble s.lim u.1)) (Bool.not (Nat.beq it u.1))) with
    | false=>rw [hb] at h; cases h
    | true =>
     rw [hb] at h
     obtain ⟨b1,b2⟩:=and_t hb
     obtain ⟨_,b3⟩:=and_t b1
     obtain ⟨b4,b5⟩:=and_t b2
     obtain ⟨b6,b7⟩:=and_t b4
     obtain ⟨e1,e2⟩:=startT_spec h3
     cases h4:bodyO body [firstS it u.1 u.2.1 u.2.2 [] s] with
     | none=>rw [h4] at h; cases h
     | some outs =>
      rw [h4] at h
      simp only [Option.bind_some] at h
      cases h5:normL s.next it u.1 u.2.1 u.2.2 (killL it u.1 u.2.1 u.2.2 (staysO outs)) (staysO outs) with
      | none=>rw [h5] at h; cases h
      | some st =>
       rw [h5] at h
       simp only [Option.bind_some] at h
       cases h6:okKill u.2.1 u.2.2 (killL it u.1 u.2.1 u.2.2 (staysO outs)) with
       | false=>rw [h6] at h; cases h
       | true =>
        rw [h6] at h
        have h:(oneL (meets N s.lim s.next s st [])).map (fun o=>(it,u.1,u.2.1,u.2.2,killL it u.1 u.2.1 u.2.2 (staysO outs),o))=some y:=h
        cases h7:oneL (meets N s.lim s.next s st []) with
        | none=>rw [h7] at h; cases h
        | some o =>
         rw [h7] at h
         cases h
         exact ⟨t,ptT_spec h2,e1,e2,blt_lt b3,ble_le b6,ble_le b7,fun e=>(by have e:it=u.1:=e; rw [e,Nat.beq_refl] at b5; cases b5),h6⟩
theorem okKill_spec {c:Nat} {es:List (Nat×Nat×Nat×Nat)}:∀ {l:List Nat},okKill c es l=true→∀ b∈l,c<b→∃ y∈es,b=c+(y.2.2.2+1)
 | x::l,h,b,hb,hc=>by
  obtain ⟨h1,h2⟩:=and_t h
  rcases List.mem_cons.1 hb with rfl | hb
  ·have h1:(Nat.ble b c || es.any fun e=>Nat.beq b (Nat.add c (Nat.succ e.2.2.2)))=true:=h1
   rw [Bool.or_eq_true] at h1
   rcases h1 with h1 | h1
   ·have:=ble_le h1; omega
   ·rw [List.any_eq_true] at h1
    obtain ⟨y,hy,e⟩:=h1
    exact ⟨y,hy,beq_eq e⟩
  ·exact okKill_spec h2 b hb hc
theorem first_ok {it m c0:Nat} {es:List (Nat×Nat×Nat×Nat)} {kill:List Nat} (hS:SR P C N φ s a w) (hi:s.heap.get it=some (.iter (some m) c0 [] 0 c0)) (hm:s.heap.get m=some (.map es c0)) (hkl:okKill c0 es kill=true) (hL:LP C s s.next it m c0 es):∃ D,DI D it m c0 es kill 0∧OutR P (C.gh s.next D) N φ s (firstS it m c0 es kill s) .normal a w:=by
 obtain ⟨_,q1,hq1,_,hI⟩:=hS.wr.row it _ hi
 obtain ⟨_,q2,hq2,_,hM⟩:=hS.wr.row m _ hm
 have hI:ORi φ w q1 (some m) c0 [] 0 c0:=hI
 have hM:ORm φ s.side s.sn w q2 es c0:=hM
 have hM2:=hM
 obtain ⟨es',_,_,hlt,hnd⟩:=hM2
 have hex:es=es.filter (left1 kill []):=(List.filter_eq_self.2 fun y _=>by unfold left1; rfl).symm
 have fin0:(∀ x∈es,x.2.2.2∈([]:List Nat))→es=stayE kill es:=fun h=>by
  cases es with
  | nil=>rfl
  | cons y l=>exact absurd (h y (by simp)) (by simp)
 obtain ⟨D,hD⟩:∃ D:GD,D=⟨it,m,[],es,es,kill,c0,fun x h=>h,(fun h=>(fin0 h)),hlt,hnd,hnd,(fun b hb hc=>let ⟨y,hy,e⟩:=okKill_spec hkl b hb hc; ⟨y,hy,e,by simp⟩),[]⟩:=⟨_,rfl⟩
 have hDI:DI D it m c0 es kill 0:=by subst hD; exact ⟨rfl,rfl,rfl,rfl,rfl,hex,rfl,List.nodup_nil,fun i h=>by cases h⟩
 have hseen:D.seen=[]:=by subst hD; rfl
 have hexD:D.ex=es:=by subst hD; rfl
 refine ⟨D,hDI,φ,rfl,.refl,⟨?_,hS.er,hS.dr⟩⟩
 exact WR.heads (C:=C.at s.lim s) (D:=D) (nx:=s.next+1) (k1:=.itV m c0 es kill) (k2:=.mpV it) hS.wr.at (fun _ _=>rfl) (fun i D2 hi=>Nat.lt_succ_of_lt (hS.wr.ghl i D2 hi)) (Nat.lt_succ_self _) (Nat.le_succ _)
  (fun r i k _ _ hr e=>by obtain ⟨D2,j1,_⟩:=hS.wr.gid r i k hr; have:=hS.wr.ghl i D2 j1; omega) hi hm hq1 hq2 hL.i24 hL.m24 hL.li hL.lm hL.ne hDI.h_it hDI.h_mr
  ⟨D,gh_G,hDI.h_mr,hDI.h_c,hDI.h_es,hDI.h_kill,by rw [hseen]; exact hI⟩ ⟨D,gh_G,by rw [hexD,hDI.h_c]; exact hM⟩
theorem ok_loopR {F : Nat} {c : Code} {k : Nat → St → R} (hc : CodeOK P call F N r c) (hok : okC N c = true) (hr : r.isSome = true → noRange c = true) (hS : SR P C N φ s a w)
    (h : Ok T (loopR (fun s k => codeX c call P F N s k) N c F s k)) : (Code.loop c).wpIn (Fr r) 0 P (PostC P C N φ s T k) a w := by
  unfold loopR at h
  cases hp : planM (fun s k => codeX c call P F N s k) N c s with
  | none => rw [hp] at h; exact ok_loopQ hc hok hr hS h
  | some y =>
    rw [hp] at h
    obtain ⟨t, hd, hi, hm, hn, h1, h2, h3, hkl⟩ := planM_spec hp
    obtain ⟨it, m, c0, es, kill, o1⟩ := y
    have hm24 : m < 16777216 := by have : m < s.next := (hS.wr.row _ _ hm).1; have hn : s.next < 16777215 := hn; omega
    have hi24 : it < 16777216 := by have : it < s.next := (hS.wr.row _ _ hi).1; have hn : s.next < 16777215 := hn; omega
    have hi : s.heap.get it = some (.iter (some m) c0 [] 0 c0) := hi
    have hm : s.heap.get m = some (.map es c0) := hm
    have hL : LP C s s.next it m c0 es := ⟨h1, h2, h3, hi24, hm24, by
      cases hg : C.G s.next with
      | none => rfl
      | some D => exact absurd (hS.wr.ghl _ D hg) (Nat.lt_irrefl _)⟩
    obtain ⟨D, hD, hO⟩ := first_ok (kill := kill) hS hi hm hkl hL
    have fin : ∀ {o : Out} {e : Exit} {a' : Act} {w' : World}, OutR P C N φ s o e a' w' → Ok T (k o.e o.s) → PostC P C N φ s T k e a' w' := fun {o e a' w'} hO hk => by
      obtain ⟨φ', hen, he, hS'⟩ := hO
      have hl : o.s.lim = s.lim := hS'.wr.lim
      have := hS.wr.from (Nat.le_refl _) hl hS'.wr
      exact ⟨o.e, hen, φ', o.s, he, ⟨this, hS'.er, hS'.dr⟩, hk⟩
    have h : Ok T (Option.rec (motive := fun _ => R) (roundsM (fun s k => codeX c call P F N s k) N s.lim s.next s k s.next it m c0 es kill es.length [firstS it m c0 es kill s] [])
      (fun l => outsR (fun o => k o.e o.s) (meets N s.lim s.next s l [])) (fixM (fun s k => codeX c call P F N s k) N s it m c0 es kill o1)) := h
    cases hx : fixM (fun s k => codeX c call P F N s k) N s it m c0 es kill o1 with
    | none =>
      rw [hx] at h
      have h : Ok T (roundsM (fun s k => codeX c call P F N s k) N s.lim s.next s k s.next it m c0 es kill es.length [firstS it m c0 es kill s] []) := h
      exact wpIn_loop_rounds (es.length + 1) (rounds_ok (C := C) (φ := φ) (base := s) hc hok hr (sr_br hS) hL (fun o e a' w' hO hk => fin hO hk) _ 0 D _ _ a w (Nat.zero_add _) hD h ⟨_, List.mem_singleton.2 rfl, hO⟩)
    | some l =>
      rw [hx] at h
      have h : Ok T (outsR (fun o => k o.e o.s) (meets N s.lim s.next s l [])) := h
      unfold fixM at hx
      cases hno : noLoops s.heap s.next with
      | false => rw [hno] at hx; cases hx
      | true =>
        rw [hno] at hx
        generalize hrs : rowsOf s.heap s.lim (Nat.sub s.next s.lim) = rows at hx
        generalize hI : fixI N s rows (firstS it m c0 es kill s).s o1.s = I at hx
        have hx : (bodyO (fun s k => codeX c call P F N s k) [⟨0, 0, I⟩]).bind (fun outs => (normL s.next it m c0 es kill (staysO outs)).bind fun st => Bool.rec none (some (cutL it m (goesO outs))) (coverL N rows I st)) = some l := hx
        cases b1 : bodyO (fun s k => codeX c call P F N s k) [⟨0, 0, I⟩] with
        | none => rw [b1] at hx; cases hx
        | some outs =>
          rw [b1] at hx
          simp only [Option.bind_some] at hx
          cases b2 : normL s.next it m c0 es kill (staysO outs) with
          | none => rw [b2] at hx; cases hx
          | some st =>
            rw [b2] at hx
            simp only [Option.bind_some] at hx
            cases b3 : coverL N rows I st with
            | false => rw [b3] at hx; cases hx
            | true =>
              rw [b3] at hx
              cases hx
              have hfF : Full 25 (firstS it m c0 es kill s).s.heap := (hS.wr.full.put _ _).put _ _
              have hrb : ∀ x ∈ rows, x < 16777216 := fun x hx => by
                rw [← hrs] at hx
                obtain ⟨_, j2, j3⟩ := rowsOf_spec.1 hx
                cases hg : s.heap.get x with
                | none => exact absurd hg j3
                | some y => have := (hS.wr.row x y hg).1; have hn : s.next < 16777215 := hn; omega
              have hfst : ∀ x, (firstS it m c0 es kill s).s.heap.get x = if x = m then some (.gh s.next (.mpV it)) else if x = it then some (.gh s.next (.itV m c0 es kill)) else s.heap.get x := fun x => by
                show ((s.heap.put it _).put m _).get x = _
                rw [(hS.wr.full.put _ _).get_put' hL.m24, hS.wr.full.get_put' hL.i24]
              obtain ⟨f1, f2, f3⟩ := keepR_spec (h' := o1.s.heap) hfF rows hrb
              have hIh : I.heap = keepR (firstS it m c0 es kill s).s.heap o1.s.heap rows := by rw [← hI]; rfl
              have hIe : I.env = meetE s.env o1.s.env (Nat.succ N) := by rw [← hI]; rfl
              have hlow : ∀ x, x < s.lim → I.heap.get x = s.heap.get x := fun x hx => by
                rw [hIh, f3 x (fun hm => by rw [← hrs] at hm; have := (rowsOf_spec.1 hm).1; omega), hfst, if_neg (by have := hL.lm; omega), if_neg (by have := hL.li; omega)]
              have hle : ∀ t, dg I.env (t + 1) ≠ 0 → dg I.env (t + 1) = dg s.env (t + 1) := fun t ht => by
                rw [hIe] at ht ⊢
                exact ((meetE_spec s.env o1.s.env (N + 1)).2 (t + 1) ht).1
              have start : OutR P (C.gh s.next D) N φ s ⟨0, 0, I⟩ .normal a w := narrow_ok hS hL rfl hi hm hno hD (by rw [hIh]; exact f1) (fun x y hy => by rw [hIh] at hy; exact ⟨f2 x y hy, f2 x y hy⟩) hlow (fun t ht => ⟨hle t ht, hle t ht⟩) rfl
                (by rw [← hI]; rfl) (by rw [← hI]; rfl) (by rw [← hI]; rfl) (by rw [← hI]; rfl) (by rw [← hI]; rfl) hO
              refine wpIn_loop_rounds (es.length + 1) (fix_ok (C := C) (φ := φ) (base := s) (z := s.next) hc hok hr (sr_br hS) hL (fun o e a' w' hO hk => fin hO hk) b1 b2 (fun D' n' o a' w' ho hD' hO' => ?_) h _ 0 D a w (Nat.zero_add _) hD start)
              have hcov := coverL_spec b3 o ho
              obtain ⟨c1, c2⟩ := and_t hcov
              obtain ⟨c3, c4⟩ := and_t c1
              obtain ⟨c5, c6⟩ := and_t c2
              have c5 : meetE I.env o.s.env (Nat.succ N) = I.env := beq_eq c5
              refine narrow_ok hS hL rfl hi hm hno hD' (by rw [hIh]; exact f1) (fun x y hy => ?_) hlow (fun t ht => ⟨hle t ht, ?_⟩) ((eqL_eq _ _ c4).trans (by rw [← hI]; rfl)) (by rw [← hI]; rfl) (by rw [← hI]; rfl) (by rw [← hI]; rfl) (by rw [← hI]; rfl) (by rw [← hI]; rfl) hO'
              · refine ⟨?_, by rw [hIh] at hy; exact f2 x y hy⟩
                by_cases hxl : x < s.lim
                · obtain ⟨φ', _, _, hS'⟩ := hO'
                  have := hS'.wr.low x hxl
                  rw [hlow x hxl] at hy
                  exact this.trans hy
                · refine coverR_spec c6 x ?_ y hy
                  rw [← hrs]
                  refine rowsOf_spec.2 ?_
                  have hlive : ∃ u, s.heap.get x = some u := by
                    rw [hIh] at hy
                    have h9 := f2 x y hy
                    rw [hfst] at h9
                    by_cases e1 : x = m
                    · rw [e1]; exact ⟨_, hm⟩
                    · by_cases e2 : x = it
                      · rw [e2]; exact ⟨_, hi⟩
                      · rw [if_neg e1, if_neg e2] at h9; exact ⟨_, h9⟩
                  obtain ⟨u, hu⟩ := hlive
                  have hb := (hS.wr.row x u hu).1
                  exact ⟨by omega, by show x < s.lim + (s.next - s.lim); omega, by rw [hu]; simp⟩
              · rw [← c5] at ht ⊢
                obtain ⟨k1, k2⟩ := (meetE_spec I.env o.s.env (N + 1)).2 (t + 1) ht
                exact k1.trans k2
end
end Go.Ex
namespace Go.Ex
open Go.Fip
section
variable {T : Out → Prop} {φ : Phi} {s : St} {N : Nat} {a : Act} {P : Program} {w : World} {C : Cx} {call : CallR} {r : Option Nat} {F : Nat}
theorem PostC.trans {k:Nat→St→R} {φ1:Phi} {s1:St} (he:Ext φ s.side s.sn φ1 s1.side s1.sn) {e:Exit} {a':Act} {w':World} (h:PostC P C N φ1 s1 T k e a' w'):PostC P C N φ s T k e a' w':=by
 obtain ⟨en,h1,h2⟩:=h
 exact ⟨en,h1,h2.trans he⟩
theorem Post1.self {k:St→R} (hS:SR P C N φ s a w) (h:Ok T (k s)):Post1 P C N φ s T k a w:=⟨φ,s,.refl,hS,h⟩
theorem ok_loopN {c:Code} {k:Nat→St→R} (hc:CodeOK P call F N r c) (hok:okC N c=true) (hr:r.isSome=true→noRange c=true) (φ0:Phi) (s0:St):∀ (m:Nat) (φ:Phi) (s:St) (a:Act) (w:World),Ext φ0 s0.side s0.sn φ s.side s.sn→SR P C N φ s a w →
  Ok T (loopN (fun s k=>codeX c call P F N s k) m s k)→Code.roundsIn (Fr r) 0 P c (PostC P C N φ0 s0 T k) m a w
 | 0,φ,s,a,w,he,hS,h=>(ok_bad h).elim
 | m+1,φ,s,a,w,he,hS,h=>by
  have h:Ok T (codeX c call P F N s fun e s=>seqT e (fun s=>loopN (fun s k=>codeX c call P F N s k) m s k) k s):=h
  rw [roundsIn_succ]
  refine Go.wpIn_mono (hc C φ s a w T _ hok hr hS h) fun e a' w' hq=>?_
  obtain ⟨en,hen,φ',s',he',hS',hk⟩:=hq
  cases e with
  | normal =>
   cases hen
   exact ok_loopN hc hok hr φ0 s0 m φ' s' a' w' (he.trans he') hS' hk
  | ret=>cases hen; exact ⟨1,rfl,φ',s',he.trans he',hS',hk⟩
  | exit i =>
   cases hen
   have e2:2+2 * i=(1+2 * i)+1:=by omega
   rw [e2] at hk
   exact ⟨2+2 * i,rfl,φ',s',he.trans he',hS',by rw [e2]; exact hk⟩
  | goto i =>
   cases hen
   have e2:3+2 * i=(2+2 * i)+1:=by omega
   rw [e2] at hk
   exact ⟨3+2 * i,rfl,φ',s',he.trans he',hS',by rw [e2]; exact hk⟩
  | panic c=>cases hen
  | outgrown=>cases hen
theorem loop_at {l:Nat} {q:Pl} {x:Nat×Nat×List Nat×Code×Code×LoopState×Option Code} (hw:WR P C φ s w) (hq:φ l=some q) (h:loopT (s.heap.get l)=some x) :
  s.heap.get l=some (.loop x.1 x.2.1 x.2.2.1 x.2.2.2.1 x.2.2.2.2.1 x.2.2.2.2.2.1 x.2.2.2.2.2.2)∧OR P C.G φ s.side s.sn w q (.loop x.1 x.2.1 x.2.2.1 x.2.2.2.1 x.2.2.2.2.1 x.2.2.2.2.2.1 x.2.2.2.2.2.2):=by
 have h3:s.heap.get l=some (.loop x.1 x.2.1 x.2.2.1 x.2.2.2.1 x.2.2.2.2.1 x.2.2.2.2.2.1 x.2.2.2.2.2.2):=by
  cases ho:s.heap.get l with
  | none=>rw [ho] at h; cases h
  | some o =>
   rw [ho] at h
   cases o <;> first | (cases h; rfl) | cases h
 obtain ⟨_,q',hq',hf,ho⟩:=hw.row l _ h3
 rw [hq] at hq'; cases hq'
 exact ⟨h3,ho⟩
theorem WR.putRec {o0:AO} {l:Nat} {q:Pl} {obj:Obj} {o':Option AO} (hw:WR P C φ s w) (hr:s.heap.get l=some o0) (hq:φ l=some q) (hn:l<16777216) (hl:s.lim≤l) (hlt:q.b<w.heap.size)
  (ho:∀ o,o'=some o→OR P C.G φ s.side s.sn (w.putObj q.b obj) q o) (hgo:∀ i k,o'=some (.gh i k)→∃ D,C.G i=some D∧(l=D.it∨l=D.mr):=by intro _ _ h; cases h) (hro:∀ E n d,o0≠.ro E n d:=by intro _ _ _ h; cases h):WR P C φ ⟨s.env,s.ds,s.heap.put l o',s.next,s.side,s.sn,s.lim⟩ (w.putObj q.b obj) :=
 hw.upd hr hq hn hl (fun b hb'=>World.putObj_heap_other hb') (by simp) rfl rfl rfl ho hgo hro
theorem ok_setH {l:Nat} {o:Option AO} {k:St→R} (h:Ok T (setH s l o k)):s.lim≤l∧Ok T (k ⟨s.env,s.ds,s.heap.put l o,s.next,s.side,s.sn,s.lim⟩):=by
 obtain ⟨h1,h2⟩:=ok_bool (b:=Nat.ble s.lim l) (r:=k ⟨s.env,s.ds,s.heap.put l o,s.next,s.side,s.sn,s.lim⟩) (ok_setB h)
 exact ⟨ble_le h1,h2⟩
theorem ok_and {x y:Bool} (h:Bool.and x y=true):x=true∧y=true:=by
 have h:(x && y)=true:=h
 simpa [Bool.and_eq_true] using h
def JumpP (P:Program) (Q:Exit→Act→World→Prop) (a:Act) (w:World):Option Code→Prop
 | none=>Q .normal a w
 | some c=>c.wpIn (Fr none) 0 P Q a w
theorem jump_ok {pend:Option Code} {e:Nat} {k:Nat→St→R} {Q:Exit→Act→World→Prop} (h:jumpE pend=some e) (hS:SR P C N φ s a w) (hk:Ok T (k e s)) (hQ:∀ ex a' w',PostC P C N φ s T k ex a' w'→Q ex a' w') :
  JumpP P Q a w pend:=by
 cases pend with
 | none=>cases h; exact hQ _ _ _ ⟨0,rfl,.self hS hk⟩
 | some c =>
  cases c with
  | ret=>cases h; exact wpIn_ret (hQ _ _ _ ⟨1,rfl,.self hS hk⟩)
  | exit i=>cases h; exact wpIn_exit (hQ _ _ _ ⟨2+2 * i,rfl,.self hS hk⟩)
  | goto i=>cases h; exact wpIn_goto (hQ _ _ _ ⟨3+2 * i,rfl,.self hS hk⟩)
  | _=>cases h
theorem ok_rangeF {g : Operand} {ps : Array Tmp} {assign body : Code} {k : Nat → St → R} (hcall : CallOK P call) (hS : SR P C N φ s a w)
    (h : Ok T (evK g s fun g => rangeF call N ps.toList assign body g s k)) : (Code.rangeFunc g ps assign body).wpIn (Fr none) 0 P (PostC P C N φ s T k) a w := by
  obtain ⟨gv, _, hg, h⟩ := ok_evK hS.er h
  obtain ⟨h1, h⟩ := ok_bool h
  obtain ⟨hfn, hnr⟩ := ok_and h1
  obtain ⟨hm, h⟩ := ok_alloc h
  obtain ⟨φ1, he1, hself1, hw1⟩ := hS.wr.alloc (o := .mark) (obj := .deferred (some [])) (q := ⟨w.heap.size, 0, 0, 0⟩) hm rfl (fun φ' he hs => heap_new w _)
  obtain ⟨hl, h⟩ := ok_alloc h
  have hl : s.next + 1 < 16777216 := hl
  refine wpIn_rangeFunc fun fn _ => ?_
  obtain ⟨rc, hrc⟩ : ∃ rc : Loop, rc = { state := .ready, pending := none, fn, tmps := a.tmps, params := ps, assign, body, defers := w.heap.size } := ⟨_, rfl⟩
  have hw1' := hw1
  obtain ⟨φ2, he2, hself2, hw2⟩ := WR.alloc (o := .loop N s.env ps.toList assign body .ready none) (obj := .loop rc) (q := ⟨w.heap.size + 1, 0, 0, 0⟩) hw1 hl (by simp) (fun φ' he hs => by
    refine ⟨rc, ?_, by rw [hrc], by rw [hrc], by rw [hrc], by rw [hrc], by rw [hrc], ?_, s.next, ?_⟩
    · have := heap_new (w.alloc (.deferred (some []))) (.loop rc)
      rwa [World.size_alloc] at this
    · rw [hrc]
      have := (hS.er.mono he1).mono he
      exact ⟨this.size, this.slot⟩
    · rw [hrc, he.rows _ _ hself1]; rfl)
  have he12 := he1.trans he2
  have hself1' := he2.rows _ _ hself1
  obtain ⟨c, s3, hg3, hs3, hcv, h⟩ := ok_enc (φ := φ2) (a := .yd (s.next + 1)) (v := .func (.yield (w.heap.size + 1)) #[] #[]) hw2.sok ⟨_, hself2, hl, rfl⟩ h
  have hw3 := hw2.sg hg3
  have he23 := hg3.ext φ2
  cases gv with
  | fn f n₁ c₁ n₂ c₂ =>
    obtain ⟨xs, ys, hv, hx, hy, hcb, hdb, hxs, hys⟩ := hg
    cases f with
    | func gf =>
      obtain ⟨nx, hrun, hres⟩ := hcall C φ2 s3 _ T _ (.fn (.func gf) n₁ c₁ n₂ c₂) (.func (.func gf) xs ys) 1 c #[.func (.yield (w.heap.size + 1)) #[] #[]] hw3
        (AR.mono (sd := s.side) (sn := s.sn) (φ := φ) ⟨xs, ys, rfl, hx, hy, hcb, hdb, hxs, hys⟩ (he12.trans he23)) rfl (by simpa using hcv.lt) (fun i u hi => by
          cases i with
          | zero => simp at hi; subst hi; rw [dg_small _ hcv.lt, if_pos rfl]; exact hcv
          | succ i => simp at hi) h
      have hrun2 : (invoke (.fn (.func gf) ys) (xs ++ #[.func (.yield (w.heap.size + 1)) #[] #[]])).run P ((w.alloc (.deferred (some []))).alloc (.loop rc)) = .ok nx ((w.alloc (.deferred (some []))).alloc (.loop rc)) := by
        simpa [Deferred.ofValue, Result.andThen] using hrun
      rcases hres with ⟨f', args, rfl, hc⟩ | ⟨l, f', tmps, asg, bd, rfl, ⟨_, hq⟩, hc⟩
      · refine ⟨w.heap.size + 1, [isMark w.heap.size], (w.alloc (.deferred (some []))).alloc (.loop rc), { target := .fn (.func gf) ys, args := xs ++ #[.func (.yield (w.heap.size + 1)) #[] #[]] }, _, f', args, _, ?_, ?_, ?_, hrun2, fun h => by simp [Fr_depth] at h, ?_⟩
        · rw [Fr_round]; have := run_enterLoop_outer (P := P) (w := w) fn a.tmps ps assign body; rw [← hrc] at this; exact this
        · simp only [resolve, rangeCall, hv]
          simp [go_sem]
        · intro f' _; exact Fr_fn none _
        · refine CallsIn.mono hc ?_
          rintro e w4 ⟨v, c4, φ4, s4, rfl, he4, hw4, henv4, hds4, hcv4, hk4⟩
          obtain ⟨x, hx4, hk4⟩ := ok_opt hk4
          obtain ⟨hnb, hk4⟩ := ok_bool hk4
          have hself4 := he4.rows _ _ (he23.rows _ _ hself2)
          obtain ⟨hrow4, rc4, hb4, hst, hpd, hps, has, hbd, _⟩ := loop_at hw4 hself4 hx4
          obtain ⟨hlim4, hk4⟩ := ok_setH hk4
          obtain ⟨en, hen, hk4⟩ := ok_opt hk4
          have hb4 : w4.heap[w.heap.size + 1]? = some (.loop rc4) := hb4
          have hrend := run_endLoop (P := P) hb4 (fun e => by rw [hst] at e; rw [e] at hnb; cases hnb)
          have hlt4 : w.heap.size + 1 < w4.heap.size := (Array.getElem?_eq_some_iff.1 hb4).1
          have hw5 : WR P C φ4 ⟨s4.env, s4.ds, s4.heap.put (s.next + 1) none, s4.next, s4.side, s4.sn, s4.lim⟩ (w4.putObj (w.heap.size + 1) (.loop { rc4 with state := .exhausted })) :=
            WR.putRec (q := ⟨w.heap.size + 1, 0, 0, 0⟩) hw4 hrow4 hself4 hl hlim4 hlt4 (fun o ho => by cases ho)
          refine ⟨_, _, hrend, ?_⟩
          have heT := he12.trans (he23.trans he4)
          have hS6 : SR P C N φ4 ⟨s4.env, s.next :: s4.ds, s4.heap.put (s.next + 1) none, s4.next, s4.side, s4.sn, s4.lim⟩ { a with defers := [isMark w.heap.size] ++ a.defers } (w4.putObj (w.heap.size + 1) (.loop { rc4 with state := .exhausted })) := by
            refine ⟨hw5.env _ _, ?_, ?_⟩
            · show ER N φ4 s4.side s4.sn s4.env _
              rw [henv4, hg3.env]
              have := hS.er.mono heT
              exact ⟨this.size, this.slot⟩
            · show DR φ4 (s.next :: s4.ds) (isMark w.heap.size :: a.defers)
              refine ⟨⟨_, he4.rows _ _ (he23.rows _ _ hself1'), hm, rfl⟩, ?_⟩
              rw [hds4, hg3.ds]
              exact hS.dr.mono heT.rows
          have hpe : jumpE rc4.pending = some en := by rw [hpd]; exact hen
          have := jump_ok (k := k) (Q := PostC P C N φ s T k) hpe hS6 hk4 (fun ex a' w' hp => hp.trans heT)
          cases hpp : rc4.pending with
          | none => rw [hpp] at this; exact this
          | some cc => rw [hpp] at this; exact this
      · cases hq
    | _ => cases hfn
  | _ => cases hfn
theorem code_ok (hm:P.follows .mixedOrders=true) (hcall:CallOK P call) (F N:Nat) (r:Option Nat):∀ c,CodeOK P call F N r c:=by
 intro c
 induction c with
 | skip=>intro C φ s a w T k _ _ hS h; exact wpIn_skip ⟨0,rfl,.self hS h⟩
 | region id ops draw =>
  intro C φ s a w T k hok _ hS h
  cases draw with
  | false=>exact wpIn_region_list (ok_opl (k:=fun s=>k 0 s) hcall φ s (fun a' w' hp=>⟨0,rfl,hp⟩) ops.toList φ s a w .refl hok hS h)
  | true =>
   have hok:Bool.rec (motive:=fun _=>Bool) false (okOps N ops.toList) (noDefer ops)=true:=hok
   cases hnd:noDefer ops with
   | false=>rw [hnd] at hok; cases hok
   | true =>
    rw [hnd] at hok
    exact ok_region_any (k:=fun s=>k 0 s) hm hcall hok hnd hS h fun a' w' hp=>⟨0,rfl,hp⟩
 | seq x y ihx ihy =>
  intro C φ s a w T k hok hnr hS h
  have hok:Bool.rec (motive:=fun _=>Bool) false (okC N y) (okC N x)=true:=hok
  have hok2:okC N x=true∧okC N y=true:=by
   cases hx:okC N x with
   | false=>rw [hx] at hok; cases hok
   | true=>rw [hx] at hok; exact ⟨rfl,hok⟩
  have hnr2:r.isSome=true→noRange x=true∧noRange y=true:=fun hi=>by
   have:=hnr hi
   have this:Bool.rec (motive:=fun _=>Bool) false (noRange y) (noRange x)=true:=this
   cases hx:noRange x with
   | false=>rw [hx] at this; cases this
   | true=>rw [hx] at this; exact ⟨rfl,this⟩
  have h:Ok T (codeX x call P F N s fun e s=>seqT e (fun s=>codeX y call P F N s k) k s):=h
  refine wpIn_seq (Go.wpIn_mono (ihx C φ s a w T _ hok2.1 (fun hi=>(hnr2 hi).1) hS h) fun e a' w' hq=>?_)
  obtain ⟨en,hen,φ',s',he',hS',hk⟩:=hq
  cases e with
  | normal =>
   cases hen
   exact Go.wpIn_mono (ihy C φ' s' a' w' T k hok2.2 (fun hi=>(hnr2 hi).2) hS' hk) fun e a2 w2 hp=>hp.trans he'
  | ret=>cases hen; exact ⟨1,rfl,φ',s',he',hS',hk⟩
  | exit i =>
   cases hen
   have e2:2+2 * i=(1+2 * i)+1:=by omega
   rw [e2] at hk
   exact ⟨2+2 * i,rfl,φ',s',he',hS',by rw [e2]; exact hk⟩
  | goto i =>
   cases hen
   have e2:3+2 * i=(2+2 * i)+1:=by omega
   rw [e2] at hk
   exact ⟨3+2 * i,rfl,φ',s',he',hS',by rw [e2]; exact hk⟩
  | panic c=>cases hen
  | outgrown=>cases hen
 | cond c x y ihx ihy =>
  intro C φ s a w T k hok hnr hS h
  have hok:Bool.rec (motive:=fun _=>Bool) false (okC N y) (okC N x)=true:=hok
  have hok2:okC N x=true∧okC N y=true:=by
   cases hx:okC N x with
   | false=>rw [hx] at hok; cases hok
   | true=>rw [hx] at hok; exact ⟨rfl,hok⟩
  have hnr2:r.isSome=true→noRange x=true∧noRange y=true:=fun hi=>by
   have:=hnr hi
   have this:Bool.rec (motive:=fun _=>Bool) false (noRange y) (noRange x)=true:=this
   cases hx:noRange x with
   | false=>rw [hx] at this; cases this
   | true=>rw [hx] at this; exact ⟨rfl,this⟩
  obtain ⟨av,_,hav,h⟩:=ok_evK (x:=c) hS.er h
  cases av with
  | b p =>
   obtain ⟨hp,hv⟩:=hav
   have h:Ok T (Nat.rec (motive:=fun _=>R) (codeX y call P F N s k) (fun _ _=>codeX x call P F N s k) p):=h
   cases p with
   | zero=>exact wpIn_cond_false hv (ihy C φ s a w T k hok2.2 (fun hi=>(hnr2 hi).2) hS h)
   | succ p=>exact wpIn_cond_true hv (ihx C φ s a w T k hok2.1 (fun hi=>(hnr2 hi).1) hS h)
  | _=>exact (ok_bad h).elim
 | block i b ih =>
  intro C φ s a w T k hok hnr hS h
  have h:Ok T (codeX b call P F N s fun e s=>Bool.rec (motive:=fun _=>R) (k e s) (k 0 s) (Nat.beq e (Nat.add 2 (Nat.mul 2 i)))):=h
  refine wpIn_block (Go.wpIn_mono (ih C φ s a w T _ hok hnr hS h) fun e a' w' hq=>?_)
  obtain ⟨en,hen,φ',s',he',hS',hk⟩:=hq
  have other:∀ {n:Nat},n≠2+2 * i→Ok T (Bool.rec (motive:=fun _=>R) (k n s') (k 0 s') (Nat.beq n (Nat.add 2 (Nat.mul 2 i))))→Ok T (k n s'):=fun {n} hn hk=>by
   have:Nat.beq n (Nat.add 2 (Nat.mul 2 i))=false:=by
    cases hb:Nat.beq n (Nat.add 2 (Nat.mul 2 i)) with
    | false=>rfl
    | true=>exact absurd (beq_eq hb) hn
   rw [this] at hk; exact hk
  cases e with
  | normal=>cases hen; exact ⟨0,rfl,φ',s',he',hS',other (by omega) hk⟩
  | ret=>cases hen; exact ⟨1,rfl,φ',s',he',hS',other (by omega) hk⟩
  | exit j =>
   cases hen
   simp only [Exit.inBlock]
   by_cases hj:j=i
   ·rw [if_pos hj]
    subst hj
    have this:Nat.beq (2+2 * j) (Nat.add 2 (Nat.mul 2 j))=true:=Nat.beq_refl _
    have hk:Ok T (Bool.rec (motive:=fun _=>R) (k (2+2 * j) s') (k 0 s') (Nat.beq (2+2 * j) (Nat.add 2 (Nat.mul 2 j)))):=hk
    rw [this] at hk
    exact ⟨0,rfl,φ',s',he',hS',hk⟩
   ·rw [if_neg hj]
    exact ⟨2+2 * j,rfl,φ',s',he',hS',other (by omega) hk⟩
  | goto j=>cases hen; exact ⟨3+2 * j,rfl,φ',s',he',hS',other (by omega) hk⟩
  | panic c=>cases hen
  | outgrown=>cases hen
 | loop b ih =>
  intro C φ s a w T k hok hnr hS h
  have h:Ok T (Bool.rec (motive:=fun _=>R) (loopN (fun s k=>codeX b call P F N s k) F s k) (loopR (fun s k=>codeX b call P F N s k) N b F s k) (Bool.and (hasNext b) (Bool.not (hasApp b)))):=h
  cases hb:Bool.and (hasNext b) (Bool.not (hasApp b)) with
  | false=>rw [hb] at h; exact wpIn_loop_rounds F (ok_loopN ih hok hnr φ s F φ s a w .refl hS h)
  | true=>rw [hb] at h; exact ok_loopR ih hok hnr hS h
 | rangeFunc g ps assign body _ _ =>
  intro C φ s a w T k hok hnr hS h
  cases r with
  | none=>exact ok_rangeF hcall hS h
  | some l=>cases hnr rfl
 | exit i=>intro C φ s a w T k _ _ hS h; exact wpIn_exit ⟨2+2 * i,rfl,.self hS h⟩
 | scope b ih =>
  intro C φ s a w T k hok hnr hS h
  have h:Ok T (codeX b call P F N s fun e s=>Bool.rec (motive:=fun _=>R) (k e s) bad (isGoto e)):=h
  cases r with
  | some l=>cases hnr rfl
  | none =>
   refine wpIn_wide.2 (wp_scope_straight (wpIn_wide.1 (Go.wpIn_mono (ih C φ s a w T _ hok (fun h=>nomatch h) hS h) fun e a' w' hq=>?_)))
   obtain ⟨en,hen,φ',s',he',hS',hk⟩:=hq
   have hk:Ok T (Bool.rec (motive:=fun _=>R) (k en s') bad (isGoto en)):=hk
   have hg:isGoto en=false∧Ok T (k en s'):=by
    cases hb:isGoto en with
    | false=>rw [hb] at hk; exact ⟨rfl,hk⟩
    | true=>rw [hb] at hk; exact (ok_bad hk).elim
   cases e with
   | goto i =>
    cases hen
    have:isGoto (3+2 * i)=true:=by
     have h1:(3+2 * i) % 2=1:=by omega
     have h2:Nat.blt 1 (3+2 * i)=true:=by rw [Nat.blt_eq]; omega
     show (Nat.beq ((3+2 * i) % 2) 1 && Nat.blt 1 (3+2 * i))=true
     rw [h1,h2]; rfl
    rw [this] at hg; exact absurd hg.1 (by decide)
   | normal=>exact ⟨en,hen,φ',s',he',hS',hg.2⟩
   | ret=>exact ⟨en,hen,φ',s',he',hS',hg.2⟩
   | exit i=>exact ⟨en,hen,φ',s',he',hS',hg.2⟩
   | panic c=>exact ⟨en,hen,φ',s',he',hS',hg.2⟩
   | outgrown=>exact ⟨en,hen,φ',s',he',hS',hg.2⟩
 | label i=>intro C φ s a w T k _ _ hS h; exact wpIn_label ⟨0,rfl,.self hS h⟩
 | goto i=>intro C φ s a w T k _ _ hS h; exact wpIn_goto ⟨3+2 * i,rfl,.self hS h⟩
 | ret=>intro C φ s a w T k _ _ hS h; exact wpIn_ret ⟨1,rfl,.self hS h⟩
 | refuse why=>intro C φ s a w T k _ _ hS h; exact (ok_bad h).elim
end
end Go.Ex
namespace Go.Ex
open Go.Fip
section
variable {T : Out → Prop} {φ : Phi} {s : St} {N : Nat} {a : Act} {P : Program} {w : World} {C : Cx} {call : CallR} {r : Option Nat} {F : Nat} {k : Nat → St → R}
theorem load_run {t : TypeId} {x : Operand} (hw : WR P C φ s w) (he : ER N φ s.side s.sn s.env a) (h : Ok T (evK x s fun a => loadT a P t s k)) : ∃ p v, a.eval x = .pointer (some p) ∧ (loadVar t p).run P w = .ok v w ∧ Cd φ s T k v := by
  obtain ⟨av, h1, h2, h⟩ := ok_evK he h
  cases av with
  | pt r o =>
    obtain ⟨q, hq, hr, ho, hv⟩ := h2
    obtain ⟨E, n, d, q', hq', ⟨cur, E', fz, hb, hcells, hrest⟩, h⟩ := ok_rd (k := fun _ n c => optR (shapeP P t) fun z => pieceK z n c o s k) hw h
    rw [hq] at hq'; cases hq'
    obtain ⟨z, hz, h⟩ := ok_opt h
    rcases ok_piece (φ := φ) (f := fun i => cur[q.off + i]?) hw.sok hcells.2 h with ⟨rfl, u, hu, hc⟩ | ⟨m, ys, rfl, hm, hle, hy, hc⟩
    · have hcl : w.cell? ⟨q.b, q.off + o, none⟩ = some u := by rw [cell_of hb]; exact hu
      exact ⟨_, u, hv, by simp [loadVar, shape_none hz w, load, Sem.run, hcl, Result.andThen], hc⟩
    · have hTA := shape_some hz
      have hl := run_loadCells_list (P := P) (w := w) ⟨q.b, q.off + o, none⟩ ys.toList (fun j u hj => by
        rw [add_none, cell_of hb]
        have := hy j u (by simpa using hj)
        simpa [Nat.add_assoc] using this)
      simp only [Array.length_toList, hm] at hl
      exact ⟨_, _, hv, by simp [loadVar, hTA.1 w, run_size hTA.2, hl, Result.andThen], hc⟩
  | _ => exact (ok_bad h).elim
theorem ok_res {x:ResultVar} (hw:WR P C φ s w) (he:ER N φ s.side s.sn s.env a) (h:Ok T (resT x P s k)):∃ v,(resSem a.tmps x).run P w=.ok v w∧Cd φ s T k v:=by
 cases x with
 | tmp t=>exact ⟨_,rfl,ok_evC (x:=.tmp t) hw.sok he h⟩
 | cell b t =>
  obtain ⟨p,v,h1,h2,h3⟩:=load_run (x:=.tmp b) hw he h
  refine ⟨v,?_,h3⟩
  have h1:a.tmps.getD b undef=.pointer (some p):=h1
  simp [resSem,h1,asAddr,h2]
theorem ok_ress {k : Nat → Nat → St → R} : ∀ (l : List ResultVar) (xs : List Value) (s : St) (n d : Nat), WR P C φ s w → ER N φ s.side s.sn s.env a → xs.length = n → d < 2 ^ (n * 128) → (∀ (i : Nat) (u : Value), xs[i]? = some u → CV φ s.side s.sn (dg d i) u) →
    Ok T (ress l n d P s k) → ∃ vs n' d' s', (l.mapM (resSem a.tmps)).run P w = .ok vs w ∧ SG s s' ∧ n' = (xs ++ vs).length ∧ d' < 2 ^ (n' * 128) ∧ (∀ (i : Nat) (u : Value), (xs ++ vs)[i]? = some u → CV φ s'.side s'.sn (dg d' i) u) ∧ Ok T (k n' d' s')
  | [], xs, s, n, d, hw, he, hl, hd, hx, h => ⟨[], n, d, s, by simp, SG.refl s, by simpa using hl.symm, hd, by simpa using hx, h⟩
  | x :: l, xs, s, n, d, hw, he, hl, hd, hx, h => by
    obtain ⟨v, hr, c, s', hg, hs', hc, hk⟩ := ok_res (a := a) (k := fun c s => ress l (Nat.succ n) (Nat.add d (Nat.shiftLeft c (Nat.mul n 128))) P s k) hw he h
    obtain ⟨vs, n', d', s'', h1, g2, e2, b2, c2, k2⟩ := ok_ress l (xs ++ [v]) s' (n + 1) _ (hw.sg hg) (by rw [hg.env]; exact he.mono (hg.ext φ)) (by simp [hl]) (cat_lt d c n 1 hd (by simpa using hc.lt)) (fun i u hi => by
      rw [dg_cat _ _ _ _ hd]
      by_cases hlt : i < n
      · rw [if_pos hlt]
        rw [List.getElem?_append_left (by omega)] at hi
        exact (hx i u hi).mono (hg.ext φ)
      · rw [if_neg hlt]
        rw [List.getElem?_append_right (by omega)] at hi
        have : i - xs.length = 0 := by
          rcases Nat.eq_zero_or_pos (i - xs.length) with h0 | h0
          · exact h0
          · rw [List.getElem?_eq_none (by simp; omega)] at hi; cases hi
        rw [this] at hi
        cases hi
        have e : i - n = 0 := by omega
        rw [e, dg_small _ hc.lt, if_pos rfl]
        exact hc) hk
    rw [List.append_assoc] at e2 c2
    refine ⟨v :: vs, n', d', s'', ?_, hg.trans g2, e2, b2, c2, k2⟩
    simp only [List.mapM_cons, Sem.run_bind, hr, h1, Result.andThen, Sem.run_pure]
theorem ok_results {fn:Func} {k:Nat→St→R} (hw:WR P C φ s w) (he:ER N φ s.side s.sn s.env a) (h:Ok T (ress fn.results.toList 0 0 P s fun n d s=>resOne n d s fun c s=>k c s)) :
  ∃ v,(results fn a.tmps).run P w=.ok v w∧Cd φ s T k v:=by
 obtain ⟨vs,n,d,s1,h1,hg,hn,hd,hc,hk⟩:=ok_ress (a:=a) fn.results.toList [] s 0 0 hw he rfl (by decide) (fun i u hi=>by simp at hi) h
 simp only [List.nil_append] at hn hc
 have hm:(fn.results.mapM (resSem a.tmps)).run P w=.ok vs.toArray w:=by
  rw [Array.mapM_eq_mapM_toList]
  simp only [map_eq_pure_bind,Sem.run_bind,h1,Result.andThen,Sem.run_pure]
 have hres:∀ v,(if h:vs.toArray.size=1 then vs.toArray[0] else Value.tuple vs.toArray)=v→(results fn a.tmps).run P w=.ok v w:=by
  intro v hv
  unfold results
  show (do let vs ← fn.results.mapM (resSem a.tmps); pure (if h:vs.size=1 then vs[0] else .tuple vs):Sem Value).run P w=_
  simp only [Sem.run_bind,hm,Result.andThen,Sem.run_pure,hv]
 have hk:Ok T (Bool.rec (motive:=fun _=>R) (sideK (.tu n d) s1 k) (k d s1) (Nat.beq n 1)):=hk
 have hs1:=hg.ok hw.sok
 cases hb:Nat.beq n 1 with
 | true =>
  rw [hb] at hk
  have hn1:n=1:=beq_eq hb
  have hl1:vs.length=1:=by rw [← hn]; exact hn1
  obtain ⟨v,hv⟩:∃ v,vs=[v]:=by
   cases vs with
   | nil=>cases hl1
   | cons v l =>
    cases l with
    | nil=>exact ⟨v,rfl⟩
    | cons u l=>simp at hl1
  have this:=hc 0 v (by rw [hv]; rfl)
  have hd1:d<2 ^ 128:=by rw [hn1] at hd; simpa using hd
  rw [dg_small _ hd1,if_pos rfl] at this
  exact ⟨v,hres v (by rw [hv]; simp),d,s1,hg,hs1,this,hk⟩
 | false =>
  rw [hb] at hk
  have hn1:vs.length≠1:=fun e=>by rw [hn,e] at hb; cases hb
  obtain ⟨c,s2,hg2,hs2,hc2,hk2⟩:=cv_side (φ:=φ) (v:=.tuple vs.toArray) hs1 hk fun s2 hg2 hn2 hb2 hx2=>.tu _ n d vs.toArray hn2 hb2 hx2 (by simp [hn]) (fun i u hi _=>(hc i u (by simpa using hi)).mono (hg2.ext φ))
  exact ⟨_,hres (.tuple vs.toArray) (by simp [hn1]),c,s2,hg.trans hg2,hs2,hc2,hk2⟩
theorem mark_spec {m:Nat} (h:markT (s.heap.get m)=true):s.heap.get m=some .mark:=by
 cases ho:s.heap.get m with
 | none=>rw [ho] at h; cases h
 | some o =>
  rw [ho] at h
  cases o <;> first | rfl | cases h
theorem ok_marks {fn:Func} {tmps:Array Value} {k:St→R} {Rq:Ending→World→Prop}:∀ (ids:List Nat) (defs:List Deferred) (s:St) (w:World),DR φ ids defs→WR P C φ s w→Ok T (marks ids s k) →
  (∀ s' w',WR P C φ s' w'→s'.env=s.env→s'.side=s.side→s'.sn=s.sn→Ok T (k s')→∃ v,(results fn tmps).run P w'=.ok v w'∧Rq (.returned v) w')→LeavesInM Fence.wide 0 P fn tmps Rq defs .returning w
 | [],[],s,w,_,hw,h,hk=>hk s w hw rfl rfl rfl h
 | m::ids,d::defs,s,w,⟨⟨q,hq,hm,hd⟩,hD⟩,hw,h,hk=>by
  obtain ⟨h1,h⟩:=ok_bool h
  have hmk:=mark_spec h1
  obtain ⟨_,q',hq',_,ho⟩:=hw.row m _ hmk
  rw [hq] at hq'; cases hq'
  have ho:w.heap[q.b]? = some (.deferred (some [])):=ho
  obtain ⟨hlim,h⟩:=ok_setH h
  have hlt:q.b<w.heap.size:=(Array.getElem?_eq_some_iff.1 ho).1
  have hw2:WR P C φ ⟨s.env,s.ds,s.heap.put m none,s.next,s.side,s.sn,s.lim⟩ (w.putObj q.b (.deferred none)):=WR.putRec hw hmk hq hm hlim hlt (fun o ho=>by cases ho)
  subst hd
  exact ⟨by simp,.inl ⟨q.b,_,rfl,run_takeDeferred ho,ok_marks ids defs _ _ hD hw2 h (fun s' w' a b c d e=>hk s' w' a b c d e)⟩⟩
 | [],_::_,_,_,hD,_,_,_=>hD.elim
 | _::_,[],_,_,hD,_,_,_=>hD.elim
theorem dg_ge {c n j:Nat} (h:c<2 ^ (n * 128)) (hj:n≤j):dg c j=0:=by
 rw [dg_eq,Nat.div_eq_of_lt (Nat.lt_of_lt_of_le h (Nat.pow_le_pow_right (by decide) (by omega))),Nat.zero_mod]
theorem er_enter {sd : Ex.T AV} {sn n₁ c₁ n₂ c₂ n₃ c₃ m : Nat} {xs aS0 ys : Array Value} (h1 : xs.size = n₁) (h2 : aS0.size = n₂) (h3 : ys.size = n₃) (b1 : c₁ < 2 ^ (n₁ * 128)) (b2 : c₂ < 2 ^ (n₂ * 128)) (b3 : c₃ < 2 ^ (n₃ * 128))
    (hx : ∀ (i : Nat) (u : Value), xs[i]? = some u → CV φ sd sn (dg c₁ i) u) (ha : ∀ (i : Nat) (u : Value), aS0[i]? = some u → CV φ sd sn (dg c₂ i) u) (hy : ∀ (i : Nat) (u : Value), ys[i]? = some u → CV φ sd sn (dg c₃ i) u) (hle : n₁ + (n₂ + n₃) ≤ m) :
    ER m φ sd sn (Nat.shiftLeft (Nat.add c₁ (Nat.shiftLeft (Nat.add c₂ (Nat.shiftLeft c₃ (Nat.mul n₂ 128))) (Nat.mul n₁ 128))) 128) { tmps := (xs ++ aS0 ++ ys) ++ Array.replicate (m - (xs ++ aS0 ++ ys).size) undef, defers := [] } := by
  have hsz : (xs ++ aS0 ++ ys).size = n₁ + n₂ + n₃ := by simp [h1, h2, h3]; omega
  refine ⟨by simp [h1, h2, h3]; omega, fun t ht => ?_⟩
  rw [dg_up, dg_cat _ _ _ _ b1] at ht ⊢
  have key : ∀ v, (xs ++ aS0 ++ ys)[t]? = some v → ((xs ++ aS0 ++ ys) ++ Array.replicate (m - (xs ++ aS0 ++ ys).size) undef)[t]? = some v := fun v hv => by
    have := (Array.getElem?_eq_some_iff.1 hv).1
    rw [Array.getElem?_append_left this]; exact hv
  by_cases t1 : t < n₁
  · rw [if_pos t1] at ht ⊢
    have hlt : t < xs.size := by omega
    refine ⟨xs[t], key _ ?_, hx t _ (by simp [hlt])⟩
    rw [Array.getElem?_append_left (by simp; omega), Array.getElem?_append_left hlt]
    simp [hlt]
  · rw [if_neg t1, dg_cat _ _ _ _ b2] at ht ⊢
    by_cases t2 : t - n₁ < n₂
    · rw [if_pos t2] at ht ⊢
      have hlt : t - n₁ < aS0.size := by omega
      refine ⟨aS0[t - n₁], key _ ?_, ha _ _ (by simp [hlt])⟩
      rw [Array.getElem?_append_left (by simp; omega), Array.getElem?_append_right (by omega), h1]
      simp [hlt]
    · rw [if_neg t2] at ht ⊢
      by_cases t3 : t - n₁ - n₂ < n₃
      · have hlt : t - n₁ - n₂ < ys.size := by omega
        refine ⟨ys[t - n₁ - n₂], key _ ?_, hy _ _ (by simp [hlt])⟩
        rw [Array.getElem?_append_right (by simp; omega)]
        have e : t - (xs ++ aS0).size = t - n₁ - n₂ := by simp [h1, h2]; omega
        rw [e]
        simp [hlt]
      · rw [dg_ge b3 (by omega)] at ht
        exact absurd rfl ht
def Named (P:Program):Prop:=∀ (g:Nat) (fn:Func),P.funcs[g]? = some fn→(fn.name == "runtime.NumGoroutine")=false
theorem ok_fnB {g env0:Nat} {fn:Func} {cd:Code} {args:Array Value} (hf:P.funcs[g]? = some fn) (hb:fn.body=some cd)
  (hbody:cd.wpIn (Fr none) 0 P (PostC P C fn.ntmps φ ⟨env0,[],s.heap,s.next,s.side,s.sn,s.lim⟩ T (leave P fn s.env s.ds k)) { tmps:=args++Array.replicate (fn.ntmps - args.size) undef,defers:=[] } w):CallsIn Fence.wide 0 P g args w (RetQ P C φ s T k):=by
 refine callsIn_of_wp_marks hf hb trivial ?_
 refine Go.wpIn_mono hbody fun e a' w' hq=>?_
 obtain ⟨en,hen,φ',s',he',hS',hk⟩:=hq
 have leaves:Ok T (marks s'.ds s' fun s1=>ress fn.results.toList 0 0 P s1 fun n d s1=>resOne n d s1 fun c s1=>k c (back s.env s.ds s1))→LeavesInM Fence.wide 0 P fn a'.tmps (RetQ P C φ s T k) a'.defers .returning w':=fun hk=>by
  refine ok_marks s'.ds a'.defers s' w' hS'.dr hS'.wr hk fun s1 w1 hw1 e1 e2 e3 hk1=>?_
  obtain ⟨v,hr,c',s2,hg2,hs2,hc2,hk2⟩:=ok_results (a:=a') (k:=fun c s1=>k c (back s.env s.ds s1)) hw1 (by rw [e1,e2,e3]; exact hS'.er) hk1
  refine ⟨v,hr,v,c',φ',back s.env s.ds s2,rfl,?_,(hw1.sg hg2).env _ _,rfl,rfl,hc2,hk2⟩
  have:=hg2.ext φ'
  rw [e2,e3] at this
  exact he'.trans this
 have hk':∀ {x},x≤1→Ok T (leave P fn s.env s.ds k x s')→Ok T (marks s'.ds s' fun s1=>ress fn.results.toList 0 0 P s1 fun n d s1=>resOne n d s1 fun c s1=>k c (back s.env s.ds s1)):=fun _ hk=>(ok_bool hk).2
 have hbig:∀ {x},1<x→¬ Ok T (leave P fn s.env s.ds k x s'):=fun {x} hx hk=>by
  have:=ble_le (ok_bool hk).1
  omega
 cases e with
 | normal=>cases hen; exact leaves (hk' (by decide) hk)
 | ret=>cases hen; exact leaves (hk' (by decide) hk)
 | exit i=>cases hen; exact absurd hk (hbig (by omega))
 | goto i=>cases hen; exact absurd hk (hbig (by omega))
 | panic c=>cases hen
 | outgrown=>cases hen
theorem ok_fn {g n₁ c₁ n c n₃ c₃ : Nat} {xs aS0 ys : Array Value} (hP : Named P) (hm : P.follows .mixedOrders = true) (hcall : CallOK P call) (hw : WR P C φ s w) (h1 : xs.size = n₁) (h2 : aS0.size = n) (h3 : ys.size = n₃)
    (b1 : c₁ < 2 ^ (n₁ * 128)) (b2 : c < 2 ^ (n * 128)) (b3 : c₃ < 2 ^ (n₃ * 128)) (hx : ∀ (i : Nat) (u : Value), xs[i]? = some u → CV φ s.side s.sn (dg c₁ i) u) (ha : ∀ (i : Nat) (u : Value), aS0[i]? = some u → CV φ s.side s.sn (dg c i) u)
    (hy : ∀ (i : Nat) (u : Value), ys[i]? = some u → CV φ s.side s.sn (dg c₃ i) u) (h : Ok T (fnT (.func g) n₁ c₁ n c n₃ c₃ call P F s k)) : CallRes P C φ s w T k (.func (.func g) xs ys) aS0 := by
  obtain ⟨fn, hf, h⟩ := ok_opt h
  obtain ⟨cd, hb, h⟩ := ok_opt h
  obtain ⟨h4, h⟩ := ok_bool h
  obtain ⟨hok, hle⟩ := ok_and h4
  have hle : n₁ + (n + n₃) ≤ fn.ntmps := ble_le hle
  refine ⟨.enter g (xs ++ aS0 ++ ys), ?_, .inl ⟨g, _, rfl, ?_⟩⟩
  · have := ent hf (hP g fn hf) hb (xs ++ aS0 ++ ys) w
    simpa [Deferred.ofValue, invoke, Result.andThen] using this
  · refine ok_fnB (env0 := Nat.shiftLeft (Nat.add c₁ (Nat.shiftLeft (Nat.add c (Nat.shiftLeft c₃ (Nat.mul n 128))) (Nat.mul n₁ 128))) 128) hf hb ?_
    have hS : SR P C fn.ntmps φ ⟨Nat.shiftLeft (Nat.add c₁ (Nat.shiftLeft (Nat.add c (Nat.shiftLeft c₃ (Nat.mul n 128))) (Nat.mul n₁ 128))) 128, [], s.heap, s.next, s.side, s.sn, s.lim⟩
        { tmps := (xs ++ aS0 ++ ys) ++ Array.replicate (fn.ntmps - (xs ++ aS0 ++ ys).size) undef, defers := [] } w := ⟨hw.env _ _, er_enter h1 h2 h3 b1 b2 b3 hx ha hy hle, trivial⟩
    have hco := code_ok hm hcall F fn.ntmps none cd
    have h : Ok T (joinF cd call P F fn.ntmps ⟨Nat.shiftLeft (Nat.add c₁ (Nat.shiftLeft (Nat.add c (Nat.shiftLeft c₃ (Nat.mul n 128))) (Nat.mul n₁ 128))) 128, [], s.heap, s.next, s.side, s.sn, s.lim⟩ (leave P fn s.env s.ds k)) := h
    unfold joinF at h
    cases hn : hasNext cd with
    | false => rw [hn] at h; exact hco C φ _ _ w T _ hok (fun h => by cases h) hS h
    | true =>
      rw [hn] at h
      cases hd : hasDel cd with
      | false => rw [hd] at h; exact ok_joined hco hok hS h
      | true => rw [hd] at h; exact ok_joinE hco hok hS h
end
end Go.Ex
namespace Go.Ex
open Go.Fip
section
variable {T : Out → Prop} {φ : Phi} {s : St} {N : Nat} {a : Act} {P : Program} {w : World} {C : Cx} {call : CallR} {r : Option Nat} {F : Nat} {k : Nat → St → R}
theorem er_args {sd:Ex.T AV} {sn c n:Nat} {aS0:List Value} (hn:aS0.length=n) (hc:∀ (i:Nat) (u:Value),aS0[i]? = some u→CV φ sd sn (dg c i) u):∀ (ps:List Nat) (i env:Nat) (tmps:Array Value),i+ps.length=n→(∀ p∈ps,p<N) →
  ER N φ sd sn env { tmps:=tmps,defers:=[] }→ER N φ sd sn (argsE ps env c n i) { tmps:=(ps.zip (aS0.drop i)).foldl (fun tmps (x:Nat×Value)=>tmps.setIfInBounds x.1 x.2) tmps,defers:=[] }
 | [],i,env,tmps,hi,hp,h=>h
 | p::ps,i,env,tmps,hi,hp,h=>by
  have hlt:i<aS0.length:=by rw [hn]; simp at hi; omega
  have hb:Nat.blt i n=true:=by rw [← hn]; simpa [Nat.blt_eq] using hlt
  have he:argsE (p::ps) env c n i=argsE ps (Ex.sd env (p+1) (dg c i)) c n (i+1):=by
   show Bool.rec (motive:=fun _=>Nat) env (argsE ps (Ex.sd env (Nat.succ p) (dg c i)) c n (Nat.succ i)) (Nat.blt i n)=_
   rw [hb]
  have hd:aS0.drop i=aS0[i]::aS0.drop (i+1):=List.drop_eq_getElem_cons hlt
  rw [he,hd,List.zip_cons_cons,List.foldl_cons]
  have hcv:=hc i aS0[i] (List.getElem?_eq_getElem hlt)
  have:=er_put (d:=p) (v:=aS0[i]) h (hp p (by simp)) (dg_lt c i) (fun _=>hcv)
  exact er_args hn hc ps (i+1) _ _ (by simp at hi ⊢; omega) (fun q hq=>hp q (by simp [hq])) this
theorem ready_spec {x:LoopState} (h:isReady x=true):x=.ready:=by
 cases x <;> first | rfl | cases h
theorem jump_none {e:Nat}:(jumpC e).isNone=Nat.beq e 0:=by
 match e with
 | 0=>rfl
 | 1=>rfl
 | e+2 =>
  show (if e % 2=0 then some (Code.exit (e / 2)) else some (Code.goto (e / 2))).isNone=_
  split <;> rfl
theorem jump_exN {ex:Exit} {en:Nat} (h:exN ex=some en):(ex=.normal∧en=0)∨(∃ c,jumpC en=some c∧en≠0∧((ex=.ret∧c=.ret)∨(∃ i,ex=.exit i∧c=.exit i)∨(∃ i,ex=.goto i∧c=.goto i))):=by
 cases ex with
 | normal=>cases h; exact .inl ⟨rfl,rfl⟩
 | ret=>cases h; exact .inr ⟨.ret,rfl,by decide,.inl ⟨rfl,rfl⟩⟩
 | exit i =>
  cases h
  refine .inr ⟨.exit i,?_,by omega,.inr (.inl ⟨i,rfl,rfl⟩)⟩
  have e:2+2 * i=2 * i+2:=by omega
  rw [e]
  show (if 2 * i % 2=0 then some (Code.exit (2 * i / 2)) else some (Code.goto (2 * i / 2)))=_
  rw [if_pos (by omega)]; congr 2; omega
 | goto i =>
  cases h
  refine .inr ⟨.goto i,?_,by omega,.inr (.inr ⟨i,rfl,rfl⟩)⟩
  have e:3+2 * i=(2 * i+1)+2:=by omega
  rw [e]
  show (if (2 * i+1) % 2=0 then some (Code.exit ((2 * i+1) / 2)) else some (Code.goto ((2 * i+1) / 2)))=_
  rw [if_neg (by omega)]; congr 2; omega
 | panic c=>cases h
 | outgrown=>cases h
theorem ok_yield {l n c : Nat} {aS0 : Array Value} {q : Pl} (hm : P.follows .mixedOrders = true) (hcall : CallOK P call) (hw : WR P C φ s w) (hq : φ l = some q) (hl : l < 16777216) (h2 : aS0.size = n)
    (ha : ∀ (i : Nat) (u : Value), aS0[i]? = some u → CV φ s.side s.sn (dg c i) u) (h : Ok T (yieldK call P F l n c s k)) : CallRes P C φ s w T k (.func (.yield q.b) #[] #[]) aS0 := by
  obtain ⟨x, hx, h⟩ := ok_opt h
  obtain ⟨hck, h⟩ := ok_bool h
  obtain ⟨hnl, hck⟩ := ok_and hck
  obtain ⟨hoa, hck⟩ := ok_and hck
  obtain ⟨hob, hck⟩ := ok_and hck
  obtain ⟨hna, hck⟩ := ok_and hck
  obtain ⟨hnb, hck⟩ := ok_and hck
  obtain ⟨hps, hrd⟩ := ok_and hck
  have hnl : n = x.2.2.1.length := beq_eq hnl
  obtain ⟨hrow, rc, hb, hst, hpd, hpr, has, hbd, her, hmk⟩ := loop_at hw hq hx
  have hrd := ready_spec hrd
  have hsz : aS0.size = rc.params.size := by rw [h2, hnl, ← hpr]; simp
  have hrun := run_yield (P := P) (args := aS0) hb hsz
  refine ⟨.round q.b rc.fn ((rc.params.zip aS0).foldl (fun tmps (x : Nat × Value) => tmps.setIfInBounds x.1 x.2) rc.tmps) rc.assign rc.body, ?_, .inr ⟨q.b, rc.fn, _, rc.assign, rc.body, rfl, ⟨_, rfl⟩, roundIn_of_wpIn trivial ?_⟩⟩
  · simpa [Deferred.ofValue, invoke, Result.andThen] using hrun
  · have hfold : (rc.params.zip aS0).foldl (fun tmps (x : Nat × Value) => tmps.setIfInBounds x.1 x.2) rc.tmps = (x.2.2.1.zip (aS0.toList.drop 0)).foldl (fun tmps (x : Nat × Value) => tmps.setIfInBounds x.1 x.2) rc.tmps := by
      rw [← Array.foldl_toList, Array.toList_zip, hpr, List.drop_zero]
    have hS : SR P C x.1 φ ⟨argsE x.2.2.1 x.2.1 c n 0, [], s.heap, s.next, s.side, s.sn, s.lim⟩ { tmps := (rc.params.zip aS0).foldl (fun tmps (x : Nat × Value) => tmps.setIfInBounds x.1 x.2) rc.tmps, defers := [] } w := by
      refine ⟨hw.env _ _, ?_, trivial⟩
      rw [hfold]
      exact er_args (by simpa using h2) (fun i u hi => ha i u (by simpa using hi)) x.2.2.1 0 x.2.1 rc.tmps (by omega) (fun p hp => by
        have := List.all_eq_true.1 hps p hp
        exact blt_lt this) her
    have h : Ok T (codeX x.2.2.2.1 call P F x.1 ⟨argsE x.2.2.1 x.2.1 c n 0, [], s.heap, s.next, s.side, s.sn, s.lim⟩ fun e s1 =>
      Nat.rec (motive := fun _ => R) (optR (loopT (s1.heap.get l)) fun y => Bool.rec (motive := fun _ => R) bad (setH s1 l (some (.loop y.1 y.2.1 y.2.2.1 y.2.2.2.1 y.2.2.2.2.1 .busy y.2.2.2.2.2.2)) fun s1 =>
        codeX x.2.2.2.2.1 call P F x.1 s1 (roundE l s k)) (isReady y.2.2.2.2.2.1)) (fun _ _ => bad) e) := h
    have hca := code_ok hm hcall F x.1 (some q.b) x.2.2.2.1 C φ _ _ w T _ hoa (fun _ => hna) hS h
    rw [← has] at hca
    refine Go.wpIn_mono hca fun e a1 w1 hq1 => ?_
    obtain ⟨en, hen, φ1, s1, he1, hS1, hk1⟩ := hq1
    have only0 : en ≠ 0 → False := fun hne => by
      cases en with
      | zero => exact hne rfl
      | succ m => exact ok_bad hk1
    cases e with
    | normal =>
      cases hen
      have hk1 : Ok T (optR (loopT (s1.heap.get l)) fun y => Bool.rec (motive := fun _ => R) bad (setH s1 l (some (.loop y.1 y.2.1 y.2.2.1 y.2.2.2.1 y.2.2.2.2.1 .busy y.2.2.2.2.2.2)) fun s1 =>
        codeX x.2.2.2.2.1 call P F x.1 s1 (roundE l s k)) (isReady y.2.2.2.2.2.1)) := hk1
      obtain ⟨y, hy, hk1⟩ := ok_opt hk1
      obtain ⟨hyr, hk1⟩ := ok_bool hk1
      have hyr := ready_spec hyr
      have hq1' := he1.rows _ _ hq
      obtain ⟨hrow1, rc1, hb1, hst1, hpd1, hpr1, has1, hbd1, her1, hmk1⟩ := loop_at hS1.wr hq1' hy
      obtain ⟨hlim1, hk1⟩ := ok_setH hk1
      have hlt1 : q.b < w1.heap.size := (Array.getElem?_eq_some_iff.1 hb1).1
      have hbr := run_beginRound (P := P) hb1 (by rw [hst1]; exact hyr)
      refine ⟨_, hbr, ?_⟩
      have hw2 : WR P C φ1 ⟨s1.env, s1.ds, s1.heap.put l (some (.loop y.1 y.2.1 y.2.2.1 y.2.2.2.1 y.2.2.2.2.1 .busy y.2.2.2.2.2.2)), s1.next, s1.side, s1.sn, s1.lim⟩ (w1.putObj q.b (.loop { rc1 with state := .busy })) :=
        WR.putRec hS1.wr hrow1 hq1' hl hlim1 hlt1 (fun o ho => by
          cases ho
          exact ⟨_, World.putObj_heap_same hlt1, rfl, hpd1, hpr1, has1, hbd1, her1, hmk1⟩)
      have hS2 : SR P C x.1 φ1 ⟨s1.env, s1.ds, s1.heap.put l (some (.loop y.1 y.2.1 y.2.2.1 y.2.2.2.1 y.2.2.2.2.1 .busy y.2.2.2.2.2.2)), s1.next, s1.side, s1.sn, s1.lim⟩ a1 (w1.putObj q.b (.loop { rc1 with state := .busy })) := ⟨hw2, hS1.er, hS1.dr⟩
      have hcb := code_ok hm hcall F x.1 (some q.b) x.2.2.2.2.1 C φ1 _ _ _ T _ hob (fun _ => hnb) hS2 hk1
      rw [← hbd] at hcb
      refine Go.wpIn_mono hcb fun e2 a2 w2 hq2 => ?_
      obtain ⟨en2, hen2, φ3, s3, he3, hS3, hk3⟩ := hq2
      obtain ⟨z, hz, hk3⟩ := ok_opt (k := fun (x : Nat × Nat × List Nat × Code × Code × LoopState × Option Code) => setH s3 l (some (.loop x.1 x.2.1 x.2.2.1 x.2.2.2.1 x.2.2.2.2.1 (Nat.rec .ready (fun _ _ => .done) en2) (jumpC en2))) fun s2 => k (Nat.rec 18 (fun _ _ => 2) en2) (back s.env s.ds s2)) hk3
      have hq3 := he3.rows _ _ hq1'
      obtain ⟨hrow3, rc3, hb3, hst3, hpd3, hpr3, has3, hbd3, her3, hmk3⟩ := loop_at hS3.wr hq3 hz
      obtain ⟨hlim3, hk3⟩ := ok_setH hk3
      have hlt3 : q.b < w2.heap.size := (Array.getElem?_eq_some_iff.1 hb3).1
      have fin : ∀ jump, jump = jumpC en2 → ∃ v w', (Instr.endRound q.b jump).run P w2 = .ok v w' ∧ RetQ P C φ s T k (.returned v) w' := by
        rintro jump rfl
        refine ⟨_, _, run_endRound (P := P) (jumpC en2) hb3, ?_⟩
        have hw4 : WR P C φ3 ⟨s3.env, s3.ds, s3.heap.put l (some (.loop z.1 z.2.1 z.2.2.1 z.2.2.2.1 z.2.2.2.2.1 (Nat.rec .ready (fun _ _ => .done) en2) (jumpC en2))), s3.next, s3.side, s3.sn, s3.lim⟩ (w2.putObj q.b (.loop { rc3 with state := if (jumpC en2).isNone then .ready else .done, pending := jumpC en2 })) :=
          WR.putRec hS3.wr hrow3 hq3 hl hlim3 hlt3 (fun o ho => by
            cases ho
            refine ⟨_, World.putObj_heap_same hlt3, ?_, rfl, hpr3, has3, hbd3, her3, hmk3⟩
            show (if (jumpC en2).isNone = true then LoopState.ready else .done) = _
            rw [jump_none]
            cases en2 with
            | zero => rfl
            | succ m => rfl)
        refine ⟨_, _, φ3, _, rfl, ?_, ?_, ?_, ?_, ?_, hk3⟩
        · exact he1.trans he3
        · exact hw4.env s.env s.ds
        · rfl
        · rfl
        rw [jump_none]
        cases en2 with
        | zero => exact .boo 1 (by decide)
        | succ m => exact .boo 0 (by decide)
      rcases jump_exN hen2 with ⟨rfl, rfl⟩ | ⟨cc, hcc, hne, ⟨rfl, rfl⟩ | ⟨i, rfl, rfl⟩ | ⟨i, rfl, rfl⟩⟩
      · exact fin none rfl
      · exact fin _ hcc.symm
      · exact fin _ hcc.symm
      · exact fin _ hcc.symm
    | ret => cases hen; exact only0 (by decide)
    | exit i => cases hen; exact only0 (by omega)
    | goto i => cases hen; exact only0 (by omega)
    | panic c => cases hen
    | outgrown => cases hen
theorem call_ok (hP:Named P) (hm:P.follows .mixedOrders=true) (F:Nat):∀ D,CallOK P (callX P F D)
 | 0=>fun C φ s w T k av v n c aS0 hw hav hn hc has h=>(ok_bad h).elim
 | D+1=>fun C φ s w T k av v n c aS0 hw hav hn hc has h=>by
  have ih:=call_ok hP hm F D
  have h:Ok T (callT av n c (callX P F D) P F s k):=h
  cases av with
  | fn f n₁ c₁ n₃ c₃ =>
   obtain ⟨xs,ys,rfl,h1,h3,b1,b3,hx,hy⟩:=hav
   cases f with
   | func g=>exact ok_fn hP hm ih hw h1 hn h3 b1 hc b3 hx has hy h
   | _=>exact (ok_bad h).elim
  | yd l =>
   obtain ⟨q,hq,hl,rfl⟩:=hav
   exact ok_yield hm ih hw hq hl hn has h
  | _=>exact (ok_bad h).elim
end
end Go.Ex
namespace Go.Ex
open Go.Fip
open Go.RowKit
noncomputable def st0:St:=⟨0,[],full 25,0,full 25,0,0⟩
noncomputable def isT (c:Nat) (_:St):R:=Bool.rec bad (some []) (Nat.beq c 18)
section
variable {P : Program} {w : World}
theorem wr0 (P:Program) (w:World) (hg:GW w):WR P ⟨(· < w.heap.size),w,0,full 25,0,full 25,fun _=>none,0⟩ (fun _=>none) st0 w where
 full:=full_full 25
 sok:=⟨full_full 25,fun i _=>get_full 25 i⟩
 row:=fun r o h=>by have h:(full 25:T AO).get r=some o:=h; rw [get_full] at h; cases h
 inj:=fun r r' o o' q q' h=>by have h:(full 25:T AO).get r=some o:=h; rw [get_full] at h; cases h
 new:=fun _ _=>rfl
 rng:=fun r q h=>by cases h
 lim:=rfl
 limn:=Nat.le_refl _
 low:=fun r h=>absurd h (Nat.not_lt_zero _)
 sn:=Nat.le_refl _
 sdl:=fun i h=>absurd h (Nat.not_lt_zero _)
 os:=rfl
 tape:=rfl
 output:=rfl
 size:=Nat.le_refl _
 frame:=fun b hb=>⟨hb,rfl⟩
 gid:=fun r i k h=>by have h:(full 25:T AO).get r=some (.gh i k):=h; rw [get_full] at h; cases h
 ghl:=fun i D h=>by cases h
 gw:=hg
 b0:=Nat.zero_le _
end
end Go.Ex
namespace Go.Ex
open Go.Fip
open Go.RowKit
noncomputable def preX (call:CallR) (P:Program) (F N:Nat):Nat→Code→St→(St→R)→R
 | 0,_,s,k=>k s
 | n+1,.seq a b,s,k=>codeX a call P F N s fun e s=>seqT e (fun s=>preX call P F N n b s k) (fun _ _=>bad) s
 | _,_,_,_=>bad
def restN:Nat→Code→Code
 | n+1,.seq _ b=>restN n b
 | _,c=>c
noncomputable def putAll {α:Type}:List (Nat×α)→T α
 | []=>full 25
 | x::l=>(putAll l).put x.1 (some x.2)
noncomputable def eqO (x:Option AO) (y:AO):Bool :=
 match x,y with
 | some (.row E n c),.row E' n' c'=>Bool.and (Nat.beq E E') (Bool.and (Nat.beq n n') (Nat.beq c c'))
 | some (.map es q),.map es' q'=>Bool.and (Nat.beq q q') (eqE es es')
 | _,_=>false
noncomputable def eqV (x y:Value):Bool :=
 match x,y with
 | .slice none n m,.slice none n' m'=>Bool.and (Nat.beq n n') (Nat.beq m m')
 | .map none,.map none=>true
 | .pointer none,.pointer none=>true
 | .nilIface,.nilIface=>true
 | .string b,.string b'=>decide (b=b')
 | _,_=>false
noncomputable def eqA (x:Option AV) (y:AV):Bool :=
 match x,y with
 | some (.ag n c),.ag n' c'=>Bool.and (Nat.beq n n') (Nat.beq c c')
 | some (.tu n c),.tu n' c'=>Bool.and (Nat.beq n n') (Nat.beq c c')
 | some (.x v),.x v'=>eqV v v'
 | some (.fn (.func g) n c m d),.fn (.func g') n' c' m' d'=>Bool.and (Nat.beq g g') (Bool.and (Bool.and (Nat.beq n n') (Nat.beq c c')) (Bool.and (Nat.beq m m') (Nat.beq d d')))
 | _,_=>false
noncomputable def leE (e e':Nat):Nat→Bool
 | 0=>true
 | n+1=>Bool.and (leE e e' n) (Bool.or (Nat.beq (dg e n) 0) (Nat.beq (dg e n) (dg e' n)))
section
variable {T : Out → Prop} {φ : Phi} {s : St} {N : Nat} {a : Act} {P : Program} {w : World} {C : Cx} {call : CallR}
theorem putAll_spec {α:Type}:∀ (l:List (Nat×α)),(∀ x∈l,x.1<16777216)→Full 25 (putAll l)∧∀ r o,(putAll l).get r=some o→(r,o)∈l
 | [],_=>⟨full_full 25,fun r o h=>by have h:(full 25:Ex.T α).get r=some o:=h; rw [get_full] at h; cases h⟩
 | x::l,hl=>by
  obtain ⟨h1,h2⟩:=putAll_spec l fun y hy=>hl y (by simp [hy])
  refine ⟨h1.put _ _,fun r o h=>?_⟩
  have h:((putAll l).put x.1 (some x.2)).get r=some o:=h
  rw [h1.get_put' (hl x (by simp))] at h
  by_cases e:r=x.1
  ·rw [if_pos e] at h; cases h; rw [e]; simp
  ·rw [if_neg e] at h; exact List.mem_cons_of_mem _ (h2 r o h)
theorem eqV_eq {x y:Value} (h:eqV x y=true):x=y:=by
 unfold eqV at h
 split at h
 ·obtain ⟨h1,h2⟩:=and_t h; rw [beq_eq h1,beq_eq h2]
 ·rfl
 ·rfl
 ·rfl
 ·rw [of_decide_eq_true h]
 ·cases h
theorem eqA_eq {x:Option AV} {y:AV} (h:eqA x y=true):x=some y:=by
 unfold eqA at h
 split at h
 ·obtain ⟨h1,h2⟩:=and_t h; rw [beq_eq h1,beq_eq h2]
 ·obtain ⟨h1,h2⟩:=and_t h; rw [beq_eq h1,beq_eq h2]
 ·rw [eqV_eq h]
 ·obtain ⟨h1,h2⟩:=and_t h
  obtain ⟨h3,h4⟩:=and_t h2
  obtain ⟨h5,h6⟩:=and_t h3
  obtain ⟨h7,h8⟩:=and_t h4
  rw [beq_eq h1,beq_eq h5,beq_eq h6,beq_eq h7,beq_eq h8]
 ·cases h
theorem leE_spec {e e':Nat}:∀ {n:Nat},leE e e' n=true→∀ j,j<n→dg e j=0∨dg e j=dg e' j
 | 0,_,j,hj=>absurd hj (Nat.not_lt_zero _)
 | n+1,h,j,hj=>by
  obtain ⟨h1,h2⟩:=and_t (show Bool.and (leE e e' n) (Bool.or (Nat.beq (dg e n) 0) (Nat.beq (dg e n) (dg e' n)))=true from h)
  by_cases e1:j=n
  ·subst e1
   cases h3:Nat.beq (dg e j) 0 with
   | true=>exact .inl (beq_eq h3)
   | false=>rw [h3] at h2; exact .inr (beq_eq h2)
  ·exact leE_spec h1 j (by omega)
end
end Go.Ex
namespace Go.Ex
open Go.Fip
open Go.RowKit
theorem okC_seq {N:Nat} {x y:Code} (hok:okC N (.seq x y)=true):okC N x=true∧okC N y=true:=by
 have hok:Bool.rec (motive:=fun _=>Bool) false (okC N y) (okC N x)=true:=hok
 cases hx:okC N x with
 | false=>rw [hx] at hok; cases hok
 | true=>rw [hx] at hok; exact ⟨rfl,hok⟩
section
variable {T : Out → Prop} {N F D : Nat} {P : Program} {C : Cx} {call : CallR}
theorem ok_pre {Q:Exit→Act→World→Prop} (hc:∀ c,CodeOK P call F N none c):∀ (n:Nat) (c:Code) (φ:Phi) (s:St) (a:Act) (w:World) (k:St→R),okC N c=true→SR P C N φ s a w→Ok T (preX call P F N n c s k) →
  (∀ φ' s' a' w',SR P C N φ' s' a' w'→Ok T (k s')→(restN n c).wpIn (Fr none) 0 P Q a' w')→c.wpIn (Fr none) 0 P Q a w
 | 0,c,φ,s,a,w,k,_,hS,h,hK=>hK φ s a w hS h
 | n+1,.seq x y,φ,s,a,w,k,hok,hS,h,hK=>by
  obtain ⟨hx,hy⟩:=okC_seq hok
  have h:Ok T (codeX x call P F N s fun e s=>seqT e (fun s=>preX call P F N n y s k) (fun _ _=>bad) s):=h
  refine wpIn_seq (Go.wpIn_mono (hc x C φ s a w T _ hx (fun h=>nomatch h) hS h) fun e a' w' hq=>?_)
  obtain ⟨en,hen,φ',s',he',hS',hk⟩:=hq
  cases e with
  | normal =>
   cases hen
   exact ok_pre hc n y φ' s' a' w' k hy hS' hk hK
  | ret=>cases hen; exact (ok_bad hk).elim
  | exit i =>
   cases hen
   have e2:2+2 * i=(1+2 * i)+1:=by omega
   rw [e2] at hk
   exact (ok_bad hk).elim
  | goto i =>
   cases hen
   have e2:3+2 * i=(2+2 * i)+1:=by omega
   rw [e2] at hk
   exact (ok_bad hk).elim
  | panic c=>cases hen
  | outgrown=>cases hen
 | _+1,.skip,_,_,_,_,_,_,_,h,_=>(ok_bad h).elim
 | _+1,.region _ _ _,_,_,_,_,_,_,_,h,_=>(ok_bad h).elim
 | _+1,.cond _ _ _,_,_,_,_,_,_,_,h,_=>(ok_bad h).elim
 | _+1,.block _ _,_,_,_,_,_,_,_,h,_=>(ok_bad h).elim
 | _+1,.loop _,_,_,_,_,_,_,_,h,_=>(ok_bad h).elim
 | _+1,.rangeFunc _ _ _ _,_,_,_,_,_,_,_,h,_=>(ok_bad h).elim
 | _+1,.exit _,_,_,_,_,_,_,_,h,_=>(ok_bad h).elim
 | _+1,.scope _,_,_,_,_,_,_,_,h,_=>(ok_bad h).elim
 | _+1,.label _,_,_,_,_,_,_,_,h,_=>(ok_bad h).elim
 | _+1,.goto _,_,_,_,_,_,_,_,h,_=>(ok_bad h).elim
 | _+1,.ret,_,_,_,_,_,_,_,h,_=>(ok_bad h).elim
 | _+1,.refuse _,_,_,_,_,_,_,_,h,_=>(ok_bad h).elim
end
noncomputable def cx0 (w:World):Cx:=⟨(· < w.heap.size),w,0,full 25,0,full 25,fun _=>none,0⟩
def Good (P:Program) (fn:Func) (c:Code) (s:St):Prop :=
 ∀ (w0:World) (φ:Phi) (a:Act) (w:World),SR P (cx0 w0) fn.ntmps φ s a w→c.wpIn (Fr none) 0 P (PostC P (cx0 w0) fn.ntmps (fun _=>none) st0 (fun _=>True) (leave P fn 0 [] isT)) a w
section
variable {F D : Nat} {P : Program} {fn : Func} {c : Code} {s : St}
theorem ext0 {φ':Phi} {sd:Ex.T AV} {sn:Nat}:Ext (fun _=>none) st0.side st0.sn φ' sd sn:=⟨fun r q h=>(by cases h),Nat.zero_le _,fun i h=>absurd h (Nat.not_lt_zero _)⟩
theorem Good.whole {g:Nat} (hP:Named P) (hf:P.funcs[g]? = some fn) (hb:fn.body=some c) (h:Good P fn c st0) (w:World) (hg:GW w):Go.Fip.Fn P g #[] w (fun v _=>v=.bool true):=by
 refine ⟨fun w'=>ent hf (hP g fn hf) hb #[] w',?_⟩
 have hS:SR P (cx0 w) fn.ntmps (fun _=>none) st0 { tmps := #[]++Array.replicate (fn.ntmps - (#[]:Array Value).size) undef,defers:=[] } w :=
  ⟨wr0 P w hg,⟨by simp,fun t ht=>absurd (dg_zero _) ht⟩,trivial⟩
 have:=ok_fnB (P:=P) (C:=cx0 w) (φ:=fun _=>none) (s:=st0) (w:=w) (T:=fun _=>True) (k:=isT) (g:=g) (env0:=0) (args := #[]) hf hb (h w _ _ w hS)
 refine CallsIn.mono this fun e w' hq=>?_
 obtain ⟨v,c,φ',s',rfl,_,hw',_,_,hc,hk⟩:=hq
 refine ⟨v,rfl,⟨hw'.os,hw'.tape,hw'.output,hw'.size,fun b hb=>(hw'.frame b hb).2⟩,fun _ _=>?_⟩
 obtain ⟨h1,_⟩:=ok_bool (b:=Nat.beq c 18) (r:=some []) hk
 have e:c=18:=beq_eq h1
 have ht:c % 16=1∨c % 16=2:=.inr (by rw [e])
 have:=(cv_plain hc ht).2
 rw [this,e,pv_bool (by decide)]
 rfl
end
end Go.Ex
namespace Go.Ex
open Go.Fip
def VOk (P:Program) (v:VW) (op:Op):Prop:=∀ cm e m k,v.run cm e m k=slowV P op cm e m k
def RdOk (v:VW) (x:Operand):Prop:=∀ cm e m k,v.run cm e m k=slowC x e m k
section
variable {P : Program}
theorem slowW_ok (op:Op):VOk P (slowW P op) op:=fun _ _ _ _=>rfl
theorem dec_1 {c:Nat} (h:c % 16=1) (sd:T AV):dec c sd=some (.i (c / 16)):=by unfold dec; rw [show Nat.mod c 16=1 from h]; rfl
theorem dec_2 {c:Nat} (h:c % 16=2) (sd:T AV):dec c sd=some (.b (c / 16)):=by unfold dec; rw [show Nat.mod c 16=2 from h]; rfl
theorem dec_3 {c:Nat} (h:c % 16=3) (sd:T AV):dec c sd=some (.pt (c / 16 % 16777216) (c / 16 / 16777216)):=by unfold dec; rw [show Nat.mod c 16=3 from h]; rfl
theorem dec_4 {c:Nat} (h:c % 16=4) (sd:T AV):dec c sd=some (.sl (c / 16 % 16777216) (c / 16 / 16777216 % 16777216) (c / 16 / 281474976710656 % 16777216) (c / 16 / 4722366482869645213696)):=by unfold dec; rw [show Nat.mod c 16=4 from h]; rfl
theorem dec_5 {c:Nat} (h:c % 16=5) (sd:T AV):dec c sd=some (.mp (c / 16)):=by unfold dec; rw [show Nat.mod c 16=5 from h]; rfl
theorem dec_6 {c:Nat} (h:c % 16=6) (sd:T AV):dec c sd=sd.get (c / 16):=by unfold dec; rw [show Nat.mod c 16=6 from h]; rfl
theorem constD_ok (v:Value) (e:Nat) (h:(constD (AV.of v)).f e % 16≠0) (sd:T AV) (s:St) (k:Nat→St→R) :
  some (AV.of v)=dec ((constD (AV.of v)).f e) sd∧enc (AV.of v) s k=k ((constD (AV.of v)).f e) s:=by
 cases hv:AV.of v with
 | i p =>
  rw [hv] at h
  cases hb:Nat.blt p 18446744073709551616 with
  | false=>exact absurd (show (constD (.i p)).f e % 16=0 by show (DW.f (Bool.rec _ _ (Nat.blt p _)) e) % 16=0; rw [hb]; rfl) h
  | true =>
   have e1:(constD (.i p)).f e=code p 1:=by show DW.f (Bool.rec _ _ (Nat.blt p _)) e=_; rw [hb]; rfl
   refine ⟨by rw [e1,dec_1 (by show (p * 16+1) % 16=1; omega)]; show some (AV.i p)=some (AV.i ((p * 16+1) / 16)); rw [show (p * 16+1) / 16=p by omega],?_⟩
   rw [e1]; show (Bool.rec bad (k (code p 1) s) (Nat.blt p _):R)=_; rw [hb]
 | b p =>
  rw [hv] at h
  cases hb:Nat.blt p 2 with
  | false=>exact absurd (show (constD (.b p)).f e % 16=0 by show (DW.f (Bool.rec _ _ (Nat.blt p _)) e) % 16=0; rw [hb]; rfl) h
  | true =>
   have e1:(constD (.b p)).f e=code p 2:=by show DW.f (Bool.rec _ _ (Nat.blt p _)) e=_; rw [hb]; rfl
   refine ⟨by rw [e1,dec_2 (by show (p * 16+2) % 16=2; omega)]; show some (AV.b p)=some (AV.b ((p * 16+2) / 16)); rw [show (p * 16+2) / 16=p by omega],?_⟩
   rw [e1]; show (Bool.rec bad (k (code p 2) s) (Nat.blt p _):R)=_; rw [hb]
 | pt r o=>rw [hv] at h; exact absurd rfl h
 | sl r o n c=>rw [hv] at h; exact absurd rfl h
 | mp r=>rw [hv] at h; exact absurd rfl h
 | em=>rw [hv] at h; exact absurd rfl h
 | yd r=>rw [hv] at h; exact absurd rfl h
 | x u=>rw [hv] at h; exact absurd rfl h
 | fn f a b c d=>rw [hv] at h; exact absurd rfl h
 | ag n c=>rw [hv] at h; exact absurd rfl h
 | tu n c=>rw [hv] at h; exact absurd rfl h
 | sy n c=>rw [hv] at h; exact absurd rfl h
 | ym n c d=>rw [hv] at h; exact absurd rfl h
theorem cdW_evA (x:Operand) (e:Nat) (m:Mem) (h:(cdW x).f e % 16≠0):evA x (stOf e m)=dec ((cdW x).f e) m.side:=by
 cases x with
 | tmp t=>rfl
 | const v=>exact (constD_ok v e h m.side (stOf e m) (fun _ _=>bad)).1
 | global g=>exact absurd rfl h
 | func f=>exact absurd rfl h
theorem cdW_evC (x:Operand) (e:Nat) (m:Mem) (h:(cdW x).f e % 16≠0) (k:Nat→St→R):evC x (stOf e m) k=k ((cdW x).f e) (stOf e m):=by
 cases x with
 | tmp t =>
  show (Nat.rec (motive:=fun _=>R) bad (fun c _=>k (Nat.succ c) (stOf e m)) (dg e (Nat.succ t)):R)=k (dg e (Nat.succ t)) (stOf e m)
  have h:dg e (Nat.succ t) % 16≠0:=h
  cases hd:dg e (Nat.succ t) with
  | zero=>rw [hd] at h; exact absurd rfl h
  | succ j=>rfl
 | const v=>exact (constD_ok v e h m.side (stOf e m) k).2
 | global g=>exact absurd rfl h
 | func f=>exact absurd rfl h
theorem cdW_evK (x:Operand) (e:Nat) (m:Mem) (k:AV→R) (h:(cdW x).f e % 16≠0):evK x (stOf e m) k=optR (dec ((cdW x).f e) m.side) k:=by
 unfold evK; rw [cdW_evA x e m h]
theorem rdV_ok (x:Operand):RdOk (rdV x) x:=fun cm e m k=>by
 cases x with
 | tmp t=>rfl
 | const v =>
  show (constV (AV.of v) v).run cm e m k=(enc (AV.of v) (stOf e m) fun c s=>memK s (k c))
  cases hv:AV.of v with
  | i p =>
   show VW.run (Bool.rec _ _ (Nat.blt p 18446744073709551616)) cm e m k=(Bool.rec bad (k (code p 1) e m) (Nat.blt p _):R)
   cases hb:Nat.blt p 18446744073709551616 with
   | false=>show slowC (.const v) e m k=bad; show (enc (AV.of v) (stOf e m) fun c s=>memK s (k c))=bad; rw [hv]; show (Bool.rec bad _ (Nat.blt p _):R)=bad; rw [hb]
   | true=>rfl
  | b p =>
   show VW.run (Bool.rec _ _ (Nat.blt p 2)) cm e m k=(Bool.rec bad (k (code p 2) e m) (Nat.blt p _):R)
   cases hb:Nat.blt p 2 with
   | false=>show slowC (.const v) e m k=bad; show (enc (AV.of v) (stOf e m) fun c s=>memK s (k c))=bad; rw [hv]; show (Bool.rec bad _ (Nat.blt p _):R)=bad; rw [hb]
   | true=>rfl
  | pt r o=>show (enc (AV.of v) (stOf e m) fun c s=>memK s (k c))=_; rw [hv]
  | sl r o n c=>show (enc (AV.of v) (stOf e m) fun c s=>memK s (k c))=_; rw [hv]
  | mp r=>show (enc (AV.of v) (stOf e m) fun c s=>memK s (k c))=_; rw [hv]
  | em=>show (enc (AV.of v) (stOf e m) fun c s=>memK s (k c))=_; rw [hv]
  | yd r=>show (enc (AV.of v) (stOf e m) fun c s=>memK s (k c))=_; rw [hv]
  | x u=>show (enc (AV.of v) (stOf e m) fun c s=>memK s (k c))=_; rw [hv]
  | fn f a b c d=>show (enc (AV.of v) (stOf e m) fun c s=>memK s (k c))=_; rw [hv]
  | ag n c=>show (enc (AV.of v) (stOf e m) fun c s=>memK s (k c))=_; rw [hv]
  | tu n c=>show (enc (AV.of v) (stOf e m) fun c s=>memK s (k c))=_; rw [hv]
  | sy n c=>show (enc (AV.of v) (stOf e m) fun c s=>memK s (k c))=_; rw [hv]
  | ym n c d=>show (enc (AV.of v) (stOf e m) fun c s=>memK s (k c))=_; rw [hv]
 | global g=>rfl
 | func f=>rfl
theorem beq_t {a b:Nat} (h:Nat.beq a b=true):a=b:=Nat.eq_of_beq_eq_true h
theorem and_tt {a b:Bool} (h:Bool.and a b=true):a=true∧b=true:=by cases a <;> cases b <;> first | exact ⟨rfl,rfl⟩ | cases h
theorem tags {a b n:Nat} (h:Nat.beq (Nat.add (Nat.mul (Nat.mod a 16) 16) (Nat.mod b 16)) n=true):a % 16=n / 16∧b % 16=n % 16:=by
 have h:a % 16 * 16+b % 16=n:=beq_t h
 omega
section
variable (t : TypeId) (x y : Operand) (p q : Nat) (s : St) (k : Nat → St → R)
theorem intBin_add:intBin .add p q P t x y s k=(Bool.rec bad (retI (Nat.sub (Nat.add p q) 9223372036854775808) s k) (Nat.ble 9223372036854775808 (Nat.add p q)):R):=rfl
theorem intBin_sub:intBin .sub p q P t x y s k=(Bool.rec bad (retI (Nat.sub (Nat.add p 9223372036854775808) q) s k) (Nat.ble q (Nat.add p 9223372036854775808)):R):=rfl
theorem intBin_lss:intBin .lss p q P t x y s k=retB (Nat.blt p q) s k:=rfl
theorem intBin_gtr:intBin .gtr p q P t x y s k=retB (Nat.blt q p) s k:=rfl
theorem intBin_leq:intBin .leq p q P t x y s k=retB (Nat.ble p q) s k:=rfl
theorem intBin_geq:intBin .geq p q P t x y s k=retB (Nat.ble q p) s k:=rfl
theorem intBin_eql:intBin .eql p q P t x y s k=retB (Nat.beq p q) s k:=rfl
theorem intBin_neq:intBin .neq p q P t x y s k=retB (Bool.not (Nat.beq p q)) s k:=rfl
end
theorem retI_st (w e:Nat) (m:Mem) (k:K2):(Bool.rec bad (k (Nat.add (Nat.mul w 16) 1) e m) (Nat.blt w 18446744073709551616):R)=retI w (stOf e m) fun c s=>memK s (k c):=rfl
theorem retB_st (b:Bool) (e:Nat) (m:Mem) (k:K2):(Bool.rec (k 2 e m) (k 18 e m) b:R)=retB b (stOf e m) fun c s=>memK s (k c):=rfl
theorem retB_st' (b:Bool) (e:Nat) (m:Mem) (k:K2):(Bool.rec (k 18 e m) (k 2 e m) b:R)=retB (Bool.not b) (stOf e m) fun c s=>memK s (k c):=by cases b <;> rfl
theorem ib_ok {o:BinOp} {b:BW} (hb:ibW o=some b) (t:TypeId) (x y:Operand) (p q e:Nat) (m:Mem) (k:K2):b.run p q e m k=intBin o p q P t x y (stOf e m) fun c s=>memK s (k c):=by
 cases o with
 | add=>cases hb; rw [intBin_add, ← retI_st]
 | sub=>cases hb; rw [intBin_sub, ← retI_st]
 | mul=>exact nomatch hb
 | quo=>exact nomatch hb
 | rem=>exact nomatch hb
 | and=>exact nomatch hb
 | or=>exact nomatch hb
 | xor=>exact nomatch hb
 | shl=>exact nomatch hb
 | shr=>exact nomatch hb
 | andNot=>exact nomatch hb
 | eql=>cases hb; rw [intBin_eql, ← retB_st]
 | neq=>cases hb; rw [intBin_neq, ← retB_st']
 | lss=>cases hb; rw [intBin_lss, ← retB_st]; rfl
 | leq=>cases hb; rw [intBin_leq, ← retB_st]
 | gtr=>cases hb; rw [intBin_gtr, ← retB_st]; rfl
 | geq=>cases hb; rw [intBin_geq, ← retB_st]
theorem bin2_ok {o:BinOp} {b:BW} (hb:ibW o=some b) (t u:TypeId) (x y:Operand):VOk P (bin2 P (.binOp o t x y u) x y b) (.binOp o t x y u):=fun cm e m k=>by
 show (Bool.rec (slowV P (.binOp o t x y u) cm e m k) (b.run (Nat.div ((cdW x).f e) 16) (Nat.div ((cdW y).f e) 16) e m k) (Nat.beq (Nat.add (Nat.mul (Nat.mod ((cdW x).f e) 16) 16) (Nat.mod ((cdW y).f e) 16)) 17):R)=_
 cases h:Nat.beq (Nat.add (Nat.mul (Nat.mod ((cdW x).f e) 16) 16) (Nat.mod ((cdW y).f e) 16)) 17 with
 | false=>rfl
 | true =>
  obtain ⟨h1,h2⟩:=tags h
  show _=qBin P o t x y (stOf e m) _
  unfold qBin
  rw [cdW_evK x e m _ (by omega),dec_1 h1]
  show _=evK y (stOf e m) _
  rw [cdW_evK y e m _ (by omega),dec_1 h2]
  exact ib_ok hb t x y _ _ e m k
theorem bin_ok (o:BinOp) (t u:TypeId) (x y:Operand):VOk P (binV P o (.binOp o t x y u) x y) (.binOp o t x y u):=by
 unfold binV
 cases hb:ibW o with
 | none=>exact slowW_ok _
 | some b=>exact bin2_ok hb t u x y
end
end Go.Ex
namespace Go.Ex
open Go.Fip
section
variable {P : Program}
theorem opt_congr {α:Type} {o:Option α} {k k':α→R} (h:∀ a,k a=k' a):optR o k=optR o k':=by rw [show k=k' from funext h]
theorem sideM_ok (a:AV) (e:Nat) (m:Mem) (k:K2):sideM a m (fun c m=>k c e m)=sideK a (stOf e m) fun c s=>memK s (k c):=by
 obtain ⟨ds,h,n,sd,sn,b⟩:=m
 cases sn <;> rfl
theorem piece_ok (z:Option Nat) (n c o e:Nat) (m:Mem) (k:K2):pieceM z n c o e m k=pieceK z n c o (stOf e m) fun c s=>memK s (k c):=by
 cases z with
 | none=>rfl
 | some z =>
  show (Bool.rec bad (sideM (.ag z (dgs c o z)) m fun c m=>k c e m) (Nat.ble (Nat.add o z) n):R)=_
  rw [sideM_ok]; rfl
theorem row_ok (e:Nat) (m:Mem) (r:Nat) (k:TypeId→Nat→Nat→R):rowM m r k=rowK (stOf e m) r k:=by
 obtain ⟨ds,h,n,sd,sn,b⟩:=m
 show (Option.rec (motive:=fun _=>R) bad _ (h.get r):R)=optR (rowT (h.get r)) _
 cases h.get r with
 | none=>rfl
 | some o=>cases o <;> rfl
theorem rd_ok (e:Nat) (m:Mem) (r:Nat) (k:TypeId→Nat→Nat→R):rdM m r k=rdK (stOf e m) r k:=by
 obtain ⟨ds,h,n,sd,sn,b⟩:=m
 show (Option.rec (motive:=fun _=>R) bad _ (h.get r):R)=optR (rdT (h.get r)) _
 cases h.get r with
 | none=>rfl
 | some o=>cases o <;> rfl
theorem tag1 {a n:Nat} (h:Nat.beq (Nat.mod a 16) n=true):a % 16=n:=beq_t h
theorem load_ok (t:TypeId) (x:Operand):VOk P (loadV P (.load t x) x (shapeP P t)) (.load t x):=fun cm e m k=>by
 cases hz:shapeP P t with
 | none=>rfl
 | some z =>
  show (Bool.rec (slowV P (.load t x) cm e m k) (rdM m (Nat.mod (Nat.div ((cdW x).f e) 16) 16777216) fun _ n c=>pieceM z n c (Nat.div (Nat.div ((cdW x).f e) 16) 16777216) e m k) (Nat.beq (Nat.mod ((cdW x).f e) 16) 3):R)=_
  cases h:Nat.beq (Nat.mod ((cdW x).f e) 16) 3 with
  | false=>rfl
  | true =>
   have h:=tag1 h
   show _=evK x (stOf e m) _
   rw [cdW_evK x e m _ (by omega),dec_3 h,rd_ok e]
   show _=rdK (stOf e m) ((cdW x).f e / 16 % 16777216) fun _ n c=>optR (shapeP P t) fun z=>pieceK z n c ((cdW x).f e / 16 / 16777216) (stOf e m) _
   rw [hz]
   show rdK (stOf e m) _ _=rdK (stOf e m) _ _
   congr 1
   funext E n c
   exact piece_ok z n c _ e m k
theorem cells1 {d:Nat} (h:Nat.ble (Nat.mod (Nat.add (Nat.mod d 16) 15) 16) 4=true) (sd:T AV):∃ a,dec d sd=some a∧∀ k,cellsT (some a) d k=k 1 d:=by
 have h:(d % 16+15) % 16≤4:=Nat.le_of_ble_eq_true h
 have:d % 16=1∨d % 16=2∨d % 16=3∨d % 16=4∨d % 16=5:=by omega
 rcases this with h | h | h | h | h
 ·exact ⟨_,dec_1 h sd,fun _=>rfl⟩
 ·exact ⟨_,dec_2 h sd,fun _=>rfl⟩
 ·exact ⟨_,dec_3 h sd,fun _=>rfl⟩
 ·exact ⟨_,dec_4 h sd,fun _=>rfl⟩
 ·exact ⟨_,dec_5 h sd,fun _=>rfl⟩
theorem cells1_ne {d:Nat} (h:Nat.ble (Nat.mod (Nat.add (Nat.mod d 16) 15) 16) 4=true):d % 16≠0:=by
 have h:(d % 16+15) % 16≤4:=Nat.le_of_ble_eq_true h
 omega
theorem store_ok (t : TypeId) (a x : Operand) : VOk P (storeV P (.store t a x) a x (sizeP P t)) (.store t a x) := fun cm e m k => by
  cases hz : sizeP P t with
  | none => rfl
  | some z =>
    show VW.run (Bool.rec _ _ (Nat.beq z 1)) cm e m k = _
    cases hz1 : Nat.beq z 1 with
    | false => rfl
    | true =>
      show (Bool.rec (slowV P (.store t a x) cm e m k) (rowM m (Nat.mod (Nat.div ((cdW a).f e) 16) 16777216) fun E n c => Bool.rec bad (setM m (Nat.mod (Nat.div ((cdW a).f e) 16) 16777216) E n (sds c (Nat.div (Nat.div ((cdW a).f e) 16) 16777216) 1 ((cdW x).f e)) fun m => k 0 e m) (Nat.ble (Nat.succ (Nat.div (Nat.div ((cdW a).f e) 16) 16777216)) n))
        (Bool.and (Nat.beq (Nat.mod ((cdW a).f e) 16) 3) (Nat.ble (Nat.mod (Nat.add (Nat.mod ((cdW x).f e) 16) 15) 16) 4)) : R) = _
      cases h : Bool.and (Nat.beq (Nat.mod ((cdW a).f e) 16) 3) (Nat.ble (Nat.mod (Nat.add (Nat.mod ((cdW x).f e) 16) 15) 16) 4) with
      | false => rfl
      | true =>
        obtain ⟨h1, h2⟩ := and_tt h
        have h1 := tag1 h1
        obtain ⟨v, hv, hc⟩ := cells1 h2 m.side
        have hz1 := beq_t hz1
        subst hz1
        show _ = evC x (stOf e m) _
        rw [cdW_evC x e m (cells1_ne h2)]
        show _ = evK a (stOf e m) _
        rw [cdW_evK a e m _ (by omega), dec_3 h1, row_ok e]
        show _ = cellsT (dec ((cdW x).f e) m.side) ((cdW x).f e) fun m' e' => optR (sizeP P t) fun z => Bool.rec bad (setCells ((cdW a).f e / 16 % 16777216) ((cdW a).f e / 16 / 16777216) m' e' (stOf e m) fun s => memK s (k 0)) (Nat.beq m' z)
        rw [hv, hc, hz]
        rfl
theorem blt_ble (a b:Nat):Nat.blt a b=Nat.ble (Nat.succ a) b:=rfl
theorem lor_blt {r o : Nat} (hr : r < 16777216) : Nat.blt (Nat.lor r o) 16777216 = Nat.blt o 16777216 := by
  by_cases h : o < 16777216
  · have h2 : r ||| o < 2 ^ 24 := Nat.or_lt_two_pow (by omega) (by omega)
    rw [show Nat.blt o 16777216 = true from Nat.ble_eq_true_of_le h]
    exact Nat.ble_eq_true_of_le (show r ||| o < 16777216 by omega)
  · have h2 : o ≤ r ||| o := Nat.right_le_or
    have e1 : Nat.blt o 16777216 = false := by cases hb : Nat.blt o 16777216 with | false => rfl | true => exact absurd (Nat.le_of_ble_eq_true hb) h
    have e2 : Nat.blt (Nat.lor r o) 16777216 = false := by cases hb : Nat.blt (Nat.lor r o) 16777216 with | false => rfl | true => exact absurd (show r ||| o < 16777216 from Nat.le_of_ble_eq_true hb) (by omega)
    rw [e1, e2]
theorem fieldSz_some {t:TypeId} {i off O z:Nat} (h:fieldSz P t i=some (off,O,z)):∃ f,fieldP P t i=some f∧sizeP P f.type=some z∧off=f.offset∧O=Nat.mul off 268435456:=by
 unfold fieldSz at h
 cases hf:fieldP P t i with
 | none=>rw [hf] at h; cases h
 | some f =>
  rw [hf] at h
  have h:(sizeP P f.type).map (fun z=>(f.offset,Nat.mul f.offset 268435456,z))=some (off,O,z):=h
  cases hs:sizeP P f.type with
  | none=>rw [hs] at h; cases h
  | some z' =>
   rw [hs] at h
   have h:=Option.some.inj h
   have h1:f.offset=off:=congrArg (·.1) h
   have h2:Nat.mul f.offset 268435456=O:=congrArg (·.2.1) h
   have h3:z'=z:=congrArg (·.2.2) h
   exact ⟨f,rfl,by rw [hs,h3],h1.symm,by rw [← h2,h1]⟩
theorem fa_code {a:Nat} (h:a % 16=3) (off:Nat):code (Nat.add (Nat.mul (Nat.add (a / 16 / 16777216) off) 16777216) (a / 16 % 16777216)) 3=Nat.add a (Nat.mul off 268435456):=by
 unfold code
 simp only [Nat.add_eq,Nat.mul_eq]
 omega
theorem fa_div (a:Nat):Nat.div a 268435456=a / 16 / 16777216:=by
 show a / 268435456=_
 omega
theorem fieldAddr_ok (t:TypeId) (x:Operand) (i:Nat):VOk P (fieldAddrV P (.fieldAddr t x i) x (fieldSz P t i)) (.fieldAddr t x i):=fun cm e m k=>by
 cases hf:fieldSz P t i with
 | none=>rfl
 | some f =>
  obtain ⟨off,O,z⟩:=f
  cases z with
  | zero=>rfl
  | succ z =>
   obtain ⟨f,hf1,hf2,hf3,hO⟩:=fieldSz_some hf
   show (Bool.rec (slowV P (.fieldAddr t x i) cm e m k) (Bool.rec bad (k (Nat.add ((cdW x).f e) O) e m) (Nat.ble (Nat.succ (Nat.add (Nat.div ((cdW x).f e) 268435456) off)) 16777216)) (Nat.beq (Nat.mod ((cdW x).f e) 16) 3):R)=_
   cases h:Nat.beq (Nat.mod ((cdW x).f e) 16) 3 with
   | false=>rfl
   | true =>
    have h:=tag1 h
    show _=evK x (stOf e m) _
    rw [cdW_evK x e m _ (by omega),dec_3 h]
    show _=optR (fieldP P t i) fun f=>optR (sizeP P f.type) fun z=>Nat.rec (motive:=fun _=>R) bad (fun _ _=>enc (.pt ((cdW x).f e / 16 % 16777216) (Nat.add ((cdW x).f e / 16 / 16777216) f.offset)) (stOf e m) fun c s=>memK s (k c)) z
    rw [hf1]
    show _=optR (sizeP P f.type) fun z=>Nat.rec (motive:=fun _=>R) bad (fun _ _=>enc (.pt ((cdW x).f e / 16 % 16777216) (Nat.add ((cdW x).f e / 16 / 16777216) f.offset)) (stOf e m) fun c s=>memK s (k c)) z
    rw [hf2, ← hf3]
    show _=(Bool.rec bad (k (code (Nat.add (Nat.mul (Nat.add ((cdW x).f e / 16 / 16777216) off) 16777216) ((cdW x).f e / 16 % 16777216)) 3) e m) (Nat.blt (Nat.lor ((cdW x).f e / 16 % 16777216) (Nat.add ((cdW x).f e / 16 / 16777216) off)) 16777216):R)
    rw [lor_blt (Nat.mod_lt _ (by decide))]
    rw [fa_code h,fa_div,blt_ble,hO]
theorem idxK_i (i n:Nat) (k:Nat→R):idxK (.i i) n k=optR (Bool.rec none (Bool.rec none (some (Nat.sub i 9223372036854775808)) (Nat.blt (Nat.sub i 9223372036854775808) n)) (Nat.ble 9223372036854775808 i)) k:=rfl
theorem idxM_ok (i n:Nat) (k:Nat→R):idxM i n k=idxK (.i i) n k:=by
 rw [idxK_i,blt_ble]
 unfold idxM
 generalize Nat.sub i 9223372036854775808=w
 cases Nat.ble 9223372036854775808 i <;> cases Nat.ble (Nat.succ w) n <;> rfl
theorem idxS_ok (t : TypeId) (x i : Operand) : VOk P (idxS P (.indexAddr t x i) x i (sizeSl P t)) (.indexAddr t x i) := fun cm e m k => by
  cases hz : sizeSl P t with
  | none => rfl
  | some z =>
    show (Bool.rec (slowV P (.indexAddr t x i) cm e m k) (idxM (Nat.div ((cdW i).f e) 16) (Nat.mod (Nat.div (Nat.div ((cdW x).f e) 16) 281474976710656) 16777216) fun j => ptM (Nat.mod (Nat.div ((cdW x).f e) 16) 16777216) (Nat.add (Nat.mod (Nat.div (Nat.div ((cdW x).f e) 16) 16777216) 16777216) (Nat.mul j z)) e m k)
      (Nat.beq (Nat.add (Nat.mul (Nat.mod ((cdW x).f e) 16) 16) (Nat.mod ((cdW i).f e) 16)) 65) : R) = _
    cases h : Nat.beq (Nat.add (Nat.mul (Nat.mod ((cdW x).f e) 16) 16) (Nat.mod ((cdW i).f e) 16)) 65 with
    | false => rfl
    | true =>
      obtain ⟨h1, h2⟩ := tags h
      have hs : ∃ E, sliceP P t = some E ∧ sizeP P E = some z := by
        unfold sizeSl at hz
        cases hs : sliceP P t with
        | none => rw [hs] at hz; cases hz
        | some E => rw [hs] at hz; exact ⟨E, rfl, hz⟩
      obtain ⟨E, hs1, hs2⟩ := hs
      show _ = evK x (stOf e m) _
      rw [cdW_evK x e m _ (by omega), dec_4 h1]
      show _ = evK i (stOf e m) _
      rw [cdW_evK i e m _ (by omega), dec_1 h2]
      show _ = optR (sliceP P t) fun E => idxK (.i ((cdW i).f e / 16)) ((cdW x).f e / 16 / 281474976710656 % 16777216) fun j => optR (sizeP P E) fun m' => enc (.pt ((cdW x).f e / 16 % 16777216) (Nat.add ((cdW x).f e / 16 / 16777216 % 16777216) (Nat.mul j m'))) (stOf e m) fun c s => memK s (k c)
      rw [hs1]
      show _ = idxK (.i ((cdW i).f e / 16)) ((cdW x).f e / 16 / 281474976710656 % 16777216) fun j => optR (sizeP P E) fun m' => enc (.pt ((cdW x).f e / 16 % 16777216) (Nat.add ((cdW x).f e / 16 / 16777216 % 16777216) (Nat.mul j m'))) (stOf e m) fun c s => memK s (k c)
      rw [hs2, idxM_ok]
      rfl
theorem idxA_ok (t : TypeId) (x i : Operand) : VOk P (idxA P (.indexAddr t x i) x i (sizeAr P t)) (.indexAddr t x i) := fun cm e m k => by
  cases hz : sizeAr P t with
  | none => rfl
  | some q =>
    obtain ⟨l, z⟩ := q
    show (Bool.rec (slowV P (.indexAddr t x i) cm e m k) (idxM (Nat.div ((cdW i).f e) 16) l fun j => ptM (Nat.mod (Nat.div ((cdW x).f e) 16) 16777216) (Nat.add (Nat.div (Nat.div ((cdW x).f e) 16) 16777216) (Nat.mul j z)) e m k)
      (Nat.beq (Nat.add (Nat.mul (Nat.mod ((cdW x).f e) 16) 16) (Nat.mod ((cdW i).f e) 16)) 49) : R) = _
    cases h : Nat.beq (Nat.add (Nat.mul (Nat.mod ((cdW x).f e) 16) 16) (Nat.mod ((cdW i).f e) 16)) 49 with
    | false => rfl
    | true =>
      obtain ⟨h1, h2⟩ := tags h
      have hs : ∃ E, arrP P t = some (l, E) ∧ sizeP P E = some z := by
        unfold sizeAr at hz
        cases hs : arrP P t with
        | none => rw [hs] at hz; cases hz
        | some y =>
          rw [hs] at hz
          have hz : (sizeP P y.2).map (fun z => (y.1, z)) = some (l, z) := hz
          cases hy : sizeP P y.2 with
          | none => rw [hy] at hz; cases hz
          | some z' => rw [hy] at hz; cases hz; exact ⟨y.2, rfl, hy⟩
      obtain ⟨E, hs1, hs2⟩ := hs
      show _ = evK x (stOf e m) _
      rw [cdW_evK x e m _ (by omega), dec_3 h1]
      show _ = evK i (stOf e m) _
      rw [cdW_evK i e m _ (by omega), dec_1 h2]
      show _ = optR (arrP P t) fun y => idxK (.i ((cdW i).f e / 16)) y.1 fun j => optR (sizeP P y.2) fun m' => enc (.pt ((cdW x).f e / 16 % 16777216) (Nat.add ((cdW x).f e / 16 / 16777216) (Nat.mul j m'))) (stOf e m) fun c s => memK s (k c)
      rw [hs1]
      show _ = idxK (.i ((cdW i).f e / 16)) l fun j => optR (sizeP P E) fun m' => enc (.pt ((cdW x).f e / 16 % 16777216) (Nat.add ((cdW x).f e / 16 / 16777216) (Nat.mul j m'))) (stOf e m) fun c s => memK s (k c)
      rw [hs2, idxM_ok]
      rfl
theorem indexAddr_ok (t:TypeId) (x i:Operand):VOk P (opV P (.indexAddr t x i)) (.indexAddr t x i):=by
 show VOk P (Option.rec (motive:=fun _=>VW) _ _ (sliceP P t)) _
 cases sliceP P t with
 | none=>exact idxA_ok t x i
 | some E=>exact idxS_ok t x i
end
end Go.Ex
namespace Go.Ex
open Go.Fip
section
variable {P : Program}
theorem idx_congr {a:AV} {n:Nat} {k k':Nat→R} (h:∀ j,k j=k' j):idxK a n k=idxK a n k':=by rw [show k=k' from funext h]
theorem agM_eq (m:Mem) (a:Nat) (k:Nat→Nat→R) (o:R):agM m a k o=optR (m.side.get a) fun v=>AV.rec (motive:=fun _=>R) (fun _=>o) (fun _=>o) (fun _ _=>o) (fun _ _ _ _=>o) (fun _=>o) o (fun _=>o) (fun _=>o) (fun _ _ _ _ _=>o) (fun n c=>k n c) (fun _ _=>o) (fun _ _=>o) (fun _ _ _=>o) v:=by
 obtain ⟨ds,h,n,sd,sn,b⟩:=m
 show (Option.rec (motive:=fun _=>R) bad _ (sd.get a):R)=optR (sd.get a) _
 cases sd.get a <;> rfl
theorem sideGet_eq (m:Mem) (a:Nat) (k:AV→R):sideGet m a k=optR (m.side.get a) k:=by
 obtain ⟨ds,h,n,sd,sn,b⟩:=m
 show (Option.rec (motive:=fun _=>R) bad _ (sd.get a):R)=optR (sd.get a) _
 cases sd.get a <;> rfl
theorem optR_some {α:Type} (a:α) (k:α→R):optR (some a) k=k a:=rfl
theorem nat1_eq (n:Nat) (s:St) (k:Nat→St→R):nat1 n s k=retI (Nat.add n 9223372036854775808) s k:=rfl
theorem indexT_ag (n c:Nat) (i:AV) (t:TypeId) (s:St) (k:Nat→St→R):indexT (.ag n c) i P t s k=optR (arrP P t) fun y=>idxK i y.1 fun j=>optR (shapeP P y.2) fun z=>optR (sizeP P y.2) fun m'=>pieceK z n c (Nat.mul j m') s k:=rfl
theorem qLen_one (x:Operand) (t:TypeId) (ts:List TypeId) (s:St) (k:Nat→St→R):qLen P [x] (t::ts) s k=evK x s fun a=>optR (P.underlying t) fun d=>optR (lenD d P a s) fun n=>nat1 n s k:=rfl
theorem lenD_sl (E:TypeId) (r o n c:Nat) (s:St):lenD (.slice E) P (.sl r o n c) s=some n:=rfl
theorem indexSh_some {t:TypeId} {l w:Nat} {z:Option Nat} (h:indexSh P t=some (l,w,z)):∃ E,arrP P t=some (l,E)∧shapeP P E=some z∧sizeP P E=some w:=by
 unfold indexSh at h
 cases hs:arrP P t with
 | none=>rw [hs] at h; cases h
 | some y =>
  rw [hs] at h
  have h:((shapeP P y.2).bind fun z=>(sizeP P y.2).map fun w=>(y.1,w,z))=some (l,w,z):=h
  cases h1:shapeP P y.2 with
  | none=>rw [h1] at h; cases h
  | some z' =>
   rw [h1] at h
   have h:(sizeP P y.2).map (fun w=>(y.1,w,z'))=some (l,w,z):=h
   cases h2:sizeP P y.2 with
   | none=>rw [h2] at h; cases h
   | some w'=>rw [h2] at h; cases h; exact ⟨y.2,rfl,h1,h2⟩
theorem index_ok (t:TypeId) (x i:Operand):VOk P (indexV P (.index t x i) x i (indexSh P t)) (.index t x i):=fun cm e m k=>by
 cases hq:indexSh P t with
 | none=>rfl
 | some q =>
  obtain ⟨l,w,z⟩:=q
  obtain ⟨E,hE1,hE2,hE3⟩:=indexSh_some hq
  show (Bool.rec (slowV P (.index t x i) cm e m k) (agM m (Nat.div ((cdW x).f e) 16) (fun n c=>idxM (Nat.div ((cdW i).f e) 16) l fun j=>pieceM z n c (Nat.mul j w) e m k) (slowV P (.index t x i) cm e m k)) (Nat.beq (Nat.add (Nat.mul (Nat.mod ((cdW x).f e) 16) 16) (Nat.mod ((cdW i).f e) 16)) 97):R)=_
  cases h:Nat.beq (Nat.add (Nat.mul (Nat.mod ((cdW x).f e) 16) 16) (Nat.mod ((cdW i).f e) 16)) 97 with
  | false=>rfl
  | true =>
   obtain ⟨h1,h2⟩:=tags h
   have hs:slowV P (.index t x i) cm e m k=optR (m.side.get ((cdW x).f e / 16)) fun a=>indexT a (.i ((cdW i).f e / 16)) P t (stOf e m) fun c s=>memK s (k c):=by
    show evK x (stOf e m) _=_
    rw [cdW_evK x e m _ (by omega),dec_6 h1]
    refine opt_congr fun a=>?_
    rw [cdW_evK i e m _ (by omega),dec_1 h2]
    rfl
   show agM m (Nat.div ((cdW x).f e) 16) _ _=_
   rw [agM_eq]
   refine Eq.trans ?_ hs.symm
   show optR (m.side.get ((cdW x).f e / 16)) _=_
   have key:∀ a,m.side.get ((cdW x).f e / 16)=some a→(∀ n c,a≠.ag n c)→slowV P (.index t x i) cm e m k=indexT a (.i ((cdW i).f e / 16)) P t (stOf e m) fun c s=>memK s (k c):=fun a ha _=>by rw [hs,ha]; rfl
   cases hg:m.side.get ((cdW x).f e / 16) with
   | none=>rfl
   | some a =>
    cases a with
    | ag n c =>
     simp only [optR_some,indexT_ag,hE1,hE2,hE3,idxM_ok]
     exact idx_congr fun j=>piece_ok z n c _ e m k
    | i p=>exact key _ hg (fun _ _ h=>nomatch h)
    | b p=>exact key _ hg (fun _ _ h=>nomatch h)
    | pt r o=>exact key _ hg (fun _ _ h=>nomatch h)
    | sl r o n c=>exact key _ hg (fun _ _ h=>nomatch h)
    | mp r=>exact key _ hg (fun _ _ h=>nomatch h)
    | em=>exact key _ hg (fun _ _ h=>nomatch h)
    | yd r=>exact key _ hg (fun _ _ h=>nomatch h)
    | x u=>exact key _ hg (fun _ _ h=>nomatch h)
    | fn f a b c d=>exact key _ hg (fun _ _ h=>nomatch h)
    | tu n c=>exact key _ hg (fun _ _ h=>nomatch h)
    | sy n c=>exact key _ hg (fun _ _ h=>nomatch h)
    | ym n c d=>exact key _ hg (fun _ _ h=>nomatch h)
theorem fieldSh_some {t:TypeId} {i off:Nat} {z:Option Nat} (h:fieldSh P t i=some (off,z)):∃ f,fieldP P t i=some f∧shapeP P f.type=some z∧off=f.offset:=by
 unfold fieldSh at h
 cases hf:fieldP P t i with
 | none=>rw [hf] at h; cases h
 | some f =>
  rw [hf] at h
  have h:(shapeP P f.type).map (fun z=>(f.offset,z))=some (off,z):=h
  cases hs:shapeP P f.type with
  | none=>rw [hs] at h; cases h
  | some z'=>rw [hs] at h; cases h; exact ⟨f,rfl,hs,rfl⟩
theorem field_ok (t:TypeId) (x:Operand) (i:Nat):VOk P (fieldV P (.field t x i) x (fieldSh P t i)) (.field t x i):=fun cm e m k=>by
 cases hf:fieldSh P t i with
 | none=>rfl
 | some f =>
  obtain ⟨off,z⟩:=f
  obtain ⟨f,hf1,hf2,hf3⟩:=fieldSh_some hf
  show (Bool.rec (slowV P (.field t x i) cm e m k) (agM m (Nat.div ((cdW x).f e) 16) (fun n c=>pieceM z n c off e m k) bad) (Nat.beq (Nat.mod ((cdW x).f e) 16) 6):R)=_
  cases h:Nat.beq (Nat.mod ((cdW x).f e) 16) 6 with
  | false=>rfl
  | true =>
   have h:=tag1 h
   show _=evK x (stOf e m) _
   rw [cdW_evK x e m _ (by omega),dec_6 h]
   show agM m (Nat.div ((cdW x).f e) 16) _ _=_
   rw [agM_eq]
   refine opt_congr fun a=>?_
   cases a with
   | ag n c =>
    show pieceM z n c off e m k=optR (fieldP P t i) fun f=>optR (shapeP P f.type) fun z=>pieceK z n c f.offset (stOf e m) fun c s=>memK s (k c)
    rw [hf1]
    show pieceM z n c off e m k=optR (shapeP P f.type) fun z=>pieceK z n c f.offset (stOf e m) fun c s=>memK s (k c)
    rw [hf2, ← hf3]
    exact piece_ok z n c _ e m k
   | i p=>rfl
   | b p=>rfl
   | pt r o=>rfl
   | sl r o n c=>rfl
   | mp r=>rfl
   | em=>rfl
   | yd r=>rfl
   | x u=>rfl
   | fn f a b c d=>rfl
   | tu n c=>rfl
   | sy n c=>rfl
   | ym n c d=>rfl
theorem extract_ok (x:Operand) (i:Nat):VOk P (extractV P (.extract x i) x i) (.extract x i):=fun cm e m k=>by
 show (Bool.rec (slowV P (.extract x i) cm e m k) (sideGet m (Nat.div ((cdW x).f e) 16) _) (Nat.beq (Nat.mod ((cdW x).f e) 16) 6):R)=_
 cases h:Nat.beq (Nat.mod ((cdW x).f e) 16) 6 with
 | false=>rfl
 | true =>
  have h:=tag1 h
  show _=evK x (stOf e m) _
  rw [cdW_evK x e m _ (by omega),dec_6 h]
  show sideGet m (Nat.div ((cdW x).f e) 16) _=_
  rw [sideGet_eq]
  refine opt_congr fun a=>?_
  cases a <;> rfl
theorem nilCheck_ok (x:Operand):VOk P (nilCheckV P (.nilCheck x) x) (.nilCheck x):=fun cm e m k=>by
 show (Bool.rec (slowV P (.nilCheck x) cm e m k) (k ((cdW x).f e) e m) (Nat.beq (Nat.mod ((cdW x).f e) 16) 3):R)=_
 cases h:Nat.beq (Nat.mod ((cdW x).f e) 16) 3 with
 | false=>rfl
 | true =>
  have h:=tag1 h
  show _=evC x (stOf e m) _
  rw [cdW_evC x e m (by omega),cdW_evK x e m _ (by omega),dec_3 h]
  rfl
theorem not_ok (t:TypeId) (x:Operand):VOk P (notV P (.unOp .not t x) x) (.unOp .not t x):=fun cm e m k=>by
 show (Bool.rec (Bool.rec (slowV P (.unOp .not t x) cm e m k) (k 18 e m) (Nat.beq ((cdW x).f e) 2)) (k 2 e m) (Nat.beq ((cdW x).f e) 18):R)=_
 cases h:Nat.beq ((cdW x).f e) 18 with
 | false =>
  cases h2:Nat.beq ((cdW x).f e) 2 with
  | false=>rfl
  | true =>
   have h2:=beq_t h2
   show _=evK x (stOf e m) _
   rw [cdW_evK x e m _ (by rw [h2]; decide),h2]
   rfl
 | true =>
  have h:=beq_t h
  show _=evK x (stOf e m) _
  rw [cdW_evK x e m _ (by rw [h]; decide),h]
  rfl
theorem pick_ok (c a b:Operand):VOk P (pickV P (.pick c a b) c (rdV a) (rdV b)) (.pick c a b):=fun cm e m k=>by
 show (Bool.rec (Bool.rec (slowV P (.pick c a b) cm e m k) ((rdV b).run cm e m k) (Nat.beq ((cdW c).f e) 2)) ((rdV a).run cm e m k) (Nat.beq ((cdW c).f e) 18):R)=_
 cases h:Nat.beq ((cdW c).f e) 18 with
 | false =>
  cases h2:Nat.beq ((cdW c).f e) 2 with
  | false=>rfl
  | true =>
   have h2:=beq_t h2
   show (rdV b).run cm e m k=evK c (stOf e m) _
   rw [cdW_evK c e m _ (by rw [h2]; decide),h2,rdV_ok]
   rfl
 | true =>
  have h:=beq_t h
  show (rdV a).run cm e m k=evK c (stOf e m) _
  rw [cdW_evK c e m _ (by rw [h]; decide),h,rdV_ok]
  rfl
theorem litsD_ok:∀ (l:List Value) (n d n' d':Nat),litsD l n d=some (n',d')→∀ (s:St) (k:Nat→Nat→St→R),encs l s n d k=k n' d' s
 | [],n,d,n',d',h,s,k=>by cases h; rfl
 | v::l,n,d,n',d',h,s,k=>by
  have h:(litD (AV.of v)).bind (fun c=>litsD l (Nat.succ n) (Nat.add d (Nat.shiftLeft c (Nat.mul n 128))))=some (n',d'):=h
  cases hc:litD (AV.of v) with
  | none=>rw [hc] at h; cases h
  | some c =>
   rw [hc] at h
   have ih:=litsD_ok l _ _ _ _ h s k
   rw [← ih]
   show encS (AV.of v) s _=_
   cases hv:AV.of v with
   | i p =>
    rw [hv] at hc
    have hc:(Bool.rec none (some (code p 1)) (Nat.blt p 18446744073709551616):Option Nat)=some c:=hc
    show (Bool.rec bad _ (Nat.blt p 18446744073709551616):R)=_
    cases hb:Nat.blt p 18446744073709551616 with
    | false=>rw [hb] at hc; cases hc
    | true=>rw [hb] at hc; have hc:=Option.some.inj hc; rw [← hc]; rfl
   | b p =>
    rw [hv] at hc
    have hc:(Bool.rec none (some (code p 2)) (Nat.blt p 2):Option Nat)=some c:=hc
    show (Bool.rec bad _ (Nat.blt p 2):R)=_
    cases hb:Nat.blt p 2 with
    | false=>rw [hb] at hc; cases hc
    | true=>rw [hb] at hc; have hc:=Option.some.inj hc; rw [← hc]; rfl
   | pt r o=>rw [hv] at hc; cases hc
   | sl r o n c=>rw [hv] at hc; cases hc
   | mp r=>rw [hv] at hc; cases hc
   | em=>rw [hv] at hc; cases hc
   | yd r=>rw [hv] at hc; cases hc
   | x u=>rw [hv] at hc; cases hc
   | fn f a b c d=>rw [hv] at hc; cases hc
   | ag n c=>rw [hv] at hc; cases hc
   | tu n c=>rw [hv] at hc; cases hc
   | sy n c=>rw [hv] at hc; cases hc
   | ym n c d=>rw [hv] at hc; cases hc
theorem newM_ok (o:AO) (e:Nat) (m:Mem) (k:K2):newM o m (fun c m=>k c e m)=alloc (stOf e m) o fun r s=>enc (.pt r 0) s fun c s=>memK s (k c):=by
 obtain ⟨ds,h,n,sd,sn,b⟩:=m
 cases n with
 | zero=>rfl
 | succ j =>
  show (Bool.rec bad (k (Nat.add (Nat.mul (j+1) 16) 3) e ⟨ds,h.put (j+1) (some o),Nat.succ (j+1),sd,sn,b⟩) (Nat.blt (j+1) 16777216):R) =
   (Bool.rec bad (Bool.rec bad (k (code (Nat.add (Nat.mul 0 16777216) (j+1)) 3) e ⟨ds,h.put (j+1) (some o),Nat.succ (j+1),sd,sn,b⟩) (Nat.blt (Nat.lor (j+1) 0) 16777216)) (Nat.blt (j+1) 16777216):R)
  rw [show Nat.lor (j+1) 0=j+1 from Nat.or_zero _,show code (Nat.add (Nat.mul 0 16777216) (j+1)) 3=Nat.add (Nat.mul (j+1) 16) 3 by unfold code; simp only [Nat.add_eq,Nat.mul_eq]; omega]
  cases Nat.blt (j+1) 16777216 <;> rfl
theorem alloc_ok (t:TypeId):VOk P (allocV P (.alloc t) t ((zeroP P t).bind fun z=>litsD z.cells.toList 0 0)) (.alloc t):=fun cm e m k=>by
 cases hz:zeroP P t with
 | none=>rfl
 | some z =>
  show (allocV P (.alloc t) t (litsD z.cells.toList 0 0)).run cm e m k=_
  cases hl:litsD z.cells.toList 0 0 with
  | none=>rfl
  | some y =>
   obtain ⟨n,d⟩:=y
   show VW.run (Bool.rec _ _ (Nat.blt n 16777216)) cm e m k=_
   cases hb:Nat.blt n 16777216 with
   | false=>rfl
   | true =>
    show newM (.row t n d) m (fun c m=>k c e m)=optR (zeroP P t) fun z=>encs z.cells.toList (stOf e m) 0 0 fun n c s=>newRow t n c s fun r s=>enc (.pt r 0) s fun c s=>memK s (k c)
    rw [hz]
    show _=encs z.cells.toList (stOf e m) 0 0 fun n c s=>newRow t n c s fun r s=>enc (.pt r 0) s fun c s=>memK s (k c)
    rw [litsD_ok _ _ _ _ _ hl,newM_ok]
    show _=(Bool.rec bad _ (Nat.blt n 16777216):R)
    rw [hb]
theorem box_ok (t:TypeId) (x:Operand):VOk P (boxV P (.box t x) t x) (.box t x):=fun cm e m k=>by
 show (Bool.rec (slowV P (.box t x) cm e m k) (newM (.row t 1 ((cdW x).f e)) m fun c m=>k c e m) (Nat.ble (Nat.mod (Nat.add (Nat.mod ((cdW x).f e) 16) 15) 16) 4):R)=_
 cases h:Nat.ble (Nat.mod (Nat.add (Nat.mod ((cdW x).f e) 16) 15) 16) 4 with
 | false=>rfl
 | true =>
  obtain ⟨v,hv,hc⟩:=cells1 h m.side
  show _=evC x (stOf e m) _
  rw [cdW_evC x e m (cells1_ne h)]
  show _=cellsT (dec ((cdW x).f e) m.side) ((cdW x).f e) fun n c=>newRow t n c (stOf e m) fun r s=>enc (.pt r 0) s fun c s=>memK s (k c)
  rw [hv,hc]
  exact newM_ok _ e m k
theorem sliceP_und {t E:TypeId} (h:sliceP P t=some E):P.underlying t=some (.slice E):=by
 unfold sliceP at h
 cases hu:P.underlying t with
 | none=>rw [hu] at h; cases h
 | some d =>
  rw [hu] at h
  have h:sliceT d=some E:=h
  cases d <;> first | (cases h; rfl) | cases h
theorem lenMk_eq (n e:Nat) (m:Mem) (k:K2):lenMk n e m k=k (Nat.add (Nat.mul (Nat.add n 9223372036854775808) 16) 1) e m:=rfl
theorem lenMk_ok (n:Nat) (hn:n<16777216) (e:Nat) (m:Mem) (k:K2):lenMk n e m k=retI (Nat.add n 9223372036854775808) (stOf e m) fun c s=>memK s (k c):=by
 rw [← retI_st,lenMk_eq]
 have hb:Nat.blt (Nat.add n 9223372036854775808) 18446744073709551616=true:=by
  refine Nat.ble_eq_true_of_le ?_
  simp only [Nat.add_eq]
  omega
 rw [hb]
theorem mdd (a:Nat):Nat.mod (Nat.div (Nat.div a 16) 281474976710656) 16777216=a / 16 / 281474976710656 % 16777216:=rfl
theorem lenX_run (op:Op) (x:Operand) (cm:CallM) (e:Nat) (m:Mem) (k:K2) :
  (lenX P op x).run cm e m k=(Bool.rec (slowV P op cm e m k) (lenMk (Nat.mod (Nat.div (Nat.div ((cdW x).f e) 16) 281474976710656) 16777216) e m k) (Nat.beq (Nat.mod ((cdW x).f e) 16) 4):R):=by
 unfold lenX
 generalize cdW x=w
 cases w
 rfl
theorem lenX_ok (op:Op) (x:Operand) (t E:TypeId) (ht:sliceP P t=some E) (cm:CallM) (e:Nat) (m:Mem) (k:K2) (h:(cdW x).f e % 16=4) :
  lenMk ((cdW x).f e / 16 / 281474976710656 % 16777216) e m k=evK x (stOf e m) fun a=>optR (P.underlying t) fun d=>optR (lenD d P a (stOf e m)) fun n=>nat1 n (stOf e m) fun c s=>memK s (k c):=by
 rw [lenMk_ok _ (Nat.mod_lt _ (by decide)),cdW_evK x e m _ (by omega),dec_4 h,optR_some,sliceP_und ht,optR_some,lenD_sl,optR_some,nat1_eq]
theorem len_ok (c:Call) (hc:c.callee=.builtin .len):VOk P (lenV P (.call c) c.args.toList c.argTypes.toList) (.call c):=fun cm e m k=>by
 have hs:slowV P (.call c) cm e m k=qLen P c.args.toList c.argTypes.toList (stOf e m) fun c s=>memK s (k c):=by
  show calleeT c.callee (callOf cm) P c.args.toList c.argTypes.toList (stOf e m) _=_
  rw [hc]; rfl
 cases hx:one c.args.toList with
 | none=>unfold lenV; rw [hx]; rfl
 | some x =>
  cases ht:(head c.argTypes.toList).bind (sliceP P) with
  | none=>unfold lenV; rw [hx,ht]; rfl
  | some E =>
   have e0:lenV P (.call c) c.args.toList c.argTypes.toList=lenX P (.call c) x:=by unfold lenV; rw [hx,ht]
   rw [e0,lenX_run]
   cases h:Nat.beq (Nat.mod ((cdW x).f e) 16) 4 with
   | false=>rfl
   | true =>
    have h:=tag1 h
    rw [hs,mdd]
    clear hs e0
    generalize c.args.toList=xs at hx
    generalize c.argTypes.toList=ts at ht
    match xs,hx,ts,ht with
    | [x'],hx,t::ts,ht =>
     cases hx
     rw [qLen_one]
     exact lenX_ok (.call c) x t E ht cm e m k h
theorem args_ok:∀ (l:List Operand) (n:Nat) (cm:CallM) (e:Nat) (m:Mem) (d:Nat) (k:Nat→Nat→Nat→Mem→R),(argsW l n).run cm e m d k=evsC l (stOf e m) n d fun n d s=>memK s (k n d)
 | [],n,cm,e,m,d,k=>rfl
 | x::l,n,cm,e,m,d,k=>by
  show (rdV x).run cm e m (fun c e m=>(argsW l (Nat.succ n)).run cm e m (Nat.add d (Nat.shiftLeft c (Nat.mul n 128))) k)=_
  rw [rdV_ok]
  show evC x (stOf e m) _=evC x (stOf e m) _
  congr 1
  funext c s
  obtain ⟨e',ds,h,nx,sd,sn,b⟩:=s
  exact args_ok l (Nat.succ n) cm e' ⟨ds,h,nx,sd,sn,b⟩ _ k
theorem calleeV_run (x:Operand) (l:LW) (cm:CallM) (e:Nat) (m:Mem) (k:K2) (hx:∀ g,x≠.func g) :
  (calleeV P x l).run cm e m k=l.run cm e m 0 fun n d e m=>evK x (stOf e m) fun a=>Bool.rec (cm a n d m fun v m=>k v e m) (extK a n d P (stOf e m) fun c s=>memK s (k c)) (isExt P a):=by
 cases x with
 | func g=>exact absurd rfl (hx g)
 | _=>cases l; rfl
theorem calleeV_func (g:Nat) (l:LW) (cm:CallM) (e:Nat) (m:Mem) (k:K2) :
  (calleeV P (.func g) l).run cm e m k=l.run cm e m 0 fun n d e m=>Bool.rec (cm (.fn (.func g) 0 0 0 0) n d m fun v m=>k v e m) (extK (.fn (.func g) 0 0 0 0) n d P (stOf e m) fun c s=>memK s (k c)) (noBody P g):=by
 cases l
 show VW.run (Bool.rec _ _ (noBody P g)) cm e m k=_
 cases noBody P g <;> rfl
theorem callee_ok (x:Operand) (xs:List Operand) (ts:List TypeId) (cm:CallM) (e:Nat) (m:Mem) (k:K2):(calleeV P x (argsW xs 0)).run cm e m k=evsC xs (stOf e m) 0 0 fun n c s=>evK x s fun f=>Bool.rec (callOf cm f n c s fun c s=>memK s (k c)) (extK f n c P s fun c s=>memK s (k c)) (isExt P f):=by
 have key:∀ K,(argsW xs 0).run cm e m 0 K=evsC xs (stOf e m) 0 0 fun n d s=>memK s (K n d):=fun K=>args_ok xs 0 cm e m 0 K
 cases x with
 | func g=>rw [calleeV_func,key]; rfl
 | tmp t=>rw [calleeV_run (.tmp t) _ _ _ _ _ (fun g h=>by cases h),key]; rfl
 | const v=>rw [calleeV_run (.const v) _ _ _ _ _ (fun g h=>by cases h),key]; rfl
 | global g=>rw [calleeV_run (.global g) _ _ _ _ _ (fun g h=>by cases h),key]; rfl
theorem call_okV (c:Call):VOk P (callV c.callee P (.call c) c.args.toList c.argTypes.toList) (.call c):=by
 cases hc:c.callee with
 | value x =>
  intro cm e m k
  have hs:slowV P (.call c) cm e m k=evsC c.args.toList (stOf e m) 0 0 fun n c s=>evK x s fun f=>Bool.rec (callOf cm f n c s fun c s=>memK s (k c)) (extK f n c P s fun c s=>memK s (k c)) (isExt P f):=by
   show calleeT c.callee (callOf cm) P c.args.toList c.argTypes.toList (stOf e m) _=_
   rw [hc]; rfl
  rw [hs]
  exact callee_ok x _ c.argTypes.toList cm e m k
 | builtin b =>
  show VOk P (Bool.rec (slowW P (.call c)) (lenV P (.call c) c.args.toList c.argTypes.toList) (isLen b)) _
  cases b with
  | len=>exact len_ok c hc
  | _=>exact slowW_ok _
 | invoke a b=>exact slowW_ok _
theorem opV_ok (op:Op):VOk P (opV P op) op:=by
 cases op with
 | move x=>exact fun cm e m k=>rdV_ok x cm e m k
 | assign x=>exact fun cm e m k=>rdV_ok x cm e m k
 | pick c a b=>exact pick_ok c a b
 | binOp o t x y u=>exact bin_ok o t u x y
 | load t x=>exact load_ok t x
 | store t a x=>exact store_ok t a x
 | fieldAddr t x i=>exact fieldAddr_ok t x i
 | indexAddr t x i=>exact indexAddr_ok t x i
 | index t x i=>exact index_ok t x i
 | field t x i=>exact field_ok t x i
 | extract x i=>exact extract_ok x i
 | nilCheck x=>exact nilCheck_ok x
 | unOp o t x =>
  show VOk P (Bool.rec (slowW P (.unOp o t x)) (notV P (.unOp o t x) x) (isNot o)) _
  cases o with
  | not=>exact not_ok t x
  | _=>exact slowW_ok _
 | alloc t=>exact alloc_ok t
 | box t x=>exact box_ok t x
 | call c=>exact call_okV c
 | _=>exact slowW_ok _
end
end Go.Ex
namespace Go.Ex
open Go.Fip
section
variable {P : Program}
theorem opx_congr {op:Op} {call:CallR} {s:St} {k k':Nat→St→R} (h:∀ c s,k c s=k' c s):opx op call P s k=opx op call P s k':=by rw [show k=k' from funext fun c=>funext fun s=>h c s]
theorem put_okV {v:VW} {op:Op} (hv:VOk P v op) (d:Option Nat) (cm:CallM) (e:Nat) (m:Mem) (k:K1):(putV d v).run cm e m k=opx op (callOf cm) P (stOf e m) fun c s=>putE d c s fun s=>memK s k:=by
 cases d with
 | none =>
  show v.run cm e m _=_
  rw [hv]
  rfl
 | some d =>
  show v.run cm e m _=_
  rw [hv]
  exact opx_congr fun c s=>by cases s; rfl
theorem side_congr {a:AV} {s:St} {k k':Nat→St→R} (h:∀ c s,k c s=k' c s):sideK a s k=sideK a s k':=by rw [show k=k' from funext fun c=>funext fun s=>h c s]
theorem skip_ok (d:Option Nat) (cm:CallM) (e:Nat) (m:Mem) (k:K1):(putV d skipV).run cm e m k=sideK (.tu 0 0) (stOf e m) fun c s=>putE d c s fun s=>memK s k:=by
 cases d with
 | none =>
  show sideM (.tu 0 0) m (fun c m=>(fun _ e m=>k e m) c e m)=_
  rw [sideM_ok]
  rfl
 | some d =>
  show sideM (.tu 0 0) m (fun c m=>(fun c e m=>putM k (Nat.mul (Nat.succ d) 128) c e m) c e m)=_
  rw [sideM_ok]
  exact side_congr fun c s=>by cases s; rfl
theorem guard_ok (o:Oper) (ops:Array Oper) (d:Nat) (g:Nat×Bool) (hg:o.guard=some g) (hd:(ops[g.1]?).bind (·.dst)=some d) (cm:CallM) (e:Nat) (m:Mem) (k:K1) :
  (guardW P o ops d g.2).run cm e m k=op1 o ops (callOf cm) P (stOf e m) fun s=>memK s k:=by
 have hw:wantedT o.guard ops (stOf e m)=guardT (dec (dg e (Nat.succ d)) m.side) g.2:=by
  rw [hg]
  show ((ops[g.1]?).bind (·.dst)).bind _=_
  rw [hd]
  rfl
 have h1:op1 o ops (callOf cm) P (stOf e m) (fun s=>memK s k)=op1T (guardT (dec (dg e (Nat.succ d)) m.side) g.2) o (callOf cm) P (stOf e m) fun s=>memK s k:=by unfold op1; rw [hw]
 show (Bool.rec (Bool.rec (slowO P o ops cm e m k) (OW.run (Bool.rec (putV o.dst (opV P o.op)) (putV o.dst skipV) g.2) cm e m k) (Nat.beq (dg e (Nat.succ d)) 2)) (OW.run (Bool.rec (putV o.dst skipV) (putV o.dst (opV P o.op)) g.2) cm e m k) (Nat.beq (dg e (Nat.succ d)) 18):R)=_
 cases h18:Nat.beq (dg e (Nat.succ d)) 18 with
 | true =>
  have h18:=beq_t h18
  rw [h1,h18]
  cases hb:g.2 with
  | true=>exact put_okV (opV_ok o.op) _ cm e m k
  | false=>exact skip_ok _ cm e m k
 | false =>
  cases h2:Nat.beq (dg e (Nat.succ d)) 2 with
  | true =>
   have h2:=beq_t h2
   rw [h1,h2]
   cases hb:g.2 with
   | true=>exact skip_ok _ cm e m k
   | false=>exact put_okV (opV_ok o.op) _ cm e m k
  | false=>rfl
theorem oper_ok (ops:Array Oper) (o:Oper) (cm:CallM) (e:Nat) (m:Mem) (k:K1):(operW P ops o).run cm e m k=op1 o ops (callOf cm) P (stOf e m) fun s=>memK s k:=by
 unfold operW
 cases hg:o.guard with
 | none =>
  refine Eq.trans (put_okV (opV_ok o.op) _ cm e m k) ?_
  unfold op1
  rw [hg]
  rfl
 | some g =>
  show OW.run (Option.rec _ _ ((ops[g.1]?).bind (·.dst))) cm e m k=_
  cases hd:(ops[g.1]?).bind (·.dst) with
  | none=>rfl
  | some d=>exact guard_ok o ops d g hg hd cm e m k
theorem op1_congr {o:Oper} {ops:Array Oper} {call:CallR} {s:St} {k k':St→R} (h:∀ s,k s=k' s):op1 o ops call P s k=op1 o ops call P s k':=by rw [show k=k' from funext h]
theorem ops_ok (ops:Array Oper):∀ (l:List Oper) (cm:CallM) (e:Nat) (m:Mem) (k:K1),(opsW P ops l).run cm e m k=opl l ops (callOf cm) P (stOf e m) fun s=>memK s k
 | [],cm,e,m,k=>rfl
 | o::l,cm,e,m,k=>by
  show (operW P ops o).run cm e m (fun e m=>(opsW P ops l).run cm e m k)=_
  rw [oper_ok]
  exact op1_congr fun s=>by cases s with | mk e' ds h n sd sn b=>exact ops_ok ops l cm e' ⟨ds,h,n,sd,sn,b⟩ k
theorem watch_congr {call:CallR} {i:Nat} {o:Oper} {ops:Array Oper} {s s1:St} {wt:Wt} {k k':Wt→R} (h:∀ wt,k wt=k' wt):watch1 call P i o ops s s1 wt k=watch1 call P i o ops s s1 wt k':=by rw [show k=k' from funext h]
theorem kept_congr {call:CallR} {o:Oper} {wt:Wt} {s:St} {k k':Wt→R} (h:∀ wt,k wt=k' wt):keptK call P o wt s k=keptK call P o wt s k':=by rw [show k=k' from funext h]
theorem any_ok (ops:Array Oper):∀ (ps:List PS) (cm:CallM) (wt:Wt) (e:Nat) (m:Mem) (k:K1),(anyW P ops ps).run cm wt e m k=anyX ops (callOf cm) P (fun s=>memK s k) ps wt (stOf e m)
 | [],cm,wt,e,m,k=>rfl
 | x::ps,cm,wt,e,m,k=>by
  have ih:=fun cm wt e m k=>any_ok ops ps cm wt e m k
  have ihs:∀ wt,(fun s=>memK s fun e m=>(anyW P ops ps).run cm wt e m k)=fun s=>anyX ops (callOf cm) P (fun s=>memK s k) ps wt s:=fun wt=>funext fun s=>by
   cases s with | mk e' ds h n sd sn b=>exact ih cm wt e' ⟨ds,h,n,sd,sn,b⟩ k
  cases x with
  | take p =>
   show AW.run (Bool.rec _ _ (reads p.o.op)) cm wt e m k=op1 p.o ops (callOf cm) P (stOf e m) fun s1=>watch1 (callOf cm) P p.i p.o ops (stOf e m) s1 wt fun wt=>anyX ops (callOf cm) P (fun s=>memK s k) ps wt s1
   cases hr:reads p.o.op with
   | false =>
    show (operW P ops p.o).run cm e m (fun e1 m1=>(anyW P ops ps).run cm wt e1 m1 k)=_
    rw [oper_ok]
    refine op1_congr fun s=>?_
    refine Eq.trans (congrFun (ihs wt) s) ?_
    show _=(Bool.rec (anyX ops (callOf cm) P (fun s=>memK s k) ps wt s) _ (reads p.o.op):R)
    rw [hr]
   | true =>
    show (operW P ops p.o).run cm e m (fun e1 m1=>slowT P ops p cm wt e e1 m m1 fun wt=>(anyW P ops ps).run cm wt e1 m1 k)=_
    rw [oper_ok]
    refine op1_congr fun s=>?_
    cases s with
    | mk e' ds h n sd sn b=>exact watch_congr fun wt=>ih cm wt e' ⟨ds,h,n,sd,sn,b⟩ k
  | one p =>
   show (operW P ops p.o).run cm e m (fun e m=>List.rec (motive:=fun _=>R) _ (fun _ _ _=>_) wt)=op1 p.o ops (callOf cm) P (stOf e m) fun s=>keptK (callOf cm) P p.o wt s fun wt=>anyX ops (callOf cm) P (fun s=>memK s k) ps wt s
   rw [oper_ok]
   refine op1_congr fun s=>?_
   cases s with
   | mk e' ds h n sd sn b =>
    cases wt with
    | nil=>exact ih cm [] e' ⟨ds,h,n,sd,sn,b⟩ k
    | cons y wt =>
     exact kept_congr (s:=⟨e',ds,h,n,sd,sn,b⟩) fun wt=>ih cm wt e' ⟨ds,h,n,sd,sn,b⟩ k
  | pend p =>
   show opx p.o.op (callOf cm) P (stOf e m) _=opx p.o.op (callOf cm) P (stOf e m) _
   refine opx_congr fun _ _=>?_
   show putE p.o.dst 0 (stOf e m) (fun s=>memK s fun e m=>(anyW P ops ps).run cm wt e m k)=_
   rw [ihs]
   rfl
  | flush p =>
   show (operW P ops p.o).run cm e m (fun e1 m1=>(anyW P ops ps).run cm wt e1 m1 k)=_
   rw [oper_ok]
   exact op1_congr fun s=>congrFun (ihs wt) s
theorem reg_ok (ops:Array Oper) (draw:Bool) (cm:CallM) (e:Nat) (m:Mem) (kn:K1) (kx:K2):(regW P ops draw).run cm e m kn kx=regT draw ops (callOf cm) P (stOf e m) fun s=>memK s kn:=by
 cases draw with
 | false=>exact ops_ok ops ops.toList cm e m kn
 | true =>
  show CW.run (Bool.rec _ _ (okR ops)) cm e m kn kx=(Bool.rec bad _ (okR ops):R)
  cases okR ops with
  | false=>rfl
  | true=>exact any_ok ops (planOf ops) cm [] e m kn
theorem kOf_eta (k:Nat→St→R):kOf (fun e m=>k 0 (stOf e m)) (fun x e m=>k x (stOf e m))=k:=funext fun x=>funext fun s=>by cases x <;> cases s <;> rfl
variable {F N : Nat}
theorem codeX_congr {c:Code} {call:CallR} {s:St} {k k':Nat→St→R} (h:∀ x s,k x s=k' x s):codeX c call P F N s k=codeX c call P F N s k':=by rw [show k=k' from funext fun c=>funext fun s=>h c s]
def CWOk (P:Program) (F N:Nat) (w:CW) (c:Code):Prop:=∀ cm e m kn kx,w.run cm e m kn kx=codeX c (callOf cm) P F N (stOf e m) (kOf kn kx)
theorem runS_ok {w:CW} {c:Code} (h:CWOk P F N w c) (cm:CallM) (s:St) (k:Nat→St→R):runS w.run cm s k=codeX c (callOf cm) P F N s k:=by
 cases s with
 | mk e ds hh n sd sn b =>
  show w.run cm e ⟨ds,hh,n,sd,sn,b⟩ _ _=_
  rw [h,kOf_eta]
  rfl
theorem loop_okW {w:CW} {b:Code} (h:CWOk P F N w b) (cm:CallM) (kn:K1) (kx:K2):∀ (G e:Nat) (m:Mem),loopW w.run G cm e m kx=loopN (fun s k=>codeX b (callOf cm) P F N s k) G (stOf e m) (kOf kn kx)
 | 0,e,m=>rfl
 | G+1,e,m=>by
  show w.run cm e m (fun e m=>loopW w.run G cm e m kx) kx=_
  rw [h]
  refine codeX_congr fun x s=>?_
  cases s with
  | mk e' ds hh n sd sn b =>
   cases x with
   | zero=>exact loop_okW h cm kn kx G e' ⟨ds,hh,n,sd,sn,b⟩
   | succ x=>rfl
theorem code_okW:∀ c,CWOk P F N (codeW P F N c) c
 | .skip=>fun cm e m kn kx=>rfl
 | .region _ ops draw=>fun cm e m kn kx=>reg_ok ops draw cm e m kn kx
 | .seq a b=>fun cm e m kn kx=>by
  show (codeW P F N a).run cm e m (fun e m=>(codeW P F N b).run cm e m kn kx) kx=_
  rw [code_okW a]
  refine codeX_congr fun x s=>?_
  cases s with
  | mk e' ds hh n sd sn b' =>
   cases x with
   | zero=>exact code_okW b cm e' ⟨ds,hh,n,sd,sn,b'⟩ kn kx
   | succ x=>rfl
 | .cond c a b=>fun cm e m kn kx=>by
  show (Bool.rec (Bool.rec (slowCond c e m (fun e m=>(codeW P F N a).run cm e m kn kx) fun e m=>(codeW P F N b).run cm e m kn kx) ((codeW P F N b).run cm e m kn kx) (Nat.beq ((cdW c).f e) 2)) ((codeW P F N a).run cm e m kn kx) (Nat.beq ((cdW c).f e) 18):R)=evK c (stOf e m) fun v=>condT v (fun s=>codeX a (callOf cm) P F N s (kOf kn kx)) (fun s=>codeX b (callOf cm) P F N s (kOf kn kx)) (stOf e m)
  have ea:=code_okW a cm e m kn kx
  have eb:=code_okW b cm e m kn kx
  cases h:Nat.beq ((cdW c).f e) 18 with
  | true =>
   have h:=beq_t h
   rw [cdW_evK c e m _ (by rw [h]; decide),h]
   exact ea
  | false =>
   cases h2:Nat.beq ((cdW c).f e) 2 with
   | true =>
    have h2:=beq_t h2
    rw [cdW_evK c e m _ (by rw [h2]; decide),h2]
    exact eb
   | false =>
    show slowCond c e m _ _=_
    unfold slowCond
    have e1:(fun s=>memK s fun e m=>(codeW P F N a).run cm e m kn kx)=fun s=>codeX a (callOf cm) P F N s (kOf kn kx):=funext fun s=>by cases s with | mk e' ds hh n sd sn b'=>exact code_okW a cm e' ⟨ds,hh,n,sd,sn,b'⟩ kn kx
    have e2:(fun s=>memK s fun e m=>(codeW P F N b).run cm e m kn kx)=fun s=>codeX b (callOf cm) P F N s (kOf kn kx):=funext fun s=>by cases s with | mk e' ds hh n sd sn b'=>exact code_okW b cm e' ⟨ds,hh,n,sd,sn,b'⟩ kn kx
    rw [e1,e2]
 | .block i b=>fun cm e m kn kx=>by
  show (codeW P F N b).run cm e m kn (fun x e m=>Bool.rec (kx x e m) (kn e m) (Nat.beq x (Nat.add 2 (Nat.mul 2 i))))=_
  rw [code_okW b]
  refine codeX_congr fun x s=>?_
  cases s with
  | mk e' ds hh n sd sn b' =>
   cases x with
   | zero =>
    show kn e' _=(Bool.rec _ _ (Nat.beq 0 (Nat.add 2 (Nat.mul 2 i))):R)
    cases Nat.beq 0 (Nat.add 2 (Nat.mul 2 i)) <;> rfl
   | succ x =>
    show (Bool.rec _ _ (Nat.beq (x+1) (Nat.add 2 (Nat.mul 2 i))):R)=(Bool.rec _ _ (Nat.beq (x+1) (Nat.add 2 (Nat.mul 2 i))):R)
    cases Nat.beq (x+1) (Nat.add 2 (Nat.mul 2 i)) <;> rfl
 | .loop b=>fun cm e m kn kx=>by
  show CW.run (Bool.rec _ _ (Bool.and (hasNext b) (Bool.not (hasApp b)))) cm e m kn kx=(Bool.rec _ _ (Bool.and (hasNext b) (Bool.not (hasApp b))):R)
  cases Bool.and (hasNext b) (Bool.not (hasApp b)) with
  | false=>exact loop_okW (code_okW b) cm kn kx F e m
  | true =>
   show loopR (fun s k=>runS (codeW P F N b).run cm s k) N b F _ _=loopR (fun s k=>codeX b (callOf cm) P F N s k) N b F _ _
   rw [show (fun s k=>runS (codeW P F N b).run cm s k)=fun s k=>codeX b (callOf cm) P F N s k from funext fun s=>funext fun k=>runS_ok (code_okW b) cm s k]
 | .rangeFunc g ps a b=>fun cm e m kn kx=>rfl
 | .exit i=>fun cm e m kn kx=>by
  show kx (Nat.add 2 (Nat.mul 2 i)) e m=kOf kn kx (Nat.add 2 (Nat.mul 2 i)) (stOf e m)
  rw [show Nat.add 2 (Nat.mul 2 i)=(1+2 * i)+1 by simp only [Nat.add_eq,Nat.mul_eq]; omega]
  rfl
 | .scope b=>fun cm e m kn kx=>by
  show (codeW P F N b).run cm e m kn (fun x e m=>Bool.rec (kx x e m) bad (isGoto x))=_
  rw [code_okW b]
  refine codeX_congr fun x s=>?_
  cases s with
  | mk e' ds hh n sd sn b' =>
   cases x with
   | zero=>rfl
   | succ x =>
    show (Bool.rec _ _ (isGoto (x+1)):R)=(Bool.rec _ _ (isGoto (x+1)):R)
    cases isGoto (x+1) <;> rfl
 | .label _=>fun cm e m kn kx=>rfl
 | .goto i=>fun cm e m kn kx=>by
  show kx (Nat.add 3 (Nat.mul 2 i)) e m=kOf kn kx (Nat.add 3 (Nat.mul 2 i)) (stOf e m)
  rw [show Nat.add 3 (Nat.mul 2 i)=(2+2 * i)+1 by simp only [Nat.add_eq,Nat.mul_eq]; omega]
  rfl
 | .ret=>fun cm e m kn kx=>rfl
 | .refuse _=>fun cm e m kn kx=>rfl
end
end Go.Ex
namespace Go.Ex
open Go.Fip
section
variable {P : Program} {F : Nat}
noncomputable def toS (e:Nat) (k:Nat→St→R):Nat→Mem→R:=fun v m=>k v (stOf e m)
theorem marks_congr:∀ {l:List Nat} {s:St} {k k':St→R},(∀ s,k s=k' s)→marks l s k=marks l s k':=fun h=>by rw [show _=_ from funext h]
theorem ress_congr {l:List ResultVar} {n d:Nat} {s:St} {k k':Nat→Nat→St→R} (h:∀ n d s,k n d s=k' n d s):ress l n d P s k=ress l n d P s k':=by rw [show k=k' from funext fun n=>funext fun d=>funext fun s=>h n d s]
theorem resOne_congr {n d:Nat} {s:St} {k k':Nat→St→R} (h:∀ c s,k c s=k' c s):resOne n d s k=resOne n d s k':=by rw [show k=k' from funext fun c=>funext fun s=>h c s]
theorem leave_ds (fn:Func) (ds:List Nat) (e0:Nat) (k:Nat→St→R) (x:Nat) (s:St):leave P fn 0 ds (fun v s=>memK s fun _ m=>toS e0 k v m) x s=leave P fn e0 ds k x s:=by
 unfold leave
 exact congrArg (fun z=>(Bool.rec bad z (Nat.ble x 1):R)) (marks_congr fun s=>ress_congr fun n d s=>resOne_congr fun c s=>rfl)
theorem slowLeave_ok (fn:Func) (ds:List Nat) (e0:Nat) (k:Nat→St→R) (x e:Nat) (m:Mem):slowLeave P fn ds (toS e0 k) x e m=leave P fn e0 ds k x (stOf e m):=leave_ds fn ds e0 k x (stOf e m)
theorem leave1_ok (fn:Func) (ds:List Nat) (e0:Nat) (k:Nat→St→R) (x e:Nat) (m:Mem) (hx:Nat.ble x 1=true):(leave1 P fn fn.results.toList).run ds (toS e0 k) x e m=leave P fn e0 ds k x (stOf e m):=by
 cases hr:fn.results.toList with
 | nil=>exact slowLeave_ok fn ds e0 k x e m
 | cons r l =>
  cases l with
  | cons r2 l=>exact slowLeave_ok fn ds e0 k x e m
  | nil =>
   cases r with
   | cell a t=>exact slowLeave_ok fn ds e0 k x e m
   | tmp t =>
    obtain ⟨d,h,n,sd,sn,b⟩:=m
    cases d with
    | cons y d=>exact slowLeave_ok fn ds e0 k x e ⟨y::d,h,n,sd,sn,b⟩
    | nil =>
     show (Nat.rec (motive:=fun _=>R) bad (fun c _=>k (Nat.succ c) (stOf e0 ⟨ds,h,n,sd,sn,b⟩)) (dg e (Nat.succ t)):R)=(Bool.rec bad (ress fn.results.toList 0 0 P (stOf e ⟨[],h,n,sd,sn,b⟩) fun n d s=>resOne n d s fun c s=>k c (back e0 ds s)) (Nat.ble x 1):R)
     rw [hx,hr]
     show _=(Nat.rec (motive:=fun _=>R) bad (fun c _=>resOne 1 (Nat.add 0 (Nat.shiftLeft (Nat.succ c) (Nat.mul 0 128))) (stOf e ⟨[],h,n,sd,sn,b⟩) fun c s=>k c (back e0 ds s)) (dg e (Nat.succ t)):R)
     cases dg e (Nat.succ t) with
     | zero=>rfl
     | succ c =>
      show k (Nat.succ c) _=resOne 1 (Nat.add 0 (Nat.shiftLeft (Nat.succ c) (Nat.mul 0 128))) _ _
      rw [show Nat.add 0 (Nat.shiftLeft (Nat.succ c) (Nat.mul 0 128))=Nat.succ c by simp [Nat.shiftLeft]]
      rfl
theorem joinD_ok (c:Code) {N:Nat} (cm:CallM) (s:St) (k:Nat→St→R):joinD (codeW P F N c).run N (hasDel c) cm s k=(Bool.rec (joinA c (callOf cm) P F N s k) (joinE c (callOf cm) P F N s k) (hasDel c):R):=by
 have h1:joinW (codeW P F N c).run N cm s k=joinA c (callOf cm) P F N s k:=by unfold joinW joinA; rw [runS_ok (code_okW c)]
 unfold joinD joinE
 rw [h1,runS_ok (code_okW c),runS_ok (code_okW c)]
theorem body_ok (fn:Func) (c:Code) (hok:okC fn.ntmps c=true) (cm:CallM) (n₁ c₁ n₂ c₂ n₃ c₃ e0:Nat) (m:Mem) (k:Nat→St→R) :
  (bodyW P F fn c).run cm n₁ c₁ n₂ c₂ n₃ c₃ m (toS e0 k)=enterF (callOf cm) P F fn c n₁ c₁ n₂ c₂ n₃ c₃ (stOf e0 m) k:=by
 obtain ⟨ds,h,n,sd,sn,b⟩:=m
 have hL:∀ x e m,(Bool.rec bad ((leave1 P fn fn.results.toList).run ds (toS e0 k) x e m) (Nat.ble x 1):R)=leave P fn e0 ds k x (stOf e m):=fun x e m=>by
  cases hx:Nat.ble x 1 with
  | true=>exact leave1_ok fn ds e0 k x e m hx
  | false=>unfold leave; rw [hx]
 show FW.run (Bool.rec _ _ (hasNext c)) cm n₁ c₁ n₂ c₂ n₃ c₃ ⟨ds,h,n,sd,sn,b⟩ (toS e0 k)=(Bool.rec bad (joinF c (callOf cm) P F fn.ntmps _ (leave P fn e0 ds k)) (Bool.and (okC fn.ntmps c) (Nat.ble (Nat.add n₁ (Nat.add n₂ n₃)) fn.ntmps)):R)
 rw [hok]
 unfold joinF
 cases hn:hasNext c with
 | false =>
  show (Bool.rec bad _ (Nat.ble (Nat.add n₁ (Nat.add n₂ n₃)) fn.ntmps):R)=(Bool.rec bad _ (Nat.ble (Nat.add n₁ (Nat.add n₂ n₃)) fn.ntmps):R)
  cases Nat.ble (Nat.add n₁ (Nat.add n₂ n₃)) fn.ntmps with
  | false=>rfl
  | true =>
   show (codeW P F fn.ntmps c).run cm _ _ (fun e m=>(leave1 P fn fn.results.toList).run ds (toS e0 k) 0 e m) (fun x e m=>Bool.rec bad ((leave1 P fn fn.results.toList).run ds (toS e0 k) x e m) (Nat.ble x 1))=_
   rw [code_okW c]
   refine codeX_congr fun x s=>?_
   cases s with
   | mk e' ds' h' n' sd' sn' b' =>
    cases x with
    | zero=>exact hL 0 e' ⟨ds',h',n',sd',sn',b'⟩
    | succ x=>exact hL (x+1) e' ⟨ds',h',n',sd',sn',b'⟩
 | true =>
  show (Bool.rec bad _ (Nat.ble (Nat.add n₁ (Nat.add n₂ n₃)) fn.ntmps):R)=(Bool.rec bad _ (Nat.ble (Nat.add n₁ (Nat.add n₂ n₃)) fn.ntmps):R)
  cases Nat.ble (Nat.add n₁ (Nat.add n₂ n₃)) fn.ntmps with
  | false=>rfl
  | true =>
   have hk:(fun x s=>memK s fun e m=>(Bool.rec bad ((leave1 P fn fn.results.toList).run ds (toS e0 k) x e m) (Nat.ble x 1):R))=leave P fn e0 ds k:=funext fun x=>funext fun s=>by cases s with | mk e' ds' h' n' sd' sn' b'=>exact hL x e' ⟨ds',h',n',sd',sn',b'⟩
   show joinD (codeW P F fn.ntmps c).run fn.ntmps (hasDel c) cm _ (fun x s=>memK s fun e m=>Bool.rec bad ((leave1 P fn fn.results.toList).run ds (toS e0 k) x e m) (Nat.ble x 1))=_
   rw [hk]
   exact joinD_ok c cm _ _
theorem fn_ok (g:Nat) (cm:CallM) (n₁ c₁ n₂ c₂ n₃ c₃ e0:Nat) (m:Mem) (k:Nat→St→R):(fnW P F g).run cm n₁ c₁ n₂ c₂ n₃ c₃ m (toS e0 k)=fnT (.func g) n₁ c₁ n₂ c₂ n₃ c₃ (callOf cm) P F (stOf e0 m) k:=by
 show _=optR (P.funcs[g]?) fun fn=>optR fn.body fun c=>enterF (callOf cm) P F fn c n₁ c₁ n₂ c₂ n₃ c₃ (stOf e0 m) k
 unfold fnW
 cases P.funcs[g]? with
 | none=>rfl
 | some fn =>
  show FW.run (Option.rec (motive:=fun _=>FW) _ _ fn.body) _ _ _ _ _ _ _ _ _=optR fn.body _
  cases fn.body with
  | none=>rfl
  | some c =>
   show FW.run (Bool.rec _ (bodyW P F fn c) (okC fn.ntmps c)) _ _ _ _ _ _ _ _ _=enterF (callOf cm) P F fn c n₁ c₁ n₂ c₂ n₃ c₃ (stOf e0 m) k
   cases hok:okC fn.ntmps c with
   | true=>exact body_ok fn c hok cm n₁ c₁ n₂ c₂ n₃ c₃ e0 m k
   | false=>unfold enterF; rw [hok]; rfl
theorem codeS_ok (N:Nat) (c:Code) (cm:CallM) (s:St) (k:Nat→St→R):codeS P F N c cm s k=codeX c (callOf cm) P F N s k:=runS_ok (code_okW c) cm s k
theorem yield_ok (l n c:Nat) (cm:CallM) (s:St) (k:Nat→St→R):yieldS P F l n c cm s k=yieldK (callOf cm) P F l n c s k:=by
 unfold yieldS yieldK
 cases s.heap.get l with
 | none=>rfl
 | some o =>
  cases o with
  | loop N env ps a b st pe =>
   show (Bool.rec bad (roundS P F l n c cm s k N env ps a b) _:R)=(Bool.rec bad (roundK (callOf cm) P F l n c s k (N,env,ps,a,b,st,pe)) _:R)
   have e:roundS P F l n c cm s k N env ps a b=roundK (callOf cm) P F l n c s k (N,env,ps,a,b,st,pe):=by
    unfold roundS roundK
    rw [codeS_ok]
    refine codeX_congr fun x s1=>?_
    cases x with
    | succ x=>rfl
    | zero =>
     show optR _ _=optR _ _
     refine congrArg _ (funext fun y=>?_)
     show (Bool.rec bad (setH s1 l _ fun s1=>codeS P F N b cm s1 (roundE l s k)) _:R)=(Bool.rec bad (setH s1 l _ fun s1=>codeX b (callOf cm) P F N s1 (roundE l s k)) _:R)
     rw [show (fun s1=>codeS P F N b cm s1 (roundE l s k))=fun s1=>codeX b (callOf cm) P F N s1 (roundE l s k) from funext fun s1=>codeS_ok N b cm s1 _]
   rw [e]
  | row E n c=>rfl
  | map es q=>rfl
  | iter m a l b c=>rfl
  | mark=>rfl
  | gh g k=>rfl
  | bag es c=>rfl
  | ro E n c=>rfl
theorem yield_env (l n c e0:Nat) (m:Mem) (call:CallR) (k:Nat→St→R):yieldK call P F l n c (stOf 0 m) (fun v s=>memK s fun _ m=>toS e0 k v m)=yieldK call P F l n c (stOf e0 m) k:=rfl
theorem callM_ok (P:Program) (F:Nat):∀ D,callX P F D=callOf (callM P F D)
 | 0=>funext fun f=>funext fun n=>funext fun c=>funext fun s=>funext fun k=>by cases s; rfl
 | D+1=>funext fun f=>funext fun n=>funext fun c=>funext fun s=>funext fun k=>by
  have ih:=callM_ok P F D
  cases s with
  | mk e ds h nx sd sn b =>
   show callT f n c (callX P F D) P F _ k=callTW P F f n c (callM P F D) ⟨ds,h,nx,sd,sn,b⟩ (toS e k)
   rw [ih]
   cases f with
   | fn f n₁ c₁ n₃ c₃ =>
    cases f with
    | func g=>exact (fn_ok g (callM P F D) n₁ c₁ n c n₃ c₃ e ⟨ds,h,nx,sd,sn,b⟩ k).symm
    | _=>rfl
   | yd l =>
    show yieldK (callOf (callM P F D)) P F l n c (stOf e ⟨ds,h,nx,sd,sn,b⟩) k=yieldS P F l n c (callM P F D) (stOf 0 ⟨ds,h,nx,sd,sn,b⟩) fun v s=>memK s fun _ m=>toS e k v m
    rw [yield_ok,yield_env]
   | _=>rfl
end
end Go.Ex
namespace Go.Ex
open Go.Fip
end Go.Ex
namespace Go.Ex
open Go.Fip
open Go.RowKit
noncomputable def litT (env:Nat) (ds:List Nat) (next sn lim:Nat) (hs:List (Nat×AO)) (sds:List (Nat×AV)):St:=⟨env,ds,putAll hs,next,putAll sds,sn,lim⟩
noncomputable def eqO2 (x y:Option AO):Bool :=
 match x,y with
 | none,none=>true
 | some (.row E n c),some (.row E' n' c')=>Bool.and (Nat.beq E E') (Bool.and (Nat.beq n n') (Nat.beq c c'))
 | some (.map es q),some (.map es' q')=>Bool.and (Nat.beq q q') (eqE es es')
 | some (.bag es q),some (.bag es' q')=>Bool.and (Nat.beq q q') (eqE es es')
 | some .mark,some .mark=>true
 | _,_=>false
noncomputable def eqA2 (x y:Option AV):Bool :=
 match x,y with
 | none,none=>true
 | x,some y=>eqA x y
 | _,_=>false
noncomputable def allH2 (h:T AO):List (Nat×AO)→Bool
 | []=>true
 | x::l=>Bool.and (Bool.and (Nat.blt x.1 16777216) (eqO2 (h.get x.1) (some x.2))) (allH2 h l)
noncomputable def allS2 (sd:T AV):List (Nat×AV)→Bool
 | []=>true
 | x::l=>Bool.and (Bool.and (Nat.blt x.1 16777216) (eqA (sd.get x.1) x.2)) (allS2 sd l)
noncomputable def upH (h h':T AO) (n:Nat):Bool:=Nat.rec (motive:=fun _=>Bool) true (fun i ih=>Bool.rec false ih (eqO2 (h.get i) (h'.get i))) n
noncomputable def upS (h h':T AV) (n:Nat):Bool:=Nat.rec (motive:=fun _=>Bool) true (fun i ih=>Bool.rec false ih (eqA2 (h.get i) (h'.get i))) n
noncomputable def leH (q next sn lim:Nat) (hs:List (Nat×AO)) (sds:List (Nat×AV)) (h:T AO) (nx:Nat) (sd:T AV) (m b:Nat):Bool :=
 Bool.and (Bool.and (Nat.beq b lim) (Bool.and (Nat.beq nx next) (Nat.beq m sn))) (Bool.and (Bool.and (allH2 h hs) (allS2 sd sds)) (Bool.and (upH (putAll hs) h lim) (upS (putAll sds) sd q)))
noncomputable def leT (N q env:Nat) (ds:List Nat) (next sn lim:Nat) (hs:List (Nat×AO)) (sds:List (Nat×AV)) (s:St):Bool :=
 Bool.and (leH q next sn lim hs sds s.heap s.next s.side s.sn s.lim) (Bool.and (eqL s.ds ds) (Bool.and (Nat.blt env (2 ^ (Nat.succ N * 128))) (leE env s.env (Nat.succ N))))
section
variable {T : Out → Prop} {φ : Phi} {s : St} {N : Nat} {a : Act} {P : Program} {w : World} {C : Cx} {call : CallR}
theorem eqO2_eq {x y:Option AO} (h:eqO2 x y=true):x=y:=by
 unfold eqO2 at h
 split at h
 ·rfl
 ·obtain ⟨h1,h2⟩:=and_t h
  obtain ⟨h3,h4⟩:=and_t h2
  rw [beq_eq h1,beq_eq h3,beq_eq h4]
 ·obtain ⟨h1,h2⟩:=and_t h
  rw [beq_eq h1,eqE_eq _ _ h2]
 ·obtain ⟨h1,h2⟩:=and_t h
  rw [beq_eq h1,eqE_eq _ _ h2]
 ·rfl
 ·cases h
theorem eqA2_eq {x y:Option AV} (h:eqA2 x y=true):x=y:=by
 unfold eqA2 at h
 split at h
 ·rfl
 ·exact eqA_eq h
 ·cases h
theorem allH2_spec {hp:Ex.T AO}:∀ {l:List (Nat×AO)},allH2 hp l=true→∀ x∈l,x.1<16777216∧hp.get x.1=some x.2
 | y::l,h,x,hx=>by
  obtain ⟨h1,h2⟩:=and_t (show Bool.and (Bool.and (Nat.blt y.1 16777216) (eqO2 (hp.get y.1) (some y.2))) (allH2 hp l)=true from h)
  obtain ⟨h3,h4⟩:=and_t h1
  rcases List.mem_cons.1 hx with e | hx
  ·rw [e]; exact ⟨blt_lt h3,eqO2_eq h4⟩
  ·exact allH2_spec h2 x hx
theorem allS2_spec {sd:Ex.T AV}:∀ {l:List (Nat×AV)},allS2 sd l=true→∀ x∈l,x.1<16777216∧sd.get x.1=some x.2
 | y::l,h,x,hx=>by
  obtain ⟨h1,h2⟩:=and_t (show Bool.and (Bool.and (Nat.blt y.1 16777216) (eqA (sd.get y.1) y.2)) (allS2 sd l)=true from h)
  obtain ⟨h3,h4⟩:=and_t h1
  rcases List.mem_cons.1 hx with e | hx
  ·rw [e]; exact ⟨blt_lt h3,eqA_eq h4⟩
  ·exact allS2_spec h2 x hx
theorem upH_spec {h h':Ex.T AO}:∀ {n:Nat},upH h h' n=true→∀ i,i<n→h.get i=h'.get i
 | n+1,hh,i,hi=>by
  obtain ⟨h1,h2⟩:=brec_t (show Bool.rec (motive:=fun _=>Bool) false (upH h h' n) (eqO2 (h.get n) (h'.get n))=true from hh)
  by_cases e:i=n
  ·subst e; exact eqO2_eq h1
  ·exact upH_spec h2 i (by omega)
theorem upS_spec {h h':Ex.T AV}:∀ {n:Nat},upS h h' n=true→∀ i,i<n→h.get i=h'.get i
 | n+1,hh,i,hi=>by
  obtain ⟨h1,h2⟩:=brec_t (show Bool.rec (motive:=fun _=>Bool) false (upS h h' n) (eqA2 (h.get n) (h'.get n))=true from hh)
  by_cases e:i=n
  ·subst e; exact eqA2_eq h1
  ·exact upS_spec h2 i (by omega)
theorem leH_ok {q next sn lim : Nat} {hs : List (Nat × AO)} {sds : List (Nat × AV)} {env : Nat} {ds : List Nat} (hq : C.sn0 ≤ q) (hw : WR P C φ s w) (h : leH q next sn lim hs sds s.heap s.next s.side s.sn s.lim = true) :
    WR P C φ (litT env ds next sn lim hs sds) w ∧ s.sn = sn ∧ s.next = next ∧ s.lim = lim ∧ (∀ i, (putAll sds).get i = s.side.get i ∨ (putAll sds).get i = none) ∧ ∀ i, i < q → (putAll sds).get i = s.side.get i := by
  obtain ⟨h1, h2⟩ := and_t h
  obtain ⟨h3, h4⟩ := and_t h1
  obtain ⟨h5, h6⟩ := and_t h4
  obtain ⟨h7, h8⟩ := and_t h2
  obtain ⟨h9, h10⟩ := and_t h7
  obtain ⟨h11, h12⟩ := and_t h8
  have elim := beq_eq h3
  have enext := beq_eq h5
  have esn := beq_eq h6
  have hH := allH2_spec h9
  have hSd := allS2_spec h10
  have hUH := upH_spec h11
  have hUS := upS_spec h12
  obtain ⟨f1, f2⟩ := putAll_spec hs fun x hx => (hH x hx).1
  obtain ⟨f3, f4⟩ := putAll_spec sds fun x hx => (hSd x hx).1
  have hrow : ∀ r o, (putAll hs).get r = some o → s.heap.get r = some o := fun r o hr => (hH (r, o) (f2 r o hr)).2
  have hside : ∀ i, (putAll sds).get i = s.side.get i ∨ (putAll sds).get i = none := fun i => by
    cases hg : (putAll sds).get i with
    | none => exact .inr rfl
    | some x => exact .inl (hSd (i, x) (f4 i x hg)).2.symm
  refine ⟨?_, esn, enext, elim, hside, hUS⟩
  exact
    { full := f1
      sok := ⟨f3, fun i hi => by
        rcases hside i with e | e
        · exact e.trans (hw.sok.2 i (by rw [esn]; exact hi))
        · exact e⟩
      row := fun r o hr => by
        obtain ⟨j1, q, j2, j3, j4⟩ := hw.row r o (hrow r o hr)
        exact ⟨enext ▸ j1, q, j2, j3, j4.drop hside (Nat.le_of_eq esn)⟩
      inj := fun r r' o o' q q' k1 k2 => hw.inj r r' o o' q q' (hrow r o k1) (hrow r' o' k2)
      new := fun r hr => hw.new r (by rw [enext]; exact hr)
      rng := hw.rng
      lim := elim.symm.trans hw.lim
      limn := enext ▸ hw.limn
      low := fun r hr => (hUH r (by have h1 := hw.lim; omega)).trans (hw.low r hr)
      sn := esn ▸ hw.sn
      sdl := fun i hi => (hUS i (Nat.lt_of_lt_of_le hi hq)).trans (hw.sdl i hi)
      os := hw.os
      tape := hw.tape
      output := hw.output
      size := hw.size
      frame := hw.frame
      gid := fun r i k hr => hw.gid r i k (hrow r _ hr)
      ghl := fun i D hi => by rw [show (litT env ds next sn lim hs sds).next = s.next from enext.symm]; exact hw.ghl i D hi
      gw := hw.gw
      b0 := hw.b0 }
theorem leT_ok {q env next sn lim:Nat} {ds:List Nat} {hs:List (Nat×AO)} {sds:List (Nat×AV)} (hq:C.sn0≤q) (hS:SR P C N φ s a w) (h:leT N q env ds next sn lim hs sds s=true) :
  SR P C N φ (litT env ds next sn lim hs sds) a w∧s.sn=sn∧∀ i,i<q→(putAll sds).get i=s.side.get i:=by
 obtain ⟨h1,h2⟩:=and_t h
 obtain ⟨h3,h4⟩:=and_t h2
 obtain ⟨h5,h6⟩:=and_t h4
 have eds:=eqL_eq _ _ h3
 have henv:=blt_lt h5
 have hE:=leE_spec h6
 obtain ⟨k1,k2,k3,k4,k5,k6⟩:=leH_ok (env:=env) (ds:=ds) hq hS.wr h1
 refine ⟨⟨k1,⟨hS.er.size,fun t ht=>?_⟩,?_⟩,k2,k6⟩
 ·have ht:dg env (t+1)≠0:=ht
  have hlt:t+1<N+1:=by
   refine Nat.lt_of_not_le fun hge=>ht ?_
   rw [dg_eq,Nat.div_eq_of_lt (Nat.lt_of_lt_of_le henv (Nat.pow_le_pow_right (by decide) (by omega))),Nat.zero_mod]
  rcases hE (t+1) hlt with e | e
  ·exact absurd e ht
  ·show ∃ v,a.tmps[t]? = some v∧CV φ (putAll sds) sn (dg env (t+1)) v
   rw [e] at ht ⊢
   obtain ⟨v,g1,g2⟩:=hS.er.slot t ht
   exact ⟨v,g1,g2.drop k5 (Nat.le_of_eq k2)⟩
 ·show DR φ ds a.defers
  rw [← eds]; exact hS.dr
end
def Tri (P:Program) (N:Nat) (s0:St) (en:Nat) (c:Code) (s s':St):Prop :=
 ∀ (C:Cx) (φ0 φ:Phi) (a:Act) (w:World),C.sn0≤s0.sn→Ext φ0 s0.side s0.sn φ s.side s.sn→SR P C N φ s a w →
  c.wpIn (Fr none) 0 P (fun e a' w'=>exN e=some en∧∃ φ',Ext φ0 s0.side s0.sn φ' s'.side s'.sn∧SR P C N φ' s' a' w') a w
def TriR (P:Program) (N:Nat) (s0:St) (en:Nat) (c:Code) (m:Nat) (s s':St):Prop :=
 ∀ (C:Cx) (φ0 φ:Phi) (a:Act) (w:World),C.sn0≤s0.sn→Ext φ0 s0.side s0.sn φ s.side s.sn→SR P C N φ s a w →
  Code.roundsIn (Fr none) 0 P c (fun e a' w'=>exN e=some en∧∃ φ',Ext φ0 s0.side s0.sn φ' s'.side s'.sn∧SR P C N φ' s' a' w') m a w
noncomputable def chk (N q env:Nat) (ds:List Nat) (next sn lim:Nat) (hs:List (Nat×AO)) (sds:List (Nat×AV)) (s:St):R:=Bool.rec bad (some []) (leT N q env ds next sn lim hs sds s)
noncomputable def preS (P:Program) (F N:Nat) (cm:CallM):Nat→Code→St→(St→R)→R
 | 0,_,s,k=>k s
 | n+1,.seq a b,s,k=>codeS P F N a cm s fun e s=>seqT e (fun s=>preS P F N cm n b s k) (fun _ _=>bad) s
 | _,_,_,_=>bad
noncomputable def repS (P:Program) (F N:Nat) (cm:CallM) (c:Code) (k:St→R) (n:Nat):St→R :=
 Nat.rec (motive:=fun _=>St→R) k (fun _ ih s=>codeS P F N c cm s fun e s=>seqT e ih (fun _ _=>bad) s) n
section
variable {P : Program} {N F n m en : Nat} {s s1 s' s0 : St} {c x y : Code} {call : CallR} {cm : CallM} {env next sn lim : Nat} {ds : List Nat} {hs : List (Nat × AO)} {sds : List (Nat × AV)}
theorem preS_ok:∀ (n:Nat) (c:Code) (s:St) (k:St→R),preS P F N cm n c s k=preX (callOf cm) P F N n c s k
 | 0,_,_,_=>rfl
 | n+1,.seq a b,s,k=>by
  show codeS P F N a cm s _=codeX a (callOf cm) P F N s _
  rw [codeS_ok]
  exact codeX_congr fun e s=>by rw [show (fun s=>preS P F N cm n b s k)=fun s=>preX (callOf cm) P F N n b s k from funext fun s=>preS_ok n b s k]
 | n+1,.skip,_,_=>rfl
 | n+1,.region _ _ _,_,_=>rfl
 | n+1,.cond _ _ _,_,_=>rfl
 | n+1,.block _ _,_,_=>rfl
 | n+1,.loop _,_,_=>rfl
 | n+1,.rangeFunc _ _ _ _,_,_=>rfl
 | n+1,.exit _,_,_=>rfl
 | n+1,.scope _,_,_=>rfl
 | n+1,.label _,_,_=>rfl
 | n+1,.goto _,_,_=>rfl
 | n+1,.ret,_,_=>rfl
 | n+1,.refuse _,_,_=>rfl
theorem Tri.run (hm:P.follows .mixedOrders=true) (hc:CallOK P (callOf cm)) (hok:okC N c=true)
  (h:codeS P F N c cm s (fun e t=>Bool.rec bad (chk N s0.sn env ds next sn lim hs sds t) (Nat.beq e en))=some []):Tri P N s0 en c s (litT env ds next sn lim hs sds):=by
 intro C φ0 φ a w h1 hE hS
 rw [codeS_ok] at h
 refine Go.wpIn_mono (code_ok hm hc F N none c C φ s a w (fun _=>True) _ hok (fun h=>nomatch h) hS ⟨[],h,fun _ hh=>nomatch hh⟩) fun e a' w' hq=>?_
 obtain ⟨en',hen,φ',t,he',hS',hk⟩:=hq
 obtain ⟨h2,hk⟩:=ok_bool hk
 obtain ⟨h3,_⟩:=ok_bool hk
 obtain ⟨h4,h5,h6⟩:=leT_ok h1 hS' h3
 have hE2:=hE.trans he'
 exact ⟨beq_eq h2 ▸ hen,φ',⟨hE2.rows,h5 ▸ hE2.le,fun i hi=>(h6 i hi).trans (hE2.side i hi)⟩,h4⟩
theorem Tri.pre (n : Nat) (hm : P.follows .mixedOrders = true) (hc : CallOK P (callOf cm)) (hok : okC N c = true)
    (h : preS P F N cm n c s (chk N s0.sn env ds next sn lim hs sds) = some []) (hr : Tri P N s0 en (restN n c) (litT env ds next sn lim hs sds) s') : Tri P N s0 en c s s' := by
  intro C φ0 φ a w h1 hE hS
  rw [preS_ok] at h
  have key : ∀ (n : Nat) (c : Code) (φ : Phi) (s : St) (a : Act) (w : World), okC N c = true → Ext φ0 s0.side s0.sn φ s.side s.sn → SR P C N φ s a w → Ok (fun _ => True) (preX (callOf cm) P F N n c s (chk N s0.sn env ds next sn lim hs sds)) →
      Tri P N s0 en (restN n c) (litT env ds next sn lim hs sds) s' → c.wpIn (Fr none) 0 P (fun e a' w' => exN e = some en ∧ ∃ φ', Ext φ0 s0.side s0.sn φ' s'.side s'.sn ∧ SR P C N φ' s' a' w') a w := by
    intro n
    induction n with
    | zero =>
      intro c φ s a w hok hE hS h hr
      obtain ⟨h3, _⟩ := ok_bool h
      obtain ⟨h4, h5, h6⟩ := leT_ok h1 hS h3
      exact hr C φ0 φ a w h1 ⟨hE.rows, h5 ▸ hE.le, fun i hi => (h6 i hi).trans (hE.side i hi)⟩ h4
    | succ n ih =>
      intro c φ s a w hok hE hS h hr
      cases c with
      | seq x y =>
        obtain ⟨hx, hy⟩ := okC_seq hok
        have h : Ok (fun _ => True) (codeX x (callOf cm) P F N s fun e s => seqT e (fun s => preX (callOf cm) P F N n y s (chk N s0.sn env ds next sn lim hs sds)) (fun _ _ => bad) s) := h
        refine wpIn_seq (Go.wpIn_mono (code_ok hm hc F N none x C φ s a w _ _ hx (fun h => nomatch h) hS h) fun e a' w' hq => ?_)
        obtain ⟨en', hen, φ', t, he', hS', hk⟩ := hq
        cases e with
        | normal => cases hen; exact ih y φ' t a' w' hy (hE.trans he') hS' hk hr
        | ret => cases hen; exact (ok_bad hk).elim
        | exit i =>
          cases hen
          rw [show 2 + 2 * i = (1 + 2 * i) + 1 by omega] at hk
          exact (ok_bad hk).elim
        | goto i =>
          cases hen
          rw [show 3 + 2 * i = (2 + 2 * i) + 1 by omega] at hk
          exact (ok_bad hk).elim
        | panic c => cases hen
        | outgrown => cases hen
      | _ => exact (ok_bad h).elim
  exact key n c φ s a w hok hE hS ⟨[], h, fun _ hh => nomatch hh⟩ hr
theorem Tri.seq (h1 : Tri P N s0 0 x s s1) (h2 : Tri P N s0 en y s1 s') : Tri P N s0 en (.seq x y) s s' := fun C φ0 φ a w hq hE hS =>
  wpIn_seq (Go.wpIn_mono (h1 C φ0 φ a w hq hE hS) fun e a' w' hh => by
    obtain ⟨he, φ', hE', hS'⟩ := hh
    cases e with
    | normal => exact h2 C φ0 φ' a' w' hq hE' hS'
    | ret => cases he
    | exit i => have he : some (2 + 2 * i) = some 0 := he; simp at he
    | goto i => have he : some (3 + 2 * i) = some 0 := he; simp at he
    | panic c => cases he
    | outgrown => cases he)
theorem TriR.last (h:Tri P N s0 (en+1) c s s'):TriR P N s0 (en+1) c 1 s s':=fun C φ0 φ a w hq hE hS=>by
 rw [roundsIn_succ]
 refine Go.wpIn_mono (h C φ0 φ a w hq hE hS) fun e a' w' hh=>?_
 cases e with
 | normal=>obtain ⟨he,_⟩:=hh; cases he
 | ret=>exact hh
 | exit i=>exact hh
 | goto i=>exact hh
 | panic c=>exact hh
 | outgrown=>exact hh
theorem TriR.rep (n : Nat) (hm : P.follows .mixedOrders = true) (hc : CallOK P (callOf cm)) (hok : okC N c = true)
    (h : repS P F N cm c (chk N s0.sn env ds next sn lim hs sds) n s = some []) (hr : TriR P N s0 en c m (litT env ds next sn lim hs sds) s') : TriR P N s0 en c (m + n) s s' := by
  intro C φ0 φ a w h1 hE hS
  have key : ∀ (n : Nat) (φ : Phi) (s : St) (a : Act) (w : World), Ext φ0 s0.side s0.sn φ s.side s.sn → SR P C N φ s a w → Ok (fun _ => True) (repS P F N cm c (chk N s0.sn env ds next sn lim hs sds) n s) →
      Code.roundsIn (Fr none) 0 P c (fun e a' w' => exN e = some en ∧ ∃ φ', Ext φ0 s0.side s0.sn φ' s'.side s'.sn ∧ SR P C N φ' s' a' w') (m + n) a w := by
    intro n
    induction n with
    | zero =>
      intro φ s a w hE hS h
      obtain ⟨h3, _⟩ := ok_bool (show Ok _ (Bool.rec bad (some []) (leT N s0.sn env ds next sn lim hs sds s)) from h)
      obtain ⟨h4, h5, h6⟩ := leT_ok h1 hS h3
      exact hr C φ0 φ a w h1 ⟨hE.rows, h5 ▸ hE.le, fun i hi => (h6 i hi).trans (hE.side i hi)⟩ h4
    | succ n ih =>
      intro φ s a w hE hS h
      have h : Ok (fun _ => True) (codeS P F N c cm s fun e s => seqT e (repS P F N cm c (chk N s0.sn env ds next sn lim hs sds) n) (fun _ _ => bad) s) := h
      rw [codeS_ok] at h
      show Code.roundsIn (Fr none) 0 P c _ ((m + n) + 1) a w
      rw [roundsIn_succ]
      refine Go.wpIn_mono (code_ok hm hc F N none c C φ s a w _ _ hok (fun h => nomatch h) hS h) fun e a' w' hq => ?_
      obtain ⟨en', hen, φ', t, he', hS', hk⟩ := hq
      cases e with
      | normal => cases hen; exact ih φ' t a' w' (hE.trans he') hS' hk
      | ret => cases hen; exact (ok_bad hk).elim
      | exit i =>
        cases hen
        rw [show 2 + 2 * i = (1 + 2 * i) + 1 by omega] at hk
        exact (ok_bad hk).elim
      | goto i =>
        cases hen
        rw [show 3 + 2 * i = (2 + 2 * i) + 1 by omega] at hk
        exact (ok_bad hk).elim
      | panic c => cases hen
      | outgrown => cases hen
  exact key n φ s a w hE hS ⟨[], h, fun _ hh => nomatch hh⟩
theorem Tri.loop {i : Nat} (h : TriR P N s0 (2 + 2 * i) c m s s') : Tri P N s0 0 (.block i (.loop c)) s s' := fun C φ0 φ a w hq hE hS =>
  wpIn_block (wpIn_loop_rounds m (by
    have := h C φ0 φ a w hq hE hS
    have mono : ∀ (m : Nat) (a : Act) (w : World), Code.roundsIn (Fr none) 0 P c (fun e a' w' => exN e = some (2 + 2 * i) ∧ ∃ φ', Ext φ0 s0.side s0.sn φ' s'.side s'.sn ∧ SR P C N φ' s' a' w') m a w →
        Code.roundsIn (Fr none) 0 P c (Exit.inBlock i fun e a' w' => exN e = some 0 ∧ ∃ φ', Ext φ0 s0.side s0.sn φ' s'.side s'.sn ∧ SR P C N φ' s' a' w') m a w := by
      intro m
      induction m with
      | zero => intro a w h; exact h
      | succ m ih =>
        intro a w h
        rw [roundsIn_succ] at h ⊢
        refine Go.wpIn_mono h fun e a' w' hh => ?_
        cases e with
        | normal => exact ih a' w' hh
        | ret => obtain ⟨he, _⟩ := hh; have he : some 1 = some (2 + 2 * i) := he; simp at he; omega
        | exit j =>
          obtain ⟨he, hh⟩ := hh
          have he : some (2 + 2 * j) = some (2 + 2 * i) := he
          have e1 : j = i := by simp at he; omega
          show (if j = i then _ else _)
          rw [if_pos e1]
          exact ⟨rfl, hh⟩
        | goto j => obtain ⟨he, _⟩ := hh; have he : some (3 + 2 * j) = some (2 + 2 * i) := he; simp at he; omega
        | panic c => obtain ⟨he, _⟩ := hh; cases he
        | outgrown => obtain ⟨he, _⟩ := hh; cases he
    exact mono m a w this))
end
end Go.Ex
namespace Go.Ex
open Go.Fip
open Go.RowKit
noncomputable def callOn (P:Program) (F:Nat) (O:CallR) (D:Nat):CallR:=Nat.rec (motive:=fun _=>CallR) O (fun _ ih f n c s k=>callT f n c ih P F s k) D
noncomputable def callMn (P:Program) (F:Nat) (O:CallM) (D:Nat):CallM:=Nat.rec (motive:=fun _=>CallM) O (fun _ ih f n c m k=>callTW P F f n c ih m k) D
noncomputable def isF0 (g n₁ c₁ n₃ c₃:Nat):AV→Bool
 | .fn (.func g') a b d e=>Bool.and (Nat.beq g' g) (Bool.and (Bool.and (Nat.beq a n₁) (Nat.beq b c₁)) (Bool.and (Nat.beq d n₃) (Nat.beq e c₃)))
 | _=>false
noncomputable def entE (n₁ c₁ n c c₃:Nat):Nat:=Nat.shiftLeft (Nat.add c₁ (Nat.shiftLeft (Nat.add c (Nat.shiftLeft c₃ (Nat.mul n 128))) (Nat.mul n₁ 128))) 128
noncomputable def orM (P:Program) (base:CallM) (fn:Func) (g n₁ c₁ n c n₃ c₃ next sn lim:Nat) (hs:List (Nat×AO)) (sds:List (Nat×AV)) (en:Nat) (s2:St):CallM:=fun f n' c' m k =>
 Bool.rec (base f n' c' m k) (dsK m fun ds=>slowLeave P fn ds k en s2.env ⟨s2.ds,s2.heap,s2.next,s2.side,s2.sn,lim⟩)
  (Bool.and (Bool.and (isF0 g n₁ c₁ n₃ c₃ f) (Bool.and (Nat.beq n' n) (Nat.beq c' c))) (Mem.rec (motive:=fun _=>Bool) (fun _ h nx sd m b=>leH sn next sn lim hs sds h nx sd m b) m))
section
variable {T : Out → Prop} {φ : Phi} {s : St} {N : Nat} {a : Act} {P : Program} {w : World} {C : Cx} {call : CallR} {F : Nat}
theorem callOn_ok (hP:Named P) (hm:P.follows .mixedOrders=true) {O:CallR} (hO:CallOK P O):∀ D,CallOK P (callOn P F O D)
 | 0=>hO
 | D+1=>fun C φ s w T k av v n c aS0 hw hav hn hc has h=>by
  have ih:=callOn_ok hP hm hO D
  have h:Ok T (callT av n c (callOn P F O D) P F s k):=h
  cases av with
  | fn f n₁ c₁ n₃ c₃ =>
   obtain ⟨xs,ys,rfl,h1,h3,b1,b3,hx,hy⟩:=hav
   cases f with
   | func g=>exact ok_fn hP hm ih hw h1 hn h3 b1 hc b3 hx has hy h
   | _=>exact (ok_bad h).elim
  | yd l =>
   obtain ⟨q,hq,hl,rfl⟩:=hav
   exact ok_yield hm ih hw hq hl hn has h
  | _=>exact (ok_bad h).elim
theorem callMn_ok (O:CallM):∀ D,callOn P F (callOf O) D=callOf (callMn P F O D)
 | 0=>rfl
 | D+1=>funext fun f=>funext fun n=>funext fun c=>funext fun s=>funext fun k=>by
  have ih:=callMn_ok O D
  cases s with
  | mk e ds h nx sd sn b =>
   show callT f n c (callOn P F (callOf O) D) P F _ k=callTW P F f n c (callMn P F O D) ⟨ds,h,nx,sd,sn,b⟩ (toS e k)
   rw [ih]
   cases f with
   | fn f n₁ c₁ n₃ c₃ =>
    cases f with
    | func g=>exact (fn_ok g (callMn P F O D) n₁ c₁ n c n₃ c₃ e ⟨ds,h,nx,sd,sn,b⟩ k).symm
    | _=>rfl
   | yd l =>
    show yieldK (callOf (callMn P F O D)) P F l n c (stOf e ⟨ds,h,nx,sd,sn,b⟩) k=yieldS P F l n c (callMn P F O D) (stOf 0 ⟨ds,h,nx,sd,sn,b⟩) fun v s=>memK s fun _ m=>toS e k v m
    rw [yield_ok,yield_env]
   | _=>rfl
theorem callM_good (hP:Named P) (hm:P.follows .mixedOrders=true) (D:Nat):CallOK P (callOf (callM P F D)):=by
 rw [← callM_ok]; exact call_ok hP hm F D
theorem callMn_good (hP:Named P) (hm:P.follows .mixedOrders=true) {O:CallM} (hO:CallOK P (callOf O)) (D:Nat):CallOK P (callOf (callMn P F O D)):=by
 rw [← callMn_ok]; exact callOn_ok hP hm hO D
theorem isF0_eq {g n₁ c₁ n₃ c₃:Nat} {f:AV} (h:isF0 g n₁ c₁ n₃ c₃ f=true):f=.fn (.func g) n₁ c₁ n₃ c₃:=by
 unfold isF0 at h
 split at h
 ·obtain ⟨h1,h2⟩:=and_t h
  obtain ⟨h3,h4⟩:=and_t h2
  obtain ⟨h5,h6⟩:=and_t h3
  obtain ⟨h7,h8⟩:=and_t h4
  rw [beq_eq h1,beq_eq h5,beq_eq h6,beq_eq h7,beq_eq h8]
 ·cases h
theorem WR.atb {b:Nat} (h:WR P C φ s w) (hb:b≤s.next):WR P (C.at b s) φ ⟨s.env,s.ds,s.heap,s.next,s.side,s.sn,b⟩ w :=
 { h with lim:=rfl,limn:=hb,low:=fun _ _=>rfl,sn:=Nat.le_refl _,sdl:=fun _ _=>rfl }
theorem or_ok (hP : Named P) (hm : P.follows .mixedOrders = true) {base : CallM} (hbase : CallOK P (callOf base)) {fn : Func} {cd : Code} {g n₁ c₁ n c n₃ c₃ next sn lim lim' en : Nat} {hs : List (Nat × AO)} {sds : List (Nat × AV)} {s2 : St}
    (hf : P.funcs[g]? = some fn) (hb : fn.body = some cd) (hle : Nat.ble (n₁ + (n + n₃)) fn.ntmps = true) (hl : Nat.ble lim lim' = true) (hl' : Nat.ble lim' next = true) (hen : Nat.ble en 1 = true)
    (htri : Tri P fn.ntmps (litT 0 [] next sn lim hs sds) en cd (litT (entE n₁ c₁ n c c₃) [] next sn lim' hs sds) s2) : CallOK P (callOf (orM P base fn g n₁ c₁ n c n₃ c₃ next sn lim hs sds en s2)) := by
  intro C φ s w T k av v n' c' aS0 hw hav hn hc has h
  cases s with
  | mk e ds hp nx sd m b =>
    have h : Ok T (Bool.rec (motive := fun _ => R) (base av n' c' ⟨ds, hp, nx, sd, m, b⟩ (toS e k)) (slowLeave P fn ds (toS e k) en s2.env ⟨s2.ds, s2.heap, s2.next, s2.side, s2.sn, lim⟩)
      (Bool.and (Bool.and (isF0 g n₁ c₁ n₃ c₃ av) (Bool.and (Nat.beq n' n) (Nat.beq c' c))) (leH sn next sn lim hs sds hp nx sd m b))) := h
    cases hx : Bool.and (Bool.and (isF0 g n₁ c₁ n₃ c₃ av) (Bool.and (Nat.beq n' n) (Nat.beq c' c))) (leH sn next sn lim hs sds hp nx sd m b) with
    | false => rw [hx] at h; exact hbase C φ ⟨e, ds, hp, nx, sd, m, b⟩ w T k av v n' c' aS0 hw hav hn hc has h
    | true =>
      rw [hx] at h
      have hlv : Ok T (slowLeave P fn ds (toS e k) en s2.env ⟨s2.ds, s2.heap, s2.next, s2.side, s2.sn, lim⟩) := h
      rw [slowLeave_ok] at hlv
      obtain ⟨x1, x2⟩ := and_t hx
      obtain ⟨x3, x4⟩ := and_t x1
      obtain ⟨x5, x6⟩ := and_t x4
      have e1 := isF0_eq x3
      have e2 := beq_eq x5
      have e3 := beq_eq x6
      subst e1; subst e2; subst e3
      obtain ⟨xs, ys, rfl, h1, h3, b1, b3, hxs, hys⟩ := hav
      have hsn : C.sn0 ≤ sn := by
        have h0 := hw.sn
        obtain ⟨y1, y2⟩ := and_t x2
        obtain ⟨y3, y4⟩ := and_t y1
        obtain ⟨y5, y6⟩ := and_t y4
        have : m = sn := beq_eq y6
        exact this ▸ h0
      obtain ⟨k1, k2, k3, k4, k5, k6⟩ := leH_ok (env := 0) (ds := []) hsn hw x2
      refine ⟨.enter g (xs ++ aS0 ++ ys), ?_, .inl ⟨g, _, rfl, ?_⟩⟩
      · have := ent hf (hP g fn hf) hb (xs ++ aS0 ++ ys) w
        simpa [Deferred.ofValue, invoke, Result.andThen] using this
      · have cv : ∀ {c : Nat} {u : Value}, CV φ sd m c u → CV φ (putAll sds) sn c u := fun h => h.drop k5 (Nat.le_of_eq k2)
        have hwb := k1.atb (b := lim') (show lim' ≤ next from ble_le hl')
        have hS : SR P (C.at lim' (litT 0 [] next sn lim hs sds)) fn.ntmps φ (litT (entE n₁ c₁ n' c' c₃) [] next sn lim' hs sds)
            { tmps := (xs ++ aS0 ++ ys) ++ Array.replicate (fn.ntmps - (xs ++ aS0 ++ ys).size) undef, defers := [] } w :=
          ⟨hwb.env _ _, er_enter h1 hn h3 b1 hc b3 (fun i u hi => cv (hxs i u hi)) (fun i u hi => cv (has i u hi)) (fun i u hi => cv (hys i u hi)) (ble_le hle), trivial⟩
        have hbody := htri (C.at lim' (litT 0 [] next sn lim hs sds)) φ φ _ w (show sn ≤ sn from Nat.le_refl _) (show Ext φ (putAll sds) sn φ (putAll sds) sn from .refl) hS
        refine ok_fnB (env0 := entE n₁ c₁ n' c' c₃) hf hb (Go.wpIn_mono hbody fun ex a' w' hq => ?_)
        obtain ⟨hex, φ', hE, hS'⟩ := hq
        have hfr := k1.from (b := lim') (lim := lim) (ble_le hl) rfl hS'.wr
        refine ⟨en, hex, φ', ⟨s2.env, s2.ds, s2.heap, s2.next, s2.side, s2.sn, lim⟩, ⟨hE.rows, ?_, fun i hi => ?_⟩, ⟨hfr, hS'.er, hS'.dr⟩, hlv⟩
        · show m ≤ s2.sn
          have h8 := hE.le
          have h8 : sn ≤ s2.sn := h8
          have k2 : m = sn := k2
          omega
        · have hi : i < m := hi
          have k2 : m = sn := k2
          exact (hE.side i (by show i < sn; omega)).trans (k6 i (by omega))
theorem Good.pre {fn:Func} {c:Code} {s:St} {cm:CallM} {n env next sn lim:Nat} {ds:List Nat} {hs:List (Nat×AO)} {sds:List (Nat×AV)} (hm:P.follows .mixedOrders=true) (hc:CallOK P (callOf cm)) (hok:okC fn.ntmps c=true)
  (h:preS P F fn.ntmps cm n c s (chk fn.ntmps 0 env ds next sn lim hs sds)=some []) (hg:Good P fn (restN n c) (litT env ds next sn lim hs sds)):Good P fn c s:=fun w0 φ a w hS=>by
 rw [preS_ok] at h
 refine ok_pre (T:=fun _=>True) (fun c=>code_ok hm hc F fn.ntmps none c) n c φ s a w _ hok hS ⟨[],h,fun _ hh=>nomatch hh⟩ fun φ' s' a' w' hS' hk=>?_
 obtain ⟨h1,_⟩:=ok_bool (show Ok _ (Bool.rec bad (some []) (leT fn.ntmps 0 env ds next sn lim hs sds s')) from hk)
 exact hg w0 φ' a' w' (leT_ok (Nat.le_refl _) hS' h1).1
theorem Good.end {fn:Func} {c:Code} {s:St} {cm:CallM} (hm:P.follows .mixedOrders=true) (hc:CallOK P (callOf cm)) (hok:okC fn.ntmps c=true)
  (h:codeS P F fn.ntmps c cm s (leave P fn 0 [] fun c _=>Bool.rec bad (some []) (Nat.beq c 18))=some []):Good P fn c s:=fun w0 φ a w hS=>by
 rw [codeS_ok] at h
 exact Go.wpIn_mono (code_ok hm hc F fn.ntmps none c (cx0 w0) φ s a w (fun _=>True) _ hok (fun h=>nomatch h) hS ⟨[],h,fun _ hh=>nomatch hh⟩) fun e a' w' hq=>by
  obtain ⟨en,hen,φ',s',he',hS',hk⟩:=hq
  exact ⟨en,hen,φ',s',ext0,hS',hk⟩
end
noncomputable def cE:List (Nat×Nat)→Nat
 | []=>0
 | x::l=>Nat.add (Nat.shiftLeft x.2 (Nat.mul (Nat.succ x.1) 128)) (cE l)
noncomputable def cS (r o n c:Nat):Nat:=Nat.add (Nat.mul (Nat.add r (Nat.mul 16777216 (Nat.add o (Nat.mul 16777216 (Nat.add n (Nat.mul 16777216 c)))))) 16) 4
noncomputable def mks:List Nat→List (Nat×AO)→List (Nat×AO)
 | [],h=>h
 | r::l,h=>(r,.mark)::mks l h
def hdC:Code→Code
 | .seq a _=>a
 | c=>c
def tlC:Code→Code
 | .seq _ b=>b
 | c=>c
def lpC:Code→Code
 | .block _ (.loop c)=>c
 | c=>c
end Go.Ex
namespace Go.Ex
open Go.Fip
open Go.RowKit
section
variable {T : Out → Prop} {φ : Phi} {s : St} {P : Program} {w : World} {C : Cx} {F : Nat} {k : Nat → St → R}
noncomputable def memOf (s:St):Mem:=⟨s.ds,s.heap,s.next,s.side,s.sn,s.lim⟩
theorem callOf_at (cm:CallM) (f:AV) (n c:Nat) (s:St) (k:Nat→St→R):callOf cm f n c s k=cm f n c (memOf s) (toS s.env k):=by cases s; rfl
theorem toS_at (s:St) (c:Nat):toS s.env k c (memOf s)=k c s:=by cases s; rfl
def AnsOK (P:Program) (g:Nat) (a:Ans):Prop:=∀ (C:Cx) (φ:Phi) (s:St) (w:World) (T:Out→Prop) (k:Nat→St→R) (n c:Nat) (az:Array Value) (other:R),
 WR P C φ s w→az.size=n→c<2 ^ (n * 128)→(∀ (i:Nat) (u:Value),az[i]? = some u→CV φ s.side s.sn (dg c i) u)→Ok T (a n c (memOf s) (toS s.env k) other) →
 Ok T other∨CallRes P C φ s w T k (.func (.func g) #[] #[]) az
theorem nil_arr {az:Array Value} (h:az.size=0):az = #[]:=by simpa using h
theorem orS_ok {g:Nat} {a:Ans} {cm:CallM} (ha:AnsOK P g a) (hc:CallOK P (callOf cm)):CallOK P (callOf (orS g a cm)):=by
 intro C φ s w T k av v n c az hw hav hn hlt has h
 rw [callOf_at] at h
 have other:Ok T (cm av n c (memOf s) (toS s.env k))→CallRes P C φ s w T k v az:=fun h=>hc C φ s w T k av v n c az hw hav hn hlt has (by rw [callOf_at]; exact h)
 unfold orS at h
 split at h
 ·rename_i g' x y
  cases hg:Nat.beq g' g with
  | false=>rw [hg] at h; exact other h
  | true =>
   rw [hg] at h
   have hg:=beq_eq hg
   subst hg
   rcases ha C φ s w T k n c az _ hw hn hlt has h with h | h
   ·exact other h
   ·obtain ⟨xs,ys,rfl,h1,h3,_⟩:=hav
    rw [nil_arr h1,nil_arr h3]
    exact h
 ·exact other h
def AllOK (P:Program) (l:List (Nat×Ans)):Prop:=∀ p∈l,AnsOK P p.1 p.2
theorem orL_ok:∀ {l:List (Nat×Ans)} {cm:CallM},AllOK P l→CallOK P (callOf cm)→CallOK P (callOf (orL l cm))
 | [],cm,_,hc=>hc
 | p::l,cm,hl,hc=>orS_ok (hl p (by simp)) (orL_ok (fun q hq=>hl q (by simp [hq])) hc)
theorem callO_good (hP:Named P) (hm:P.follows .mixedOrders=true) {l:List (Nat×Ans)} (hl:AllOK P l):∀ D,CallOK P (callOf (callO P F (orL l) D))
 | 0=>fun C φ s w T k av v n c az hw hav hn hlt has h=>(ok_bad (T:=T) (by rw [callOf_at] at h; exact h)).elim
 | D+1=>orL_ok hl (callMn_good hP hm (callO_good hP hm hl D) 1)
theorem wr_below {w':World} (hw:WR P C φ s w) (hb:Below w.heap.size w w'):WR P C φ s w' where
 full:=hw.full
 sok:=hw.sok
 row:=fun r o hr=>by
  obtain ⟨h1,q,h2,h3,h4⟩:=hw.row r o hr
  exact ⟨h1,q,h2,h3,h4.block (hb.block _ h4.lt)⟩
 inj:=hw.inj
 new:=hw.new
 rng:=fun r q h=>Nat.lt_of_lt_of_le (hw.rng r q h) hb.size
 lim:=hw.lim
 limn:=hw.limn
 low:=hw.low
 sn:=hw.sn
 sdl:=hw.sdl
 os:=hb.os.trans hw.os
 tape:=hb.tape.trans hw.tape
 output:=hb.output.trans hw.output
 size:=Nat.le_trans hw.size hb.size
 frame:=fun b h=>by
  obtain ⟨h1,h2⟩:=hw.frame b h
  exact ⟨Nat.lt_of_lt_of_le h1 hb.size,(hb.block _ h1).trans h2⟩
 gid:=hw.gid
 ghl:=hw.ghl
 gw:=hw.gw.keep (fun b h=>hb.block _ (Nat.lt_of_lt_of_le h hw.gw.size)) hb.size
 b0:=Nat.le_trans hw.b0 hb.size
theorem fn_res {g : Nat} {az : Array Value} {Q : Value → World → Prop} (hF : Go.Fip.Fn P g az w Q) (hR : ∀ v w', Below w.heap.size w w' → Q v w' → RetQ P C φ s T k (.returned v) w') : CallRes P C φ s w T k (.func (.func g) #[] #[]) az :=
  ⟨.enter g az, by simpa [Deferred.ofValue, invoke, Result.andThen] using hF.enters w, .inl ⟨g, az, rfl, CallsIn.mono hF.calls fun e w' ⟨v, he, hb, hQ⟩ => by
    subst he; exact hR v w' hb (hQ w' ⟨rfl, rfl, rfl, Nat.le_refl _, fun _ _ _ => rfl⟩)⟩⟩
theorem ansC_ok {o:Option Nat} {other:R} {g:Nat} {az:Array Value} (hw:WR P C φ s w) (hF:∀ c,o=some c→Go.Fip.Fn P g az w (fun v _=>CV φ s.side s.sn c v))
  (h:Ok T (ansC o (memOf s) (toS s.env k) other)):Ok T other∨CallRes P C φ s w T k (.func (.func g) #[] #[]) az:=by
 cases o with
 | none=>exact .inl h
 | some c =>
  have h:Ok T (toS s.env k c (memOf s)):=h
  rw [toS_at] at h
  exact .inr (fn_res (hF c rfl) fun v w' hb hv=>⟨v,c,φ,s,rfl,.refl,wr_below hw hb,rfl,rfl,hv,h⟩)
theorem ansV_ok {o:Option Value} {other:R} {g:Nat} {az:Array Value} (hw:WR P C φ s w) (hF:∀ v,o=some v→Go.Fip.Fn P g az w (fun u _=>u=v))
  (h:Ok T (ansV o (memOf s) (toS s.env k) other)):Ok T other∨CallRes P C φ s w T k (.func (.func g) #[] #[]) az:=by
 cases o with
 | none=>exact .inl h
 | some v =>
  refine .inr (fn_res (hF v rfl) fun u w' hb hu=>?_)
  subst hu
  have h:Ok T (enc (AV.of u) (stOf 0 (memOf s)) fun c s'=>memK s' fun _ m=>toS s.env k c m):=h
  have hw0:WR P C φ (stOf 0 (memOf s)) w':=(wr_below hw hb).env 0 s.ds
  obtain ⟨c,s',hg,_,hc,hk⟩:=ok_enc hw0.sok (AV.of_rel (φ:=φ) u) h
  have hk:Ok T (k c ⟨s.env,s'.ds,s'.heap,s'.next,s'.side,s'.sn,s'.lim⟩):=by cases s'; exact hk
  exact ⟨u,c,φ,⟨s.env,s'.ds,s'.heap,s'.next,s'.side,s'.sn,s'.lim⟩,rfl,hg.ext φ,(hw0.sg hg).env s.env s'.ds,rfl,hg.ds,hc,hk⟩
theorem ans_or {a b:R} {Q:Prop} (h1:Ok T b∨Q) (h2:Ok T b→Ok T a∨Q):Ok T a∨Q:=h1.elim h2 .inr
end
end Go.Ex
namespace Go.Ex
open Go.Fip
theorem digN_eq:∀ (f n:Nat) (l:List Nat),n<10 ^ (f+1)→digN (f+1) n l=(Go.Fip.B.digF f n).map UInt8.toNat++l
 | f,n,l,h=>by
  have e:digN (f+1) n l=Bool.rec (motive:=fun _=>List Nat) (digN f (n / 10) (Nat.add 48 (Nat.mod n 10)::l)) (Nat.add 48 n::l) (Nat.blt n 10):=rfl
  have hd:(Go.Fip.B.dg n).toNat=48+n % 10:=Go.Fip.B.dg_val n
  rw [e]
  cases hb:Nat.blt n 10 with
  | true =>
   have hn:n<10:=blt_lt hb
   have hm:n % 10=n:=Nat.mod_eq_of_lt hn
   cases f with
   | zero =>
    show Nat.add 48 n::l=[(Go.Fip.B.dg n).toNat]++l
    rw [hd,hm]; rfl
   | succ f =>
    unfold Go.Fip.B.digF
    rw [if_pos hn]
    show Nat.add 48 n::l=[(Go.Fip.B.dg n).toNat]++l
    rw [hd,hm]; rfl
  | false =>
   have hn:¬ n<10:=fun h=>by
    have:Nat.blt n 10=true:=Nat.ble_eq_true_of_le h
    rw [this] at hb; cases hb
   cases f with
   | zero=>exact absurd h (by simpa using hn)
   | succ f =>
    have h10:n / 10<10 ^ (f+1):=by rw [Nat.div_lt_iff_lt_mul (by decide)]; rw [Nat.pow_succ] at h; exact h
    show digN (f+1) (n / 10) (Nat.add 48 (Nat.mod n 10)::l)=_
    rw [digN_eq f (n / 10) _ h10]
    conv=>rhs; unfold Go.Fip.B.digF
    rw [if_neg hn,List.map_append,List.append_assoc]
    show _=_++([(Go.Fip.B.dg n).toNat]++l)
    rw [hd]; rfl
theorem dig20 {n:Nat} (h:n<10 ^ 20) (l:List Nat):digN 20 n l=(Go.Fip.B.dig n).map UInt8.toNat++l:=by
 have e:Go.Fip.B.dig n=Go.Fip.B.digF 19 n:=Go.Fip.B.digF_fuel 20 19 n (Nat.lt_of_lt_of_le h (by decide)) h
 rw [digN_eq 19 n l h,e]
theorem hexNN_eq : ∀ (k n : Nat) (l : List Nat), hexNN k n l = (Go.Fip.B.hexN k n).map UInt8.toNat ++ l
  | 0, n, l => rfl
  | k + 1, n, l => by
    have e : hexNN (k + 1) n l = hexNN k (n / 16) (hexD (n % 16) :: l) := rfl
    have hd : (Go.Fip.B.hd n).toNat = hexD (n % 16) := by
      rw [Go.Fip.B.hd_val]
      unfold hexD
      cases hb : Nat.blt (n % 16) 10 with
      | true => rw [if_pos (blt_lt hb)]; rfl
      | false =>
        rw [if_neg fun h => by
          have : Nat.blt (n % 16) 10 = true := Nat.ble_eq_true_of_le h
          rw [this] at hb; cases hb]
        rfl
    rw [e, hexNN_eq k, Go.Fip.B.hexN, List.map_append, List.append_assoc]
    show _ = _ ++ ([(Go.Fip.B.hd n).toNat] ++ l)
    rw [hd]; rfl
theorem hex16_eq (x:UInt64):hex16 x.toNat=(Go.Fip.B.hex x).map UInt8.toNat:=by
 unfold Go.Fip.B.hex
 exact (hexNN_eq 16 x.toNat []).trans (List.append_nil _)
theorem smN_cons (b:Nat) (l:List Nat) (n:Nat):smN (b::l) n=smN l (Nat.mod (Nat.mul (Nat.xor n b) 1099511628211) 18446744073709551616):=by
 show forceN (Nat.mod (Nat.mul (Nat.xor n b) 1099511628211) 18446744073709551616) (smN l)=_
 exact forceN_eq _ _
theorem smN_eq:∀ (l:List UInt8) (n:UInt64),smN (l.map UInt8.toNat) n.toNat=(l.foldl Go.Fip.B.fs n).toNat
 | [],n=>rfl
 | b::l,n=>by
  have h:Nat.mod (Nat.mul (Nat.xor n.toNat b.toNat) 1099511628211) 18446744073709551616=(Go.Fip.B.fs n b).toNat:=by
   unfold Go.Fip.B.fs
   rw [UInt64.toNat_mul,UInt64.toNat_xor,UInt8.toNat_toUInt64]
   have e:(1099511628211:UInt64).toNat=1099511628211:=by decide
   rw [e]
   have e2:(2:Nat) ^ 64=18446744073709551616:=by decide
   rw [e2]
   generalize n.toNat=x
   generalize b.toNat=y
   generalize (1099511628211:Nat)=p
   generalize (18446744073709551616:Nat)=q
   rfl
  have e:smN ((b::l).map UInt8.toNat) n.toNat=smN (l.map UInt8.toNat) (Nat.mod (Nat.mul (Nat.xor n.toNat b.toNat) 1099511628211) 18446744073709551616):=smN_cons _ _ _
  rw [e,h,smN_eq l,List.foldl_cons]
theorem seed_eq:(14695981039346656037:UInt64).toNat=seed0:=by decide
theorem sm_eq (l:List UInt8):smN (l.map UInt8.toNat) seed0=(Go.Fip.B.sm l).toNat:=by
 rw [← seed_eq]; exact smN_eq l _
theorem strN_eq (l:List UInt8):strN (l.map UInt8.toNat)=str l:=by
 unfold strN str
 have:(l.map UInt8.toNat).map UInt8.ofNat=l:=by
  rw [List.map_map]
  conv=>rhs; rw [← List.map_id l]
  exact List.map_congr_left fun x _=>by simp
 rw [this]
theorem both_eq (x y:UInt64):110::(hex16 x.toNat++hex16 y.toNat)=(Go.Fip.B.both x y).map UInt8.toNat:=by
 rw [hex16_eq,hex16_eq]
 unfold Go.Fip.B.both
 simp
theorem inB_spec {lo hi n:Nat} (h:inB lo hi n=true):lo≤n∧n≤hi:=by
 obtain ⟨h1,h2⟩:=and_t h
 exact ⟨ble_le h1,ble_le h2⟩
theorem enOK_spec {l:List Nat} (h:enOK l=true):∃ e:En,Go.Fip.B.isEn e∧l.map (fun (n:Nat)=>Value.int .i64 (n:Int))=encE e∧strN (textN l)=str (Go.Fip.B.text e):=by
 match l,h with
 | [n,d,f,t,a],h =>
  obtain ⟨h1,h2⟩:=and_t h
  obtain ⟨h3,h4⟩:=and_t h2
  obtain ⟨h5,h6⟩:=and_t h4
  obtain ⟨h7,h8⟩:=and_t h6
  have h1:=inB_spec h1
  have h3:=inB_spec h3
  have h5:=inB_spec h5
  have h7:=inB_spec h7
  have h8:=inB_spec h8
  refine ⟨⟨n,d,f,t,a⟩,by unfold Go.Fip.B.isEn; simp only; omega,rfl,?_⟩
  have big:∀ {n:Nat},n≤1099511627776→n<10 ^ 20:=fun h=>Nat.lt_of_le_of_lt h (by decide)
  have e:textN [n,d,f,t,a]=digN 20 n (32::digN 20 d (32::digN 20 f (32::digN 20 t (32::digN 20 a [])))):=rfl
  rw [e,dig20 (big h1.2),dig20 (big (by omega)),dig20 (big (by omega)),dig20 (big (by omega)),dig20 (big (by omega)), ← strN_eq]
  refine congrArg strN ?_
  unfold Go.Fip.B.text
  simp
theorem int0_spec {v:Value} {n:Nat} (h:int0 v=some n):v=.int .i64 (n:Int):=by
 unfold int0 at h
 split at h
 ·cases h; rfl
 ·cases h
theorem word0_spec {v:Value} {n:Nat} (h:word0 v=some n):v=.int .u64 ((UInt64.ofNat n).toNat:Int)∧(UInt64.ofNat n).toNat=n:=by
 unfold word0 at h
 split at h
 ·rename_i m
  cases hb:Nat.blt m 18446744073709551616 with
  | false=>rw [hb] at h; cases h
  | true =>
   rw [hb] at h; cases h
   have hm:n<18446744073709551616:=blt_lt hb
   have e:(UInt64.ofNat n).toNat=n:=by rw [UInt64.toNat_ofNat']; exact Nat.mod_eq_of_lt hm
   exact ⟨by rw [e]; rfl,e⟩
 ·cases h
theorem ints0_spec:∀ {l:List Value} {r:List Nat},ints0 l=some r→l=r.map fun (n:Nat)=>Value.int .i64 (n:Int)
 | [],r,h=>by cases h; rfl
 | v::l,r,h=>by
  obtain ⟨n,h1,h2⟩:=bind_some (o:=int0 v) h
  obtain ⟨m,h3,h4⟩:=map_some h2
  subst h4
  rw [int0_spec h1,ints0_spec h3]; rfl
end Go.Ex
namespace Go.Ex
open Go.Fip
open Go.RowKit
section
variable {T : Out → Prop} {φ : Phi} {sd : Ex.T AV} {sn : Nat} {s : St} {P : Program} {w : World} {C : Cx} {k : Nat → St → R}
theorem arr1 {az:Array Value} (h:az.size=1):∃ a,az = #[a]:=by
 obtain ⟨l⟩:=az
 match l,h with
 | [a],_=>exact ⟨a,rfl⟩
theorem arr2 {az:Array Value} (h:az.size=2):∃ a b,az = #[a,b]:=by
 obtain ⟨l⟩:=az
 match l,h with
 | [a,b],_=>exact ⟨a,b,rfl⟩
theorem arity_ok {k n:Nat} {r o:R} (h:Ok T (arity k n r o)):Ok T o∨n=k∧Ok T r:=by
 have h:Ok T (Bool.rec (motive:=fun _=>R) o r (Nat.beq n k)):=h
 cases hb:Nat.beq n k with
 | false=>rw [hb] at h; exact .inl h
 | true=>rw [hb] at h; exact .inr ⟨beq_eq hb,h⟩
theorem litArgs_rel:∀ (cs:List Nat) (xs us:List Value),litArgs sd cs=some us→xs.length=cs.length→(∀ (i:Nat) (u:Value) (c:Nat),xs[i]? = some u→cs[i]? = some c→CV φ sd sn c u)→xs=us
 | [],xs,us,h,hl,_=>by
  cases h
  simpa using hl
 | c::cs,[],us,h,hl,_=>by simp at hl
 | c::cs,x::xs,us,h,hl,hx=>by
  obtain ⟨u,h1,h2⟩:=bind_some (o:=(dec c sd).bind (AV.lit sd)) h
  obtain ⟨vs,h3,h4⟩:=map_some h2
  cases h4
  obtain ⟨av,h5,h6⟩:=bind_some h1
  have e1:x=u:=lit_rel ((hx 0 x c rfl rfl).rel h5) h6
  have e2:xs=vs:=litArgs_rel cs xs vs h3 (by simpa using hl) (fun i u c hi hci=>hx (i+1) u c (by simpa using hi) (by simpa using hci))
  rw [e1,e2]
theorem lit1O_spec {ev : List Value → Option Value} {az : Array Value} {n c : Nat} {v : Value} (h : lit1O ev sd (codes c n 0) = some v) (hn : az.size = n) (hcv : ∀ (i : Nat) (u : Value), az[i]? = some u → CV φ sd sn (dg c i) u) : ev az.toList = some v := by
  obtain ⟨us, h1, h2⟩ := bind_some (o := litArgs sd (codes c n 0)) h
  have := litArgs_rel (φ := φ) (sn := sn) _ az.toList us h1 (by rw [codes_length]; simpa using hn) (fun i u c' hi hc => by
    rw [codes_get] at hc
    split at hc
    · cases hc
      rw [Nat.zero_add]
      exact hcv i u (by simpa using hi)
    · cases hc)
  rw [this]; exact h2
theorem symN_spec {c p:Nat} (h:symN c=some p):c=code p 9:=by
 unfold symN at h
 cases hb:Nat.beq (Nat.mod c 16) 9 with
 | false=>rw [hb] at h; cases h
 | true =>
  rw [hb] at h; cases h
  have h9:c % 16=9:=beq_eq hb
  rw [code_eq]
  show c=c / 16 * 16+9
  omega
theorem syN_spec {n:Nat} (h:syN (sd.get 0)=some n):∃ y hl,sd.get 0=some (.ym n y hl):=by
 unfold syN at h
 split at h
 ·rename_i m y hl e
  cases h
  exact ⟨y,hl,e⟩
 ·cases h
theorem sy_spec {p n:Nat} {y:Nat→Value} {hl:Law n y} {v:Value} (hc:CV φ sd sn (code p 9) v) (h0:sd.get 0=some (.ym n y hl)):v=y p :=
 ((hc.rel (a:=.sy p (y p)) (by rw [dec_code _ _ (by decide)]; show symT (sd.get 0) p=_; rw [h0]; rfl):AR φ sd sn (.sy p (y p)) v)).1
theorem sn_pos (hs:SOK s) {a:AV} (h:s.side.get 0=some a):0<s.sn:=by
 cases hn:s.sn with
 | zero=>have:=hs.2 0 (by omega); rw [h] at this; cases this
 | succ n=>exact Nat.succ_pos n
theorem entAt_spec {d o j:Nat} (h:entAt d o=some j):5 * j<60∧dg d o=code (5 * j) 9∧dg d (o+1)=code (5 * j+1) 9∧dg d (o+2)=code (5 * j+2) 9∧dg d (o+3)=code (5 * j+3) 9∧dg d (o+4)=code (5 * j+4) 9:=by
 obtain ⟨p,h1,h2⟩:=bind_some (o:=symN (dg d o)) h
 have h1:=symN_spec h1
 cases hb:Bool.and (Bool.and (Nat.beq (Nat.mod p 5) 0) (Nat.blt p 60)) (Bool.and (Bool.and (Nat.beq (dg d (Nat.add o 1)) (code (Nat.add p 1) 9)) (Nat.beq (dg d (Nat.add o 2)) (code (Nat.add p 2) 9))) (Bool.and (Nat.beq (dg d (Nat.add o 3)) (code (Nat.add p 3) 9)) (Nat.beq (dg d (Nat.add o 4)) (code (Nat.add p 4) 9)))) with
 | false=>rw [hb] at h2; cases h2
 | true =>
  rw [hb] at h2; cases h2
  obtain ⟨a1,a2⟩:=and_t hb
  obtain ⟨a3,a4⟩:=and_t a1
  obtain ⟨a5,a6⟩:=and_t a2
  obtain ⟨a7,a8⟩:=and_t a5
  obtain ⟨a9,a10⟩:=and_t a6
  have e0:p % 5=0:=beq_eq a3
  have e1:p<60:=blt_lt a4
  have e:5 * (Nat.div p 5)=p:=by show 5 * (p / 5)=p; omega
  rw [e]
  exact ⟨e1,h1,beq_eq a7,beq_eq a8,beq_eq a9,beq_eq a10⟩
theorem sym_field {E:List En} {j i:Nat} (hj:5 * j<60) (hi:i<5):symVal E (5 * j+i)=.int .i64 (fieldS (nth E (j:Int)) i):=by
 unfold symVal
 rw [if_pos (by omega),show (5 * j+i) / 5=j by omega,show (5 * j+i) % 5=i by omega]
theorem ent_spec {c j:Nat} {a:Value} (h:entOf sd c=some j) (hc:CV φ sd sn c a):∃ n y hl E,sd.get 0=some (.ym n y hl)∧y=symVal E∧Go.Fip.B.ck E=0∧E.length=n∧j<n∧5 * j<60∧a=.agg (encE (nth E (j:Int))).toArray:=by
 unfold entOf at h
 split at h
 ·rename_i d hd
  obtain ⟨j',h1,h2⟩:=bind_some h
  obtain ⟨n,h3,h4⟩:=bind_some (o:=syN (sd.get 0)) h2
  cases hb:Nat.blt j' n with
  | false=>rw [hb] at h4; cases h4
  | true =>
   rw [hb] at h4; cases h4
   obtain ⟨y,hl,h0⟩:=syN_spec h3
   obtain ⟨E,hE,hlen,hy⟩:=hl
   obtain ⟨k0,k1,k2,k3,k4,k5⟩:=entAt_spec h1
   obtain ⟨xs,rfl,hx,_,_,hxs⟩:AR φ sd sn (.ag 5 d) a:=hc.rel hd
   obtain ⟨l⟩:=xs
   match l,hx with
   | [x0,x1,x2,x3,x4],_ =>
    have at_:∀ (i:Nat) (u:Value) (p:Nat),[x0,x1,x2,x3,x4][i]? = some u→dg d i=code p 9→u=y p:=fun i u p hi hp=>by
     have:=hxs i u (by simpa using hi) (by rw [hp,code_eq]; omega)
     rw [hp] at this
     exact sy_spec this h0
    have e0:=at_ 0 x0 (5 * j) rfl k1
    have e1:=at_ 1 x1 _ rfl (by simpa using k2)
    have e2:=at_ 2 x2 _ rfl (by simpa using k3)
    have e3:=at_ 3 x3 _ rfl (by simpa using k4)
    have e4:=at_ 4 x4 _ rfl (by simpa using k5)
    subst hy
    have e0:=e0.trans (sym_field (E:=E) (i:=0) k0 (by decide))
    rw [sym_field k0 (by decide)] at e1 e2 e3 e4
    refine ⟨n,symVal E,_,E,h0,rfl,hE,hlen,blt_lt hb,k0,?_⟩
    rw [e0,e1,e2,e3,e4]; rfl
 ·cases h
theorem ck_take {E:List En} (h:Go.Fip.B.ck E=0) (m:Nat):Go.Fip.B.ck (E.take m)=0:=by
 rw [Go.Fip.B.ck_iff] at h ⊢
 obtain ⟨h1,h2,h3,h4,h5⟩:=h
 have at_:∀ i:Nat,i<(E.take m).length→i<E.length∧nth (E.take m) (i:Int)=nth E (i:Int):=fun i hi=>by
  rw [List.length_take] at hi
  refine ⟨by omega,?_⟩
  rw [nth_nat (by rw [List.length_take]; omega),nth_nat (by omega),List.getElem_take]
 refine ⟨by rw [List.length_take]; omega,fun i hi=>?_,fun i hi=>?_,fun i hi k hk=>?_,fun i hi h1'=>?_⟩
 ·obtain ⟨a,b⟩:=at_ i hi; rw [b]; exact h2 i a
 ·obtain ⟨a,b⟩:=at_ i hi; rw [b]; exact h3 i a
 ·obtain ⟨a,b⟩:=at_ i hi
  obtain ⟨c,d⟩:=at_ k (by omega)
  rw [b,d]; exact h4 i a k hk
 ·obtain ⟨a,b⟩:=at_ i hi
  obtain ⟨c,d⟩:=at_ (i - 1) (by omega)
  have e:((i - 1:Nat):Int)=(i:Int) - 1:=by omega
  rw [e] at d
  rw [b,d]; exact h5 i a h1'
theorem allEnt_spec {c:Nat}:∀ {m:Nat},allEnt c m=true→∀ j,j<m→entAt c (5 * j)=some j
 | m+1,h,j,hj=>by
  have h:Option.rec (motive:=fun _=>Bool) false (fun i=>Bool.and (Nat.beq i m) (allEnt c m)) (entAt c (Nat.mul 5 m))=true:=h
  cases he:entAt c (Nat.mul 5 m) with
  | none=>rw [he] at h; cases h
  | some i =>
   rw [he] at h
   obtain ⟨h1,h2⟩:=and_t h
   have e:i=m:=beq_eq h1
   subst e
   by_cases e:j=i
   ·rw [e]; exact he
   ·exact allEnt_spec h2 j (by omega)
theorem book_spec {c r : Nat} {a : Value} (hw : WR P C φ s w) (h : syBook s.side s.heap c = some r) (hc : CV φ s.side s.sn c a) : r = code 9223372036854775808 1 ∧ ∃ v l, a = .agg #[v] ∧ Rd encE 5 v l w ∧ l.length ≤ 1000000 ∧ Go.Fip.B.ck l = 0 := by
  unfold syBook at h
  split at h
  · rename_i d hd
    split at h
    · rename_i r0 m c' hd2
      split at h
      · rename_i E0 n0 cs hr
        obtain ⟨n, h3, h4⟩ := bind_some (o := syN (s.side.get 0)) h
        cases hb : Bool.and (Nat.ble m n) (allEnt cs m) with
        | false => rw [hb] at h4; cases h4
        | true =>
          rw [hb] at h4; cases h4
          obtain ⟨b1, b2⟩ := and_t hb
          obtain ⟨y, hl, h0⟩ := syN_spec h3
          obtain ⟨E, hE, hlen, hy⟩ := hl
          subst hy
          obtain ⟨xs, rfl, hx, hdl, _, hxs⟩ : AR φ s.side s.sn (.ag 1 d) a := hc.rel hd
          obtain ⟨l⟩ := xs
          match l, hx with
          | [v], _ =>
            have hd0 : dg d 0 = d := by rw [dg_small d (by simpa using hdl), if_pos rfl]
            have hdne : d ≠ 0 := fun e => by rw [e] at hd2; cases hd2
            have hv := hxs 0 v rfl (by rw [hd0]; exact hdne)
            rw [hd0] at hv
            obtain ⟨q, cap, hq, _, _, _, _, _, hnc, rfl⟩ : AR φ s.side s.sn (.sl r0 0 m c') v := hv.rel hd2
            obtain ⟨_, q', hq', _, cur, E', fz, hblk, hcells, _, _⟩ := hw.row r0 _ hr
            rw [hq] at hq'; cases hq'
            have hmn : m ≤ n := ble_le b1
            have h24 : E.length ≤ 24 := (Go.Fip.B.ck_iff.1 hE).1
            have hlt : (E.take m).length = m := by rw [List.length_take]; omega
            refine ⟨rfl, _, E.take m, rfl, ⟨⟨_, cap, by rw [hlt], by rw [hlt]; exact hnc, .inr ⟨_, _, rfl⟩⟩, fun i x hi j u hj => ?_⟩, by omega, ck_take hE m⟩
            have him : i < m := by have := (List.getElem?_eq_some_iff.1 hi).1; omega
            have hiE : i < E.length := by omega
            have hxe : x = nth E (i : Int) := by
              rw [nth_nat hiE]
              rw [List.getElem?_take_of_lt him, List.getElem?_eq_getElem hiE] at hi
              exact (Option.some.inj hi).symm
            subst hxe
            obtain ⟨k0, k1, k2, k3, k4, k5⟩ := entAt_spec (allEnt_spec b2 i him)
            have hj5 : j < 5 := by have := (List.getElem?_eq_some_iff.1 hj).1; exact this
            have hdj : dg cs (5 * i + j) = code (5 * i + j) 9 := by
              match j, hj5 with
              | 0, _ => exact k1
              | 1, _ => exact k2
              | 2, _ => exact k3
              | 3, _ => exact k4
              | 4, _ => exact k5
            have huj : u = symVal E (5 * i + j) := by
              rw [sym_field k0 hj5]
              match j, hj5, hj with
              | 0, _, hj => exact (Option.some.inj hj).symm
              | 1, _, hj => exact (Option.some.inj hj).symm
              | 2, _, hj => exact (Option.some.inj hj).symm
              | 3, _, hj => exact (Option.some.inj hj).symm
              | 4, _, hj => exact (Option.some.inj hj).symm
            have hn0 : 5 * i + j < n0 := by
              rcases Nat.lt_or_ge (5 * i + j) n0 with h | h
              · exact h
              · have : cs < 2 ^ ((5 * i + j) * 128) := Nat.lt_of_lt_of_le hcells.1 (Nat.pow_le_pow_right (by decide) (Nat.mul_le_mul_right _ h))
                have e : dg cs (5 * i + j) = 0 := by rw [dg_eq, Nat.div_eq_of_lt this, Nat.zero_mod]
                rw [e, code_eq] at hdj
                omega
            obtain ⟨z, hz, _, hzc⟩ := hcells.2 (5 * i + j) hn0
            rw [hdj] at hzc
            have hzv := sy_spec (hzc (by rw [code_eq]; omega)) h0
            show w.cell? ⟨q.b, q.off + 0 + i * 5 + j, none⟩ = _
            have : w.cell? ⟨q.b, q.off + 0 + i * 5 + j, none⟩ = cur[q.off + 0 + i * 5 + j]? := by simp [World.cell?, hblk]
            rw [this, Nat.add_zero, Nat.add_assoc, Nat.mul_comm i 5, hz, hzv, huj]
      · cases h
    · cases h
  · cases h
end
end Go.Ex
namespace Go.Ex
open Go.Fip
open Go.RowKit
open Go.Proofs
section
theorem hex_ok:AnsOK Tryz.prog 89 aHex:=fun C φ s w T k n c az other hw hn hlt hcv h=>by
 rcases arity_ok (show Ok T (arity 1 n _ other) from h) with h | ⟨h1,h⟩
 ·exact .inl h
 ·subst h1
  obtain ⟨a,rfl⟩:=arr1 hn
  refine ansV_ok hw (fun v hv=>?_) h
  have hv:(word0 a).map (fun a=>strN (hex16 a))=some v:=lit1O_spec (φ:=φ) (sn:=s.sn) hv hn hcv
  obtain ⟨m,h2,h3⟩:=map_some hv
  obtain ⟨e1,e2⟩:=word0_spec h2
  generalize UInt64.ofNat m=x at e1 e2
  subst e2
  rw [e1, ← h3,hex16_eq,strN_eq]
  exact c86 hw.gw
theorem fmt_ok:AnsOK Tryz.prog 106 aFmt:=fun C φ s w T k n c az other hw hn hlt hcv h=>by
 rcases arity_ok (show Ok T (arity 2 n _ other) from h) with h | ⟨h1,h⟩
 ·exact .inl h
 ·subst h1
  obtain ⟨a,b,rfl⟩:=arr2 hn
  refine ansV_ok hw (fun v hv=>?_) h
  have hv:(int0 a).bind (fun n=>Bool.rec (motive:=fun _=>Option Value) none (some (strN (digN 20 n []))) (Bool.and (Nat.blt n 9223372036854775808) (isTen b)))=some v:=lit1O_spec (φ:=φ) (sn:=s.sn) hv hn hcv
  obtain ⟨m,h2,h3⟩:=bind_some hv
  cases hb:Bool.and (Nat.blt m 9223372036854775808) (isTen b) with
  | false=>rw [hb] at h3; cases h3
  | true =>
   rw [hb] at h3; cases h3
   obtain ⟨b1,b2⟩:=and_t hb
   have b1:m<9223372036854775808:=blt_lt b1
   have hbt:b=.int .i64 10:=by
    unfold isTen at b2
    split at b2
    ·rw [show (10:Int)=((10:Nat):Int) from rfl, ← beq_eq b2]; rfl
    ·cases b2
   have hm:m<10 ^ 20:=Nat.lt_of_lt_of_le b1 (by decide)
   have hi:Lib.itoa (m:Int)=Go.Fip.B.dig m:=by
    unfold Lib.itoa
    rw [if_neg (by omega),Int.toNat_natCast,Go.Fip.B.decD m hm]
   rw [int0_spec h2,hbt,dig20 hm,List.append_nil,strN_eq, ← hi]
   exact c108 hw.gw (by omega) (by omega)
theorem text_ok:AnsOK Tryz.prog 57 aText:=fun C φ s w T k n c az other hw hn hlt hcv h=>by
 rcases arity_ok (show Ok T (arity 1 n _ other) from h) with h | ⟨h1,h⟩
 ·exact .inl h
 ·subst h1
  obtain ⟨a,rfl⟩:=arr1 hn
  refine ans_or (ansC_ok hw (fun r hr=>?_) h) fun h=>ansV_ok hw (fun v hv=>?_) h
  ·obtain ⟨j,h2,h3⟩:=map_some (show (entOf s.side (dg c 0)).map (fun j=>code (Nat.add 64 (Nat.mul 2 j)) 9)=some r from hr)
   obtain ⟨n,y,hl,E,h0,rfl,hE,hlen,hj,hj5,rfl⟩:=ent_spec h2 (hcv 0 a rfl)
   have hin:Go.Fip.B.isEn (nth E (j:Int)):=(Go.Fip.B.ck_iff.1 hE).2.1 j (by omega)
   refine (c73 (e:=nth E (j:Int)) hw.gw hin).mono fun v w' hv=>?_
   rw [hv, ← h3]
   have hs:symVal E (64+2 * j)=str (Go.Fip.B.text (nth E (j:Int))):=by
    unfold symVal
    rw [if_neg (by omega),if_neg (by omega),if_pos (by omega),if_pos (by omega),show (64+2 * j - 64) / 2=j by omega]
    unfold textS
    rw [if_pos (by omega)]; rfl
   rw [← hs]
   exact .sy (64+2 * j) n (symVal E) hl (by omega) (sn_pos hw.sok h0) h0
  ·have hv:evText [a]=some v:=lit1O_spec (φ:=φ) (sn:=s.sn) hv hn hcv
   unfold evText at hv
   split at hv
   ·rename_i cs e
    cases e
    obtain ⟨l,h2,h3⟩:=bind_some hv
    cases hb:enOK l with
    | false=>rw [hb] at h3; cases h3
    | true =>
     rw [hb] at h3; cases h3
     obtain ⟨e,he,h4,h5⟩:=enOK_spec hb
     have hcs:cs=(encE e).toArray:=by
      have:=ints0_spec h2
      rw [h4] at this
      obtain ⟨l⟩:=cs
      exact congrArg List.toArray this
     rw [h5,hcs]
     exact c73 hw.gw he
   ·cases hv
theorem stray_ok:AnsOK Tryz.prog 54 aFalse:=fun C φ s w T k n c az other hw hn hlt hcv h=>by
 rcases arity_ok (show Ok T (arity 1 n _ other) from h) with h | ⟨h1,h⟩
 ·exact .inl h
 ·subst h1
  obtain ⟨a,rfl⟩:=arr1 hn
  refine ansC_ok hw (fun r hr=>?_) h
  obtain ⟨j,h2,h3⟩:=map_some (show (entOf s.side (dg c 0)).map (fun _=>2)=some r from hr)
  obtain ⟨n,y,hl,E,h0,rfl,hE,hlen,hj,hj5,rfl⟩:=ent_spec h2 (hcv 0 a rfl)
  have hin:Go.Fip.B.isEn (nth E (j:Int)):=(Go.Fip.B.ck_iff.1 hE).2.1 j (by omega)
  refine (c61 (e:=nth E (j:Int))).mono fun v w' hv=>?_
  rw [hv, ← h3,decide_eq_false (fun h=>h hin)]
  exact .boo 0 (by decide)
theorem same_ok:AnsOK Tryz.prog 55 aFalse:=fun C φ s w T k n c az other hw hn hlt hcv h=>by
 rcases arity_ok (show Ok T (arity 1 n _ other) from h) with h | ⟨h1,h⟩
 ·exact .inl h
 ·subst h1
  obtain ⟨a,rfl⟩:=arr1 hn
  refine ansC_ok hw (fun r hr=>?_) h
  obtain ⟨j,h2,h3⟩:=map_some (show (entOf s.side (dg c 0)).map (fun _=>2)=some r from hr)
  obtain ⟨n,y,hl,E,h0,rfl,hE,hlen,hj,hj5,rfl⟩:=ent_spec h2 (hcv 0 a rfl)
  have hns:=(Go.Fip.B.ck_iff.1 hE).2.2.1 j (by omega)
  refine (c62 (e:=nth E (j:Int))).mono fun v w' hv=>?_
  rw [hv, ← h3,decide_eq_false hns]
  exact .boo 0 (by decide)
theorem half_eq {n:Nat} (h:n≤16):halfN n=Go.Fip.B.half n:=by
 unfold halfN Go.Fip.B.half
 have b:∀ k,Nat.ble n k=decide (n≤k):=fun k=>by
  cases hk:Nat.ble n k with
  | true=>exact (decide_eq_true (ble_le hk)).symm
  | false=>exact (decide_eq_false fun hl=>by rw [Nat.ble_eq_true_of_le hl] at hk; cases hk).symm
 rw [b,b,b]
 by_cases h2:n≤2
 ·rw [if_pos h2,decide_eq_true h2]
 ·rw [if_neg h2,decide_eq_false h2]
  by_cases h4:n≤4
  ·rw [if_pos h4,decide_eq_true h4]
  ·rw [if_neg h4,decide_eq_false h4]
   by_cases h8:n≤8
   ·rw [if_pos h8,decide_eq_true h8]
   ·rw [if_neg h8,decide_eq_false h8,if_pos h]
theorem sym_root {E:List En} {a b:Nat} (hb:b<16):symVal E (128+(16 * a+b))=.int .u64 ((Go.Fip.B.root (Go.Fip.B.sub E a b)).toNat:Int):=by
 unfold symVal
 rw [if_neg (by omega),if_neg (by omega),if_neg (by omega),show (128+(16 * a+b) - 128) / 16=a by omega,show (128+(16 * a+b) - 128) % 16=b by omega]
theorem sum_ok:AnsOK Tryz.prog 56 aSum:=fun C φ s w T k n c az other hw hn hlt hcv h=>by
 rcases arity_ok (show Ok T (arity 1 n _ other) from h) with h | ⟨h1,h⟩
 ·exact .inl h
 ·subst h1
  obtain ⟨a,rfl⟩:=arr1 hn
  refine ans_or (ansC_ok hw (fun r hr=>?_) h) fun h=>ansV_ok hw (fun v hv=>?_) h
  ·obtain ⟨p,h2,h3⟩:=bind_some (o:=symN (dg c 0)) (show sySum s.side (dg c 0)=some r from hr)
   obtain ⟨n,h4,h5⟩:=bind_some (o:=syN (s.side.get 0)) h3
   obtain ⟨j,h6,h7⟩:=map_some h5
   obtain ⟨y,hl,h0⟩:=syN_spec h4
   obtain ⟨E,hE,hlen,hy⟩:=id hl
   subst hy
   unfold leafJ at h6
   cases hb:Bool.and (Bool.and (Nat.ble 64 p) (Nat.blt p 88)) (Bool.and (Nat.beq (Nat.mod p 2) 1) (Nat.blt (Nat.div (Nat.sub p 64) 2) n)) with
   | false=>rw [hb] at h6; cases h6
   | true =>
    rw [hb] at h6
    obtain ⟨b1,b2⟩:=and_t hb
    obtain ⟨b3,b4⟩:=and_t b1
    obtain ⟨b5,b6⟩:=and_t b2
    have hj:(p - 64) / 2=j:=Option.some.inj h6
    have b3:64≤p:=ble_le b3
    have b4:p<88:=blt_lt b4
    have b5:p % 2=1:=beq_eq b5
    have b6:(p - 64) / 2<n:=blt_lt b6
    have hc:=hcv 0 a rfl
    rw [symN_spec h2] at hc
    have ha:=sy_spec hc h0
    have hp:symVal E p=str (Go.Fip.B.leaf (nth E (j:Int))):=by
     unfold symVal
     rw [if_neg (by omega),if_neg (by omega),if_pos (by omega),if_neg (by omega),hj]
     unfold textS
     rw [if_pos (by omega)]; rfl
    rw [ha,hp]
    have hin:Go.Fip.B.isEn (nth E (j:Int)):=(Go.Fip.B.ck_iff.1 hE).2.1 j (by omega)
    have htl:=txt_len hin
    refine (c68 (l:=Go.Fip.B.leaf (nth E (j:Int))) (by unfold Go.Fip.B.leaf; simp only [List.length_append,List.length_cons,List.length_nil]; omega)).mono fun v w' hv=>?_
    have hr1:=Go.Fip.B.root_sub1 (l:=E) (a:=j) (b:=j+1) (by omega) (by omega)
    have hsr:=sym_root (E:=E) (a:=j) (b:=j+1) (by omega)
    rw [hr1] at hsr
    rw [hv, ← h7, ← hsr]
    exact .sy (128+(16 * j+(j+1))) n (symVal E) hl (by omega) (sn_pos hw.sok h0) h0
  ·have hv:evSum [a]=some v:=lit1O_spec (φ:=φ) (sn:=s.sn) hv hn hcv
   unfold evSum at hv
   split at hv
   ·rename_i b e
    cases e
    cases hb:Nat.ble b.size 1000000 with
    | false=>rw [hb] at hv; cases hv
    | true =>
     rw [hb] at hv; cases hv
     have hsz:b.size≤1000000:=ble_le hb
     have e1:natsOf b=b.data.toList.map UInt8.toNat:=rfl
     rw [e1,sm_eq]
     exact c68 (l:=b.data.toList) (by simpa using hsz)
   ·cases hv
theorem both_ok:AnsOK Tryz.prog 59 aBoth:=fun C φ s w T k n c az other hw hn hlt hcv h=>by
 rcases arity_ok (show Ok T (arity 2 n _ other) from h) with h | ⟨h1,h⟩
 ·exact .inl h
 ·subst h1
  obtain ⟨a,b,rfl⟩:=arr2 hn
  refine ans_or (ansC_ok hw (fun r hr=>?_) h) fun h=>ansV_ok hw (fun v hv=>?_) h
  ·obtain ⟨p,h2,h3⟩:=bind_some (o:=symN (dg c 0)) (show syBoth s.side (dg c 0) (dg c 1)=some r from hr)
   obtain ⟨q,h4,h5⟩:=bind_some (o:=symN (dg c 1)) h3
   obtain ⟨n,h6,h7⟩:=bind_some (o:=syN (s.side.get 0)) h5
   obtain ⟨y,hl,h0⟩:=syN_spec h6
   obtain ⟨E,hE,hlen,hy⟩:=id hl
   subst hy
   cases hb:Bool.and (Nat.ble 128 p) (Nat.ble 128 q) with
   | false=>rw [hb] at h7; cases h7
   | true =>
    rw [hb] at h7
    obtain ⟨b1,b2⟩:=and_t hb
    have b1:128≤p:=ble_le b1
    have b2:128≤q:=ble_le b2
    have h7:pairH (p - 128) (q - 128) n=some r:=h7
    obtain ⟨P,hP⟩:∃ P,P=p - 128:=⟨_,rfl⟩
    obtain ⟨Q,hQ⟩:∃ Q,Q=q - 128:=⟨_,rfl⟩
    rw [← hP, ← hQ] at h7
    unfold pairH at h7
    cases hd:Bool.and (Bool.and (Nat.ble (Nat.mod Q 16) n) (Nat.ble (Nat.add (Nat.div P 16) 2) (Nat.mod Q 16))) (Bool.and (Nat.beq (Nat.mod P 16) (Nat.div Q 16)) (Nat.beq (Nat.mod P 16) (Nat.add (Nat.div P 16) (halfN (Nat.sub (Nat.mod Q 16) (Nat.div P 16)))))) with
    | false=>rw [hd] at h7; cases h7
    | true =>
     rw [hd] at h7
     obtain ⟨d1,d2⟩:=and_t hd
     obtain ⟨d3,d4⟩:=and_t d1
     obtain ⟨d5,d6⟩:=and_t d2
     have h7:code (128+(16 * (P / 16)+Q % 16)) 9=r:=Option.some.inj h7
     have d3:Q % 16≤n:=ble_le d3
     have d4:P / 16+2≤Q % 16:=ble_le d4
     have d5:P % 16=Q / 16:=beq_eq d5
     have d6:P % 16=P / 16+halfN (Q % 16 - P / 16):=beq_eq d6
     generalize hA:P / 16=A at *
     generalize hC:Q % 16=Z at *
     generalize hB:P % 16=M at *
     have hpe:p=128+(16 * A+M):=by omega
     have hqe:q=128+(16 * M+Z):=by omega
     rw [half_eq (by omega)] at d6
     have hca:=hcv 0 a rfl
     have hcb:=hcv 1 b rfl
     rw [symN_spec h2] at hca
     rw [symN_spec h4] at hcb
     have ha:=sy_spec hca h0
     have hb:=sy_spec hcb h0
     rw [hpe,sym_root (by omega)] at ha
     rw [hqe,sym_root (by omega)] at hb
     rw [ha,hb]
     refine (c76 (x:=Go.Fip.B.root (Go.Fip.B.sub E A M)) (y:=Go.Fip.B.root (Go.Fip.B.sub E M Z)) hw.gw).mono fun v w' hv=>?_
     have hr2:=Go.Fip.B.root_sub2 (l:=E) (a:=A) (b:=Z) (by omega) (by omega)
     rw [← d6] at hr2
     have hsr:=sym_root (E:=E) (a:=A) (b:=Z) (by omega)
     rw [hr2] at hsr
     rw [hv, ← h7, ← hsr]
     exact .sy (128+(16 * A+Z)) n (symVal E) hl (by omega) (sn_pos hw.sok h0) h0
  ·have hv:(word0 a).bind (fun a=>(word0 b).map fun b=>u64V (smN (110::(hex16 a++hex16 b)) seed0))=some v:=lit1O_spec (φ:=φ) (sn:=s.sn) hv hn hcv
   obtain ⟨x,h2,h3⟩:=bind_some hv
   obtain ⟨y,h4,h5⟩:=map_some h3
   obtain ⟨e1,e2⟩:=word0_spec h2
   obtain ⟨e3,e4⟩:=word0_spec h4
   generalize UInt64.ofNat x=x1 at e1 e2
   generalize UInt64.ofNat y=y1 at e3 e4
   subst e2
   subst e4
   rw [e1,e3, ← h5,both_eq,sm_eq]
   exact c76 hw.gw
theorem ck47_ok:AnsOK Tryz.prog 47 aBook:=fun C φ s w T k n c az other hw hn hlt hcv h=>by
 rcases arity_ok (show Ok T (arity 1 n _ other) from h) with h | ⟨h1,h⟩
 ·exact .inl h
 ·subst h1
  obtain ⟨a,rfl⟩:=arr1 hn
  refine ansC_ok hw (fun r hr=>?_) h
  obtain ⟨rfl,v,l,rfl,h2,h3,h4⟩:=book_spec hw (show syBook s.side s.heap (dg c 0)=some r from hr) (hcv 0 a rfl)
  refine (c21 h2 h3).mono fun u w' hu=>?_
  rw [hu,h4]
  exact .int 9223372036854775808 (by decide)
theorem ck4_ok:AnsOK Tryz.prog 4 aBook:=fun C φ s w T k n c az other hw hn hlt hcv h=>by
 rcases arity_ok (show Ok T (arity 1 n _ other) from h) with h | ⟨h1,h⟩
 ·exact .inl h
 ·subst h1
  obtain ⟨a,rfl⟩:=arr1 hn
  refine ansC_ok hw (fun r hr=>?_) h
  obtain ⟨rfl,v,l,rfl,h2,h3,h4⟩:=book_spec hw (show syBook s.side s.heap (dg c 0)=some r from hr) (hcv 0 a rfl)
  refine (c22 h2 h3).mono fun u w' hu=>?_
  rw [hu,h4]
  exact .int 9223372036854775808 (by decide)
theorem book_ok:AllOK Tryz.prog bookA:=fun p hp=>by
 simp only [bookA,List.mem_cons,List.not_mem_nil,or_false] at hp
 rcases hp with rfl | rfl | rfl | rfl | rfl | rfl | rfl | rfl | rfl
 ·exact sum_ok
 ·exact text_ok
 ·exact both_ok
 ·exact hex_ok
 ·exact fmt_ok
 ·exact stray_ok
 ·exact same_ok
 ·exact ck47_ok
 ·exact ck4_ok
end
end Go.Ex
namespace Go.Ex
open Go.Fip
open Go.RowKit
section
variable {P : Program} {w : World} {F D g : Nat}
noncomputable def cxA (m:Mem) (w:World):Cx:=⟨(· < w.heap.size),w,m.lim,m.heap,m.sn,m.side,fun _=>none,w.heap.size⟩
theorem run_args {l:List (Nat×Ans)} {fn:Func} {cd:Code} {n c:Nat} {m:Mem} {q:Nat→Mem→R} {az:Array Value} {φ:Phi} {Q:Value→World→Prop} (hP:Named P) (hm:P.follows .mixedOrders=true) (hl:AllOK P l) (hf:P.funcs[g]? = some fn) (hb:fn.body=some cd)
  (hw:WR P (cxA m w) φ (stOf 0 m) w) (has:az.size=n) (hc:c<2 ^ (n * 128)) (hcv:∀ (i:Nat) (u:Value),az[i]? = some u→CV φ m.side m.sn (dg c i) u)
  (h:callO P F (orL l) D (.fn (.func g) 0 0 0 0) n c m q=(some []:Option (List Out)))
  (hR:∀ φ' s' w' c' v,Ext φ m.side m.sn φ' s'.side s'.sn→WR P (cxA m w) φ' s' w'→CV φ' s'.side s'.sn c' v→Ok (fun _=>True) (q c' (memOf s'))→∀ w'',Agree w.heap.size w'.heap.size w' w''→Q v w'') :
  Go.Fip.Fn P g az w Q:=by
 refine ⟨fun w'=>ent hf (hP g fn hf) hb az w',?_⟩
 have hOk:Ok (fun _=>True) (callOf (callO P F (orL l) D) (.fn (.func g) 0 0 0 0) n c (stOf 0 m) (fun c s=>q c (memOf s))):=by
  rw [callOf_at]
  refine ⟨[],?_,fun _ hh=>nomatch hh⟩
  exact (show callO P F (orL l) D (.fn (.func g) 0 0 0 0) n c (memOf (stOf 0 m)) (toS (stOf 0 m).env fun c s=>q c (memOf s))=callO P F (orL l) D (.fn (.func g) 0 0 0 0) n c m q by cases m; rfl).trans h
 obtain ⟨nx,hrun,hres⟩:=callO_good (F:=F) hP hm hl D (cxA m w) φ (stOf 0 m) w (fun _=>True) (fun c s=>q c (memOf s)) (.fn (.func g) 0 0 0 0) (.func (.func g) #[] #[]) n c az hw
  ⟨#[], #[],rfl,rfl,rfl,by decide,by decide,fun i u hi=>by simp at hi,fun i u hi=>by simp at hi⟩ has hc (by cases m; exact hcv) hOk
 have hent:=ent hf (hP g fn hf) hb az w
 have hnx:nx=.enter g az:=by
  have h1:(do let d ← Deferred.ofValue (.func (.func g) #[] #[]) az; invoke d.target d.args:Sem Next).run P w=.ok (.enter g az) w:=by
   simpa [Deferred.ofValue,invoke,Result.andThen] using hent
  rw [h1] at hrun
  cases hrun; rfl
 rcases hres with ⟨f,args,e,hcalls⟩ | ⟨l,f,tmps,assign,body,e,_⟩
 ·rw [hnx] at e
  cases e
  refine CallsIn.mono hcalls fun e w' hq=>?_
  obtain ⟨v,c',φ',s',rfl,he,hw',_,_,hcv',hk⟩:=hq
  refine ⟨v,rfl,⟨hw'.os,hw'.tape,hw'.output,hw'.size,fun b hb=>(hw'.frame b hb).2⟩,hR φ' s' w' c' v (by cases m; exact he) hw' hcv' hk⟩
 ·rw [hnx] at e; cases e
def phi1 (q:Pl):Phi:=fun r=>if r=0 then some q else none
theorem wr_ro {E n d sn : Nat} {sd : Ex.T AV} {q : Pl} (hg : GW w) (hs : Full 25 sd) (hn : ∀ i, sn ≤ i → sd.get i = none) (hq : q.b < w.heap.size) (ho : OR P (fun _ => none) (phi1 q) sd sn w q (.ro E n d)) :
    WR P (cxA (roM E n d sd sn) w) (phi1 q) (stOf 0 (roM E n d sd sn)) w := by
  have get : ∀ r, ((full 25).put 0 (some (.ro E n d)) : T AO).get r = if r = 0 then some (.ro E n d) else none := fun r => by
    rw [(full_full 25).get_put' (by decide), get_full]
  exact
    { full := show Full 25 ((full 25).put 0 (some (.ro E n d)) : T AO) from (full_full 25).put _ _
      sok := ⟨hs, hn⟩
      row := fun r o hr => by
        have hr : ((full 25).put 0 (some (.ro E n d)) : T AO).get r = some o := hr
        rw [get] at hr
        by_cases e : r = 0
        · rw [if_pos e] at hr; cases hr
          subst e
          exact ⟨Nat.lt_succ_self 0, q, rfl, .inr ⟨⟨E, n, d, rfl⟩, hq⟩, ho⟩
        · rw [if_neg e] at hr; cases hr
      inj := fun r r' o o' q1 q2 h1 h2 _ _ _ => by
        have h1 : ((full 25).put 0 (some (.ro E n d)) : T AO).get r = some o := h1
        have h2 : ((full 25).put 0 (some (.ro E n d)) : T AO).get r' = some o' := h2
        rw [get] at h1 h2
        by_cases e : r = 0
        · by_cases e' : r' = 0
          · rw [e, e']
          · rw [if_neg e'] at h2; cases h2
        · rw [if_neg e] at h1; cases h1
      new := fun r hr => by
        have hr : 1 ≤ r := hr
        show (if r = 0 then some q else none) = none
        rw [if_neg (by omega)]
      rng := fun r q' h => by
        have h : (if r = 0 then some q else none) = some q' := h
        by_cases e : r = 0
        · rw [if_pos e] at h; cases h; exact hq
        · rw [if_neg e] at h; cases h
      lim := rfl
      limn := Nat.le_refl _
      low := fun r h => rfl
      sn := Nat.le_refl _
      sdl := fun i h => rfl
      os := rfl
      tape := rfl
      output := rfl
      size := Nat.le_refl _
      frame := fun b hb => ⟨hb, rfl⟩
      gid := fun r i k h => by
        have h : ((full 25).put 0 (some (.ro E n d)) : T AO).get r = some (.gh i k) := h
        rw [get] at h
        by_cases e : r = 0
        · rw [if_pos e] at h; cases h
        · rw [if_neg e] at h; cases h
      ghl := fun i D h => by cases h
      gw := hg
      b0 := Nat.le_refl _ }
theorem or_rd {α : Type} {enc : α → List Value} {E sz N d sn : Nat} {sd : Ex.T AV} {b o cap : Nat} {xs : List α} (hz : ((P.info? E).map (·.size)).getD 0 = sz) (h : Rd enc sz (.slice (some ⟨b, o, none⟩) xs.length cap) xs w) (hx : xs ≠ []) (hlen : ∀ x ∈ xs, (enc x).length = sz) (hz0 : 0 < sz)
    (hN : N = xs.length * sz) (hd : d < 2 ^ (N * 128)) (hcv : ∀ (i : Nat) (x : α) (j : Nat) (u : Value), xs[i]? = some x → (enc x)[j]? = some u → u.oneCell' = true ∧ (dg d (i * sz + j) ≠ 0 → CV (phi1 ⟨b, o, cap * sz, sz⟩) sd sn (dg d (i * sz + j)) u)) :
    OR P (fun _ => none) (phi1 ⟨b, o, cap * sz, sz⟩) sd sn w ⟨b, o, cap * sz, sz⟩ (.ro E N d) ∧ b < w.heap.size ∧ xs.length ≤ cap := by
  have cell : ∀ i x j u, xs[i]? = some x → (enc x)[j]? = some u → w.cell? ⟨b, o + i * sz + j, none⟩ = some u := fun i x j u hi hj => h.2 i x hi j u hj
  obtain ⟨_, _, hsl, hle, _⟩ := h.1
  cases hsl
  obtain ⟨x0, xs', rfl⟩ : ∃ x l, xs = x :: l := by cases xs with | nil => exact absurd rfl hx | cons x l => exact ⟨x, l, rfl⟩
  have h0 : 0 < (enc x0).length := by rw [hlen x0 (by simp)]; exact hz0
  have hc0 := cell 0 x0 0 (enc x0)[0] rfl (by simp [h0])
  have hlt := World.block_lt_of_cell? w _ hc0
  obtain ⟨cur, E', fz, hb⟩ : ∃ cur E' fz, w.heap[b]? = some (.cells cur E' fz) := by
    simp only [World.cell?] at hc0
    cases hh : w.heap[b]? with
    | none => rw [hh] at hc0; simp at hc0
    | some ob =>
      cases ob with
      | cells cur E' fz => exact ⟨cur, E', fz, rfl⟩
      | _ => rw [hh] at hc0; simp at hc0
  refine ⟨⟨cur, E', fz, hb, ⟨hd, fun i hi => ?_⟩, hz, ?_⟩, hlt, hle⟩
  · have hq : i / sz < (x0 :: xs').length := by rw [Nat.div_lt_iff_lt_mul hz0]; omega
    have hr : i % sz < sz := Nat.mod_lt _ hz0
    have e : i / sz * sz + i % sz = i := Nat.div_add_mod' i sz
    have hxi : (x0 :: xs')[i / sz]? = some (x0 :: xs')[i / sz] := List.getElem?_eq_getElem hq
    have hlx : i % sz < (enc (x0 :: xs')[i / sz]).length := by rw [hlen _ (List.getElem_mem hq)]; exact hr
    have hj : (enc (x0 :: xs')[i / sz])[i % sz]? = some (enc (x0 :: xs')[i / sz])[i % sz] := List.getElem?_eq_getElem hlx
    have hcell := cell _ _ _ _ hxi hj
    obtain ⟨k1, k2⟩ := hcv _ _ _ _ hxi hj
    refine ⟨_, ?_, k1, ?_⟩
    · have : w.cell? ⟨b, o + i / sz * sz + i % sz, none⟩ = cur[o + i / sz * sz + i % sz]? := by simp [World.cell?, hb]
      rw [this] at hcell
      rw [Nat.add_assoc, e] at hcell
      exact hcell
    · rw [e] at k2; exact k2
  · show N ≤ cap * sz
    rw [hN]; exact Nat.mul_le_mul_right _ hle
end
end Go.Ex
namespace Go.Ex
open Go.Fip
open Go.RowKit
section
variable {P : Program} {w : World} {φ : Phi} {sd : Ex.T AV} {sn : Nat} {C : Cx} {s : St}
theorem cI_code (n:Nat):cI n=code (n+9223372036854775808) 1:=rfl
theorem unbias_cI (n:Nat):unbias (n+9223372036854775808)=(n:Int):=by unfold unbias; rw [Int.subNatNat_eq_coe]; omega
theorem cv_cI {n:Nat} (h:n<9223372036854775808):CV φ sd sn (cI n) (.int .i64 n):=by
 have:=CV.int (φ:=φ) (sd:=sd) (sn:=sn) (n+9223372036854775808) (by omega)
 rw [unbias_cI] at this; exact this
theorem of_cI {n:Nat} {v:Value} (h:CV φ sd sn (cI n) v):v=.int .i64 n:=by
 have hm:cI n % 16=1:=by rw [cI_code]; exact code_mod (by decide)
 rw [(cv_plain h (.inl hm)).2,pv_int hm,cI_code,code_div (by decide),unbias_cI]
theorem cI_lt {n:Nat} (h:n<9223372036854775808):cI n<2 ^ 128:=by
 have e:(2:Nat) ^ 128=340282366920938463463374607431768211456:=by decide
 rw [e]; show (n+9223372036854775808) * 16+1<_; omega
theorem cL_spec : ∀ {l : List Nat}, (∀ x ∈ l, x < 2 ^ 128) → cL l < 2 ^ (l.length * 128) ∧ ∀ i, dg (cL l) i = l.getD i 0
  | [], _ => ⟨by show 0 < _; exact Nat.two_pow_pos _, fun i => by show dg 0 i = _; rw [dg_zero]; simp⟩
  | x :: l, h => by
    obtain ⟨h1, h2⟩ := cL_spec (l := l) fun y hy => h y (by simp [hy])
    have hx := h x (by simp)
    have e : cL (x :: l) = Nat.add x (Nat.shiftLeft (cL l) (Nat.mul 1 128)) := rfl
    refine ⟨?_, fun i => ?_⟩
    · rw [e]
      have := cat_lt x (cL l) 1 l.length (by simpa using hx) h1
      rw [List.length_cons, Nat.add_comm]; exact this
    · rw [e, dg_cat _ _ _ _ (by simpa using hx)]
      by_cases hi : i < 1
      · rw [if_pos hi, dg_small x hx, if_pos (by omega)]
        have : i = 0 := by omega
        subst this; rfl
      · rw [if_neg hi, h2]
        obtain ⟨j, rfl⟩ : ∃ j, i = j + 1 := ⟨i - 1, by omega⟩
        rfl
theorem qLit_ok {lit c:Nat} {m:Mem} {T:Out→Prop} (h:Ok T (qLit lit c m)):c=lit:=beq_eq (ok_bool h).1
theorem tup_ok {c n t e:Nat} {v:Value} (hv:CV φ sd sn c v) (hd:dec c sd=some (.tu n t)) (hn:Nat.beq n 2=true) (he:Nat.beq (dg t 1) (cI e)=true) (h0:dg t 0≠0):∃ u,v=.tuple #[u,.int .i64 e]∧CV φ sd sn (dg t 0) u:=by
 obtain ⟨xs,rfl,hx,hxs⟩:AR φ sd sn (.tu n t) v:=hv.rel hd
 have hn:=beq_eq hn
 have he:=beq_eq he
 subst hn
 obtain ⟨l⟩:=xs
 match l,hx with
 | [u,x],_ =>
  have h1:=hxs 1 x rfl (by rw [he,cI_code,code_eq]; omega)
  rw [he] at h1
  exact ⟨u,by rw [of_cI h1],hxs 0 u rfl h0⟩
theorem dec0:dec 0 sd=none:=rfl
theorem qRow_ok {l:List Nat} {e c:Nat} {v:Value} {T:Out→Prop} (hl:∀ x∈l,x<9223372036854775808) (hw:WR P C φ s w) (hv:CV φ s.side s.sn c v) (h:Ok T (qRow l e c (memOf s))) :
  ∃ u,v=.tuple #[u,.int .i64 e]∧Rd encI 1 u (l.map Int.ofNat) w∧¬ C.F (eb u)∧eb u<w.heap.size:=by
 unfold qRow at h
 split at h
 ·rename_i n t hd
  have hd:dec c s.side=some (.tu n t):=hd
  split at h
  ·rename_i r o k c' hd2
   have hd2:dec (dg t 0) s.side=some (.sl r o k c'):=hd2
   split at h
   ·rename_i E n' d hr
    have hr:s.heap.get r=some (.row E n' d):=hr
    obtain ⟨h,_⟩:=ok_bool h
    obtain ⟨h1,h2⟩:=and_t h
    obtain ⟨h3,h4⟩:=and_t h1
    obtain ⟨h5,h6⟩:=and_t h2
    obtain ⟨h7,h8⟩:=and_t h6
    have hne:dg t 0≠0:=fun e0=>by rw [e0,dec0] at hd2; cases hd2
    obtain ⟨u,rfl,hu⟩:=tup_ok hv hd h3 h4 hne
    obtain ⟨q,cap,hq,_,_,_,_,_,hnc,rfl⟩:AR φ s.side s.sn (.sl r o k c') u:=hu.rel hd2
    obtain ⟨_,q',hq',hF,cur,E',hb,hcells,_⟩:=hw.row r _ hr
    rw [hq] at hq'; cases hq'
    have hk:=beq_eq h5
    have hon:o+k≤n':=ble_le h7
    have hdg:=beq_eq h8
    have hbl:∀ x∈l.map cI,x<2 ^ 128:=fun x hx=>by
     obtain ⟨y,hy,e⟩:=List.mem_map.1 hx
     rw [← e]; exact cI_lt (hl y hy)
    have hdj:∀ j x,l[j]? = some x→dg d (o+j)=cI x:=fun j x hj=>by
     have hlt:j<l.length:=(List.getElem?_eq_some_iff.1 hj).1
     have:=dg_dgs d o k j
     rw [if_pos (by omega),hdg,(cL_spec hbl).2 j] at this
     rw [← this]
     simp [hj]
    have hFq:¬ C.F q.b∧gN≤q.b:=by
     rcases hF with hF | ⟨⟨_,_,_,e⟩,_⟩
     ·exact hF
     ·cases e
    refine ⟨_,rfl,⟨⟨_,cap,by rw [List.length_map, ← hk],by rw [List.length_map, ← hk]; exact hnc,.inr ⟨_,_,rfl⟩⟩,fun j x hj i u' hi=>?_⟩,hFq.1,hw.rng r q hq⟩
    rw [List.getElem?_map] at hj
    cases hlj:l[j]? with
    | none=>rw [hlj] at hj; cases hj
    | some y =>
     rw [hlj] at hj
     cases hj
     have hlt:j<l.length:=(List.getElem?_eq_some_iff.1 hlj).1
     obtain ⟨z,hz,_,hzc⟩:=hcells.2 (o+j) (by omega)
     have hdy:=hdj j y hlj
     rw [hdy] at hzc
     have hzv:=of_cI (hzc (by rw [cI_code,code_eq]; omega))
     subst hzv
     have hi0:i=0∧u'=.int .i64 (y:Int):=by
      match i,hi with
      | 0,hi=>exact ⟨rfl,by cases hi; rfl⟩
      | i+1,hi=>exact absurd hi (by simp [encI])
     obtain ⟨rfl,rfl⟩:=hi0
     show w.cell? ⟨q.b,q.off+o+j * 1+0,none⟩=_
     have:w.cell? ⟨q.b,q.off+o+j * 1+0,none⟩=cur[q.off+o+j * 1+0]? := by simp [World.cell?,hb]
     rw [this,Nat.mul_one,Nat.add_zero,Nat.add_assoc]
     exact hz
   ·exact (ok_bad h).elim
  ·exact (ok_bad h).elim
 ·exact (ok_bad h).elim
theorem qSlc_ok {k e c:Nat} {v:Value} {T:Out→Prop} (hv:CV φ s.side s.sn c v) (h:Ok T (qSlc k e c (memOf s))):∃ u,v=.tuple #[u,.int .i64 e]∧SliceIs u k:=by
 unfold qSlc at h
 split at h
 ·rename_i n t hd
  have hd:dec c s.side=some (.tu n t):=hd
  split at h
  ·rename_i r o k' c' hd2
   have hd2:dec (dg t 0) s.side=some (.sl r o k' c'):=hd2
   obtain ⟨h,_⟩:=ok_bool h
   obtain ⟨h1,h2⟩:=and_t h
   obtain ⟨h3,h4⟩:=and_t h1
   have hne:dg t 0≠0:=fun e0=>by rw [e0,dec0] at hd2; cases hd2
   obtain ⟨u,rfl,hu⟩:=tup_ok hv hd h3 h4 hne
   obtain ⟨q,cap,hq,_,_,_,_,_,hnc,rfl⟩:AR φ s.side s.sn (.sl r o k' c') u:=hu.rel hd2
   have hk:k'=k:=beq_eq h2
   exact ⟨_,rfl,_,cap,by rw [hk],by rw [← hk]; exact hnc,.inr ⟨_,_,rfl⟩⟩
  ·exact (ok_bad h).elim
 ·exact (ok_bad h).elim
end
end Go.Ex
set_option maxRecDepth 100000
namespace Go.Ex
open Go.Fip
open Go.RowKit
theorem isNil_eq {r:R} (h:isNil r=true):r=some []:=by
 match r,h with
 | some [],_=>rfl
theorem allB_at {f:Nat→Bool}:∀ {n:Nat},allB f n=true→∀ i,i<n→f i=true
 | n+1,h,i,hi=>by
  obtain ⟨h1,h2⟩:=and_t (show Bool.and (f n) (allB f n)=true from h)
  by_cases e:i=n
  ·rw [e]; exact h1
  ·exact allB_at h2 i (by omega)
section
variable {P : Program} {w : World}
theorem wr_none (hg:GW w):WR P (cxA mN w) (fun _=>none) (stOf 0 mN) w where
 full:=full_full 25
 sok:=⟨full_full 25,fun i _=>get_full 25 i⟩
 row:=fun r o h=>by have h:(full 25:T AO).get r=some o:=h; rw [get_full] at h; cases h
 inj:=fun r r' o o' q q' h=>by have h:(full 25:T AO).get r=some o:=h; rw [get_full] at h; cases h
 new:=fun _ _=>rfl
 rng:=fun r q h=>by cases h
 lim:=rfl
 limn:=Nat.le_refl _
 low:=fun r h=>rfl
 sn:=Nat.le_refl _
 sdl:=fun i h=>rfl
 os:=rfl
 tape:=rfl
 output:=rfl
 size:=Nat.le_refl _
 frame:=fun b hb=>⟨hb,rfl⟩
 gid:=fun r i k h=>by have h:(full 25:T AO).get r=some (.gh i k):=h; rw [get_full] at h; cases h
 ghl:=fun i D h=>by cases h
 gw:=hg
 b0:=Nat.le_refl _
theorem cv_sl0 {sd:Ex.T AV} {sn n b o cap z:Nat} (hz:0<z) (hn:n<16777216) (hc:n≤cap):CV (phi1 ⟨b,o,cap * z,z⟩) sd sn (sl0 n) (.slice (some ⟨b,o,none⟩) n cap):=by
 have:=CV.sl (φ:=phi1 ⟨b,o,cap * z,z⟩) (sd:=sd) (sn:=sn) 0 0 n 0 cap ⟨b,o,cap * z,z⟩ (by decide) (by decide) hn (by decide) rfl (.inr ⟨rfl,by show cap=(cap * z - 0) / z; rw [Nat.sub_zero,Nat.mul_div_cancel _ hz]⟩) hc
 have e:(((0 * 16777216+n) * 16777216+0) * 16777216+0)=Nat.mul (Nat.mul n 16777216) 16777216:=by show _=n * 16777216 * 16777216; omega
 rw [e] at this
 exact this
theorem run_ints {l : List Nat} {g F D : Nat} {fn : Func} {cd : Code} {xs : List Nat} {q : Nat → Mem → R} {v : Value} {Q : Value → World → Prop} (hP : Named P) (hm : P.follows .mixedOrders = true) (hf : P.funcs[g]? = some fn) (hb : fn.body = some cd) (hz : ((P.info? 3).map (·.size)).getD 0 = 1)
    (hl : l ≠ []) (hlt : ∀ x ∈ l, x < 9223372036854775808) (hll : l.length < 16777216) (hxs : ∀ x ∈ xs, x < 9223372036854775808) (hv : Rd encI 1 v (l.map Int.ofNat) w) (hg : GW w)
    (h : isNil (callO P F (orL []) D (.fn (.func g) 0 0 0 0) (xs.length + 1) (cL (sl0 l.length :: xs.map cI)) (roI l) q) = true)
    (hR : ∀ (C : Cx) φ' s' w' c' u, (∀ b, C.F b ↔ b < w.heap.size) → w.heap.size ≤ w'.heap.size → WR P C φ' s' w' → CV φ' s'.side s'.sn c' u → Ok (fun _ => True) (q c' (memOf s')) → ∀ w'', Agree w.heap.size w'.heap.size w' w'' → Q u w'') :
    Go.Fip.Fn P g (v :: xs.map fun (x : Nat) => Value.int .i64 x).toArray w Q := by
  obtain ⟨a, cap, rfl, hnc, ha⟩ := hv.1
  have hln : (l.map Int.ofNat).length = l.length := List.length_map ..
  rw [hln] at hnc
  have hpos : 0 < l.length := List.length_pos_iff.2 hl
  obtain ⟨b, o, rfl⟩ : ∃ b o, a = some ⟨b, o, none⟩ := by
    rcases ha with ⟨_, h0⟩ | h
    · omega
    · exact h
  have hbl : ∀ x ∈ l.map cI, x < 2 ^ 128 := fun x hx => by
    obtain ⟨y, hy, e⟩ := List.mem_map.1 hx
    rw [← e]; exact cI_lt (hlt y hy)
  have hbx : ∀ x ∈ sl0 l.length :: xs.map cI, x < 2 ^ 128 := fun x hx => by
    rcases List.mem_cons.1 hx with rfl | hx
    · have e : (2 : Nat) ^ 128 = 340282366920938463463374607431768211456 := by decide
      rw [e]; show l.length * 16777216 * 16777216 * 16 + 4 < _; omega
    · obtain ⟨y, hy, e⟩ := List.mem_map.1 hx
      rw [← e]; exact cI_lt (hxs y hy)
  obtain ⟨c1, c2⟩ := cL_spec hbl
  obtain ⟨d1, d2⟩ := cL_spec hbx
  obtain ⟨hor, hblk, _⟩ := or_rd (sd := full 25) (sn := 0) (d := cL (l.map cI)) (N := l.length) hz hv (by simpa using hl) (fun x _ => rfl) (by decide) (by rw [hln, Nat.mul_one]) (by simpa using c1) (fun i x j u hi hj => by
    rw [List.getElem?_map] at hi
    cases hli : l[i]? with
    | none => rw [hli] at hi; cases hi
    | some y =>
      rw [hli] at hi; cases hi
      have hj0 : j = 0 ∧ u = .int .i64 (y : Int) := by
        match j, hj with
        | 0, hj => exact ⟨rfl, by cases hj; rfl⟩
        | j + 1, hj => exact absurd hj (by simp [encI])
      obtain ⟨rfl, rfl⟩ := hj0
      refine ⟨rfl, fun _ => ?_⟩
      have e : dg (cL (l.map cI)) (i * 1 + 0) = dg (cL (l.map cI)) i := by rw [Nat.mul_one, Nat.add_zero]
      show CV _ _ _ (dg (cL (l.map cI)) (i * 1 + 0)) _
      rw [e, c2 i]
      have hy : y ∈ l := List.mem_of_getElem? hli
      simp only [List.getD_eq_getElem?_getD, List.getElem?_map, hli, Option.map_some, Option.getD_some]
      exact cv_cI (hlt y hy))
  refine run_args (l := []) (m := roI l) (φ := phi1 ⟨b, o, cap * 1, 1⟩) hP hm (fun _ hp => by cases hp) hf hb (wr_ro hg (full_full 25) (fun i _ => get_full 25 i) hblk hor) (by simp) (by simpa using d1) (fun i u hi => ?_) (isNil_eq h) (fun φ' s' w' c' u he hw hc hk => hR _ φ' s' w' c' u (fun _ => .rfl) hw.size hw hc hk)
  rw [d2 i]
  cases i with
  | zero =>
    have hi : some (Value.slice (some ⟨b, o, none⟩) (l.map Int.ofNat).length cap) = some u := by simpa using hi
    cases hi
    rw [hln]
    exact cv_sl0 (by decide) hll hnc
  | succ i =>
    have hi : (xs.map fun (x : Nat) => Value.int .i64 x)[i]? = some u := by simpa using hi
    rw [List.getElem?_map] at hi
    cases hxi : xs[i]? with
    | none => rw [hxi] at hi; cases hi
    | some y =>
      rw [hxi] at hi; cases hi
      have e : (sl0 l.length :: xs.map cI).getD (i + 1) 0 = cI y := by simp [hxi]
      rw [e]
      exact cv_cI (hxs y (List.mem_of_getElem? hxi))
theorem rd_agree {α:Type} {enc:α→List Value} {sz lo hi:Nat} {v:Value} {xs:List α} {w w':World} (h:Rd enc sz v xs w) (ha:Agree lo hi w w') (h1:lo≤eb v) (h2:eb v<hi):Rd enc sz v xs w' :=
 ⟨h.1,fun i x hi j u hu=>(ha.cell (p:=⟨eb v,eo v+i * sz+j,none⟩) h1 h2).trans (h.2 i x hi j u hu)⟩
end
end Go.Ex
set_option maxRecDepth 100000
namespace Go.Ex
noncomputable abbrev fnAt (g:Nat):Func:=(Go.Proofs.Tryz.prog.funcs[g]?).getD default
noncomputable abbrev cdAt (g:Nat):Code:=(fnAt g).body.getD .skip
theorem named_of {P:Go.Program} (h:(P.funcs.toList.all fun fn => !(fn.name == "runtime.NumGoroutine"))=true):Named P:=fun g fn hf=>by
 have:=List.all_eq_true.1 h fn (Array.mem_toList_iff.2 (Array.mem_of_getElem? hf))
 simpa using this
theorem named:Named Go.Proofs.Tryz.prog:=named_of (by kernel_rfl)
theorem mixed:Go.Proofs.Tryz.prog.follows .mixedOrders=true:=by kernel_rfl
end Go.Ex
namespace Go.Ex
open Go.Fip
open Go.RowKit
open Go.Proofs
theorem of_true {φ:Phi} {sd:Ex.T AV} {sn:Nat} {v:Value} (h:CV φ sd sn 18 v):v=.bool true:=by
 have:=(cv_plain h (.inr (by decide))).2
 rw [this,pv_bool (by decide)]; rfl
theorem run_true {l:List (Nat×Ans)} {g F D:Nat} {fn:Func} {cd:Code} (hl:AllOK Tryz.prog l) (hf:Tryz.prog.funcs[g]? = some fn) (hb:fn.body=some cd) (h:callO Tryz.prog F (orL l) D (.fn (.func g) 0 0 0 0) 0 0 mN qT=(some []:Option (List Out))) (w:World) (hg:GW w) :
  Go.Fip.Fn Tryz.prog g #[] w (fun v _=>v=.bool true) :=
 run_args (m:=mN) (φ:=fun _=>none) named mixed hl hf hb (wr_none hg) rfl (by decide) (fun i u hi=>by simp at hi) h fun φ' s' w' c' v he hw hc hk w'' ha=>by
  have e:c'=18:=beq_eq (ok_bool hk).1
  rw [e] at hc
  exact of_true hc
theorem true_ok {g:Nat} (h:∀ w,GW w→Go.Fip.Fn Tryz.prog g #[] w (fun v _=>v=.bool true)):AnsOK Tryz.prog g aTrue:=fun C φ s w T k n c az other hw hn hlt hcv h0=>by
 rcases arity_ok (show Ok T (arity 0 n (ansC (some 18) (memOf s) (toS s.env k) other) other) from h0) with hk | ⟨h1,hk⟩
 ·exact .inl hk
 ·subst h1
  have e:az = #[]:=by simpa using hn
  subst e
  refine ansC_ok hw (fun r hr=>?_) hk
  cases hr
  exact (h w hw.gw).mono fun v w' hv=>by rw [hv]; exact .boo 1 (by decide)
end Go.Ex
namespace Go.Ex
open Go.Fip
open Go.RowKit
open Go.Proofs
theorem symRow_spec : ∀ n, n ≤ 60 → symRow n < 2 ^ (n * 128) ∧ ∀ i, i < n → dg (symRow n) i = code i 9
  | 0, _ => ⟨Nat.two_pow_pos _, fun i h => absurd h (Nat.not_lt_zero _)⟩
  | n + 1, hn => by
    obtain ⟨h1, h2⟩ := symRow_spec n (by omega)
    have hs : symRow (n + 1) = Nat.add (symRow n) (Nat.shiftLeft (code n 9) (Nat.mul n 128)) := rfl
    have hc : code n 9 < 2 ^ 128 := by
      have e : (2 : Nat) ^ 128 = 340282366920938463463374607431768211456 := by decide
      rw [e, code_eq]; omega
    rw [hs]
    refine ⟨cat_lt _ _ n 1 h1 (by simpa using hc), fun i hi => ?_⟩
    rw [dg_cat _ _ _ _ h1]
    by_cases e : i < n
    · rw [if_pos e]; exact h2 i e
    · have : i = n := by omega
      subst this
      rw [if_neg e, Nat.sub_self, dg_small _ hc, if_pos rfl]
theorem slC_sl0 (n:Nat):slC 0 n=sl0 n:=by
 unfold slC sl0
 show code ((0+n) * 16777216 * 16777216+0) 4=code (n * 16777216 * 16777216) 4
 rw [Nat.zero_add,Nat.add_zero]
noncomputable def bookSd (n:Nat) (y:Nat→Value) (h:Law n y):Ex.T AV:=((full 25).put 0 (some (.ym n y h))).put 1 (some (.ag 1 (slC 0 n)))
theorem symM_eq (n:Nat) (y:Nat→Value) (h:Law n y):symM n y h=roM 38 (5 * n) (symRow (5 * n)) (bookSd n y h) 2:=rfl
theorem bookSd_get (n:Nat) (y:Nat→Value) (h:Law n y) (i:Nat):(bookSd n y h).get i=if i=1 then some (.ag 1 (slC 0 n)) else if i=0 then some (.ym n y h) else none:=by
 unfold bookSd
 rw [((full_full 25).put _ _).get_put' (by decide),(full_full 25).get_put' (by decide),get_full]
theorem hz38:((Tryz.prog.info? 38).map (·.size)).getD 0=5:=by kernel_rfl
theorem run_book {E : List En} {v : Value} {g F D : Nat} {fn : Func} {cd : Code} {xs : List Nat} {q : Nat → Mem → R} {w : World} {Q : Value → World → Prop} (hf : Tryz.prog.funcs[g]? = some fn) (hb : fn.body = some cd)
    (hE : Go.Fip.B.ck E = 0) (h1 : 1 ≤ E.length) (h12 : E.length ≤ 12) (hxs : ∀ x ∈ xs, x < 9223372036854775808) (hv : Rd encE 5 v E w) (hg : GW w)
    (h : ∀ y (hy : Law E.length y), callO Tryz.prog F (orL bookA) D (.fn (.func g) 0 0 0 0) (xs.length + 1) (cL (code 1 6 :: xs.map cI)) (symM E.length y hy) q = (some [] : Option (List Out)))
    (hR : ∀ (C : Cx) φ' s' w' c' u, WR Tryz.prog C φ' s' w' → CV φ' s'.side s'.sn c' u → Ok (fun _ => True) (q c' (memOf s')) → ∀ w'', Agree w.heap.size w'.heap.size w' w'' → Q u w'') :
    Go.Fip.Fn Tryz.prog g (.agg #[v] :: xs.map fun (x : Nat) => Value.int .i64 x).toArray w Q := by
  have hlaw : Law E.length (symVal E) := ⟨E, hE, rfl, rfl⟩
  obtain ⟨a, cap, rfl, hnc, ha⟩ := hv.1
  obtain ⟨b, o, rfl⟩ : ∃ b o, a = some ⟨b, o, none⟩ := by
    rcases ha with ⟨_, h0⟩ | h
    · omega
    · exact h
  obtain ⟨r1, r2⟩ := symRow_spec (5 * E.length) (by omega)
  obtain ⟨hor, hblk, _⟩ := or_rd (P := Tryz.prog) (E := 38) (sd := bookSd E.length (symVal E) hlaw) (sn := 2) (d := symRow (5 * E.length)) (N := 5 * E.length) hz38 hv (fun e => by rw [e] at h1; simp at h1) (fun x _ => rfl) (by decide) (by omega) r1 (fun i x j u hi hj => by
    have hlt : i < E.length := (List.getElem?_eq_some_iff.1 hi).1
    have hj5 : j < 5 := (List.getElem?_eq_some_iff.1 hj).1
    have hxe : x = nth E (i : Int) := by
      rw [nth_nat hlt]
      rw [List.getElem?_eq_getElem hlt] at hi
      exact (Option.some.inj hi).symm
    subst hxe
    have hu : u = symVal E (5 * i + j) := by
      rw [sym_field (by omega) hj5]
      match j, hj5, hj with
      | 0, _, hj => exact (Option.some.inj hj).symm
      | 1, _, hj => exact (Option.some.inj hj).symm
      | 2, _, hj => exact (Option.some.inj hj).symm
      | 3, _, hj => exact (Option.some.inj hj).symm
      | 4, _, hj => exact (Option.some.inj hj).symm
    subst hu
    refine ⟨law_one hlaw _, fun _ => ?_⟩
    rw [show i * 5 + j = 5 * i + j by omega, r2 _ (by omega)]
    exact .sy (5 * i + j) E.length (symVal E) hlaw (by omega) (by decide) (by rw [bookSd_get]; rfl))
  have hbx : ∀ x ∈ code 1 6 :: xs.map cI, x < 2 ^ 128 := fun x hx => by
    rcases List.mem_cons.1 hx with rfl | hx
    · decide
    · obtain ⟨y, hy, e⟩ := List.mem_map.1 hx
      rw [← e]; exact cI_lt (hxs y hy)
  obtain ⟨d1, d2⟩ := cL_spec hbx
  have hw : WR Tryz.prog (cxA (symM E.length (symVal E) hlaw) w) (phi1 ⟨b, o, cap * 5, 5⟩) (stOf 0 (symM E.length (symVal E) hlaw)) w := by
    rw [symM_eq]
    exact wr_ro hg (((full_full 25).put _ _).put _ _) (fun i hi => by rw [bookSd_get, if_neg (by omega), if_neg (by omega)]) hblk hor
  have hsd : (symM E.length (symVal E) hlaw).side = bookSd E.length (symVal E) hlaw := rfl
  have hsn : (symM E.length (symVal E) hlaw).sn = 2 := rfl
  refine run_args (l := bookA) (m := symM E.length (symVal E) hlaw) (φ := phi1 ⟨b, o, cap * 5, 5⟩) named mixed book_ok hf hb hw (by simp) (by simpa using d1) (fun i u hi => ?_) (h _ hlaw) (fun φ' s' w' c' u he hw hc hk => hR _ φ' s' w' c' u hw hc hk)
  rw [d2 i, hsd, hsn]
  cases i with
  | zero =>
    have hi : some (Value.agg #[.slice (some ⟨b, o, none⟩) E.length cap]) = some u := by simpa using hi
    cases hi
    have hsl : CV (phi1 ⟨b, o, cap * 5, 5⟩) (bookSd E.length (symVal E) hlaw) 2 (slC 0 E.length) (.slice (some ⟨b, o, none⟩) E.length cap) := by
      rw [slC_sl0]; exact cv_sl0 (by decide) (by omega) hnc
    have hlt : slC 0 E.length < 2 ^ 128 := hsl.lt
    refine CV.ag 1 1 (slC 0 E.length) #[.slice (some ⟨b, o, none⟩) E.length cap] (by decide) (by decide) (by rw [bookSd_get]; rfl) rfl (by simpa using hlt) (fun i u hi => ?_) (fun i u hi hne => ?_)
    · cases i with
      | zero => have hi : some (Value.slice (some ⟨b, o, none⟩) E.length cap) = some u := by simpa using hi
                cases hi; rfl
      | succ i => simp at hi
    · cases i with
      | zero =>
        have hi : some (Value.slice (some ⟨b, o, none⟩) E.length cap) = some u := by simpa using hi
        cases hi
        rw [dg_small _ hlt, if_pos rfl]; exact hsl
      | succ i => simp at hi
  | succ i =>
    have hi : (xs.map fun (x : Nat) => Value.int .i64 x)[i]? = some u := by simpa using hi
    rw [List.getElem?_map] at hi
    cases hxi : xs[i]? with
    | none => rw [hxi] at hi; cases hi
    | some y =>
      rw [hxi] at hi; cases hi
      have e : (code 1 6 :: xs.map cI).getD (i + 1) 0 = cI y := by simp [hxi]
      rw [e]
      exact cv_cI (hxs y (List.mem_of_getElem? hxi))
end Go.Ex
