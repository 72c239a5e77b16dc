/- Joined texts: what the statement needs, walks by program (wip/tools). -/
import Derived.Test.YteiipodhpbdlbaaGreatA5
import Derived.LoopNIn
import Derived.Test.YteiipodhpbdlbaaGreatA4
import Derived.Test.YteiipodhpbdlbaaGreatProg
import Derived.KernelRfl
set_option linter.unusedVariables false
set_option linter.unusedSimpArgs false
set_option linter.unusedSectionVars false
set_option linter.unnecessarySimpa false
namespace Go.Ex
open Go.Fip
section
variable {T : Out → Prop} {φ : Phi} {s : St} {N : Nat} {a : Act} {P : Program} {w : World} {C : Cx} {call : CallR} {r : Option Nat}
def PostC (P:Program) (C:Cx) (N:Nat) (φ:Phi) (s:St) (T:Out→Prop) (k:Nat→St→R):Exit→Act→World→Prop :=
 fun e a w=>∃ en,exN e=some en∧Post1 P C N φ s T (k en) a w
def CodeOK (P:Program) (call:CallR) (F N:Nat) (r:Option Nat) (c:Code):Prop :=
 ∀ (C:Cx) (φ:Phi) (s:St) (a:Act) (w:World) (T:Out→Prop) (k:Nat→St→R),okC N c=true→(r.isSome=true→noRange c=true)→SR P C N φ s a w→Ok T (codeX c call P F N s k)→c.wpIn (Fr r) 0 P (PostC P C N φ s T k) a w
def Rp (P:Program) (C:Cx) (N:Nat) (φ:Phi) (base:St) (l:List Out) (e:Exit) (a:Act) (w:World):Prop:=∃ o∈l,OutR P C N φ base o e a w
theorem rp_add {base:St} {z:Nat} {e:Exit} (hB:BR φ base) (y:Out):∀ (l:List Out),(OutR P C N φ base y e a w∨Rp P C N φ base l e a w)→Rp P C N φ base (addO N base.lim z base y l) e a w
 | [],h=>by
  rcases h with h | ⟨o,ho,_⟩
  ·exact ⟨y,List.mem_singleton.2 rfl,h⟩
  ·cases ho
 | x::l,h=>by
  have step:∀ q,meetL N base.lim z base x y=q→Rp P C N φ base (match q with | some z=>z::l | none=>x::addO N base.lim z base y l) e a w:=fun q hq=>by
   cases q with
   | some m =>
    rcases h with h | ⟨o,ho,h⟩
    ·exact ⟨m,List.mem_cons_self,meetL_ok hB (.inr rfl) h hq⟩
    ·rcases List.mem_cons.1 ho with e1 | ho
     ·exact ⟨m,List.mem_cons_self,meetL_ok hB (.inl e1) h hq⟩
     ·exact ⟨o,List.mem_cons_of_mem _ ho,h⟩
   | none =>
    have rest:(OutR P C N φ base y e a w∨Rp P C N φ base l e a w)→Rp P C N φ base (x::addO N base.lim z base y l) e a w:=fun h=>by
     obtain ⟨o,ho,h⟩:=rp_add hB y l h
     exact ⟨o,List.mem_cons_of_mem _ ho,h⟩
    rcases h with h | ⟨o,ho,h⟩
    ·exact rest (.inl h)
    ·rcases List.mem_cons.1 ho with e1 | ho
     ·exact ⟨o,e1 ▸ List.mem_cons_self,h⟩
     ·exact rest (.inr ⟨o,ho,h⟩)
  exact step _ rfl
theorem rp_meets {base:St} {z:Nat} {e:Exit} (hB:BR φ base):∀ (l acc:List Out),(Rp P C N φ base l e a w∨Rp P C N φ base acc e a w)→Rp P C N φ base (meets N base.lim z base l acc) e a w
 | [],acc,h=>by
  rcases h with ⟨o,ho,_⟩ | h
  ·cases ho
  ·exact h
 | y::l,acc,h=>by
  refine rp_meets hB l (addO N base.lim z base y acc) ?_
  rcases h with ⟨o,ho,h⟩ | h
  ·rcases List.mem_cons.1 ho with e1 | ho
   ·exact .inr (rp_add hB y acc (.inl (e1 ▸ h)))
   ·exact .inl ⟨o,ho,h⟩
  ·exact .inr (rp_add hB y acc (.inr h))
theorem rp_fold {base:St} {e:Exit} (hB:BR φ base):∀ (l:List Out) (x m:Out),fold2 N base.lim base l x=some m→(OutR P C N φ base x e a w∨Rp P C N φ base l e a w)→OutR P C N φ base m e a w
 | [],x,m,hm,h=>by
  have hm:some x=some m:=hm
  cases hm
  rcases h with h | ⟨o,ho,_⟩
  ·exact h
  ·cases ho
 | y::l,x,m,hm,h=>by
  have hm:(match meet1 N base.lim base.lim (maxN x.s.next y.s.next) base x y with | none=>none | some z=>fold2 N base.lim base l z)=some m:=hm
  cases hq:meet1 N base.lim base.lim (maxN x.s.next y.s.next) base x y with
  | none=>rw [hq] at hm; cases hm
  | some z =>
   rw [hq] at hm
   refine rp_fold hB l z m hm ?_
   rcases h with h | ⟨o,ho,h⟩
   ·exact .inl (meet_ok hB (.inl rfl) h hq)
   ·rcases List.mem_cons.1 ho with e1 | ho
    ·exact .inl (meet_ok hB (.inr rfl) (e1 ▸ h) hq)
    ·exact .inr ⟨o,ho,h⟩
theorem mem_stays:∀ {l:List Out} {o:Out},o∈l→o.e=0→o∈staysO l
 | x::l,o,ho,he=>by
  have hd:staysO (x::l)=Nat.rec (motive:=fun _=>List Out) (x::staysO l) (fun _ _=>staysO l) x.e:=rfl
  rw [hd]
  rcases List.mem_cons.1 ho with e1 | ho
  ·subst e1; rw [he]; exact List.mem_cons_self
  ·cases x.e with
   | zero=>exact List.mem_cons_of_mem _ (mem_stays ho he)
   | succ n=>exact mem_stays ho he
theorem mem_goes:∀ {l:List Out} {o:Out} {n:Nat},o∈l→o.e=n+1→o∈goesO l
 | x::l,o,n,ho,he=>by
  have hd:goesO (x::l)=Nat.rec (motive:=fun _=>List Out) (goesO l) (fun _ _=>x::goesO l) x.e:=rfl
  rw [hd]
  rcases List.mem_cons.1 ho with e1 | ho
  ·subst e1; rw [he]; exact List.mem_cons_self
  ·cases x.e with
   | zero=>exact mem_goes ho he
   | succ n=>exact List.mem_cons_of_mem _ (mem_goes ho he)
theorem ok_bodyO {body:St→(Nat→St→R)→R}:∀ {l outs:List Out},bodyO body l=some outs→∀ o∈l,Ok (· ∈ outs) (body o.s endO)
 | x::l,outs,h,o,ho=>by
  have h:cat (body x.s endO) (bodyO body l)=some outs:=h
  have hk:Ok (· ∈ outs) (cat (body x.s endO) (bodyO body l)):=⟨outs,h,fun _ h=>h⟩
  rcases List.mem_cons.1 ho with e1 | ho
  ·exact e1 ▸ (ok_cat hk).1
  ·obtain ⟨_,outs',h2,h3⟩:=ok_cat hk
   obtain ⟨l2,h4,h5⟩:=ok_bodyO h2 o ho
   exact ⟨l2,h4,fun o ho=>h3 o (h5 o ho)⟩
theorem ok_outsR {ks:Out→R}:∀ {l:List Out},Ok T (outsR ks l)→∀ o∈l,Ok T (ks o)
 | x::l,h,o,ho=>by
  obtain ⟨h1,h2⟩:=ok_cat (show Ok T (cat (ks x) (outsR ks l)) from h)
  rcases List.mem_cons.1 ho with e1 | ho
  ·exact e1 ▸ h1
  ·exact ok_outsR h2 o ho
theorem loopJ_round {body : St → (Nat → St → R) → R} {base : St} {z F : Nat} {k : Nat → St → R} {now done : List Out} (h : Ok T (loopJ body N base.lim z base k (F + 1) now done)) :
    ∃ outs, bodyO body now = some outs ∧ ((meets N base.lim z base (staysO outs) [] = [] ∧ Ok T (outsR (fun o => k o.e o.s) (meets N base.lim z base (goesO outs) done))) ∨
      Ok T (loopJ body N base.lim z base k F (meets N base.lim z base (staysO outs) []) (meets N base.lim z base (goesO outs) done))) := by
  obtain ⟨outs, h1, h2⟩ := ok_opt (show Ok T (optR (bodyO body now) _) from h)
  refine ⟨outs, h1, ?_⟩
  generalize hq : meets N base.lim z base (staysO outs) [] = q at h2
  cases q with
  | nil => exact .inl ⟨rfl, h2⟩
  | cons x l => exact .inr h2
theorem loopJ_done {body:St→(Nat→St→R)→R} {base:St} {z:Nat} {k:Nat→St→R} {e:Exit} (hB:BR φ base):∀ (F:Nat) (now done:List Out),Ok T (loopJ body N base.lim z base k F now done)→Rp P C N φ base done e a w →
  ∃ o,OutR P C N φ base o e a w∧Ok T (k o.e o.s)
 | 0,now,done,h,hr=>(ok_bad h).elim
 | F+1,now,done,h,hr=>by
  obtain ⟨outs,h1,h2⟩:=loopJ_round h
  have hr':=rp_meets (z:=z) hB (goesO outs) done (.inr hr)
  rcases h2 with ⟨_,h2⟩ | h2
  ·obtain ⟨o,ho,h3⟩:=hr'
   exact ⟨o,h3,ok_outsR h2 o ho⟩
  ·exact loopJ_done hB F _ _ h2 hr'
theorem sr_br (hS:SR P C N φ s a w):BR φ s:=⟨hS.wr.full,hS.wr.sok,fun r o hr=>let ⟨_,q,hq,_⟩:=hS.wr.row r o hr; ⟨q,hq⟩,fun r o hr=>(hS.wr.row r o hr).1⟩
theorem loopJ_rounds {F z:Nat} {c:Code} {k:Nat→St→R} {base:St} {Q:Exit→Act→World→Prop} (hc:CodeOK P call F N r c) (hok:okC N c=true) (hr:r.isSome=true→noRange c=true) (hB:BR φ base)
  (hQ:∀ o e a w,OutR P C N φ base o e a w→Ok T (k o.e o.s)→Q e a w):∀ (m:Nat) (now done:List Out) (a:Act) (w:World),Ok T (loopJ (fun s k=>codeX c call P F N s k) N base.lim z base k m now done)→Rp P C N φ base now .normal a w →
  Code.roundsIn (Fr r) 0 P c Q m a w
 | 0,now,done,a,w,h,hR=>(ok_bad h).elim
 | m+1,now,done,a,w,h,hR=>by
  obtain ⟨outs,h1,h2⟩:=loopJ_round h
  obtain ⟨o,ho,φ1,hen,he,hS⟩:=hR
  rw [roundsIn_succ]
  refine Go.wpIn_mono (hc _ φ1 o.s a w _ endO hok hr hS (ok_bodyO h1 o ho)) fun e a' w' hq=>?_
  obtain ⟨en,hen',φ',s',he',hS',hk⟩:=hq
  have hmem:(⟨en,0,s'⟩:Out)∈outs:=by
   obtain ⟨l,hl,hk⟩:=hk
   have hl:some [(⟨en,0,s'⟩:Out)]=some l:=hl
   cases hl
   exact hk _ (List.mem_singleton.2 rfl)
  have hO:OutR P C N φ base ⟨en,0,s'⟩ e a' w':=⟨φ',hen',he.trans he',hS'⟩
  have goes:∀ {n},en=n+1→Q e a' w':=fun {n} hn=>by
   have hr':Rp P C N φ base (meets N base.lim z base (goesO outs) done) e a' w':=rp_meets hB _ _ (.inl ⟨_,mem_goes hmem hn,hO⟩)
   rcases h2 with ⟨_,h2⟩ | h2
   ·obtain ⟨o,ho,h3⟩:=hr'
    exact hQ o e a' w' h3 (ok_outsR h2 o ho)
   ·obtain ⟨o,h3,h4⟩:=loopJ_done hB m _ _ h2 hr'
    exact hQ o e a' w' h3 h4
  cases e with
  | normal =>
   cases hen'
   have hr':Rp P C N φ base (meets N base.lim z base (staysO outs) []) .normal a' w':=rp_meets hB _ _ (.inl ⟨_,mem_stays hmem rfl,hO⟩)
   rcases h2 with ⟨h2,_⟩ | h2
   ·rw [h2] at hr'; obtain ⟨o,ho,_⟩:=hr'; cases ho
   ·exact loopJ_rounds hc hok hr hB hQ m _ _ a' w' h2 hr'
  | ret=>cases hen'; exact goes (n:=0) rfl
  | exit i=>cases hen'; exact goes (n:=1+2 * i) (by omega)
  | goto i=>cases hen'; exact goes (n:=2+2 * i) (by omega)
  | panic c=>cases hen'
  | outgrown=>cases hen'
theorem ok_loopJ {F:Nat} {c:Code} {k:Nat→St→R} (hc:CodeOK P call F N r c) (hok:okC N c=true) (hr:r.isSome=true→noRange c=true) (hS:SR P C N φ s a w)
  (h:Ok T (loopJ (fun s k=>codeX c call P F N s k) N s.lim s.next s k F [⟨0,0,s⟩] [])):(Code.loop c).wpIn (Fr r) 0 P (PostC P C N φ s T k) a w:=by
 refine wpIn_loop_rounds F (loopJ_rounds (C:=C) (φ:=φ) hc hok hr (sr_br hS) (fun o e a' w' hO hk=>?_) F _ _ a w h ⟨_,List.mem_singleton.2 rfl,φ,rfl,.refl,hS.wr.at,hS.er,hS.dr⟩)
 obtain ⟨φ',hen,he,hS'⟩:=hO
 have hl:o.s.lim=s.lim:=hS'.wr.lim
 have:=hS.wr.from (Nat.le_refl _) hl hS'.wr
 exact ⟨o.e,hen,φ',o.s,he,⟨this,hS'.er,hS'.dr⟩,hk⟩
theorem ok_joined {F : Nat} {c : Code} {k : Nat → St → R} (hc : CodeOK P call F N none c) (hok : okC N c = true) (hS : SR P C N φ s a w)
    (h : Ok T (optR (codeX c call P F N ⟨s.env, s.ds, s.heap, s.next, s.side, s.sn, s.next⟩ endO) (joined N s.lim ⟨s.env, s.ds, s.heap, s.next, s.side, s.sn, s.next⟩ k))) : c.wpIn (Fr none) 0 P (PostC P C N φ s T k) a w := by
  obtain ⟨outs, h1, h2⟩ := ok_opt h
  have hB : BR φ ⟨s.env, s.ds, s.heap, s.next, s.side, s.sn, s.next⟩ := ⟨hS.wr.full, hS.wr.sok, (sr_br hS).row, (sr_br hS).top⟩
  refine Go.wpIn_mono (hc _ φ ⟨s.env, s.ds, s.heap, s.next, s.side, s.sn, s.next⟩ a w (· ∈ outs) endO hok (fun h => nomatch h) ⟨hS.wr.atn, hS.er, hS.dr⟩ ⟨outs, h1, fun _ h => h⟩) fun e a' w' hq => ?_
  obtain ⟨en, hen', φ', s', he', hS', hk⟩ := hq
  have hmem : (⟨en, 0, s'⟩ : Out) ∈ outs := by
    obtain ⟨l, hl, hk⟩ := hk
    have hl : some [(⟨en, 0, s'⟩ : Out)] = some l := hl
    cases hl
    exact hk _ (List.mem_singleton.2 rfl)
  have hO : OutR P C N φ ⟨s.env, s.ds, s.heap, s.next, s.side, s.sn, s.next⟩ ⟨en, 0, s'⟩ e a' w' := ⟨φ', hen', he', hS'⟩
  cases outs with
  | nil => cases hmem
  | cons o l =>
    have h2 : Ok T (match fold2 N s.next ⟨s.env, s.ds, s.heap, s.next, s.side, s.sn, s.next⟩ l o with | some z => k z.e ⟨z.s.env, z.s.ds, z.s.heap, z.s.next, z.s.side, z.s.sn, s.lim⟩ | none => bad) := h2
    cases hf : fold2 N s.next ⟨s.env, s.ds, s.heap, s.next, s.side, s.sn, s.next⟩ l o with
    | none => rw [hf] at h2; exact (ok_bad h2).elim
    | some m =>
      rw [hf] at h2
      have hO2 : OutR P C N φ ⟨s.env, s.ds, s.heap, s.next, s.side, s.sn, s.next⟩ m e a' w' := rp_fold hB l o m hf (by
        rcases List.mem_cons.1 hmem with e1 | hm
        · exact .inl (e1 ▸ hO)
        · exact .inr ⟨_, hm, hO⟩)
      obtain ⟨φ2, hen2, he2, hS2⟩ := hO2
      have := hS.wr.from (b := s.next) (lim := s.lim) (by have h1 := hS.wr.lim; have h2 := hS.wr.limn; omega) rfl hS2.wr
      exact ⟨m.e, hen2, φ2, ⟨m.s.env, m.s.ds, m.s.heap, m.s.next, m.s.side, m.s.sn, s.lim⟩, he2, ⟨this, hS2.er, hS2.dr⟩, h2⟩
end
end Go.Ex
namespace Go.Ex
open Go.Fip
section
variable {T : Out → Prop} {φ : Phi} {s : St} {N : Nat} {a : Act} {P : Program} {w : World} {C : Cx} {call : CallR} {r : Option Nat}
noncomputable def Cx.gh (C:Cx) (g:Nat) (D:GD):Cx:=⟨C.F,C.w0,C.lim,C.h0,C.sn0,C.sd0,fun i=>if i=g then some D else C.G i⟩
theorem gh_G {g:Nat} {D:GD}:(C.gh g D).G g=some D:=by show (if g=g then some D else C.G g)=_; rw [if_pos rfl]
theorem gh_ne {g i:Nat} {D:GD} (h:i≠g):(C.gh g D).G i=C.G i:=by show (if i=g then some D else C.G i)=_; rw [if_neg h]
theorem OR.other {G G':Nat→Option GD} {g:Nat} {sd:Ex.T AV} {sn:Nat} {q:Pl} {o:AO} (hG:∀ i,i≠g→G' i=G i) (ho:∀ k,o≠.gh g k) (h:OR P G φ sd sn w q o):OR P G' φ sd sn w q o:=by
 cases o with
 | gh i k =>
  have hi:i≠g:=fun e=>ho k (by rw [e])
  have e:=hG i hi
  cases k with
  | itV m c es kill=>obtain ⟨D,h1,h2⟩:=h; exact ⟨D,e.trans h1,h2⟩
  | itD m c es kill x=>obtain ⟨D,h1,h2⟩:=h; exact ⟨D,e.trans h1,h2⟩
  | mpV it=>obtain ⟨D,h1,h2⟩:=h; exact ⟨D,e.trans h1,h2⟩
  | mpX it x=>obtain ⟨D,j,h1,h2⟩:=h; exact ⟨D,j,e.trans h1,h2⟩
  | itB m c es seen cur=>obtain ⟨D,sc,cc,h1,h2⟩:=h; exact ⟨D,sc,cc,e.trans h1,h2⟩
  | bgV c es=>obtain ⟨D,h1,h2⟩:=h; exact ⟨D,e.trans h1,h2⟩
 | bag es c=>exact h
 | row E n d=>exact h
 | map es c=>exact h
 | iter m a b c d=>exact h
 | mark=>exact h
 | loop N env ps b c d e=>exact h
noncomputable def left1 (kill seen:List Nat) (x:Nat×Nat×Nat×Nat):Bool := !(seen.contains x.2.2.2 && kill.contains x.2.2.2)
structure DI (D:GD) (it m c:Nat) (es:List (Nat×Nat×Nat×Nat)) (kill:List Nat) (n:Nat):Prop where
 h_it:D.it=it
 h_mr:D.mr=m
 h_c:D.c=c
 h_es:D.es=es
 h_kill:D.kill=kill
 h_ex:D.ex=es.filter (left1 kill D.seen)
 h_len:D.seen.length=n
 h_nd:D.seen.Nodup
 h_sub:∀ i∈D.seen,∃ x∈es,x.2.2.2=i
theorem len_ins (n:Nat):∀ l:List Nat,(ins n l).length=l.length+1
 | []=>rfl
 | m::l=>by
  show (Bool.rec (motive:=fun _=>List Nat) (m::ins n l) (n::m::l) (Nat.ble n m)).length=_
  cases Nat.ble n m with
  | true=>rfl
  | false=>show (ins n l).length+1=_; rw [len_ins n l]; rfl
theorem nd_ins {n:Nat}:∀ {l:List Nat},l.Nodup→n ∉ l→(ins n l).Nodup
 | [],_,_=>by simp [ins]
 | m::l,h,hn=>by
  rw [List.nodup_cons] at h
  have hn2:n≠m∧n ∉ l:=by simpa using hn
  show (Bool.rec (motive:=fun _=>List Nat) (m::ins n l) (n::m::l) (Nat.ble n m)).Nodup
  cases Nat.ble n m with
  | true=>rw [List.nodup_cons]; exact ⟨hn,List.nodup_cons.2 h⟩
  | false =>
   show (m::ins n l).Nodup
   rw [List.nodup_cons]
   refine ⟨fun hm=>?_,nd_ins h.2 hn2.2⟩
   rcases (mem_ins n l m).1 hm with e | e
   ·exact hn2.1 e.symm
   ·exact h.1 e
theorem DI.next {D:GD} {it m c n:Nat} {es ex':List (Nat×Nat×Nat×Nat)} {kill:List Nat} {x:Nat×Nat×Nat×Nat} (h:DI D it m c es kill n) (hx:x∈D.ex) (hns:x.2.2.2 ∉ D.seen) (he:ex'=es.filter (left1 kill (ins x.2.2.2 D.seen))) :
  ∃ D':GD,DI D' it m c es kill (n+1)∧D'.seen=ins x.2.2.2 D.seen∧D'.ex=ex':=by
 have hxe:x∈es:=h.h_es ▸ D.sub x hx
 refine ⟨⟨it,m,ins x.2.2.2 D.seen,ex',es,kill,c,fun y hy=>?_,fun hall=>?_,fun y hy=>h.h_c ▸ D.lt y (h.h_es ▸ hy),h.h_es ▸ D.nd,?_,[]⟩,⟨rfl,rfl,rfl,rfl,rfl,he,by rw [len_ins,h.h_len],nd_ins h.h_nd hns,fun i hi=>?_⟩,rfl,rfl⟩
 ·rw [he] at hy; exact (List.mem_filter.1 hy).1
 ·rw [he]
  unfold stayE
  refine List.filter_congr fun y hy=>?_
  unfold left1
  cases hk:kill.contains y.2.2.2 with
  | false=>simp
  | true =>
   have hs:(ins x.2.2.2 D.seen).contains y.2.2.2=true:=by
    cases hs:(ins x.2.2.2 D.seen).contains y.2.2.2 with
    | true=>rfl
    | false =>
     have hy2:y∈ex':=by rw [he,List.mem_filter]; exact ⟨hy,by unfold left1; rw [hs]; rfl⟩
     have:=hall y hy2
     rw [← List.contains_iff_mem,hs] at this
     cases this
   rw [hs]; rfl
 ·rw [he]
  have:(es.map (·.2.2.2)).Nodup:=h.h_es ▸ D.nd
  exact this.sublist ((List.filter_sublist).map _)
 ·rcases (mem_ins _ _ _).1 hi with e | e
  ·exact ⟨x,hxe,e.symm⟩
  ·exact h.h_sub i e
end
end Go.Ex
namespace Go.Ex
open Go.Fip
section
variable {T : Out → Prop} {φ : Phi} {s : St} {N : Nat} {a : Act} {P : Program} {w : World} {C : Cx} {call : CallR} {r : Option Nat}
theorem WR.heads {it m g nx : Nat} {D : GD} {G0 : Nat → Option GD} {o1 o2 : AO} {q1 q2 : Pl} {k1 k2 : GK} (h : WR P ⟨C.F, C.w0, C.lim, C.h0, C.sn0, C.sd0, G0⟩ φ s w)
    (hG : ∀ i, i ≠ g → G0 i = C.G i) (hgl : ∀ i D, C.G i = some D → i < nx) (hgn : g < nx) (hnx : s.next ≤ nx)
    (hother : ∀ r i k, r ≠ it → r ≠ m → s.heap.get r = some (.gh i k) → i ≠ g)
    (h1 : s.heap.get it = some o1) (h2 : s.heap.get m = some o2) (hq1 : φ it = some q1) (hq2 : φ m = some q2) (hi : it < 16777216) (hm : m < 16777216) (hl1 : s.lim ≤ it) (hl2 : s.lim ≤ m) (hne : it ≠ m)
    (hD1 : D.it = it) (hD2 : D.mr = m) (ho1 : OR P (C.gh g D).G φ s.side s.sn w q1 (.gh g k1)) (ho2 : OR P (C.gh g D).G φ s.side s.sn w q2 (.gh g k2)) :
    WR P (C.gh g D) φ ⟨s.env, s.ds, (s.heap.put it (some (.gh g k1))).put m (some (.gh g k2)), nx, s.side, s.sn, s.lim⟩ w := by
  have hget : ∀ i, ((s.heap.put it (some (.gh g k1))).put m (some (.gh g k2))).get i = if i = m then some (.gh g k2) else if i = it then some (.gh g k1) else s.heap.get i := fun i => by
    rw [(h.full.put _ _).get_put' hm, h.full.get_put' hi]
  have live : ∀ {x y}, ((s.heap.put it (some (.gh g k1))).put m (some (.gh g k2))).get x = some y → ∃ y', s.heap.get x = some y' := fun {x y} hx => by
    rw [hget] at hx
    by_cases e1 : x = m
    · rw [e1]; exact ⟨_, h2⟩
    · by_cases e2 : x = it
      · rw [e2]; exact ⟨_, h1⟩
      · rw [if_neg e1, if_neg e2] at hx; exact ⟨_, hx⟩
  exact
    { full := (h.full.put _ _).put _ _
      sok := h.sok
      row := fun r o hr => by
        have hr' : ((s.heap.put it (some (.gh g k1))).put m (some (.gh g k2))).get r = some o := hr
        rw [hget] at hr'
        by_cases e1 : r = m
        · rw [if_pos e1] at hr'; cases hr'
          obtain ⟨j1, q, j2, j3, _⟩ := h.row m _ h2
          rw [hq2] at j2; cases j2
          rw [e1]
          exact ⟨Nat.lt_of_lt_of_le j1 hnx, q2, hq2, j3, ho2⟩
        · rw [if_neg e1] at hr'
          by_cases e2 : r = it
          · rw [if_pos e2] at hr'; cases hr'
            obtain ⟨j1, q, j2, j3, _⟩ := h.row it _ h1
            rw [hq1] at j2; cases j2
            rw [e2]
            exact ⟨Nat.lt_of_lt_of_le j1 hnx, q1, hq1, j3, ho1⟩
          · rw [if_neg e2] at hr'
            obtain ⟨j1, q, j2, j3, j4⟩ := h.row r _ hr'
            refine ⟨Nat.lt_of_lt_of_le j1 hnx, q, j2, j3, j4.other (g := g) (fun i hi => ?_) (fun k e => hother r g k e2 e1 (by rw [hr', e]) rfl)⟩
            rw [gh_ne hi]; exact (hG i hi).symm
      inj := fun r r' o o' q q' k1 k2 => by
        obtain ⟨y1, hy1⟩ := live k1
        obtain ⟨y2, hy2⟩ := live k2
        exact h.inj r r' y1 y2 q q' hy1 hy2
      new := fun r hr => h.new r (Nat.le_trans hnx hr)
      rng := h.rng
      lim := h.lim
      limn := Nat.le_trans h.limn hnx
      low := fun r hr => by
        show ((s.heap.put it (some (.gh g k1))).put m (some (.gh g k2))).get r = _
        have hl : s.lim = C.lim := h.lim
        have hr : r < C.lim := hr
        rw [hget, if_neg (by omega), if_neg (by omega)]
        exact h.low r hr
      sn := h.sn
      sdl := h.sdl
      os := h.os
      tape := h.tape
      output := h.output
      size := h.size
      frame := h.frame
      gid := fun r i k hr => by
        have hr' : ((s.heap.put it (some (.gh g k1))).put m (some (.gh g k2))).get r = some (.gh i k) := hr
        rw [hget] at hr'
        by_cases e1 : r = m
        · rw [if_pos e1] at hr'; cases hr'; exact ⟨D, gh_G, .inr (e1.trans hD2.symm)⟩
        · rw [if_neg e1] at hr'
          by_cases e2 : r = it
          · rw [if_pos e2] at hr'; cases hr'; exact ⟨D, gh_G, .inl (e2.trans hD1.symm)⟩
          · rw [if_neg e2] at hr'
            obtain ⟨D2, j1, j2⟩ := h.gid r i k hr'
            have hi := hother r i k e2 e1 hr'
            exact ⟨D2, (gh_ne hi).trans ((hG i hi).symm.trans j1), j2⟩
      ghl := fun i D2 hi => by
        by_cases e : i = g
        · rw [e]; exact hgn
        · exact hgl i D2 ((gh_ne e).symm.trans hi) }
theorem WR.drops {g:Nat} {D:GD} (h:WR P (C.gh g D) φ s w) (hg:C.G g=none) {h':Ex.T AO} (hf:Full 25 h') (hle:∀ i o,h'.get i=some o→s.heap.get i=some o) (hlo:∀ i,i<C.lim→h'.get i=s.heap.get i) (hno:∀ i k,h'.get i≠some (.gh g k)) :
  WR P C φ ⟨s.env,s.ds,h',s.next,s.side,s.sn,s.lim⟩ w where
 full:=hf
 sok:=h.sok
 row:=fun r o hr=>by
  obtain ⟨j1,q,j2,j3,j4⟩:=h.row r o (hle r o hr)
  exact ⟨j1,q,j2,j3,j4.other (g:=g) (fun i hi=>(gh_ne hi).symm) (fun k e=>hno r k (hr.trans (by rw [e])))⟩
 inj:=fun r r' o o' q q' k1 k2=>h.inj r r' o o' q q' (hle _ _ k1) (hle _ _ k2)
 new:=h.new
 rng:=h.rng
 lim:=h.lim
 limn:=h.limn
 low:=fun r hr=>(hlo r hr).trans (h.low r hr)
 sn:=h.sn
 sdl:=h.sdl
 os:=h.os
 tape:=h.tape
 output:=h.output
 size:=h.size
 frame:=h.frame
 gid:=fun r i k hr=>by
  obtain ⟨D2,j1,j2⟩:=h.gid r i k (hle _ _ hr)
  have hi:i≠g:=fun e=>hno r k (by rw [← e]; exact hr)
  exact ⟨D2,(gh_ne hi).symm.trans j1,j2⟩
 ghl:=fun i D2 hi=>by
  have hne:i≠g:=fun e=>by rw [e,hg] at hi; cases hi
  exact h.ghl i D2 ((gh_ne hne).trans hi)
end
end Go.Ex
namespace Go.Ex
open Go.Fip
section
variable {T : Out → Prop} {φ : Phi} {s : St} {N : Nat} {a : Act} {P : Program} {w : World} {C : Cx} {call : CallR} {r : Option Nat}
structure LP (C:Cx) (base:St) (g it m c:Nat) (es:List (Nat×Nat×Nat×Nat)):Prop where
 li:base.lim≤it
 lm:base.lim≤m
 ne:it≠m
 i24:it<16777216
 m24:m<16777216
 no:C.G g=none
theorem OutR.rest {D:GD} {base:St} {o:Out} {e:Exit} {g:Nat} (h:OutR P (C.gh g D) N φ base o e a w):∃ φ',exN e=some o.e∧Ext φ base.side base.sn φ' o.s.side o.s.sn∧WR P ((C.at base.lim base).gh g D) φ' o.s w∧ER N φ' o.s.side o.s.sn o.s.env a∧DR φ' o.s.ds a.defers:=by
 obtain ⟨φ',h1,h2,h3⟩:=h
 exact ⟨φ',h1,h2,h3.wr,h3.er,h3.dr⟩
theorem fitM_spec {g:Nat} {kill:List Nat} {x:Nat×Nat×Nat×Nat} {o:Option AO} (h:fitM g kill x o=true):(∃ it,o=some (.gh g (.mpV it))∧kill.contains x.2.2.2=false)∨∃ it x',o=some (.gh g (.mpX it x'))∧x'.2.2.2=x.2.2.2∧kill.contains x.2.2.2=true:=by
 unfold fitM at h
 split at h
 ·rename_i g' it
  obtain ⟨h1,h2⟩:=and_t h
  have e:=beq_eq h1
  subst e
  refine .inl ⟨it,rfl,?_⟩
  cases hk:kill.contains x.2.2.2 with
  | false=>rfl
  | true=>rw [hk] at h2; cases h2
 ·rename_i g' it x'
  obtain ⟨h1,h2⟩:=and_t h
  obtain ⟨h3,h4⟩:=and_t h2
  have e:=beq_eq h1
  subst e
  exact .inr ⟨it,x',rfl,beq_eq h3,h4⟩
 ·cases h
theorem contains_ins (n i:Nat) (l:List Nat):(ins n l).contains i=(decide (i=n) || l.contains i):=by
 cases h:(ins n l).contains i with
 | true =>
  have:=(mem_ins n l i).1 (by simpa using h)
  rcases this with e | e
  ·simp [e]
  ·simp [e]
 | false =>
  have hn:¬ (i=n∨i∈l):=fun e=>by
   have:=(mem_ins n l i).2 e
   rw [← List.contains_iff_mem,h] at this; cases this
  have h1:¬ i=n:=fun e=>hn (.inl e)
  have h2:¬ i∈l:=fun e=>hn (.inr e)
  simp [h1,h2]
theorem ex_keep {es:List (Nat×Nat×Nat×Nat)} {kill seen:List Nat} {b:Nat} (hk:kill.contains b=false):es.filter (left1 kill (ins b seen))=es.filter (left1 kill seen):=by
 refine List.filter_congr fun y hy=>?_
 unfold left1
 rw [contains_ins]
 by_cases e:y.2.2.2=b
 ·rw [e,hk]; simp
 ·simp [e]
theorem ex_gone:∀ (l:List (Nat×Nat×Nat×Nat)) (j:Nat) (x:Nat×Nat×Nat×Nat),(l.map (·.2.2.2)).Nodup→l[j]? = some x→l.eraseIdx j=l.filter fun y => !decide (y.2.2.2=x.2.2.2)
 | y::l,0,x,hn,hx=>by
  have hx:some y=some x:=by simpa using hx
  cases hx
  rw [List.map_cons,List.nodup_cons] at hn
  rw [List.eraseIdx_cons_zero,List.filter_cons]
  have:l.filter (fun z => !decide (z.2.2.2=y.2.2.2))=l:=List.filter_eq_self.2 fun z hz=>by
   have:z.2.2.2≠y.2.2.2:=fun e=>hn.1 (e ▸ List.mem_map_of_mem hz)
   simp [this]
  simp [this]
 | y::l,j+1,x,hn,hx=>by
  have hx:l[j]? = some x:=by simpa using hx
  rw [List.map_cons,List.nodup_cons] at hn
  have hne:y.2.2.2≠x.2.2.2:=fun e=>hn.1 (e ▸ List.mem_map_of_mem (List.mem_of_getElem? hx))
  rw [List.eraseIdx_cons_succ,List.filter_cons,ex_gone l j x hn.2 hx]
  simp [hne]
theorem norm_ok {D : GD} {base : St} {o o' : Out} {g it m c n : Nat} {es : List (Nat × Nat × Nat × Nat)} {kill : List Nat} (hL : LP C base g it m c es) (hD : DI D it m c es kill n) (h : OutR P (C.gh g D) N φ base o .normal a w) (ho : normO g it m c es kill o = some o') :
    ∃ D', DI D' it m c es kill (n + 1) ∧ OutR P (C.gh g D') N φ base o' .normal a w := by
  obtain ⟨φ', hen, hext, hw, her, hdr⟩ := h.rest
  unfold normO at ho
  cases hy : curG (o.s.heap.get it) with
  | none => rw [hy] at ho; cases ho
  | some y =>
    rw [hy] at ho
    have ho : (Bool.rec none (some ⟨o.e, 0, headS g it m c es kill o.s⟩) (Bool.and (Nat.beq y.1 g) (fitM g kill y.2.2.2 (o.s.heap.get m))) : Option Out) = some o' := ho
    cases hb : Bool.and (Nat.beq y.1 g) (fitM g kill y.2.2.2 (o.s.heap.get m)) with
    | false => rw [hb] at ho; cases ho
    | true =>
      rw [hb] at ho
      cases ho
      obtain ⟨b1, b2⟩ := and_t hb
      have b1 := beq_eq b1
      obtain ⟨g1, m1, es1, x⟩ := y
      have b1 : g1 = g := b1
      subst b1
      obtain ⟨c1, kill1, hit⟩ := cur_spec hy
      have hit : o.s.heap.get it = some (.gh g1 (.itD m1 c1 es1 kill1 x)) := hit
      have hlim : o.s.lim = base.lim := hw.lim
      obtain ⟨_, q1, hq1, _, D1, hD1, d1, d2, d3, d4, hx, hns, hI⟩ := hw.row it _ hit
      have hD1 : ((C.at base.lim base).gh g1 D).G g1 = some D1 := hD1
      rw [gh_G] at hD1; cases hD1
      have e1 : m1 = m := d1.symm.trans hD.h_mr
      have e2 : c1 = c := d2.symm.trans hD.h_c
      subst e1; subst e2
      have hgid : ∀ r i k, r ≠ it → r ≠ m1 → o.s.heap.get r = some (.gh i k) → i ≠ g1 := fun r i k h1 h2 hr e => by
        subst e
        obtain ⟨D2, j1, j2⟩ := hw.gid r i k hr
        rw [gh_G] at j1; cases j1
        rcases j2 with j2 | j2
        · exact h1 (j2.trans hD.h_it)
        · exact h2 (j2.trans hD.h_mr)
      have hIz : ORi φ' w q1 (some m1) c1 (ins x.2.2.2 D.seen) 0 c1 := by
        obtain ⟨seen', h1, h2, h3, h4, h5⟩ := hI
        exact ⟨seen', h1, h2, h3, fun b hb => (by omega), h5⟩
      have fin : ∀ ex' o2 q2, o.s.heap.get m1 = some o2 → φ' m1 = some q2 → ORm φ' o.s.side o.s.sn w q2 ex' c1 → ex' = es.filter (left1 kill (ins x.2.2.2 D.seen)) → ∃ D', DI D' it m1 c1 es kill (n + 1) ∧ OutR P (C.gh g1 D') N φ base ⟨o.e, 0, headS g1 it m1 c1 es kill o.s⟩ .normal a w := by
        intro ex' o2 q2 hm hq2 hM he
        obtain ⟨D', hD', s1, s2⟩ := hD.next hx hns he
        refine ⟨D', hD', φ', hen, hext, ?_, her, hdr⟩
        have := WR.heads (C := C.at base.lim base) (D := D') (nx := o.s.next) (k1 := .itV m1 c1 es kill) (k2 := .mpV it) hw (fun i hi => gh_ne hi) (fun i D2 hi => by
            by_cases e : i = g1
            · rw [e] at hi; have hi : C.G g1 = some D2 := hi; rw [hL.no] at hi; cases hi
            · exact hw.ghl i D2 ((gh_ne e).trans hi)) (hw.ghl g1 D gh_G) (Nat.le_refl _) hgid hit hm hq1 hq2 hL.i24 hL.m24 (by rw [hlim]; exact hL.li) (by rw [hlim]; exact hL.lm) hL.ne hD'.h_it hD'.h_mr
            ⟨D', gh_G, hD'.h_mr, hD'.h_c, hD'.h_es, hD'.h_kill, s1 ▸ hIz⟩ ⟨D', gh_G, by rw [s2, hD'.h_c]; exact hM⟩
        exact this
      rcases fitM_spec b2 with ⟨it', hm, hk⟩ | ⟨it', x', hm, hxx, hk⟩
      · obtain ⟨_, q2, hq2, _, D2, hD2, hM⟩ := hw.row m1 _ hm
        have hD2 : ((C.at base.lim base).gh g1 D).G g1 = some D2 := hD2
        rw [gh_G] at hD2; cases hD2
        have hM : ORm φ' o.s.side o.s.sn w q2 D.ex D.c := hM
        rw [hD.h_c] at hM
        exact fin D.ex _ q2 hm hq2 hM (hD.h_ex.trans (ex_keep hk).symm)
      · obtain ⟨_, q2, hq2, _, D2, j, hD2, hj, hM⟩ := hw.row m1 _ hm
        have hD2 : ((C.at base.lim base).gh g1 D).G g1 = some D2 := hD2
        rw [gh_G] at hD2; cases hD2
        have hM : ORm φ' o.s.side o.s.sn w q2 (D.ex.eraseIdx j) D.c := hM
        rw [hD.h_c] at hM
        refine fin _ _ q2 hm hq2 hM ?_
        rw [ex_gone _ j x' D.ndx hj, hD.h_ex, List.filter_filter, hxx]
        refine List.filter_congr fun y hy => ?_
        have hk : kill.contains x.2.2.2 = true := hk
        unfold left1
        rw [contains_ins]
        by_cases e : y.2.2.2 = x.2.2.2
        · rw [e, hk]; simp
        · simp [e]
theorem normL_mem {g it m c:Nat} {es:List (Nat×Nat×Nat×Nat)} {kill:List Nat}:∀ {l l':List Out},normL g it m c es kill l=some l'→∀ o∈l,∃ o'∈l',normO g it m c es kill o=some o'
 | x::l,l',h,o,ho=>by
  have h:(normO g it m c es kill x).bind (fun o=>(normL g it m c es kill l).map fun l=>o::l)=some l':=h
  cases h1:normO g it m c es kill x with
  | none=>rw [h1] at h; cases h
  | some x' =>
   rw [h1] at h
   have h:(normL g it m c es kill l).map (fun l=>x'::l)=some l':=h
   cases h2:normL g it m c es kill l with
   | none=>rw [h2] at h; cases h
   | some l2 =>
    rw [h2] at h
    cases h
    rcases List.mem_cons.1 ho with e | ho
    ·exact ⟨x',List.mem_cons_self,e ▸ h1⟩
    ·obtain ⟨o',h3,h4⟩:=normL_mem h2 o ho
     exact ⟨o',List.mem_cons_of_mem _ h3,h4⟩
theorem cutL_mem {it m:Nat}:∀ {l:List Out} {o:Out},o∈l→cutO it m o∈cutL it m l
 | x::l,o,ho=>by
  rcases List.mem_cons.1 ho with e | ho
  ·exact e ▸ List.mem_cons_self
  ·exact List.mem_cons_of_mem _ (cutL_mem ho)
theorem dropG_get {h:Ex.T AO} (hf:Full 25 h) {r:Nat} (hr:r<16777216):Full 25 (dropG r h)∧∀ i,(dropG r h).get i=if i=r∧isGh (h.get r)=true then none else h.get i:=by
 unfold dropG
 cases hb:isGh (h.get r) with
 | false=>exact ⟨hf,fun i=>by simp⟩
 | true =>
  refine ⟨hf.put _ _,fun i=>?_⟩
  show (h.put r none).get i=_
  rw [hf.get_put' hr]
  by_cases e:i=r <;> simp [e]
theorem cut_ok {D : GD} {base : St} {o : Out} {g it m c n : Nat} {e : Exit} {es : List (Nat × Nat × Nat × Nat)} {kill : List Nat} (hL : LP C base g it m c es) (hD : DI D it m c es kill n) (h : OutR P (C.gh g D) N φ base o e a w) : OutR P C N φ base (cutO it m o) e a w := by
  obtain ⟨φ', hen, hext, hw, her, hdr⟩ := h.rest
  obtain ⟨f1, g1⟩ := dropG_get hw.full hL.i24
  obtain ⟨f2, g2⟩ := dropG_get f1 hL.m24
  have hle : ∀ i o', (dropG m (dropG it o.s.heap)).get i = some o' → o.s.heap.get i = some o' := fun i o' hi => by
    rw [g2] at hi
    split at hi
    · cases hi
    · rw [g1] at hi
      split at hi
      · cases hi
      · exact hi
  refine ⟨φ', hen, hext, WR.drops (C := C.at base.lim base) hw hL.no f2 hle (fun i hi => ?_) (fun i k hi => ?_), her, hdr⟩
  · have hi : i < base.lim := hi
    have l1 := hL.li
    have l2 := hL.lm
    rw [g2, if_neg (by omega), g1, if_neg (by omega)]
  · have h1 := hle i _ hi
    obtain ⟨D2, j1, j2⟩ := hw.gid i g k h1
    rw [gh_G] at j1; cases j1
    rw [hD.h_it, hD.h_mr] at j2
    by_cases em : i = m
    · subst em
      rw [g2] at hi
      by_cases hb : isGh ((dropG it o.s.heap).get i) = true
      · rw [if_pos ⟨rfl, hb⟩] at hi; cases hi
      · rw [if_neg (fun h => hb h.2)] at hi
        rw [hi] at hb
        exact hb rfl
    · have ei : i = it := by rcases j2 with e | e; exact e; exact absurd e em
      subst ei
      rw [g2, if_neg (fun h => em h.1), g1] at hi
      rw [h1] at hi
      rw [if_pos ⟨rfl, rfl⟩] at hi
      cases hi
end
end Go.Ex
namespace Go.Ex
open Go.Fip
section
variable {T : Out → Prop} {φ : Phi} {s : St} {N : Nat} {a : Act} {P : Program} {w : World} {C : Cx} {call : CallR} {r : Option Nat}
theorem pairs_of:∀ (m l:List (Nat×Nat×Nat×Nat)),(l.map tri).Perm (m.map tri)→∃ ps:List ((Nat×Nat×Nat×Nat)×(Nat×Nat×Nat×Nat)),ps.map (·.2)=m∧(ps.map (·.1)).Perm l∧∀ p∈ps,tri p.1=tri p.2
 | [],l,h=>by
  have:l=[]:=by
   have:=h.length_eq
   simp at this
   exact this
  subst this
  exact ⟨[],rfl,.refl _,fun p hp=>by cases hp⟩
 | y::m,l,h=>by
  have hy:tri y∈l.map tri:=h.mem_iff.2 (by simp)
  obtain ⟨x,hx,e⟩:=List.mem_map.1 hy
  have hp:l.Perm (x::l.erase x):=List.perm_cons_erase hx
  have h2:(tri y::(l.erase x).map tri).Perm (tri y::m.map tri):=by
   have:=(hp.map tri).symm.trans h
   rwa [List.map_cons,List.map_cons,e] at this
  obtain ⟨ps,p1,p2,p3⟩:=pairs_of m (l.erase x) h2.cons_inv
  refine ⟨(x,y)::ps,by rw [List.map_cons,p1],?_,fun p hp'=>?_⟩
  ·rw [List.map_cons]; exact (List.Perm.cons _ p2).trans hp.symm
  ·rcases List.mem_cons.1 hp' with e1 | hp'
   ·rw [e1]; exact e
   ·exact p3 p hp'
theorem numb_tri:∀ (l:List (Nat×Nat×Nat×Nat)) (i:Nat),(numb l i).map tri=l.map tri
 | [],_=>rfl
 | y::l,i=>by
  show tri (y.1,y.2.1,y.2.2.1,i)::(numb l (Nat.succ i)).map tri=tri y::l.map tri
  rw [numb_tri l]; rfl
theorem numb_ge:∀ (l:List (Nat×Nat×Nat×Nat)) (i:Nat),∀ e∈numb l i,i≤e.2.2.2
 | y::l,i,e,he=>by
  rcases List.mem_cons.1 (show e∈(y.1,y.2.1,y.2.2.1,i)::numb l (Nat.succ i) from he) with h | h
  ·rw [h]; exact Nat.le_refl _
  ·exact Nat.le_of_succ_le (numb_ge l (Nat.succ i) e h)
theorem numb_nd:∀ (l:List (Nat×Nat×Nat×Nat)) (i:Nat),((numb l i).map (·.2.2.2)).Nodup
 | [],_=>List.nodup_nil
 | y::l,i=>by
  show (i::(numb l (Nat.succ i)).map (·.2.2.2)).Nodup
  rw [List.nodup_cons]
  refine ⟨fun hm=>?_,numb_nd l _⟩
  obtain ⟨e,he,e1⟩:=List.mem_map.1 hm
  have:=numb_ge l (Nat.succ i) e he
  omega
theorem bag_pairs {es ec : List (Nat × Nat × Nat × Nat)} (hp : (es.map tri).Perm (ec.map tri)) (hnd : (ec.map (·.2.2.2)).Nodup) : ∃ ps, BP ps (numb es 0) ∧ ps.map (·.2) = ec := by
  obtain ⟨ps, p1, p2, p3⟩ := pairs_of ec (numb es 0) (by rw [numb_tri]; exact hp)
  refine ⟨ps, ⟨p2, p3, ?_, ?_⟩, p1⟩
  · have := (p2.map (·.2.2.2)).nodup_iff.2 (numb_nd es 0)
    rwa [List.map_map] at this
  · have : ps.map (·.2.2.2.2) = ec.map (·.2.2.2) := by rw [← p1, List.map_map]; rfl
    rw [this]; exact hnd
theorem WR.addG {D:GD} (h:WR P C φ s w):WR P (C.gh s.next D) φ ⟨s.env,s.ds,s.heap,s.next+1,s.side,s.sn,s.lim⟩ w where
 full:=h.full
 sok:=h.sok
 row:=fun r o hr=>by
  obtain ⟨j1,q,j2,j3,j4⟩:=h.row r o hr
  refine ⟨Nat.lt_succ_of_lt j1,q,j2,j3,j4.other (g:=s.next) (fun i hi=>gh_ne hi) (fun k e=>?_)⟩
  obtain ⟨D2,k1,_⟩:=h.gid r s.next k (by rw [hr,e])
  exact absurd (h.ghl _ _ k1) (Nat.lt_irrefl _)
 inj:=h.inj
 new:=fun r hr=>h.new r (Nat.le_of_succ_le hr)
 rng:=h.rng
 lim:=h.lim
 limn:=Nat.le_succ_of_le h.limn
 low:=h.low
 sn:=h.sn
 sdl:=h.sdl
 os:=h.os
 tape:=h.tape
 output:=h.output
 size:=h.size
 frame:=h.frame
 gid:=fun r i k hr=>by
  obtain ⟨D2,k1,k2⟩:=h.gid r i k hr
  have hi:=h.ghl _ _ k1
  exact ⟨D2,(gh_ne (by omega)).trans k1,k2⟩
 ghl:=fun i D2 hi=>by
  by_cases e:i=s.next
  ·rw [e]; exact Nat.lt_succ_self _
  ·exact Nat.lt_succ_of_lt (h.ghl i D2 ((gh_ne e).symm.trans hi))
theorem startB_spec {h:Ex.T AO} {o:Option AO} {y:Nat×Nat×List (Nat×Nat×Nat×Nat)} (hy:startB h o=some y):o=some (.iter (some y.1) y.2.1 [] 0 y.2.1)∧h.get y.1=some (.bag y.2.2 y.2.1):=by
 unfold startB at hy
 split at hy
 ·rename_i m since last
  split at hy
  ·rename_i es c hm
   cases hb:Bool.and (Nat.beq since c) (Nat.beq last c) with
   | false=>rw [hb] at hy; cases hy
   | true =>
    rw [hb] at hy
    obtain ⟨b1,b2⟩:=and_t hb
    cases hy
    exact ⟨by rw [beq_eq b1,beq_eq b2],hm⟩
  ·cases hy
 ·cases hy
theorem thawI_spec {g:Nat} {o:Option AO} {o':AO} (h:thawI g o=some o'):o=some o'∧∀ k,o'≠.gh g k:=by
 unfold thawI at h
 split at h
 ·rename_i g' k
  cases hb:Nat.beq g' g with
  | true=>rw [hb] at h; cases h
  | false =>
   rw [hb] at h
   cases h
   exact ⟨rfl,fun k' e=>by cases e; rw [Nat.beq_refl] at hb; cases hb⟩
 ·rename_i hno
  exact ⟨h,fun k e=>hno g k (by rw [h,e])⟩
theorem thaw_ok {g it m c : Nat} {D : GD} {hf : Ex.T AO} {es : List (Nat × Nat × Nat × Nat)} {s' : St} (h : WR P ((C.gh g D).h hf) φ s' w) (hg : C.G g = none) (hD1 : D.it = it) (hD2 : D.mr = m) (hDc : D.c = c) (hBP : BP D.ps (numb es 0)) (hi : it < 16777216) (hm : m < 16777216) (hne : it ≠ m) (hli : C.lim ≤ it)
    (hlow : ∀ i, i < C.lim → (i = m → hf.get i = some (.gh g (.bgV c (numb es 0))) ∧ C.h0.get i = some (.bag es c)) ∧ (i ≠ m → hf.get i = C.h0.get i)) : WR P C φ (thawS g it m (some (.bag es c)) s') w := by
  obtain ⟨h2, hh2⟩ : ∃ h2, h2 = (s'.heap.put it (thawI g (s'.heap.get it))).put m (thawM g (some (.bag es c)) (s'.heap.get m)) := ⟨_, rfl⟩
  have hfull : Full 25 h2 := by rw [hh2]; exact (h.full.put _ _).put _ _
  have hget : ∀ i, h2.get i = if i = m then thawM g (some (.bag es c)) (s'.heap.get m) else if i = it then thawI g (s'.heap.get it) else s'.heap.get i := fun i => by
    rw [hh2, (h.full.put _ _).get_put' hm, h.full.get_put' hi]
  have hgG : ((C.gh g D).h hf).G = (C.gh g D).G := rfl
  have key : ∀ i o, h2.get i = some o → (s'.heap.get i = some o ∧ ∀ k, o ≠ .gh g k) ∨ (i = m ∧ o = .bag es c ∧ ∃ c1 es1, s'.heap.get m = some (.gh g (.bgV c1 es1))) := fun i o ho => by
    rw [hget] at ho
    by_cases e1 : i = m
    · rw [if_pos e1] at ho
      unfold thawM at ho
      cases hb : isBg g (s'.heap.get m) with
      | true =>
        rw [hb] at ho
        cases ho
        obtain ⟨c1, es1, hr⟩ := bg_spec hb
        exact .inr ⟨e1, rfl, c1, es1, hr⟩
      | false =>
        rw [hb] at ho
        obtain ⟨k1, k2⟩ := thawI_spec (show thawI g (s'.heap.get m) = some o from ho)
        exact .inl ⟨by rw [e1]; exact k1, k2⟩
    · rw [if_neg e1] at ho
      by_cases e2 : i = it
      · rw [if_pos e2] at ho
        obtain ⟨k1, k2⟩ := thawI_spec ho
        exact .inl ⟨by rw [e2]; exact k1, k2⟩
      · rw [if_neg e2] at ho
        refine .inl ⟨ho, fun k e => ?_⟩
        subst e
        obtain ⟨D2, j1, j2⟩ := h.gid i g k ho
        rw [hgG, gh_G] at j1; cases j1
        rcases j2 with j2 | j2
        · exact e2 (j2.trans hD1)
        · exact e1 (j2.trans hD2)
  have live : ∀ {i o}, h2.get i = some o → ∃ o0, s'.heap.get i = some o0 := fun {i o} ho => by
    rcases key i o ho with ⟨k1, _⟩ | ⟨e, _, c1, es1, k1⟩
    · exact ⟨_, k1⟩
    · exact ⟨_, by rw [e]; exact k1⟩
  have res : WR P C φ (withH h2 s') w :=
    { full := hfull
      sok := h.sok
      row := fun i o ho => by
        rcases key i o ho with ⟨k1, k2⟩ | ⟨e, e2, c1, es1, k1⟩
        · obtain ⟨j1, q, j2, j3, j4⟩ := h.row i o k1
          exact ⟨j1, q, j2, j3, j4.other (g := g) (fun i hi => (gh_ne hi).symm) k2⟩
        · subst e; subst e2
          obtain ⟨j1, q, j2, j3, D2, hD, d1, b2, hM⟩ := h.row i _ k1
          rw [hgG, gh_G] at hD; cases hD
          refine ⟨j1, q, j2, j3, D.ps.map (·.2), ?_, ?_⟩
          · rw [← hDc, d1]; exact hM
          · have h3 := (hBP.perm.map tri).symm
            rw [numb_tri, List.map_map] at h3
            rw [List.map_map]
            refine h3.trans (List.Perm.of_eq (List.map_congr_left fun p hp => hBP.tri p hp))
      inj := fun r r' o o' q q' k1 k2 => by
        obtain ⟨y1, hy1⟩ := live k1
        obtain ⟨y2, hy2⟩ := live k2
        exact h.inj r r' y1 y2 q q' hy1 hy2
      new := h.new
      rng := h.rng
      lim := h.lim
      limn := h.limn
      low := fun i hi => by
        have hl := h.low i hi
        have hl : s'.heap.get i = hf.get i := hl
        show h2.get i = C.h0.get i
        rw [hget]
        by_cases e1 : i = m
        · obtain ⟨k1, k2⟩ := (hlow i hi).1 e1
          rw [if_pos e1, ← e1, hl, k1, k2]
          unfold thawM
          show (Bool.rec _ _ (Nat.beq g g) : Option AO) = _
          rw [Nat.beq_refl]
        · rw [if_neg e1, if_neg (by omega), hl]
          exact (hlow i hi).2 e1
      sn := h.sn
      sdl := h.sdl
      os := h.os
      tape := h.tape
      output := h.output
      size := h.size
      frame := h.frame
      gid := fun i j k ho => by
        rcases key i _ ho with ⟨k1, k2⟩ | ⟨_, e, _⟩
        · obtain ⟨D2, j1, j2⟩ := h.gid i j k k1
          have hj : j ≠ g := fun e => k2 k (by rw [e])
          exact ⟨D2, (gh_ne hj).symm.trans j1, j2⟩
        · cases e
      ghl := fun i D2 hi => by
        have hne : i ≠ g := fun e => by rw [e, hg] at hi; cases hi
        exact h.ghl i D2 ((gh_ne hne).trans hi) }
  rw [hh2] at res
  exact res
theorem planB_spec {b:Code} {y:Nat×Nat×Nat×List (Nat×Nat×Nat×Nat)} (h:planB b s=some y) :
  ∃ es,s.heap.get y.1=some (.iter (some y.2.1) y.2.2.1 [] 0 y.2.2.1)∧s.heap.get y.2.1=some (.bag es y.2.2.1)∧y.2.2.2=numb es 0∧s.next<16777215∧s.lim≤y.1∧y.1≠y.2.1:=by
 unfold planB at h
 cases h1:firstNext b with
 | none=>rw [h1] at h; cases h
 | some t =>
  rw [h1] at h
  simp only [Option.bind_some] at h
  cases h2:ptT (dec (dg s.env (Nat.succ t)) s.side) with
  | none=>rw [h2] at h; cases h
  | some it =>
   rw [h2] at h
   simp only [Option.bind_some] at h
   cases h3:startB s.heap (s.heap.get it) with
   | none=>rw [h3] at h; cases h
   | some u =>
    rw [h3] at h
    simp only [Option.bind_some] at h
    cases hb:Bool.and (Nat.blt s.next 16777215) (Bool.and (Nat.ble s.lim it) (Bool.not (Nat.beq it u.1))) with
    | false=>rw [hb] at h; cases h
    | true =>
     rw [hb] at h
     obtain ⟨b1,b2⟩:=and_t hb
     obtain ⟨b3,b4⟩:=and_t b2
     obtain ⟨e1,e2⟩:=startB_spec h3
     cases h
     exact ⟨u.2.2,e1,e2,rfl,blt_lt b1,ble_le b3,fun e=>by have e:it=u.1:=e; rw [e,Nat.beq_refl] at b4; cases b4⟩
theorem froz_ok {it m c : Nat} {es : List (Nat × Nat × Nat × Nat)} (hS : SR P C N φ s a w) (hi : s.heap.get it = some (.iter (some m) c [] 0 c)) (hm : s.heap.get m = some (.bag es c)) (hi24 : it < 16777216) (hm24 : m < 16777216) (hne : it ≠ m) :
    ∃ D : GD, D.it = it ∧ D.mr = m ∧ D.c = c ∧ BP D.ps (numb es 0) ∧ SR P ((C.gh s.next D).h (frozS it m c (numb es 0) s).heap) N φ (frozS it m c (numb es 0) s) a w := by
  obtain ⟨_, q1, hq1, _, hI⟩ := hS.wr.row it _ hi
  obtain ⟨_, q2, hq2, _, ec, hM, hp⟩ := hS.wr.row m _ hm
  have hI : ORi φ w q1 (some m) c [] 0 c := hI
  have hM2 := hM
  obtain ⟨_, _, _, _, hnd⟩ := hM2
  obtain ⟨ps, hBP, hps⟩ := bag_pairs hp hnd
  obtain ⟨D, hD⟩ : ∃ D : GD, D = ⟨it, m, [], [], [], [], c, fun x h => h, (fun _ => rfl), (fun x h => by cases h), List.nodup_nil, List.nodup_nil, ps⟩ := ⟨_, rfl⟩
  have e1 : D.it = it := by subst hD; rfl
  have e2 : D.mr = m := by subst hD; rfl
  have e3 : D.c = c := by subst hD; rfl
  have e4 : D.ps = ps := by subst hD; rfl
  refine ⟨D, e1, e2, e3, e4 ▸ hBP, ⟨?_, hS.er, hS.dr⟩⟩
  have hw := hS.wr.addG (D := D)
  have hget : ∀ i, (frozS it m c (numb es 0) s).heap.get i = if i = m then some (.gh s.next (.bgV c (numb es 0))) else if i = it then some (.gh s.next (.itB m c (numb es 0) [] 0)) else s.heap.get i := fun i => by
    show ((s.heap.put it _).put m _).get i = _
    rw [(hS.wr.full.put _ _).get_put' hm24, hS.wr.full.get_put' hi24]
  exact hw.recast (h0 := (frozS it m c (numb es 0) s).heap) (h' := (frozS it m c (numb es 0) s).heap) ((hS.wr.full.put _ _).put _ _) (fun i o ho => by
      rw [hget] at ho
      by_cases k1 : i = m
      · rw [if_pos k1] at ho; cases ho
        exact .inr ⟨⟨_, by rw [k1]; exact hm⟩, q2, by rw [k1]; exact hq2, D, gh_G, e3, e4 ▸ hBP, by rw [e4, hps]; exact hM⟩
      · rw [if_neg k1] at ho
        by_cases k2 : i = it
        · rw [if_pos k2] at ho; cases ho
          exact .inr ⟨⟨_, by rw [k2]; exact hi⟩, q1, by rw [k2]; exact hq1, D, [], 0, gh_G, e2, e3, e4 ▸ hBP, fun p _ => by simp, fun p _ e => (by omega), hI⟩
        · rw [if_neg k2] at ho; exact .inl ho) (fun _ _ => rfl) (fun i j k ho => by
      rw [hget] at ho
      by_cases k1 : i = m
      · rw [if_pos k1] at ho; cases ho; exact ⟨D, gh_G, .inr (k1.trans e2.symm)⟩
      · rw [if_neg k1] at ho
        by_cases k2 : i = it
        · rw [if_pos k2] at ho; cases ho; exact ⟨D, gh_G, .inl (k2.trans e1.symm)⟩
        · rw [if_neg k2] at ho; exact hw.gid i j k ho)
theorem ok_loopQ {F:Nat} {c:Code} {k:Nat→St→R} (hc:CodeOK P call F N r c) (hok:okC N c=true) (hr:r.isSome=true→noRange c=true) (hS:SR P C N φ s a w)
  (h:Ok T (loopQ (fun s k=>codeX c call P F N s k) N c F s k)):(Code.loop c).wpIn (Fr r) 0 P (PostC P C N φ s T k) a w:=by
 unfold loopQ at h
 cases hp:planB c s with
 | none=>rw [hp] at h; exact ok_loopJ hc hok hr hS h
 | some y =>
  rw [hp] at h
  obtain ⟨es,hi,hm,hes,hn,h1,h3⟩:=planB_spec hp
  obtain ⟨it,m,c0,es2⟩:=y
  have hes:es2=numb es 0:=hes
  subst hes
  have hi:s.heap.get it=some (.iter (some m) c0 [] 0 c0):=hi
  have hm:s.heap.get m=some (.bag es c0):=hm
  have hm24:m<16777216:=by have:=(hS.wr.row _ _ hm).1; omega
  have hi24:it<16777216:=by have:=(hS.wr.row _ _ hi).1; omega
  have hne:it≠m:=h3
  have hg:C.G s.next=none:=by
   cases hg:C.G s.next with
   | none=>rfl
   | some D=>exact absurd (hS.wr.ghl _ D hg) (Nat.lt_irrefl _)
  obtain ⟨D,e1,e2,e3,hBP,hS0⟩:=froz_ok hS hi hm hi24 hm24 hne
  have h:Ok T (loopJ (fun s k=>codeX c call P F N s k) N (frozS it m c0 (numb es 0) s).lim (frozS it m c0 (numb es 0) s).next (frozS it m c0 (numb es 0) s) (fun e s'=>k e (thawS s.next it m (s.heap.get m) s')) F [⟨0,0,frozS it m c0 (numb es 0) s⟩] []):=h
  rw [hm] at h
  refine Go.wpIn_mono (ok_loopJ hc hok hr hS0 h) fun e a' w' hq=>?_
  obtain ⟨en,hen,φ',s',he,hS',hk⟩:=hq
  have hlim:s.lim=C.lim:=hS.wr.lim
  refine ⟨en,hen,φ',thawS s.next it m (some (.bag es c0)) s',he,⟨thaw_ok (hf:=(frozS it m c0 (numb es 0) s).heap) hS'.wr hg e1 e2 e3 hBP hi24 hm24 hne (by rw [← hlim]; exact h1) (fun i hi'=>⟨fun e=>?_,fun e=>?_⟩),hS'.er,hS'.dr⟩,hk⟩
  ·subst e
   refine ⟨?_,?_⟩
   ·show ((s.heap.put it _).put i _).get i=_
    rw [(hS.wr.full.put _ _).get_put' hm24,if_pos rfl]
   ·rw [← hS.wr.low i hi']; exact hm
  ·show ((s.heap.put it _).put m _).get i=_
   have h1:s.lim≤it:=h1
   rw [(hS.wr.full.put _ _).get_put' hm24,if_neg e,hS.wr.full.get_put' hi24,if_neg (by omega)]
   exact hS.wr.low i hi'
end
end Go.Ex
namespace Go.Ex
open Go.Fip
section
variable {T : Out → Prop} {φ : Phi} {s : St} {N : Nat} {a : Act} {P : Program} {w : World} {C : Cx} {call : CallR} {r : Option Nat}
theorem nd_le:∀ (l m:List Nat),l.Nodup→(∀ x∈l,x∈m)→l.length≤m.length
 | [],_,_,_=>Nat.zero_le _
 | x::l,m,hn,hs=>by
  rw [List.nodup_cons] at hn
  have hx:x∈m:=hs x (by simp)
  have h1:=nd_le l (m.erase x) hn.2 fun y hy=>by
   have hne:y≠x:=fun e=>hn.1 (e ▸ hy)
   exact (List.mem_erase_of_ne hne).2 (hs y (by simp [hy]))
  rw [List.length_erase_of_mem hx] at h1
  have:0<m.length:=List.length_pos_of_mem hx
  simp only [List.length_cons]
  omega
theorem DI.le {D:GD} {it m c n:Nat} {es:List (Nat×Nat×Nat×Nat)} {kill:List Nat} (h:DI D it m c es kill n):n≤es.length:=by
 have:=nd_le D.seen (es.map (·.2.2.2)) h.h_nd fun x hx=>by
  obtain ⟨y,hy,e⟩:=h.h_sub x hx
  exact e ▸ List.mem_map_of_mem hy
 rw [h.h_len,List.length_map] at this
 exact this
section
variable {body : St → (Nat → St → R) → R} {base : St} {z : Nat} {k : Nat → St → R} {g it m c : Nat} {es : List (Nat × Nat × Nat × Nat)} {kill : List Nat}
theorem roundsM_0 {now done:List Out} (h:Ok T (roundsM body N base.lim z base k g it m c es kill 0 now done)) :
  ∃ outs st,bodyO body now=some outs∧normL g it m c es kill (staysO outs)=some st∧Ok T (outsR (fun o=>k o.e o.s) (meets N base.lim z base (cutL it m (goesO outs)) done)):=by
 obtain ⟨outs,h1,h2⟩:=ok_opt (show Ok T (optR (bodyO body now) _) from h)
 obtain ⟨st,h3,h4⟩:=ok_opt h2
 exact ⟨outs,st,h1,h3,h4⟩
theorem roundsM_s {j:Nat} {now done:List Out} (h:Ok T (roundsM body N base.lim z base k g it m c es kill (j+1) now done)) :
  ∃ outs st,bodyO body now=some outs∧normL g it m c es kill (staysO outs)=some st∧Ok T (roundsM body N base.lim z base k g it m c es kill j (meets N base.lim z base st []) (meets N base.lim z base (cutL it m (goesO outs)) done)):=by
 obtain ⟨outs,h1,h2⟩:=ok_opt (show Ok T (optR (bodyO body now) _) from h)
 obtain ⟨st,h3,h4⟩:=ok_opt h2
 exact ⟨outs,st,h1,h3,h4⟩
theorem roundsM_done {e:Exit} (hB:BR φ base):∀ (j:Nat) (now done:List Out),Ok T (roundsM body N base.lim z base k g it m c es kill j now done)→Rp P C N φ base done e a w→∃ o,OutR P C N φ base o e a w∧Ok T (k o.e o.s)
 | 0,now,done,h,hr=>by
  obtain ⟨outs,st,h1,h2,h3⟩:=roundsM_0 h
  obtain ⟨o,ho,h4⟩:=rp_meets (z:=z) hB (cutL it m (goesO outs)) done (.inr hr)
  exact ⟨o,h4,ok_outsR h3 o ho⟩
 | j+1,now,done,h,hr=>by
  obtain ⟨outs,st,h1,h2,h3⟩:=roundsM_s h
  exact roundsM_done hB j _ _ h3 (rp_meets (z:=z) hB (cutL it m (goesO outs)) done (.inr hr))
end
theorem rounds_ok {F z:Nat} {c:Code} {k:Nat→St→R} {base:St} {Q:Exit→Act→World→Prop} {g it m c0:Nat} {es:List (Nat×Nat×Nat×Nat)} {kill:List Nat} (hc:CodeOK P call F N r c) (hok:okC N c=true) (hr:r.isSome=true→noRange c=true) (hB:BR φ base) (hL:LP C base g it m c0 es)
  (hQ:∀ o e a w,OutR P C N φ base o e a w→Ok T (k o.e o.s)→Q e a w):∀ (j n:Nat) (D:GD) (now done:List Out) (a:Act) (w:World),n+j=es.length→DI D it m c0 es kill n→Ok T (roundsM (fun s k=>codeX c call P F N s k) N base.lim z base k g it m c0 es kill j now done)→Rp P (C.gh g D) N φ base now .normal a w →
  Code.roundsIn (Fr r) 0 P c Q (j+1) a w:=by
 intro j
 induction j with
 | zero =>
  intro n D now done a w hn hD h hR
  obtain ⟨outs,st,h1,h2,h3⟩:=roundsM_0 h
  obtain ⟨o,ho,φ1,hen,he,hS⟩:=hR
  rw [roundsIn_succ]
  refine Go.wpIn_mono (hc _ φ1 o.s a w _ endO hok hr hS (ok_bodyO h1 o ho)) fun e a' w' hq=>?_
  obtain ⟨en,hen',φ',s',he',hS',hk⟩:=hq
  have hmem:(⟨en,0,s'⟩:Out)∈outs:=by
   obtain ⟨l,hl,hk⟩:=hk
   have hl:some [(⟨en,0,s'⟩:Out)]=some l:=hl
   cases hl
   exact hk _ (List.mem_singleton.2 rfl)
  have hO:OutR P (C.gh g D) N φ base ⟨en,0,s'⟩ e a' w':=⟨φ',hen',he.trans he',hS'⟩
  have goes:∀ {n},en=n+1→Q e a' w':=fun {n} hn=>by
   obtain ⟨o,ho,h4⟩:=rp_meets (z:=z) hB (cutL it m (goesO outs)) done (.inl ⟨_,cutL_mem (mem_goes hmem hn),cut_ok hL hD hO⟩)
   exact hQ o e a' w' h4 (ok_outsR h3 o ho)
  cases e with
  | normal =>
   cases hen'
   obtain ⟨o',ho',hno⟩:=normL_mem h2 _ (mem_stays hmem rfl)
   obtain ⟨D',hD',_⟩:=norm_ok hL hD hO hno
   have:=hD'.le
   omega
  | ret=>cases hen'; exact goes (n:=0) rfl
  | exit i=>cases hen'; exact goes (n:=1+2 * i) (by omega)
  | goto i=>cases hen'; exact goes (n:=2+2 * i) (by omega)
  | panic c=>cases hen'
  | outgrown=>cases hen'
 | succ j ih =>
  intro n D now done a w hn hD h hR
  obtain ⟨outs,st,h1,h2,h3⟩:=roundsM_s h
  obtain ⟨o,ho,φ1,hen,he,hS⟩:=hR
  rw [roundsIn_succ]
  refine Go.wpIn_mono (hc _ φ1 o.s a w _ endO hok hr hS (ok_bodyO h1 o ho)) fun e a' w' hq=>?_
  obtain ⟨en,hen',φ',s',he',hS',hk⟩:=hq
  have hmem:(⟨en,0,s'⟩:Out)∈outs:=by
   obtain ⟨l,hl,hk⟩:=hk
   have hl:some [(⟨en,0,s'⟩:Out)]=some l:=hl
   cases hl
   exact hk _ (List.mem_singleton.2 rfl)
  have hO:OutR P (C.gh g D) N φ base ⟨en,0,s'⟩ e a' w':=⟨φ',hen',he.trans he',hS'⟩
  have goes:∀ {n},en=n+1→Q e a' w':=fun {n} hn=>by
   obtain ⟨o,h4,h5⟩:=roundsM_done hB j _ _ h3 (rp_meets (z:=z) hB (cutL it m (goesO outs)) done (.inl ⟨_,cutL_mem (mem_goes hmem hn),cut_ok hL hD hO⟩))
   exact hQ o e a' w' h4 h5
  cases e with
  | normal =>
   cases hen'
   obtain ⟨o',ho',hno⟩:=normL_mem h2 _ (mem_stays hmem rfl)
   obtain ⟨D',hD',hO'⟩:=norm_ok hL hD hO hno
   exact ih (n+1) D' _ _ a' w' (by omega) hD' h3 (rp_meets (z:=z) hB st [] (.inl ⟨o',ho',hO'⟩))
  | ret=>cases hen'; exact goes (n:=0) rfl
  | exit i=>cases hen'; exact goes (n:=1+2 * i) (by omega)
  | goto i=>cases hen'; exact goes (n:=2+2 * i) (by omega)
  | panic c=>cases hen'
  | outgrown=>cases hen'
theorem ptT_spec {o:Option AV} {it:Nat} (h:ptT o=some it):o=some (.pt it 0):=by
 unfold ptT at h
 split at h
 ·cases h; rfl
 ·cases h
theorem startT_spec {h:Ex.T AO} {o:Option AO} {y:Nat×Nat×List (Nat×Nat×Nat×Nat)} (hy:startT h o=some y):o=some (.iter (some y.1) y.2.1 [] 0 y.2.1)∧h.get y.1=some (.map y.2.2 y.2.1):=by
 unfold startT at hy
 split at hy
 ·rename_i m since last
  split at hy
  ·rename_i es c hm
   cases hb:Bool.and (Nat.beq since c) (Nat.beq last c) with
   | false=>rw [hb] at hy; cases hy
   | true =>
    rw [hb] at hy
    obtain ⟨b1,b2⟩:=and_t hb
    cases hy
    exact ⟨by rw [beq_eq b1,beq_eq b2],hm⟩
  ·cases hy
 ·cases hy
theorem planM_spec {body:St→(Nat→St→R)→R} {b:Code} {y:Nat×Nat×Nat×List (Nat×Nat×Nat×Nat)×List Nat} (h:planM body N b s=some y) :
  ∃ t,dec (dg s.env (Nat.succ t)) s.side=some (.pt y.1 0)∧s.heap.get y.1=some (.iter (some y.2.1) y.2.2.1 [] 0 y.2.2.1)∧s.heap.get y.2.1=some (.map y.2.2.2.1 y.2.2.1)∧s.next<16777215∧s.lim≤y.1∧s.lim≤y.2.1∧y.1≠y.2.1:=by
 unfold planM at h
 cases h1:firstNext b with
 | none=>rw [h1] at h; cases h
 | some t =>
  rw [h1] at h
  simp only [Option.bind_some] at h
  cases h2:ptT (dec (dg s.env (Nat.succ t)) s.side) with
  | none=>rw [h2] at h; cases h
  | some it =>
   rw [h2] at h
   simp only [Option.bind_some] at h
   cases h3:startT s.heap (s.heap.get it) with
   | none=>rw [h3] at h; cases h
   | some u =>
    rw [h3] at h
    simp only [Option.bind_some] at h
    cases hb:Bool.and (Bool.and (Nat.ble 4 u.2.2.length) (Nat.blt s.next 16777215)) (Bool.and (Bool.and (Nat.ble s.lim it) (Nat.ble s.lim u.1)) (Bool.not (Nat.beq it u.1))) with
    | false=>rw [hb] at h; cases h
    | true =>
     rw [hb] at h
     obtain ⟨b1,b2⟩:=and_t hb
     obtain ⟨_,b3⟩:=and_t b1
     obtain ⟨b4,b5⟩:=and_t b2
     obtain ⟨b6,b7⟩:=and_t b4
     obtain ⟨e1,e2⟩:=startT_spec h3
     cases h4:bodyO body [firstS it u.1 u.2.1 u.2.2 [] s] with
     | none=>rw [h4] at h; cases h
     | some outs =>
      rw [h4] at h
      simp only [Option.bind_some] at h
      cases h5:normL s.next it u.1 u.2.1 u.2.2 (killsO u.1 (staysO outs)) (staysO outs) with
      | none=>rw [h5] at h; cases h
      | some st =>
       rw [h5] at h
       simp only [Option.bind_some] at h
       cases h6:Nat.beq (meets N s.lim s.next s st []).length 1 with
       | false=>rw [h6] at h; cases h
       | true =>
        rw [h6] at h
        cases h
        exact ⟨t,ptT_spec h2,e1,e2,blt_lt b3,ble_le b6,ble_le b7,fun e=>by have e:it=u.1:=e; rw [e,Nat.beq_refl] at b5; cases b5⟩
theorem first_ok {it m c0:Nat} {es:List (Nat×Nat×Nat×Nat)} {kill:List Nat} (hS:SR P C N φ s a w) (hi:s.heap.get it=some (.iter (some m) c0 [] 0 c0)) (hm:s.heap.get m=some (.map es c0)) (hL:LP C s s.next it m c0 es):∃ D,DI D it m c0 es kill 0∧OutR P (C.gh s.next D) N φ s (firstS it m c0 es kill s) .normal a w:=by
 obtain ⟨_,q1,hq1,_,hI⟩:=hS.wr.row it _ hi
 obtain ⟨_,q2,hq2,_,hM⟩:=hS.wr.row m _ hm
 have hI:ORi φ w q1 (some m) c0 [] 0 c0:=hI
 have hM:ORm φ s.side s.sn w q2 es c0:=hM
 have hM2:=hM
 obtain ⟨es',_,_,hlt,hnd⟩:=hM2
 have hex:es=es.filter (left1 kill []):=(List.filter_eq_self.2 fun y _=>by unfold left1; rfl).symm
 have fin0:(∀ x∈es,x.2.2.2∈([]:List Nat))→es=stayE kill es:=fun h=>by
  cases es with
  | nil=>rfl
  | cons y l=>exact absurd (h y (by simp)) (by simp)
 obtain ⟨D,hD⟩:∃ D:GD,D=⟨it,m,[],es,es,kill,c0,fun x h=>h,(fun h=>(fin0 h)),hlt,hnd,hnd,[]⟩:=⟨_,rfl⟩
 have hDI:DI D it m c0 es kill 0:=by subst hD; exact ⟨rfl,rfl,rfl,rfl,rfl,hex,rfl,List.nodup_nil,fun i h=>by cases h⟩
 have hseen:D.seen=[]:=by subst hD; rfl
 have hexD:D.ex=es:=by subst hD; rfl
 refine ⟨D,hDI,φ,rfl,.refl,⟨?_,hS.er,hS.dr⟩⟩
 exact WR.heads (C:=C.at s.lim s) (D:=D) (nx:=s.next+1) (k1:=.itV m c0 es kill) (k2:=.mpV it) hS.wr.at (fun _ _=>rfl) (fun i D2 hi=>Nat.lt_succ_of_lt (hS.wr.ghl i D2 hi)) (Nat.lt_succ_self _) (Nat.le_succ _)
  (fun r i k _ _ hr e=>by obtain ⟨D2,j1,_⟩:=hS.wr.gid r i k hr; have:=hS.wr.ghl i D2 j1; omega) hi hm hq1 hq2 hL.i24 hL.m24 hL.li hL.lm hL.ne hDI.h_it hDI.h_mr
  ⟨D,gh_G,hDI.h_mr,hDI.h_c,hDI.h_es,hDI.h_kill,by rw [hseen]; exact hI⟩ ⟨D,gh_G,by rw [hexD,hDI.h_c]; exact hM⟩
theorem ok_loopR {F : Nat} {c : Code} {k : Nat → St → R} (hc : CodeOK P call F N r c) (hok : okC N c = true) (hr : r.isSome = true → noRange c = true) (hS : SR P C N φ s a w)
    (h : Ok T (loopR (fun s k => codeX c call P F N s k) N c F s k)) : (Code.loop c).wpIn (Fr r) 0 P (PostC P C N φ s T k) a w := by
  unfold loopR at h
  cases hp : planM (fun s k => codeX c call P F N s k) N c s with
  | none => rw [hp] at h; exact ok_loopQ hc hok hr hS h
  | some y =>
    rw [hp] at h
    obtain ⟨t, hd, hi, hm, hn, h1, h2, h3⟩ := planM_spec hp
    have h : Ok T (roundsM (fun s k => codeX c call P F N s k) N s.lim s.next s k s.next y.1 y.2.1 y.2.2.1 y.2.2.2.1 y.2.2.2.2 y.2.2.2.1.length [firstS y.1 y.2.1 y.2.2.1 y.2.2.2.1 y.2.2.2.2 s] []) := h
    have hm24 : y.2.1 < 16777216 := by have := (hS.wr.row _ _ hm).1; omega
    have hi24 : y.1 < 16777216 := by have := (hS.wr.row _ _ hi).1; omega
    have hL : LP C s s.next y.1 y.2.1 y.2.2.1 y.2.2.2.1 := ⟨h1, h2, h3, hi24, hm24, by
      cases hg : C.G s.next with
      | none => rfl
      | some D => exact absurd (hS.wr.ghl _ D hg) (Nat.lt_irrefl _)⟩
    obtain ⟨D, hD, hO⟩ := first_ok (kill := y.2.2.2.2) hS hi hm hL
    refine wpIn_loop_rounds (y.2.2.2.1.length + 1) (rounds_ok (C := C) (φ := φ) (base := s) hc hok hr (sr_br hS) hL (fun o e a' w' hO hk => ?_) _ 0 D _ _ a w (Nat.zero_add _) hD h ⟨_, List.mem_singleton.2 rfl, hO⟩)
    obtain ⟨φ', hen, he, hS'⟩ := hO
    have hl : o.s.lim = s.lim := hS'.wr.lim
    have := hS.wr.from (Nat.le_refl _) hl hS'.wr
    exact ⟨o.e, hen, φ', o.s, he, ⟨this, hS'.er, hS'.dr⟩, hk⟩
end
end Go.Ex
namespace Go.Ex
open Go.Fip
section
variable {T : Out → Prop} {φ : Phi} {s : St} {N : Nat} {a : Act} {P : Program} {w : World} {C : Cx} {call : CallR} {r : Option Nat} {F : Nat}
theorem PostC.trans {k:Nat→St→R} {φ1:Phi} {s1:St} (he:Ext φ s.side s.sn φ1 s1.side s1.sn) {e:Exit} {a':Act} {w':World} (h:PostC P C N φ1 s1 T k e a' w'):PostC P C N φ s T k e a' w':=by
 obtain ⟨en,h1,h2⟩:=h
 exact ⟨en,h1,h2.trans he⟩
theorem Post1.self {k:St→R} (hS:SR P C N φ s a w) (h:Ok T (k s)):Post1 P C N φ s T k a w:=⟨φ,s,.refl,hS,h⟩
theorem ok_loopN {c:Code} {k:Nat→St→R} (hc:CodeOK P call F N r c) (hok:okC N c=true) (hr:r.isSome=true→noRange c=true) (φ0:Phi) (s0:St):∀ (m:Nat) (φ:Phi) (s:St) (a:Act) (w:World),Ext φ0 s0.side s0.sn φ s.side s.sn→SR P C N φ s a w →
  Ok T (loopN (fun s k=>codeX c call P F N s k) m s k)→Code.roundsIn (Fr r) 0 P c (PostC P C N φ0 s0 T k) m a w
 | 0,φ,s,a,w,he,hS,h=>(ok_bad h).elim
 | m+1,φ,s,a,w,he,hS,h=>by
  have h:Ok T (codeX c call P F N s fun e s=>seqT e (fun s=>loopN (fun s k=>codeX c call P F N s k) m s k) k s):=h
  rw [roundsIn_succ]
  refine Go.wpIn_mono (hc C φ s a w T _ hok hr hS h) fun e a' w' hq=>?_
  obtain ⟨en,hen,φ',s',he',hS',hk⟩:=hq
  cases e with
  | normal =>
   cases hen
   exact ok_loopN hc hok hr φ0 s0 m φ' s' a' w' (he.trans he') hS' hk
  | ret=>cases hen; exact ⟨1,rfl,φ',s',he.trans he',hS',hk⟩
  | exit i =>
   cases hen
   have e2:2+2 * i=(1+2 * i)+1:=by omega
   rw [e2] at hk
   exact ⟨2+2 * i,rfl,φ',s',he.trans he',hS',by rw [e2]; exact hk⟩
  | goto i =>
   cases hen
   have e2:3+2 * i=(2+2 * i)+1:=by omega
   rw [e2] at hk
   exact ⟨3+2 * i,rfl,φ',s',he.trans he',hS',by rw [e2]; exact hk⟩
  | panic c=>cases hen
  | outgrown=>cases hen
theorem loop_at {l:Nat} {q:Pl} {x:Nat×Nat×List Nat×Code×Code×LoopState×Option Code} (hw:WR P C φ s w) (hq:φ l=some q) (h:loopT (s.heap.get l)=some x) :
  s.heap.get l=some (.loop x.1 x.2.1 x.2.2.1 x.2.2.2.1 x.2.2.2.2.1 x.2.2.2.2.2.1 x.2.2.2.2.2.2)∧OR P C.G φ s.side s.sn w q (.loop x.1 x.2.1 x.2.2.1 x.2.2.2.1 x.2.2.2.2.1 x.2.2.2.2.2.1 x.2.2.2.2.2.2):=by
 have h3:s.heap.get l=some (.loop x.1 x.2.1 x.2.2.1 x.2.2.2.1 x.2.2.2.2.1 x.2.2.2.2.2.1 x.2.2.2.2.2.2):=by
  cases ho:s.heap.get l with
  | none=>rw [ho] at h; cases h
  | some o =>
   rw [ho] at h
   cases o <;> first | (cases h; rfl) | cases h
 obtain ⟨_,q',hq',hf,ho⟩:=hw.row l _ h3
 rw [hq] at hq'; cases hq'
 exact ⟨h3,ho⟩
theorem WR.putRec {o0:AO} {l:Nat} {q:Pl} {obj:Obj} {o':Option AO} (hw:WR P C φ s w) (hr:s.heap.get l=some o0) (hq:φ l=some q) (hn:l<16777216) (hl:s.lim≤l) (hlt:q.b<w.heap.size)
  (ho:∀ o,o'=some o→OR P C.G φ s.side s.sn (w.putObj q.b obj) q o) (hgo:∀ i k,o'=some (.gh i k)→∃ D,C.G i=some D∧(l=D.it∨l=D.mr):=by intro _ _ h; cases h):WR P C φ ⟨s.env,s.ds,s.heap.put l o',s.next,s.side,s.sn,s.lim⟩ (w.putObj q.b obj) :=
 hw.upd hr hq hn hl (fun b hb'=>World.putObj_heap_other hb') (by simp) rfl rfl rfl ho hgo
theorem ok_setH {l:Nat} {o:Option AO} {k:St→R} (h:Ok T (setH s l o k)):s.lim≤l∧Ok T (k ⟨s.env,s.ds,s.heap.put l o,s.next,s.side,s.sn,s.lim⟩):=by
 obtain ⟨h1,h2⟩:=ok_bool (b:=Nat.ble s.lim l) (r:=k ⟨s.env,s.ds,s.heap.put l o,s.next,s.side,s.sn,s.lim⟩) (ok_setB h)
 exact ⟨ble_le h1,h2⟩
theorem ok_and {x y:Bool} (h:Bool.and x y=true):x=true∧y=true:=by
 have h:(x && y)=true:=h
 simpa [Bool.and_eq_true] using h
def JumpP (P:Program) (Q:Exit→Act→World→Prop) (a:Act) (w:World):Option Code→Prop
 | none=>Q .normal a w
 | some c=>c.wpIn (Fr none) 0 P Q a w
theorem jump_ok {pend:Option Code} {e:Nat} {k:Nat→St→R} {Q:Exit→Act→World→Prop} (h:jumpE pend=some e) (hS:SR P C N φ s a w) (hk:Ok T (k e s)) (hQ:∀ ex a' w',PostC P C N φ s T k ex a' w'→Q ex a' w') :
  JumpP P Q a w pend:=by
 cases pend with
 | none=>cases h; exact hQ _ _ _ ⟨0,rfl,.self hS hk⟩
 | some c =>
  cases c with
  | ret=>cases h; exact wpIn_ret (hQ _ _ _ ⟨1,rfl,.self hS hk⟩)
  | exit i=>cases h; exact wpIn_exit (hQ _ _ _ ⟨2+2 * i,rfl,.self hS hk⟩)
  | goto i=>cases h; exact wpIn_goto (hQ _ _ _ ⟨3+2 * i,rfl,.self hS hk⟩)
  | _=>cases h
theorem ok_rangeF {g : Operand} {ps : Array Tmp} {assign body : Code} {k : Nat → St → R} (hcall : CallOK P call) (hS : SR P C N φ s a w)
    (h : Ok T (evK g s fun g => rangeF call N ps.toList assign body g s k)) : (Code.rangeFunc g ps assign body).wpIn (Fr none) 0 P (PostC P C N φ s T k) a w := by
  obtain ⟨gv, _, hg, h⟩ := ok_evK hS.er h
  obtain ⟨h1, h⟩ := ok_bool h
  obtain ⟨hfn, hnr⟩ := ok_and h1
  obtain ⟨hm, h⟩ := ok_alloc h
  obtain ⟨φ1, he1, hself1, hw1⟩ := hS.wr.alloc (o := .mark) (obj := .deferred (some [])) (q := ⟨w.heap.size, 0, 0, 0⟩) hm rfl (fun φ' he hs => heap_new w _)
  obtain ⟨hl, h⟩ := ok_alloc h
  have hl : s.next + 1 < 16777216 := hl
  refine wpIn_rangeFunc fun fn _ => ?_
  obtain ⟨rc, hrc⟩ : ∃ rc : Loop, rc = { state := .ready, pending := none, fn, tmps := a.tmps, params := ps, assign, body, defers := w.heap.size } := ⟨_, rfl⟩
  have hw1' := hw1
  obtain ⟨φ2, he2, hself2, hw2⟩ := WR.alloc (o := .loop N s.env ps.toList assign body .ready none) (obj := .loop rc) (q := ⟨w.heap.size + 1, 0, 0, 0⟩) hw1 hl (by simp) (fun φ' he hs => by
    refine ⟨rc, ?_, by rw [hrc], by rw [hrc], by rw [hrc], by rw [hrc], by rw [hrc], ?_, s.next, ?_⟩
    · have := heap_new (w.alloc (.deferred (some []))) (.loop rc)
      rwa [World.size_alloc] at this
    · rw [hrc]
      have := (hS.er.mono he1).mono he
      exact ⟨this.size, this.slot⟩
    · rw [hrc, he.rows _ _ hself1]; rfl)
  have he12 := he1.trans he2
  have hself1' := he2.rows _ _ hself1
  obtain ⟨c, s3, hg3, hs3, hcv, h⟩ := ok_enc (φ := φ2) (a := .yd (s.next + 1)) (v := .func (.yield (w.heap.size + 1)) #[] #[]) hw2.sok ⟨_, hself2, hl, rfl⟩ h
  have hw3 := hw2.sg hg3
  have he23 := hg3.ext φ2
  cases gv with
  | fn f n₁ c₁ n₂ c₂ =>
    obtain ⟨xs, ys, hv, hx, hy, hcb, hdb, hxs, hys⟩ := hg
    cases f with
    | func gf =>
      obtain ⟨nx, hrun, hres⟩ := hcall C φ2 s3 _ T _ (.fn (.func gf) n₁ c₁ n₂ c₂) (.func (.func gf) xs ys) 1 c #[.func (.yield (w.heap.size + 1)) #[] #[]] hw3
        (AR.mono (sd := s.side) (sn := s.sn) (φ := φ) ⟨xs, ys, rfl, hx, hy, hcb, hdb, hxs, hys⟩ (he12.trans he23)) rfl (by simpa using hcv.lt) (fun i u hi => by
          cases i with
          | zero => simp at hi; subst hi; rw [dg_small _ hcv.lt, if_pos rfl]; exact hcv
          | succ i => simp at hi) h
      have hrun2 : (invoke (.fn (.func gf) ys) (xs ++ #[.func (.yield (w.heap.size + 1)) #[] #[]])).run P ((w.alloc (.deferred (some []))).alloc (.loop rc)) = .ok nx ((w.alloc (.deferred (some []))).alloc (.loop rc)) := by
        simpa [Deferred.ofValue, Result.andThen] using hrun
      rcases hres with ⟨f', args, rfl, hc⟩ | ⟨l, f', tmps, asg, bd, rfl, ⟨_, hq⟩, hc⟩
      · refine ⟨w.heap.size + 1, [isMark w.heap.size], (w.alloc (.deferred (some []))).alloc (.loop rc), { target := .fn (.func gf) ys, args := xs ++ #[.func (.yield (w.heap.size + 1)) #[] #[]] }, _, f', args, _, ?_, ?_, ?_, hrun2, fun h => by simp [Fr_depth] at h, ?_⟩
        · rw [Fr_round]; have := run_enterLoop_outer (P := P) (w := w) fn a.tmps ps assign body; rw [← hrc] at this; exact this
        · simp only [resolve, rangeCall, hv]
          simp [go_sem]
        · intro f' _; exact Fr_fn none _
        · refine CallsIn.mono hc ?_
          rintro e w4 ⟨v, c4, φ4, s4, rfl, he4, hw4, henv4, hds4, hcv4, hk4⟩
          obtain ⟨x, hx4, hk4⟩ := ok_opt hk4
          obtain ⟨hnb, hk4⟩ := ok_bool hk4
          have hself4 := he4.rows _ _ (he23.rows _ _ hself2)
          obtain ⟨hrow4, rc4, hb4, hst, hpd, hps, has, hbd, _⟩ := loop_at hw4 hself4 hx4
          obtain ⟨hlim4, hk4⟩ := ok_setH hk4
          obtain ⟨en, hen, hk4⟩ := ok_opt hk4
          have hb4 : w4.heap[w.heap.size + 1]? = some (.loop rc4) := hb4
          have hrend := run_endLoop (P := P) hb4 (fun e => by rw [hst] at e; rw [e] at hnb; cases hnb)
          have hlt4 : w.heap.size + 1 < w4.heap.size := (Array.getElem?_eq_some_iff.1 hb4).1
          have hw5 : WR P C φ4 ⟨s4.env, s4.ds, s4.heap.put (s.next + 1) none, s4.next, s4.side, s4.sn, s4.lim⟩ (w4.putObj (w.heap.size + 1) (.loop { rc4 with state := .exhausted })) :=
            WR.putRec (q := ⟨w.heap.size + 1, 0, 0, 0⟩) hw4 hrow4 hself4 hl hlim4 hlt4 (fun o ho => by cases ho)
          refine ⟨_, _, hrend, ?_⟩
          have heT := he12.trans (he23.trans he4)
          have hS6 : SR P C N φ4 ⟨s4.env, s.next :: s4.ds, s4.heap.put (s.next + 1) none, s4.next, s4.side, s4.sn, s4.lim⟩ { a with defers := [isMark w.heap.size] ++ a.defers } (w4.putObj (w.heap.size + 1) (.loop { rc4 with state := .exhausted })) := by
            refine ⟨hw5.env _ _, ?_, ?_⟩
            · show ER N φ4 s4.side s4.sn s4.env _
              rw [henv4, hg3.env]
              have := hS.er.mono heT
              exact ⟨this.size, this.slot⟩
            · show DR φ4 (s.next :: s4.ds) (isMark w.heap.size :: a.defers)
              refine ⟨⟨_, he4.rows _ _ (he23.rows _ _ hself1'), hm, rfl⟩, ?_⟩
              rw [hds4, hg3.ds]
              exact hS.dr.mono heT.rows
          have hpe : jumpE rc4.pending = some en := by rw [hpd]; exact hen
          have := jump_ok (k := k) (Q := PostC P C N φ s T k) hpe hS6 hk4 (fun ex a' w' hp => hp.trans heT)
          cases hpp : rc4.pending with
          | none => rw [hpp] at this; exact this
          | some cc => rw [hpp] at this; exact this
      · cases hq
    | _ => cases hfn
  | _ => cases hfn
theorem code_ok (hm:P.follows .mixedOrders=true) (hcall:CallOK P call) (F N:Nat) (r:Option Nat):∀ c,CodeOK P call F N r c:=by
 intro c
 induction c with
 | skip=>intro C φ s a w T k _ _ hS h; exact wpIn_skip ⟨0,rfl,.self hS h⟩
 | region id ops draw =>
  intro C φ s a w T k hok _ hS h
  cases draw with
  | false=>exact wpIn_region_list (ok_opl (k:=fun s=>k 0 s) hcall φ s (fun a' w' hp=>⟨0,rfl,hp⟩) ops.toList φ s a w .refl hok hS h)
  | true =>
   have hok:Bool.rec (motive:=fun _=>Bool) false (okOps N ops.toList) (noDefer ops)=true:=hok
   cases hnd:noDefer ops with
   | false=>rw [hnd] at hok; cases hok
   | true =>
    rw [hnd] at hok
    exact ok_region_any (k:=fun s=>k 0 s) hm hcall hok hnd hS h fun a' w' hp=>⟨0,rfl,hp⟩
 | seq x y ihx ihy =>
  intro C φ s a w T k hok hnr hS h
  have hok:Bool.rec (motive:=fun _=>Bool) false (okC N y) (okC N x)=true:=hok
  have hok2:okC N x=true∧okC N y=true:=by
   cases hx:okC N x with
   | false=>rw [hx] at hok; cases hok
   | true=>rw [hx] at hok; exact ⟨rfl,hok⟩
  have hnr2:r.isSome=true→noRange x=true∧noRange y=true:=fun hi=>by
   have:=hnr hi
   have this:Bool.rec (motive:=fun _=>Bool) false (noRange y) (noRange x)=true:=this
   cases hx:noRange x with
   | false=>rw [hx] at this; cases this
   | true=>rw [hx] at this; exact ⟨rfl,this⟩
  have h:Ok T (codeX x call P F N s fun e s=>seqT e (fun s=>codeX y call P F N s k) k s):=h
  refine wpIn_seq (Go.wpIn_mono (ihx C φ s a w T _ hok2.1 (fun hi=>(hnr2 hi).1) hS h) fun e a' w' hq=>?_)
  obtain ⟨en,hen,φ',s',he',hS',hk⟩:=hq
  cases e with
  | normal =>
   cases hen
   exact Go.wpIn_mono (ihy C φ' s' a' w' T k hok2.2 (fun hi=>(hnr2 hi).2) hS' hk) fun e a2 w2 hp=>hp.trans he'
  | ret=>cases hen; exact ⟨1,rfl,φ',s',he',hS',hk⟩
  | exit i =>
   cases hen
   have e2:2+2 * i=(1+2 * i)+1:=by omega
   rw [e2] at hk
   exact ⟨2+2 * i,rfl,φ',s',he',hS',by rw [e2]; exact hk⟩
  | goto i =>
   cases hen
   have e2:3+2 * i=(2+2 * i)+1:=by omega
   rw [e2] at hk
   exact ⟨3+2 * i,rfl,φ',s',he',hS',by rw [e2]; exact hk⟩
  | panic c=>cases hen
  | outgrown=>cases hen
 | cond c x y ihx ihy =>
  intro C φ s a w T k hok hnr hS h
  have hok:Bool.rec (motive:=fun _=>Bool) false (okC N y) (okC N x)=true:=hok
  have hok2:okC N x=true∧okC N y=true:=by
   cases hx:okC N x with
   | false=>rw [hx] at hok; cases hok
   | true=>rw [hx] at hok; exact ⟨rfl,hok⟩
  have hnr2:r.isSome=true→noRange x=true∧noRange y=true:=fun hi=>by
   have:=hnr hi
   have this:Bool.rec (motive:=fun _=>Bool) false (noRange y) (noRange x)=true:=this
   cases hx:noRange x with
   | false=>rw [hx] at this; cases this
   | true=>rw [hx] at this; exact ⟨rfl,this⟩
  obtain ⟨av,_,hav,h⟩:=ok_evK (x:=c) hS.er h
  cases av with
  | b p =>
   obtain ⟨hp,hv⟩:=hav
   have h:Ok T (Nat.rec (motive:=fun _=>R) (codeX y call P F N s k) (fun _ _=>codeX x call P F N s k) p):=h
   cases p with
   | zero=>exact wpIn_cond_false hv (ihy C φ s a w T k hok2.2 (fun hi=>(hnr2 hi).2) hS h)
   | succ p=>exact wpIn_cond_true hv (ihx C φ s a w T k hok2.1 (fun hi=>(hnr2 hi).1) hS h)
  | _=>exact (ok_bad h).elim
 | block i b ih =>
  intro C φ s a w T k hok hnr hS h
  have h:Ok T (codeX b call P F N s fun e s=>Bool.rec (motive:=fun _=>R) (k e s) (k 0 s) (Nat.beq e (Nat.add 2 (Nat.mul 2 i)))):=h
  refine wpIn_block (Go.wpIn_mono (ih C φ s a w T _ hok hnr hS h) fun e a' w' hq=>?_)
  obtain ⟨en,hen,φ',s',he',hS',hk⟩:=hq
  have other:∀ {n:Nat},n≠2+2 * i→Ok T (Bool.rec (motive:=fun _=>R) (k n s') (k 0 s') (Nat.beq n (Nat.add 2 (Nat.mul 2 i))))→Ok T (k n s'):=fun {n} hn hk=>by
   have:Nat.beq n (Nat.add 2 (Nat.mul 2 i))=false:=by
    cases hb:Nat.beq n (Nat.add 2 (Nat.mul 2 i)) with
    | false=>rfl
    | true=>exact absurd (beq_eq hb) hn
   rw [this] at hk; exact hk
  cases e with
  | normal=>cases hen; exact ⟨0,rfl,φ',s',he',hS',other (by omega) hk⟩
  | ret=>cases hen; exact ⟨1,rfl,φ',s',he',hS',other (by omega) hk⟩
  | exit j =>
   cases hen
   simp only [Exit.inBlock]
   by_cases hj:j=i
   ·rw [if_pos hj]
    subst hj
    have this:Nat.beq (2+2 * j) (Nat.add 2 (Nat.mul 2 j))=true:=Nat.beq_refl _
    have hk:Ok T (Bool.rec (motive:=fun _=>R) (k (2+2 * j) s') (k 0 s') (Nat.beq (2+2 * j) (Nat.add 2 (Nat.mul 2 j)))):=hk
    rw [this] at hk
    exact ⟨0,rfl,φ',s',he',hS',hk⟩
   ·rw [if_neg hj]
    exact ⟨2+2 * j,rfl,φ',s',he',hS',other (by omega) hk⟩
  | goto j=>cases hen; exact ⟨3+2 * j,rfl,φ',s',he',hS',other (by omega) hk⟩
  | panic c=>cases hen
  | outgrown=>cases hen
 | loop b ih =>
  intro C φ s a w T k hok hnr hS h
  have h:Ok T (Bool.rec (motive:=fun _=>R) (loopN (fun s k=>codeX b call P F N s k) F s k) (loopR (fun s k=>codeX b call P F N s k) N b F s k) (Bool.and (hasNext b) (Bool.not (hasApp b)))):=h
  cases hb:Bool.and (hasNext b) (Bool.not (hasApp b)) with
  | false=>rw [hb] at h; exact wpIn_loop_rounds F (ok_loopN ih hok hnr φ s F φ s a w .refl hS h)
  | true=>rw [hb] at h; exact ok_loopR ih hok hnr hS h
 | rangeFunc g ps assign body _ _ =>
  intro C φ s a w T k hok hnr hS h
  cases r with
  | none=>exact ok_rangeF hcall hS h
  | some l=>cases hnr rfl
 | exit i=>intro C φ s a w T k _ _ hS h; exact wpIn_exit ⟨2+2 * i,rfl,.self hS h⟩
 | scope b ih =>
  intro C φ s a w T k hok hnr hS h
  have h:Ok T (codeX b call P F N s fun e s=>Bool.rec (motive:=fun _=>R) (k e s) bad (isGoto e)):=h
  cases r with
  | some l=>cases hnr rfl
  | none =>
   refine wpIn_wide.2 (wp_scope_straight (wpIn_wide.1 (Go.wpIn_mono (ih C φ s a w T _ hok (fun h=>nomatch h) hS h) fun e a' w' hq=>?_)))
   obtain ⟨en,hen,φ',s',he',hS',hk⟩:=hq
   have hk:Ok T (Bool.rec (motive:=fun _=>R) (k en s') bad (isGoto en)):=hk
   have hg:isGoto en=false∧Ok T (k en s'):=by
    cases hb:isGoto en with
    | false=>rw [hb] at hk; exact ⟨rfl,hk⟩
    | true=>rw [hb] at hk; exact (ok_bad hk).elim
   cases e with
   | goto i =>
    cases hen
    have:isGoto (3+2 * i)=true:=by
     have h1:(3+2 * i) % 2=1:=by omega
     have h2:Nat.blt 1 (3+2 * i)=true:=by rw [Nat.blt_eq]; omega
     show (Nat.beq ((3+2 * i) % 2) 1 && Nat.blt 1 (3+2 * i))=true
     rw [h1,h2]; rfl
    rw [this] at hg; exact absurd hg.1 (by decide)
   | normal=>exact ⟨en,hen,φ',s',he',hS',hg.2⟩
   | ret=>exact ⟨en,hen,φ',s',he',hS',hg.2⟩
   | exit i=>exact ⟨en,hen,φ',s',he',hS',hg.2⟩
   | panic c=>exact ⟨en,hen,φ',s',he',hS',hg.2⟩
   | outgrown=>exact ⟨en,hen,φ',s',he',hS',hg.2⟩
 | label i=>intro C φ s a w T k _ _ hS h; exact wpIn_label ⟨0,rfl,.self hS h⟩
 | goto i=>intro C φ s a w T k _ _ hS h; exact wpIn_goto ⟨3+2 * i,rfl,.self hS h⟩
 | ret=>intro C φ s a w T k _ _ hS h; exact wpIn_ret ⟨1,rfl,.self hS h⟩
 | refuse why=>intro C φ s a w T k _ _ hS h; exact (ok_bad h).elim
end
end Go.Ex
namespace Go.Ex
open Go.Fip
section
variable {T : Out → Prop} {φ : Phi} {s : St} {N : Nat} {a : Act} {P : Program} {w : World} {C : Cx} {call : CallR} {r : Option Nat} {F : Nat} {k : Nat → St → R}
theorem load_run {t : TypeId} {x : Operand} (hw : WR P C φ s w) (he : ER N φ s.side s.sn s.env a) (h : Ok T (evK x s fun a => loadT a P t s k)) : ∃ p v, a.eval x = .pointer (some p) ∧ (loadVar t p).run P w = .ok v w ∧ Cd φ s T k v := by
  obtain ⟨av, h1, h2, h⟩ := ok_evK he h
  cases av with
  | pt r o =>
    obtain ⟨q, hq, hr, ho, hv⟩ := h2
    obtain ⟨E, n, d, q', _, hq', _, ⟨cur, E', hb, hcells, hrest⟩, h⟩ := ok_row (k := fun _ n c => optR (shapeP P t) fun z => pieceK z n c o s k) hw h
    rw [hq] at hq'; cases hq'
    obtain ⟨z, hz, h⟩ := ok_opt h
    rcases ok_piece (φ := φ) (f := fun i => cur[q.off + i]?) hw.sok hcells.2 h with ⟨rfl, u, hu, hc⟩ | ⟨m, ys, rfl, hm, hle, hy, hc⟩
    · have hcl : w.cell? ⟨q.b, q.off + o, none⟩ = some u := by rw [cell_of hb]; exact hu
      exact ⟨_, u, hv, by simp [loadVar, shape_none hz w, load, Sem.run, hcl, Result.andThen], hc⟩
    · have hTA := shape_some hz
      have hl := run_loadCells_list (P := P) (w := w) ⟨q.b, q.off + o, none⟩ ys.toList (fun j u hj => by
        rw [add_none, cell_of hb]
        have := hy j u (by simpa using hj)
        simpa [Nat.add_assoc] using this)
      simp only [Array.length_toList, hm] at hl
      exact ⟨_, _, hv, by simp [loadVar, hTA.1 w, run_size hTA.2, hl, Result.andThen], hc⟩
  | _ => exact (ok_bad h).elim
theorem ok_res {x:ResultVar} (hw:WR P C φ s w) (he:ER N φ s.side s.sn s.env a) (h:Ok T (resT x P s k)):∃ v,(resSem a.tmps x).run P w=.ok v w∧Cd φ s T k v:=by
 cases x with
 | tmp t=>exact ⟨_,rfl,ok_evC (x:=.tmp t) hw.sok he h⟩
 | cell b t =>
  obtain ⟨p,v,h1,h2,h3⟩:=load_run (x:=.tmp b) hw he h
  refine ⟨v,?_,h3⟩
  have h1:a.tmps.getD b undef=.pointer (some p):=h1
  simp [resSem,h1,asAddr,h2]
theorem ok_ress {k : Nat → Nat → St → R} : ∀ (l : List ResultVar) (xs : List Value) (s : St) (n d : Nat), WR P C φ s w → ER N φ s.side s.sn s.env a → xs.length = n → d < 2 ^ (n * 128) → (∀ (i : Nat) (u : Value), xs[i]? = some u → CV φ s.side s.sn (dg d i) u) →
    Ok T (ress l n d P s k) → ∃ vs n' d' s', (l.mapM (resSem a.tmps)).run P w = .ok vs w ∧ SG s s' ∧ n' = (xs ++ vs).length ∧ d' < 2 ^ (n' * 128) ∧ (∀ (i : Nat) (u : Value), (xs ++ vs)[i]? = some u → CV φ s'.side s'.sn (dg d' i) u) ∧ Ok T (k n' d' s')
  | [], xs, s, n, d, hw, he, hl, hd, hx, h => ⟨[], n, d, s, by simp, SG.refl s, by simpa using hl.symm, hd, by simpa using hx, h⟩
  | x :: l, xs, s, n, d, hw, he, hl, hd, hx, h => by
    obtain ⟨v, hr, c, s', hg, hs', hc, hk⟩ := ok_res (a := a) (k := fun c s => ress l (Nat.succ n) (Nat.add d (Nat.shiftLeft c (Nat.mul n 128))) P s k) hw he h
    obtain ⟨vs, n', d', s'', h1, g2, e2, b2, c2, k2⟩ := ok_ress l (xs ++ [v]) s' (n + 1) _ (hw.sg hg) (by rw [hg.env]; exact he.mono (hg.ext φ)) (by simp [hl]) (cat_lt d c n 1 hd (by simpa using hc.lt)) (fun i u hi => by
      rw [dg_cat _ _ _ _ hd]
      by_cases hlt : i < n
      · rw [if_pos hlt]
        rw [List.getElem?_append_left (by omega)] at hi
        exact (hx i u hi).mono (hg.ext φ)
      · rw [if_neg hlt]
        rw [List.getElem?_append_right (by omega)] at hi
        have : i - xs.length = 0 := by
          rcases Nat.eq_zero_or_pos (i - xs.length) with h0 | h0
          · exact h0
          · rw [List.getElem?_eq_none (by simp; omega)] at hi; cases hi
        rw [this] at hi
        cases hi
        have e : i - n = 0 := by omega
        rw [e, dg_small _ hc.lt, if_pos rfl]
        exact hc) hk
    rw [List.append_assoc] at e2 c2
    refine ⟨v :: vs, n', d', s'', ?_, hg.trans g2, e2, b2, c2, k2⟩
    simp only [List.mapM_cons, Sem.run_bind, hr, h1, Result.andThen, Sem.run_pure]
theorem ok_results {fn:Func} {k:Nat→St→R} (hw:WR P C φ s w) (he:ER N φ s.side s.sn s.env a) (h:Ok T (ress fn.results.toList 0 0 P s fun n d s=>resOne n d s fun c s=>k c s)) :
  ∃ v,(results fn a.tmps).run P w=.ok v w∧Cd φ s T k v:=by
 obtain ⟨vs,n,d,s1,h1,hg,hn,hd,hc,hk⟩:=ok_ress (a:=a) fn.results.toList [] s 0 0 hw he rfl (by decide) (fun i u hi=>by simp at hi) h
 simp only [List.nil_append] at hn hc
 have hm:(fn.results.mapM (resSem a.tmps)).run P w=.ok vs.toArray w:=by
  rw [Array.mapM_eq_mapM_toList]
  simp only [map_eq_pure_bind,Sem.run_bind,h1,Result.andThen,Sem.run_pure]
 have hres:∀ v,(if h:vs.toArray.size=1 then vs.toArray[0] else Value.tuple vs.toArray)=v→(results fn a.tmps).run P w=.ok v w:=by
  intro v hv
  unfold results
  show (do let vs ← fn.results.mapM (resSem a.tmps); pure (if h:vs.size=1 then vs[0] else .tuple vs):Sem Value).run P w=_
  simp only [Sem.run_bind,hm,Result.andThen,Sem.run_pure,hv]
 have hk:Ok T (Bool.rec (motive:=fun _=>R) (sideK (.tu n d) s1 k) (k d s1) (Nat.beq n 1)):=hk
 have hs1:=hg.ok hw.sok
 cases hb:Nat.beq n 1 with
 | true =>
  rw [hb] at hk
  have hn1:n=1:=beq_eq hb
  have hl1:vs.length=1:=by rw [← hn]; exact hn1
  obtain ⟨v,hv⟩:∃ v,vs=[v]:=by
   cases vs with
   | nil=>cases hl1
   | cons v l =>
    cases l with
    | nil=>exact ⟨v,rfl⟩
    | cons u l=>simp at hl1
  have this:=hc 0 v (by rw [hv]; rfl)
  have hd1:d<2 ^ 128:=by rw [hn1] at hd; simpa using hd
  rw [dg_small _ hd1,if_pos rfl] at this
  exact ⟨v,hres v (by rw [hv]; simp),d,s1,hg,hs1,this,hk⟩
 | false =>
  rw [hb] at hk
  have hn1:vs.length≠1:=fun e=>by rw [hn,e] at hb; cases hb
  obtain ⟨c,s2,hg2,hs2,hc2,hk2⟩:=cv_side (φ:=φ) (v:=.tuple vs.toArray) hs1 hk fun s2 hg2 hn2 hb2 hx2=>.tu _ n d vs.toArray hn2 hb2 hx2 (by simp [hn]) (fun i u hi _=>(hc i u (by simpa using hi)).mono (hg2.ext φ))
  exact ⟨_,hres (.tuple vs.toArray) (by simp [hn1]),c,s2,hg.trans hg2,hs2,hc2,hk2⟩
theorem mark_spec {m:Nat} (h:markT (s.heap.get m)=true):s.heap.get m=some .mark:=by
 cases ho:s.heap.get m with
 | none=>rw [ho] at h; cases h
 | some o =>
  rw [ho] at h
  cases o <;> first | rfl | cases h
theorem ok_marks {fn:Func} {tmps:Array Value} {k:St→R} {Rq:Ending→World→Prop}:∀ (ids:List Nat) (defs:List Deferred) (s:St) (w:World),DR φ ids defs→WR P C φ s w→Ok T (marks ids s k) →
  (∀ s' w',WR P C φ s' w'→s'.env=s.env→s'.side=s.side→s'.sn=s.sn→Ok T (k s')→∃ v,(results fn tmps).run P w'=.ok v w'∧Rq (.returned v) w')→LeavesInM Fence.wide 0 P fn tmps Rq defs .returning w
 | [],[],s,w,_,hw,h,hk=>hk s w hw rfl rfl rfl h
 | m::ids,d::defs,s,w,⟨⟨q,hq,hm,hd⟩,hD⟩,hw,h,hk=>by
  obtain ⟨h1,h⟩:=ok_bool h
  have hmk:=mark_spec h1
  obtain ⟨_,q',hq',_,ho⟩:=hw.row m _ hmk
  rw [hq] at hq'; cases hq'
  have ho:w.heap[q.b]? = some (.deferred (some [])):=ho
  obtain ⟨hlim,h⟩:=ok_setH h
  have hlt:q.b<w.heap.size:=(Array.getElem?_eq_some_iff.1 ho).1
  have hw2:WR P C φ ⟨s.env,s.ds,s.heap.put m none,s.next,s.side,s.sn,s.lim⟩ (w.putObj q.b (.deferred none)):=WR.putRec hw hmk hq hm hlim hlt (fun o ho=>by cases ho)
  subst hd
  exact ⟨by simp,.inl ⟨q.b,_,rfl,run_takeDeferred ho,ok_marks ids defs _ _ hD hw2 h (fun s' w' a b c d e=>hk s' w' a b c d e)⟩⟩
 | [],_::_,_,_,hD,_,_,_=>hD.elim
 | _::_,[],_,_,hD,_,_,_=>hD.elim
theorem dg_ge {c n j:Nat} (h:c<2 ^ (n * 128)) (hj:n≤j):dg c j=0:=by
 rw [dg_eq,Nat.div_eq_of_lt (Nat.lt_of_lt_of_le h (Nat.pow_le_pow_right (by decide) (by omega))),Nat.zero_mod]
theorem er_enter {sd : Ex.T AV} {sn n₁ c₁ n₂ c₂ n₃ c₃ m : Nat} {xs aS0 ys : Array Value} (h1 : xs.size = n₁) (h2 : aS0.size = n₂) (h3 : ys.size = n₃) (b1 : c₁ < 2 ^ (n₁ * 128)) (b2 : c₂ < 2 ^ (n₂ * 128)) (b3 : c₃ < 2 ^ (n₃ * 128))
    (hx : ∀ (i : Nat) (u : Value), xs[i]? = some u → CV φ sd sn (dg c₁ i) u) (ha : ∀ (i : Nat) (u : Value), aS0[i]? = some u → CV φ sd sn (dg c₂ i) u) (hy : ∀ (i : Nat) (u : Value), ys[i]? = some u → CV φ sd sn (dg c₃ i) u) (hle : n₁ + (n₂ + n₃) ≤ m) :
    ER m φ sd sn (Nat.shiftLeft (Nat.add c₁ (Nat.shiftLeft (Nat.add c₂ (Nat.shiftLeft c₃ (Nat.mul n₂ 128))) (Nat.mul n₁ 128))) 128) { tmps := (xs ++ aS0 ++ ys) ++ Array.replicate (m - (xs ++ aS0 ++ ys).size) undef, defers := [] } := by
  have hsz : (xs ++ aS0 ++ ys).size = n₁ + n₂ + n₃ := by simp [h1, h2, h3]; omega
  refine ⟨by simp [h1, h2, h3]; omega, fun t ht => ?_⟩
  rw [dg_up, dg_cat _ _ _ _ b1] at ht ⊢
  have key : ∀ v, (xs ++ aS0 ++ ys)[t]? = some v → ((xs ++ aS0 ++ ys) ++ Array.replicate (m - (xs ++ aS0 ++ ys).size) undef)[t]? = some v := fun v hv => by
    have := (Array.getElem?_eq_some_iff.1 hv).1
    rw [Array.getElem?_append_left this]; exact hv
  by_cases t1 : t < n₁
  · rw [if_pos t1] at ht ⊢
    have hlt : t < xs.size := by omega
    refine ⟨xs[t], key _ ?_, hx t _ (by simp [hlt])⟩
    rw [Array.getElem?_append_left (by simp; omega), Array.getElem?_append_left hlt]
    simp [hlt]
  · rw [if_neg t1, dg_cat _ _ _ _ b2] at ht ⊢
    by_cases t2 : t - n₁ < n₂
    · rw [if_pos t2] at ht ⊢
      have hlt : t - n₁ < aS0.size := by omega
      refine ⟨aS0[t - n₁], key _ ?_, ha _ _ (by simp [hlt])⟩
      rw [Array.getElem?_append_left (by simp; omega), Array.getElem?_append_right (by omega), h1]
      simp [hlt]
    · rw [if_neg t2] at ht ⊢
      by_cases t3 : t - n₁ - n₂ < n₃
      · have hlt : t - n₁ - n₂ < ys.size := by omega
        refine ⟨ys[t - n₁ - n₂], key _ ?_, hy _ _ (by simp [hlt])⟩
        rw [Array.getElem?_append_right (by simp; omega)]
        have e : t - (xs ++ aS0).size = t - n₁ - n₂ := by simp [h1, h2]; omega
        rw [e]
        simp [hlt]
      · rw [dg_ge b3 (by omega)] at ht
        exact absurd rfl ht
def Named (P:Program):Prop:=∀ (g:Nat) (fn:Func),P.funcs[g]? = some fn→(fn.name == "runtime.NumGoroutine")=false
theorem ok_fnB {g env0:Nat} {fn:Func} {cd:Code} {args:Array Value} (hf:P.funcs[g]? = some fn) (hb:fn.body=some cd)
  (hbody:cd.wpIn (Fr none) 0 P (PostC P C fn.ntmps φ ⟨env0,[],s.heap,s.next,s.side,s.sn,s.lim⟩ T (leave P fn s.env s.ds k)) { tmps:=args++Array.replicate (fn.ntmps - args.size) undef,defers:=[] } w):CallsIn Fence.wide 0 P g args w (RetQ P C φ s T k):=by
 refine callsIn_of_wp_marks hf hb trivial ?_
 refine Go.wpIn_mono hbody fun e a' w' hq=>?_
 obtain ⟨en,hen,φ',s',he',hS',hk⟩:=hq
 have leaves:Ok T (marks s'.ds s' fun s1=>ress fn.results.toList 0 0 P s1 fun n d s1=>resOne n d s1 fun c s1=>k c (back s.env s.ds s1))→LeavesInM Fence.wide 0 P fn a'.tmps (RetQ P C φ s T k) a'.defers .returning w':=fun hk=>by
  refine ok_marks s'.ds a'.defers s' w' hS'.dr hS'.wr hk fun s1 w1 hw1 e1 e2 e3 hk1=>?_
  obtain ⟨v,hr,c',s2,hg2,hs2,hc2,hk2⟩:=ok_results (a:=a') (k:=fun c s1=>k c (back s.env s.ds s1)) hw1 (by rw [e1,e2,e3]; exact hS'.er) hk1
  refine ⟨v,hr,v,c',φ',back s.env s.ds s2,rfl,?_,(hw1.sg hg2).env _ _,rfl,rfl,hc2,hk2⟩
  have:=hg2.ext φ'
  rw [e2,e3] at this
  exact he'.trans this
 have hk':∀ {x},x≤1→Ok T (leave P fn s.env s.ds k x s')→Ok T (marks s'.ds s' fun s1=>ress fn.results.toList 0 0 P s1 fun n d s1=>resOne n d s1 fun c s1=>k c (back s.env s.ds s1)):=fun _ hk=>(ok_bool hk).2
 have hbig:∀ {x},1<x→¬ Ok T (leave P fn s.env s.ds k x s'):=fun {x} hx hk=>by
  have:=ble_le (ok_bool hk).1
  omega
 cases e with
 | normal=>cases hen; exact leaves (hk' (by decide) hk)
 | ret=>cases hen; exact leaves (hk' (by decide) hk)
 | exit i=>cases hen; exact absurd hk (hbig (by omega))
 | goto i=>cases hen; exact absurd hk (hbig (by omega))
 | panic c=>cases hen
 | outgrown=>cases hen
theorem ok_fn {g n₁ c₁ n c n₃ c₃ : Nat} {xs aS0 ys : Array Value} (hP : Named P) (hm : P.follows .mixedOrders = true) (hcall : CallOK P call) (hw : WR P C φ s w) (h1 : xs.size = n₁) (h2 : aS0.size = n) (h3 : ys.size = n₃)
    (b1 : c₁ < 2 ^ (n₁ * 128)) (b2 : c < 2 ^ (n * 128)) (b3 : c₃ < 2 ^ (n₃ * 128)) (hx : ∀ (i : Nat) (u : Value), xs[i]? = some u → CV φ s.side s.sn (dg c₁ i) u) (ha : ∀ (i : Nat) (u : Value), aS0[i]? = some u → CV φ s.side s.sn (dg c i) u)
    (hy : ∀ (i : Nat) (u : Value), ys[i]? = some u → CV φ s.side s.sn (dg c₃ i) u) (h : Ok T (fnT (.func g) n₁ c₁ n c n₃ c₃ call P F s k)) : CallRes P C φ s w T k (.func (.func g) xs ys) aS0 := by
  obtain ⟨fn, hf, h⟩ := ok_opt h
  obtain ⟨cd, hb, h⟩ := ok_opt h
  obtain ⟨h4, h⟩ := ok_bool h
  obtain ⟨hok, hle⟩ := ok_and h4
  have hle : n₁ + (n + n₃) ≤ fn.ntmps := ble_le hle
  refine ⟨.enter g (xs ++ aS0 ++ ys), ?_, .inl ⟨g, _, rfl, ?_⟩⟩
  · have := ent hf (hP g fn hf) hb (xs ++ aS0 ++ ys) w
    simpa [Deferred.ofValue, invoke, Result.andThen] using this
  · refine ok_fnB (env0 := Nat.shiftLeft (Nat.add c₁ (Nat.shiftLeft (Nat.add c (Nat.shiftLeft c₃ (Nat.mul n 128))) (Nat.mul n₁ 128))) 128) hf hb ?_
    have hS : SR P C fn.ntmps φ ⟨Nat.shiftLeft (Nat.add c₁ (Nat.shiftLeft (Nat.add c (Nat.shiftLeft c₃ (Nat.mul n 128))) (Nat.mul n₁ 128))) 128, [], s.heap, s.next, s.side, s.sn, s.lim⟩
        { tmps := (xs ++ aS0 ++ ys) ++ Array.replicate (fn.ntmps - (xs ++ aS0 ++ ys).size) undef, defers := [] } w := ⟨hw.env _ _, er_enter h1 h2 h3 b1 b2 b3 hx ha hy hle, trivial⟩
    have h : Ok T (Bool.rec (motive := fun _ => R) (codeX cd call P F fn.ntmps ⟨Nat.shiftLeft (Nat.add c₁ (Nat.shiftLeft (Nat.add c (Nat.shiftLeft c₃ (Nat.mul n 128))) (Nat.mul n₁ 128))) 128, [], s.heap, s.next, s.side, s.sn, s.lim⟩ (leave P fn s.env s.ds k))
      (optR (codeX cd call P F fn.ntmps ⟨Nat.shiftLeft (Nat.add c₁ (Nat.shiftLeft (Nat.add c (Nat.shiftLeft c₃ (Nat.mul n 128))) (Nat.mul n₁ 128))) 128, [], s.heap, s.next, s.side, s.sn, s.next⟩ endO) (joined fn.ntmps s.lim ⟨Nat.shiftLeft (Nat.add c₁ (Nat.shiftLeft (Nat.add c (Nat.shiftLeft c₃ (Nat.mul n 128))) (Nat.mul n₁ 128))) 128, [], s.heap, s.next, s.side, s.sn, s.next⟩ (leave P fn s.env s.ds k))) (hasNext cd)) := h
    cases hn : hasNext cd with
    | false => rw [hn] at h; exact code_ok hm hcall F fn.ntmps none cd C φ _ _ w T _ hok (fun h => by cases h) hS h
    | true => rw [hn] at h; exact ok_joined (code_ok hm hcall F fn.ntmps none cd) hok hS h
end
end Go.Ex
namespace Go.Ex
open Go.Fip
section
variable {T : Out → Prop} {φ : Phi} {s : St} {N : Nat} {a : Act} {P : Program} {w : World} {C : Cx} {call : CallR} {r : Option Nat} {F : Nat} {k : Nat → St → R}
theorem er_args {sd:Ex.T AV} {sn c n:Nat} {aS0:List Value} (hn:aS0.length=n) (hc:∀ (i:Nat) (u:Value),aS0[i]? = some u→CV φ sd sn (dg c i) u):∀ (ps:List Nat) (i env:Nat) (tmps:Array Value),i+ps.length=n→(∀ p∈ps,p<N) →
  ER N φ sd sn env { tmps:=tmps,defers:=[] }→ER N φ sd sn (argsE ps env c n i) { tmps:=(ps.zip (aS0.drop i)).foldl (fun tmps (x:Nat×Value)=>tmps.setIfInBounds x.1 x.2) tmps,defers:=[] }
 | [],i,env,tmps,hi,hp,h=>h
 | p::ps,i,env,tmps,hi,hp,h=>by
  have hlt:i<aS0.length:=by rw [hn]; simp at hi; omega
  have hb:Nat.blt i n=true:=by rw [← hn]; simpa [Nat.blt_eq] using hlt
  have he:argsE (p::ps) env c n i=argsE ps (Ex.sd env (p+1) (dg c i)) c n (i+1):=by
   show Bool.rec (motive:=fun _=>Nat) env (argsE ps (Ex.sd env (Nat.succ p) (dg c i)) c n (Nat.succ i)) (Nat.blt i n)=_
   rw [hb]
  have hd:aS0.drop i=aS0[i]::aS0.drop (i+1):=List.drop_eq_getElem_cons hlt
  rw [he,hd,List.zip_cons_cons,List.foldl_cons]
  have hcv:=hc i aS0[i] (List.getElem?_eq_getElem hlt)
  have:=er_put (d:=p) (v:=aS0[i]) h (hp p (by simp)) (dg_lt c i) (fun _=>hcv)
  exact er_args hn hc ps (i+1) _ _ (by simp at hi ⊢; omega) (fun q hq=>hp q (by simp [hq])) this
theorem ready_spec {x:LoopState} (h:isReady x=true):x=.ready:=by
 cases x <;> first | rfl | cases h
theorem jump_none {e:Nat}:(jumpC e).isNone=Nat.beq e 0:=by
 match e with
 | 0=>rfl
 | 1=>rfl
 | e+2 =>
  show (if e % 2=0 then some (Code.exit (e / 2)) else some (Code.goto (e / 2))).isNone=_
  split <;> rfl
theorem jump_exN {ex:Exit} {en:Nat} (h:exN ex=some en):(ex=.normal∧en=0)∨(∃ c,jumpC en=some c∧en≠0∧((ex=.ret∧c=.ret)∨(∃ i,ex=.exit i∧c=.exit i)∨(∃ i,ex=.goto i∧c=.goto i))):=by
 cases ex with
 | normal=>cases h; exact .inl ⟨rfl,rfl⟩
 | ret=>cases h; exact .inr ⟨.ret,rfl,by decide,.inl ⟨rfl,rfl⟩⟩
 | exit i =>
  cases h
  refine .inr ⟨.exit i,?_,by omega,.inr (.inl ⟨i,rfl,rfl⟩)⟩
  have e:2+2 * i=2 * i+2:=by omega
  rw [e]
  show (if 2 * i % 2=0 then some (Code.exit (2 * i / 2)) else some (Code.goto (2 * i / 2)))=_
  rw [if_pos (by omega)]; congr 2; omega
 | goto i =>
  cases h
  refine .inr ⟨.goto i,?_,by omega,.inr (.inr ⟨i,rfl,rfl⟩)⟩
  have e:3+2 * i=(2 * i+1)+2:=by omega
  rw [e]
  show (if (2 * i+1) % 2=0 then some (Code.exit ((2 * i+1) / 2)) else some (Code.goto ((2 * i+1) / 2)))=_
  rw [if_neg (by omega)]; congr 2; omega
 | panic c=>cases h
 | outgrown=>cases h
theorem ok_yield {l n c : Nat} {aS0 : Array Value} {q : Pl} (hm : P.follows .mixedOrders = true) (hcall : CallOK P call) (hw : WR P C φ s w) (hq : φ l = some q) (hl : l < 16777216) (h2 : aS0.size = n)
    (ha : ∀ (i : Nat) (u : Value), aS0[i]? = some u → CV φ s.side s.sn (dg c i) u) (h : Ok T (yieldK call P F l n c s k)) : CallRes P C φ s w T k (.func (.yield q.b) #[] #[]) aS0 := by
  obtain ⟨x, hx, h⟩ := ok_opt h
  obtain ⟨hck, h⟩ := ok_bool h
  obtain ⟨hnl, hck⟩ := ok_and hck
  obtain ⟨hoa, hck⟩ := ok_and hck
  obtain ⟨hob, hck⟩ := ok_and hck
  obtain ⟨hna, hck⟩ := ok_and hck
  obtain ⟨hnb, hck⟩ := ok_and hck
  obtain ⟨hps, hrd⟩ := ok_and hck
  have hnl : n = x.2.2.1.length := beq_eq hnl
  obtain ⟨hrow, rc, hb, hst, hpd, hpr, has, hbd, her, hmk⟩ := loop_at hw hq hx
  have hrd := ready_spec hrd
  have hsz : aS0.size = rc.params.size := by rw [h2, hnl, ← hpr]; simp
  have hrun := run_yield (P := P) (args := aS0) hb hsz
  refine ⟨.round q.b rc.fn ((rc.params.zip aS0).foldl (fun tmps (x : Nat × Value) => tmps.setIfInBounds x.1 x.2) rc.tmps) rc.assign rc.body, ?_, .inr ⟨q.b, rc.fn, _, rc.assign, rc.body, rfl, ⟨_, rfl⟩, roundIn_of_wpIn trivial ?_⟩⟩
  · simpa [Deferred.ofValue, invoke, Result.andThen] using hrun
  · have hfold : (rc.params.zip aS0).foldl (fun tmps (x : Nat × Value) => tmps.setIfInBounds x.1 x.2) rc.tmps = (x.2.2.1.zip (aS0.toList.drop 0)).foldl (fun tmps (x : Nat × Value) => tmps.setIfInBounds x.1 x.2) rc.tmps := by
      rw [← Array.foldl_toList, Array.toList_zip, hpr, List.drop_zero]
    have hS : SR P C x.1 φ ⟨argsE x.2.2.1 x.2.1 c n 0, [], s.heap, s.next, s.side, s.sn, s.lim⟩ { tmps := (rc.params.zip aS0).foldl (fun tmps (x : Nat × Value) => tmps.setIfInBounds x.1 x.2) rc.tmps, defers := [] } w := by
      refine ⟨hw.env _ _, ?_, trivial⟩
      rw [hfold]
      exact er_args (by simpa using h2) (fun i u hi => ha i u (by simpa using hi)) x.2.2.1 0 x.2.1 rc.tmps (by omega) (fun p hp => by
        have := List.all_eq_true.1 hps p hp
        exact blt_lt this) her
    have h : Ok T (codeX x.2.2.2.1 call P F x.1 ⟨argsE x.2.2.1 x.2.1 c n 0, [], s.heap, s.next, s.side, s.sn, s.lim⟩ fun e s1 =>
      Nat.rec (motive := fun _ => R) (optR (loopT (s1.heap.get l)) fun y => Bool.rec (motive := fun _ => R) bad (setH s1 l (some (.loop y.1 y.2.1 y.2.2.1 y.2.2.2.1 y.2.2.2.2.1 .busy y.2.2.2.2.2.2)) fun s1 =>
        codeX x.2.2.2.2.1 call P F x.1 s1 (roundE l s k)) (isReady y.2.2.2.2.2.1)) (fun _ _ => bad) e) := h
    have hca := code_ok hm hcall F x.1 (some q.b) x.2.2.2.1 C φ _ _ w T _ hoa (fun _ => hna) hS h
    rw [← has] at hca
    refine Go.wpIn_mono hca fun e a1 w1 hq1 => ?_
    obtain ⟨en, hen, φ1, s1, he1, hS1, hk1⟩ := hq1
    have only0 : en ≠ 0 → False := fun hne => by
      cases en with
      | zero => exact hne rfl
      | succ m => exact ok_bad hk1
    cases e with
    | normal =>
      cases hen
      have hk1 : Ok T (optR (loopT (s1.heap.get l)) fun y => Bool.rec (motive := fun _ => R) bad (setH s1 l (some (.loop y.1 y.2.1 y.2.2.1 y.2.2.2.1 y.2.2.2.2.1 .busy y.2.2.2.2.2.2)) fun s1 =>
        codeX x.2.2.2.2.1 call P F x.1 s1 (roundE l s k)) (isReady y.2.2.2.2.2.1)) := hk1
      obtain ⟨y, hy, hk1⟩ := ok_opt hk1
      obtain ⟨hyr, hk1⟩ := ok_bool hk1
      have hyr := ready_spec hyr
      have hq1' := he1.rows _ _ hq
      obtain ⟨hrow1, rc1, hb1, hst1, hpd1, hpr1, has1, hbd1, her1, hmk1⟩ := loop_at hS1.wr hq1' hy
      obtain ⟨hlim1, hk1⟩ := ok_setH hk1
      have hlt1 : q.b < w1.heap.size := (Array.getElem?_eq_some_iff.1 hb1).1
      have hbr := run_beginRound (P := P) hb1 (by rw [hst1]; exact hyr)
      refine ⟨_, hbr, ?_⟩
      have hw2 : WR P C φ1 ⟨s1.env, s1.ds, s1.heap.put l (some (.loop y.1 y.2.1 y.2.2.1 y.2.2.2.1 y.2.2.2.2.1 .busy y.2.2.2.2.2.2)), s1.next, s1.side, s1.sn, s1.lim⟩ (w1.putObj q.b (.loop { rc1 with state := .busy })) :=
        WR.putRec hS1.wr hrow1 hq1' hl hlim1 hlt1 (fun o ho => by
          cases ho
          exact ⟨_, World.putObj_heap_same hlt1, rfl, hpd1, hpr1, has1, hbd1, her1, hmk1⟩)
      have hS2 : SR P C x.1 φ1 ⟨s1.env, s1.ds, s1.heap.put l (some (.loop y.1 y.2.1 y.2.2.1 y.2.2.2.1 y.2.2.2.2.1 .busy y.2.2.2.2.2.2)), s1.next, s1.side, s1.sn, s1.lim⟩ a1 (w1.putObj q.b (.loop { rc1 with state := .busy })) := ⟨hw2, hS1.er, hS1.dr⟩
      have hcb := code_ok hm hcall F x.1 (some q.b) x.2.2.2.2.1 C φ1 _ _ _ T _ hob (fun _ => hnb) hS2 hk1
      rw [← hbd] at hcb
      refine Go.wpIn_mono hcb fun e2 a2 w2 hq2 => ?_
      obtain ⟨en2, hen2, φ3, s3, he3, hS3, hk3⟩ := hq2
      obtain ⟨z, hz, hk3⟩ := ok_opt (k := fun (x : Nat × Nat × List Nat × Code × Code × LoopState × Option Code) => setH s3 l (some (.loop x.1 x.2.1 x.2.2.1 x.2.2.2.1 x.2.2.2.2.1 (Nat.rec .ready (fun _ _ => .done) en2) (jumpC en2))) fun s2 => k (Nat.rec 18 (fun _ _ => 2) en2) (back s.env s.ds s2)) hk3
      have hq3 := he3.rows _ _ hq1'
      obtain ⟨hrow3, rc3, hb3, hst3, hpd3, hpr3, has3, hbd3, her3, hmk3⟩ := loop_at hS3.wr hq3 hz
      obtain ⟨hlim3, hk3⟩ := ok_setH hk3
      have hlt3 : q.b < w2.heap.size := (Array.getElem?_eq_some_iff.1 hb3).1
      have fin : ∀ jump, jump = jumpC en2 → ∃ v w', (Instr.endRound q.b jump).run P w2 = .ok v w' ∧ RetQ P C φ s T k (.returned v) w' := by
        rintro jump rfl
        refine ⟨_, _, run_endRound (P := P) (jumpC en2) hb3, ?_⟩
        have hw4 : WR P C φ3 ⟨s3.env, s3.ds, s3.heap.put l (some (.loop z.1 z.2.1 z.2.2.1 z.2.2.2.1 z.2.2.2.2.1 (Nat.rec .ready (fun _ _ => .done) en2) (jumpC en2))), s3.next, s3.side, s3.sn, s3.lim⟩ (w2.putObj q.b (.loop { rc3 with state := if (jumpC en2).isNone then .ready else .done, pending := jumpC en2 })) :=
          WR.putRec hS3.wr hrow3 hq3 hl hlim3 hlt3 (fun o ho => by
            cases ho
            refine ⟨_, World.putObj_heap_same hlt3, ?_, rfl, hpr3, has3, hbd3, her3, hmk3⟩
            show (if (jumpC en2).isNone = true then LoopState.ready else .done) = _
            rw [jump_none]
            cases en2 with
            | zero => rfl
            | succ m => rfl)
        refine ⟨_, _, φ3, _, rfl, ?_, ?_, ?_, ?_, ?_, hk3⟩
        · exact he1.trans he3
        · exact hw4.env s.env s.ds
        · rfl
        · rfl
        rw [jump_none]
        cases en2 with
        | zero => exact .boo 1 (by decide)
        | succ m => exact .boo 0 (by decide)
      rcases jump_exN hen2 with ⟨rfl, rfl⟩ | ⟨cc, hcc, hne, ⟨rfl, rfl⟩ | ⟨i, rfl, rfl⟩ | ⟨i, rfl, rfl⟩⟩
      · exact fin none rfl
      · exact fin _ hcc.symm
      · exact fin _ hcc.symm
      · exact fin _ hcc.symm
    | ret => cases hen; exact only0 (by decide)
    | exit i => cases hen; exact only0 (by omega)
    | goto i => cases hen; exact only0 (by omega)
    | panic c => cases hen
    | outgrown => cases hen
theorem call_ok (hP:Named P) (hm:P.follows .mixedOrders=true) (F:Nat):∀ D,CallOK P (callX P F D)
 | 0=>fun C φ s w T k av v n c aS0 hw hav hn hc has h=>(ok_bad h).elim
 | D+1=>fun C φ s w T k av v n c aS0 hw hav hn hc has h=>by
  have ih:=call_ok hP hm F D
  have h:Ok T (callT av n c (callX P F D) P F s k):=h
  cases av with
  | fn f n₁ c₁ n₃ c₃ =>
   obtain ⟨xs,ys,rfl,h1,h3,b1,b3,hx,hy⟩:=hav
   cases f with
   | func g=>exact ok_fn hP hm ih hw h1 hn h3 b1 hc b3 hx has hy h
   | _=>exact (ok_bad h).elim
  | yd l =>
   obtain ⟨q,hq,hl,rfl⟩:=hav
   exact ok_yield hm ih hw hq hl hn has h
  | _=>exact (ok_bad h).elim
end
end Go.Ex
namespace Go.Ex
open Go.Fip
open Go.RowKit
noncomputable def st0:St:=⟨0,[],full 25,0,full 25,0,0⟩
noncomputable def isT (c:Nat) (_:St):R:=Bool.rec bad (some []) (Nat.beq c 18)
noncomputable def doneR (r:R):Bool:=Option.rec (motive:=fun _=>Bool) false (fun _=>true) r
noncomputable def runB (P:Program) (F D g:Nat):Bool:=doneR (callX P F D (.fn (.func g) 0 0 0 0) 0 0 st0 isT)
section
variable {P : Program} {w : World}
theorem wr0 (P:Program) (w:World):WR P ⟨(· < w.heap.size),w,0,full 25,0,full 25,fun _=>none⟩ (fun _=>none) st0 w where
 full:=full_full 25
 sok:=⟨full_full 25,fun i _=>get_full 25 i⟩
 row:=fun r o h=>by have h:(full 25:T AO).get r=some o:=h; rw [get_full] at h; cases h
 inj:=fun r r' o o' q q' h=>by have h:(full 25:T AO).get r=some o:=h; rw [get_full] at h; cases h
 new:=fun _ _=>rfl
 rng:=fun r q h=>by cases h
 lim:=rfl
 limn:=Nat.le_refl _
 low:=fun r h=>absurd h (Nat.not_lt_zero _)
 sn:=Nat.le_refl _
 sdl:=fun i h=>absurd h (Nat.not_lt_zero _)
 os:=rfl
 tape:=rfl
 output:=rfl
 size:=Nat.le_refl _
 frame:=fun b hb=>⟨hb,rfl⟩
 gid:=fun r i k h=>by have h:(full 25:T AO).get r=some (.gh i k):=h; rw [get_full] at h; cases h
 ghl:=fun i D h=>by cases h
theorem run_fn {F D g:Nat} {fn:Func} {cd:Code} (hP:Named P) (hm:P.follows .mixedOrders=true) (hf:P.funcs[g]? = some fn) (hb:fn.body=some cd) (h:runB P F D g=true) (w:World):Go.Fip.Fn P g #[] w (fun v _=>v=.bool true):=by
 have hOk:Ok (fun _=>True) (callX P F D (.fn (.func g) 0 0 0 0) 0 0 st0 isT):=by
  unfold runB at h
  cases hr:callX P F D (.fn (.func g) 0 0 0 0) 0 0 st0 isT with
  | none=>rw [hr] at h; have h:false=true:=h; cases h
  | some l=>exact ⟨l,rfl,fun _ _=>trivial⟩
 have no:∀ {Q:Nat→Value→Prop} (i:Nat) (u:Value),(#[]:Array Value)[i]? = some u→Q i u:=fun i u hi=>by simp at hi
 refine ⟨fun w'=>ent hf (hP g fn hf) hb #[] w',?_⟩
 obtain ⟨nx,hrun,hres⟩:=call_ok hP hm F D ⟨(· < w.heap.size),w,0,full 25,0,full 25,fun _=>none⟩ (fun _=>none) st0 w (fun _=>True) isT (.fn (.func g) 0 0 0 0) (.func (.func g) #[] #[]) 0 0 #[] (wr0 P w)
  ⟨#[], #[],rfl,rfl,rfl,by decide,by decide,fun i u hi=>no (Q:=fun _ _=>_) i u hi,fun i u hi=>no (Q:=fun _ _=>_) i u hi⟩ rfl (by decide) (fun i u hi=>no (Q:=fun _ _=>_) i u hi) hOk
 have hent:=ent hf (hP g fn hf) hb #[] w
 have hnx:nx=.enter g #[]:=by
  have h1:(do let d ← Deferred.ofValue (.func (.func g) #[] #[]) #[]; invoke d.target d.args:Sem Next).run P w=.ok (.enter g #[]) w:=by
   simpa [Deferred.ofValue,invoke,Result.andThen] using hent
  rw [h1] at hrun
  cases hrun; rfl
 have fin:∀ (e:Ending) (w':World),RetQ P ⟨(· < w.heap.size),w,0,full 25,0,full 25,fun _=>none⟩ (fun _=>none) st0 (fun _=>True) isT e w'→∃ v,e=.returned v∧Below w.heap.size w w'∧∀ w'',Agree w.heap.size w'.heap.size w' w''→v=.bool true:=fun e w' hq=>by
  obtain ⟨v,c,φ',s',rfl,_,hw',_,_,hc,hk⟩:=hq
  refine ⟨v,rfl,⟨hw'.os,hw'.tape,hw'.output,hw'.size,fun b hb=>(hw'.frame b hb).2⟩,fun _ _=>?_⟩
  obtain ⟨h1,_⟩:=ok_bool (b:=Nat.beq c 18) (r:=some []) hk
  have e:c=18:=beq_eq h1
  have ht:c % 16=1∨c % 16=2:=.inr (by rw [e])
  have:=(cv_plain hc ht).2
  rw [this,e,pv_bool (by decide)]
  rfl
 rcases hres with ⟨f,args,e,hc⟩ | ⟨l,f,tmps,assign,body,e,_⟩
 ·rw [hnx] at e
  cases e
  exact CallsIn.mono hc fin
 ·rw [hnx] at e; cases e
end
end Go.Ex
namespace Go.Ex
open Go.Fip
open Go.RowKit
noncomputable def preX (call:CallR) (P:Program) (F N:Nat):Nat→Code→St→(St→R)→R
 | 0,_,s,k=>k s
 | n+1,.seq a b,s,k=>codeX a call P F N s fun e s=>seqT e (fun s=>preX call P F N n b s k) (fun _ _=>bad) s
 | _,_,_,_=>bad
def restN:Nat→Code→Code
 | n+1,.seq _ b=>restN n b
 | _,c=>c
noncomputable def putAll {α:Type}:List (Nat×α)→T α
 | []=>full 25
 | x::l=>(putAll l).put x.1 (some x.2)
noncomputable def eqO (x:Option AO) (y:AO):Bool :=
 match x,y with
 | some (.row E n c),.row E' n' c'=>Bool.and (Nat.beq E E') (Bool.and (Nat.beq n n') (Nat.beq c c'))
 | some (.map es q),.map es' q'=>Bool.and (Nat.beq q q') (eqE es es')
 | _,_=>false
noncomputable def eqV (x y:Value):Bool :=
 match x,y with
 | .slice none n m,.slice none n' m'=>Bool.and (Nat.beq n n') (Nat.beq m m')
 | .map none,.map none=>true
 | .pointer none,.pointer none=>true
 | .nilIface,.nilIface=>true
 | .string b,.string b'=>decide (b=b')
 | _,_=>false
noncomputable def eqA (x:Option AV) (y:AV):Bool :=
 match x,y with
 | some (.ag n c),.ag n' c'=>Bool.and (Nat.beq n n') (Nat.beq c c')
 | some (.tu n c),.tu n' c'=>Bool.and (Nat.beq n n') (Nat.beq c c')
 | some (.x v),.x v'=>eqV v v'
 | some (.fn (.func g) n c m d),.fn (.func g') n' c' m' d'=>Bool.and (Nat.beq g g') (Bool.and (Bool.and (Nat.beq n n') (Nat.beq c c')) (Bool.and (Nat.beq m m') (Nat.beq d d')))
 | _,_=>false
noncomputable def leE (e e':Nat):Nat→Bool
 | 0=>true
 | n+1=>Bool.and (leE e e' n) (Bool.or (Nat.beq (dg e n) 0) (Nat.beq (dg e n) (dg e' n)))
section
variable {T : Out → Prop} {φ : Phi} {s : St} {N : Nat} {a : Act} {P : Program} {w : World} {C : Cx} {call : CallR}
theorem putAll_spec {α:Type}:∀ (l:List (Nat×α)),(∀ x∈l,x.1<16777216)→Full 25 (putAll l)∧∀ r o,(putAll l).get r=some o→(r,o)∈l
 | [],_=>⟨full_full 25,fun r o h=>by have h:(full 25:Ex.T α).get r=some o:=h; rw [get_full] at h; cases h⟩
 | x::l,hl=>by
  obtain ⟨h1,h2⟩:=putAll_spec l fun y hy=>hl y (by simp [hy])
  refine ⟨h1.put _ _,fun r o h=>?_⟩
  have h:((putAll l).put x.1 (some x.2)).get r=some o:=h
  rw [h1.get_put' (hl x (by simp))] at h
  by_cases e:r=x.1
  ·rw [if_pos e] at h; cases h; rw [e]; simp
  ·rw [if_neg e] at h; exact List.mem_cons_of_mem _ (h2 r o h)
theorem eqV_eq {x y:Value} (h:eqV x y=true):x=y:=by
 unfold eqV at h
 split at h
 ·obtain ⟨h1,h2⟩:=and_t h; rw [beq_eq h1,beq_eq h2]
 ·rfl
 ·rfl
 ·rfl
 ·rw [of_decide_eq_true h]
 ·cases h
theorem eqA_eq {x:Option AV} {y:AV} (h:eqA x y=true):x=some y:=by
 unfold eqA at h
 split at h
 ·obtain ⟨h1,h2⟩:=and_t h; rw [beq_eq h1,beq_eq h2]
 ·obtain ⟨h1,h2⟩:=and_t h; rw [beq_eq h1,beq_eq h2]
 ·rw [eqV_eq h]
 ·obtain ⟨h1,h2⟩:=and_t h
  obtain ⟨h3,h4⟩:=and_t h2
  obtain ⟨h5,h6⟩:=and_t h3
  obtain ⟨h7,h8⟩:=and_t h4
  rw [beq_eq h1,beq_eq h5,beq_eq h6,beq_eq h7,beq_eq h8]
 ·cases h
theorem leE_spec {e e':Nat}:∀ {n:Nat},leE e e' n=true→∀ j,j<n→dg e j=0∨dg e j=dg e' j
 | 0,_,j,hj=>absurd hj (Nat.not_lt_zero _)
 | n+1,h,j,hj=>by
  obtain ⟨h1,h2⟩:=and_t (show Bool.and (leE e e' n) (Bool.or (Nat.beq (dg e n) 0) (Nat.beq (dg e n) (dg e' n)))=true from h)
  by_cases e1:j=n
  ·subst e1
   cases h3:Nat.beq (dg e j) 0 with
   | true=>exact .inl (beq_eq h3)
   | false=>rw [h3] at h2; exact .inr (beq_eq h2)
  ·exact leE_spec h1 j (by omega)
end
end Go.Ex
namespace Go.Ex
open Go.Fip
open Go.RowKit
theorem okC_seq {N:Nat} {x y:Code} (hok:okC N (.seq x y)=true):okC N x=true∧okC N y=true:=by
 have hok:Bool.rec (motive:=fun _=>Bool) false (okC N y) (okC N x)=true:=hok
 cases hx:okC N x with
 | false=>rw [hx] at hok; cases hok
 | true=>rw [hx] at hok; exact ⟨rfl,hok⟩
section
variable {T : Out → Prop} {N F D : Nat} {P : Program} {C : Cx} {call : CallR}
theorem ok_pre {Q:Exit→Act→World→Prop} (hc:∀ c,CodeOK P call F N none c):∀ (n:Nat) (c:Code) (φ:Phi) (s:St) (a:Act) (w:World) (k:St→R),okC N c=true→SR P C N φ s a w→Ok T (preX call P F N n c s k) →
  (∀ φ' s' a' w',SR P C N φ' s' a' w'→Ok T (k s')→(restN n c).wpIn (Fr none) 0 P Q a' w')→c.wpIn (Fr none) 0 P Q a w
 | 0,c,φ,s,a,w,k,_,hS,h,hK=>hK φ s a w hS h
 | n+1,.seq x y,φ,s,a,w,k,hok,hS,h,hK=>by
  obtain ⟨hx,hy⟩:=okC_seq hok
  have h:Ok T (codeX x call P F N s fun e s=>seqT e (fun s=>preX call P F N n y s k) (fun _ _=>bad) s):=h
  refine wpIn_seq (Go.wpIn_mono (hc x C φ s a w T _ hx (fun h=>nomatch h) hS h) fun e a' w' hq=>?_)
  obtain ⟨en,hen,φ',s',he',hS',hk⟩:=hq
  cases e with
  | normal =>
   cases hen
   exact ok_pre hc n y φ' s' a' w' k hy hS' hk hK
  | ret=>cases hen; exact (ok_bad hk).elim
  | exit i =>
   cases hen
   have e2:2+2 * i=(1+2 * i)+1:=by omega
   rw [e2] at hk
   exact (ok_bad hk).elim
  | goto i =>
   cases hen
   have e2:3+2 * i=(2+2 * i)+1:=by omega
   rw [e2] at hk
   exact (ok_bad hk).elim
  | panic c=>cases hen
  | outgrown=>cases hen
 | _+1,.skip,_,_,_,_,_,_,_,h,_=>(ok_bad h).elim
 | _+1,.region _ _ _,_,_,_,_,_,_,_,h,_=>(ok_bad h).elim
 | _+1,.cond _ _ _,_,_,_,_,_,_,_,h,_=>(ok_bad h).elim
 | _+1,.block _ _,_,_,_,_,_,_,_,h,_=>(ok_bad h).elim
 | _+1,.loop _,_,_,_,_,_,_,_,h,_=>(ok_bad h).elim
 | _+1,.rangeFunc _ _ _ _,_,_,_,_,_,_,_,h,_=>(ok_bad h).elim
 | _+1,.exit _,_,_,_,_,_,_,_,h,_=>(ok_bad h).elim
 | _+1,.scope _,_,_,_,_,_,_,_,h,_=>(ok_bad h).elim
 | _+1,.label _,_,_,_,_,_,_,_,h,_=>(ok_bad h).elim
 | _+1,.goto _,_,_,_,_,_,_,_,h,_=>(ok_bad h).elim
 | _+1,.ret,_,_,_,_,_,_,_,h,_=>(ok_bad h).elim
 | _+1,.refuse _,_,_,_,_,_,_,_,h,_=>(ok_bad h).elim
end
noncomputable def cx0 (w:World):Cx:=⟨(· < w.heap.size),w,0,full 25,0,full 25,fun _=>none⟩
def Good (P:Program) (fn:Func) (c:Code) (s:St):Prop :=
 ∀ (w0:World) (φ:Phi) (a:Act) (w:World),SR P (cx0 w0) fn.ntmps φ s a w→c.wpIn (Fr none) 0 P (PostC P (cx0 w0) fn.ntmps (fun _=>none) st0 (fun _=>True) (leave P fn 0 [] isT)) a w
section
variable {F D : Nat} {P : Program} {fn : Func} {c : Code} {s : St}
theorem ext0 {φ':Phi} {sd:Ex.T AV} {sn:Nat}:Ext (fun _=>none) st0.side st0.sn φ' sd sn:=⟨fun r q h=>(by cases h),Nat.zero_le _,fun i h=>absurd h (Nat.not_lt_zero _)⟩
theorem Good.whole {g:Nat} (hP:Named P) (hf:P.funcs[g]? = some fn) (hb:fn.body=some c) (h:Good P fn c st0) (w:World):Go.Fip.Fn P g #[] w (fun v _=>v=.bool true):=by
 refine ⟨fun w'=>ent hf (hP g fn hf) hb #[] w',?_⟩
 have hS:SR P (cx0 w) fn.ntmps (fun _=>none) st0 { tmps := #[]++Array.replicate (fn.ntmps - (#[]:Array Value).size) undef,defers:=[] } w :=
  ⟨wr0 P w,⟨by simp,fun t ht=>absurd (dg_zero _) ht⟩,trivial⟩
 have:=ok_fnB (P:=P) (C:=cx0 w) (φ:=fun _=>none) (s:=st0) (w:=w) (T:=fun _=>True) (k:=isT) (g:=g) (env0:=0) (args := #[]) hf hb (h w _ _ w hS)
 refine CallsIn.mono this fun e w' hq=>?_
 obtain ⟨v,c,φ',s',rfl,_,hw',_,_,hc,hk⟩:=hq
 refine ⟨v,rfl,⟨hw'.os,hw'.tape,hw'.output,hw'.size,fun b hb=>(hw'.frame b hb).2⟩,fun _ _=>?_⟩
 obtain ⟨h1,_⟩:=ok_bool (b:=Nat.beq c 18) (r:=some []) hk
 have e:c=18:=beq_eq h1
 have ht:c % 16=1∨c % 16=2:=.inr (by rw [e])
 have:=(cv_plain hc ht).2
 rw [this,e,pv_bool (by decide)]
 rfl
end
end Go.Ex
namespace Go.Ex
open Go.Fip
structure Mem where
 ds:List Nat
 heap:T AO
 next:Nat
 side:T AV
 sn:Nat
 lim:Nat
abbrev K1:=Nat→Mem→R
abbrev K2:=Nat→Nat→Mem→R
noncomputable def stOf (e:Nat) (m:Mem):St:=Mem.rec (motive:=fun _=>St) (fun ds h n sd sn b=>⟨e,ds,h,n,sd,sn,b⟩) m
noncomputable def memK (s:St) (k:K1):R:=St.rec (motive:=fun _=>R) (fun e ds h n sd sn b=>k e ⟨ds,h,n,sd,sn,b⟩) s
abbrev CallM:=AV→Nat→Nat→Mem→(Nat→Mem→R)→R
noncomputable def callOf (cm:CallM):CallR:=fun f n c s k=>memK s fun e m=>cm f n c m fun v m=>k v (stOf e m)
structure OW where
 run:CallM→Nat→Mem→K1→R
structure VW where
 run:CallM→Nat→Mem→K2→R
structure DW where
 f:Nat→Nat
structure LW where
 run:CallM→Nat→Mem→Nat→(Nat→Nat→Nat→Mem→R)→R
structure BW where
 run:Nat→Nat→Nat→Mem→K2→R
noncomputable def slowV (P:Program) (op:Op) (cm:CallM) (e:Nat) (m:Mem) (k:K2):R:=opx op (callOf cm) P (stOf e m) fun c s=>memK s (k c)
noncomputable def slowW (P:Program) (op:Op):VW:=.mk fun cm e m k=>slowV P op cm e m k
noncomputable def slowC (x:Operand) (e:Nat) (m:Mem) (k:K2):R:=evC x (stOf e m) fun c s=>memK s (k c)
noncomputable def constV  (x0:AV):Value→VW:=AV.rec (motive:=fun _=>Value→VW)
  (fun p=>fun v=>Bool.rec (.mk fun _ e m k=>slowC (.const v) e m k) (forceN (code p 1) fun c=>.mk fun _ e m k=>k c e m) (Nat.blt p 18446744073709551616))
  (fun p=>fun v=>Bool.rec (.mk fun _ e m k=>slowC (.const v) e m k) (forceN (code p 2) fun c=>.mk fun _ e m k=>k c e m) (Nat.blt p 2))
  (fun _ _=>fun v=>.mk fun _ e m k=>slowC (.const v) e m k)
  (fun _ _ _ _=>fun v=>.mk fun _ e m k=>slowC (.const v) e m k)
  (fun _=>fun v=>.mk fun _ e m k=>slowC (.const v) e m k)
  (fun v=>.mk fun _ e m k=>slowC (.const v) e m k)
  (fun _=>fun v=>.mk fun _ e m k=>slowC (.const v) e m k)
  (fun _=>fun v=>.mk fun _ e m k=>slowC (.const v) e m k)
  (fun _ _ _ _ _=>fun v=>.mk fun _ e m k=>slowC (.const v) e m k)
  (fun _ _=>fun v=>.mk fun _ e m k=>slowC (.const v) e m k)
  (fun _ _=>fun v=>.mk fun _ e m k=>slowC (.const v) e m k) x0
noncomputable def rdV  (x0:Operand):VW:=Operand.rec (motive:=fun _=>VW)
  (fun t=>forceN (Nat.mul (Nat.succ t) 128) fun L=>.mk fun _ e m k=>Nat.rec (motive:=fun _=>R) bad (fun c _=>k (Nat.succ c) e m) (Nat.mod (Nat.shiftRight e L) 340282366920938463463374607431768211456))
  (fun v=>constV (AV.of v) v)
  (fun z0=>.mk fun _ e m k=>slowC (Operand.global z0) e m k)
  (fun z0=>.mk fun _ e m k=>slowC (Operand.func z0) e m k) x0
noncomputable def constD  (x0:AV):DW:=AV.rec (motive:=fun _=>DW)
  (fun p=>Bool.rec (.mk fun _=>0) (forceN (code p 1) fun c=>.mk fun _=>c) (Nat.blt p 18446744073709551616))
  (fun p=>Bool.rec (.mk fun _=>0) (forceN (code p 2) fun c=>.mk fun _=>c) (Nat.blt p 2))
  (fun _ _=>.mk fun _=>0)
  (fun _ _ _ _=>.mk fun _=>0)
  (fun _=>.mk fun _=>0)
  (.mk fun _=>0)
  (fun _=>.mk fun _=>0)
  (fun _=>.mk fun _=>0)
  (fun _ _ _ _ _=>.mk fun _=>0)
  (fun _ _=>.mk fun _=>0)
  (fun _ _=>.mk fun _=>0) x0
noncomputable def cdW  (x0:Operand):DW:=Operand.rec (motive:=fun _=>DW)
  (fun t=>forceN (Nat.mul (Nat.succ t) 128) fun L=>.mk fun e=>Nat.mod (Nat.shiftRight e L) 340282366920938463463374607431768211456)
  (fun v=>constD (AV.of v))
  (fun _=>.mk fun _=>0)
  (fun _=>.mk fun _=>0) x0
noncomputable def putM (k:K1) (L c e:Nat) (m:Mem):R:=k (Nat.xor e (Nat.shiftLeft (Nat.xor (Nat.mod (Nat.shiftRight e L) 340282366920938463463374607431768211456) c) L)) m
noncomputable def putV  (x0:Option Nat):VW→OW:=Option.rec (motive:=fun _=>VW→OW)
  (fun v=>VW.rec (motive:=fun _=>OW) (fun f=>.mk fun cm e m k=>f cm e m fun _ e m=>k e m) v)
  (fun d=>fun v=>VW.rec (motive:=fun _=>OW) (fun f=>forceN (Nat.mul (Nat.succ d) 128) fun L=>.mk fun cm e m k=>f cm e m fun c e m=>putM k L c e m) v) x0
noncomputable def sideM (a:AV) (m:Mem) (k:Nat→Mem→R):R :=
 Mem.rec (motive:=fun _=>R) (fun ds h n sd sn b=>forceN sn fun j=>Bool.rec bad (k (Nat.add (Nat.mul j 16) 6) ⟨ds,h,n,sd.put j (some a),Nat.succ j,b⟩) (Nat.blt j 16777216)) m
noncomputable def newM (o:AO) (m:Mem) (k:Nat→Mem→R):R :=
 Mem.rec (motive:=fun _=>R) (fun ds h n sd sn b=>forceN n fun j=>Bool.rec bad (k (Nat.add (Nat.mul j 16) 3) ⟨ds,h.put j (some o),Nat.succ j,sd,sn,b⟩) (Nat.blt j 16777216)) m
noncomputable def ibW  (x0:BinOp):Option BW:=BinOp.rec (motive:=fun _=>Option BW)
  (some (.mk fun p q e m k=>Bool.rec bad (Bool.rec bad (k (Nat.add (Nat.mul (Nat.sub (Nat.add p q) 9223372036854775808) 16) 1) e m) (Nat.blt (Nat.sub (Nat.add p q) 9223372036854775808) 18446744073709551616)) (Nat.ble 9223372036854775808 (Nat.add p q))))
  (some (.mk fun p q e m k=>Bool.rec bad (Bool.rec bad (k (Nat.add (Nat.mul (Nat.sub (Nat.add p 9223372036854775808) q) 16) 1) e m) (Nat.blt (Nat.sub (Nat.add p 9223372036854775808) q) 18446744073709551616)) (Nat.ble q (Nat.add p 9223372036854775808))))
  (none)
  (none)
  (none)
  (none)
  (none)
  (none)
  (none)
  (none)
  (none)
  (some (.mk fun p q e m k=>Bool.rec (k 2 e m) (k 18 e m) (Nat.beq p q)))
  (some (.mk fun p q e m k=>Bool.rec (k 18 e m) (k 2 e m) (Nat.beq p q)))
  (some (.mk fun p q e m k=>Bool.rec (k 2 e m) (k 18 e m) (Nat.ble (Nat.succ p) q)))
  (some (.mk fun p q e m k=>Bool.rec (k 2 e m) (k 18 e m) (Nat.ble p q)))
  (some (.mk fun p q e m k=>Bool.rec (k 2 e m) (k 18 e m) (Nat.ble (Nat.succ q) p)))
  (some (.mk fun p q e m k=>Bool.rec (k 2 e m) (k 18 e m) (Nat.ble q p))) x0
noncomputable def bin2 (P : Program) (op : Op) (x y : Operand) (b : BW) : VW :=
  BW.rec (motive := fun _ => VW) (fun g => DW.rec (motive := fun _ => VW) (fun fa => DW.rec (motive := fun _ => VW) (fun fb => .mk fun cm e m k =>
    forceN (fa e) fun a => forceN (fb e) fun b => Bool.rec (slowV P op cm e m k) (g (Nat.div a 16) (Nat.div b 16) e m k) (Nat.beq (Nat.add (Nat.mul (Nat.mod a 16) 16) (Nat.mod b 16)) 17)) (cdW y)) (cdW x)) b
noncomputable def binV (P:Program) (o:BinOp) (op:Op) (x y:Operand):VW:=Option.rec (motive:=fun _=>VW) (slowW P op) (bin2 P op x y) (ibW o)
noncomputable def rowM (m:Mem) (r:Nat) (k:TypeId→Nat→Nat→R):R :=
 Mem.rec (motive:=fun _=>R) (fun _ h _ _ _ _=>Option.rec (motive:=fun _=>R) bad (fun o=>AO.rec (motive:=fun _=>R) (fun E n c=>k E n c) (fun _ _=>bad) (fun _ _ _ _ _=>bad) bad (fun _ _ _ _ _ _ _=>bad) (fun _ _=>bad) (fun _ _=>bad) o) (h.get r)) m
noncomputable def pieceM  (x0:Option Nat):Nat→Nat→Nat→Nat→Mem→K2→R:=Option.rec (motive:=fun _=>Nat→Nat→Nat→Nat→Mem→K2→R)
  (fun n c o e m k=>Bool.rec bad (Nat.rec (motive:=fun _=>R) bad (fun d _=>k (Nat.succ d) e m) (Nat.mod (Nat.shiftRight c (Nat.mul o 128)) 340282366920938463463374607431768211456)) (Nat.ble (Nat.succ o) n))
  (fun z=>fun n c o e m k=>Bool.rec bad (forceN (dgs c o z) fun d=>sideM (.ag z d) m fun c m=>k c e m) (Nat.ble (Nat.add o z) n)) x0
structure PW where
 run:Nat→Nat→Nat→Nat→Mem→K2→R
noncomputable def loadV (P : Program) (op : Op) (x : Operand) (z : Option (Option Nat)) : VW :=
  Option.rec (motive := fun _ => VW) (slowW P op) (fun z => PW.rec (motive := fun _ => VW) (fun g => DW.rec (motive := fun _ => VW) (fun fa => .mk fun cm e m k =>
    forceN (fa e) fun a => Bool.rec (slowV P op cm e m k) (rowM m (Nat.mod (Nat.div a 16) 16777216) fun _ n c => forceN (Nat.div (Nat.div a 16) 16777216) fun o => g n c o e m k) (Nat.beq (Nat.mod a 16) 3)) (cdW x)) (.mk (pieceM z))) z
noncomputable def setM (m:Mem) (r:Nat) (E:TypeId) (n c:Nat) (k:Mem→R):R :=
 Mem.rec (motive:=fun _=>R) (fun ds h nx sd sn b=>forceN b fun b=>Bool.rec bad (k ⟨ds,h.put r (some (.row E n c)),nx,sd,sn,b⟩) (Nat.ble b r)) m
noncomputable def storeV (P : Program) (op : Op) (a x : Operand) (z : Option Nat) : VW :=
  Option.rec (motive := fun _ => VW) (slowW P op) (fun z => Bool.rec (slowW P op) (DW.rec (motive := fun _ => VW) (fun fa => DW.rec (motive := fun _ => VW) (fun fx => .mk fun cm e m k =>
    forceN (fa e) fun a => forceN (fx e) fun d => Bool.rec (slowV P op cm e m k)
      (rowM m (Nat.mod (Nat.div a 16) 16777216) fun E n c => forceN (Nat.div (Nat.div a 16) 16777216) fun o => Bool.rec bad (forceN (sds c o 1 d) fun c => setM m (Nat.mod (Nat.div a 16) 16777216) E n c fun m => k 0 e m) (Nat.ble (Nat.succ o) n))
      (Bool.and (Nat.beq (Nat.mod a 16) 3) (Nat.ble (Nat.mod (Nat.add (Nat.mod d 16) 15) 16) 4))) (cdW x)) (cdW a)) (Nat.beq z 1)) z
noncomputable def fieldAddrV (P : Program) (op : Op) (x : Operand) (f : Option (Nat × Nat × Nat)) : VW :=
  Option.rec (motive := fun _ => VW) (slowW P op) (fun f => Prod.rec (motive := fun _ => VW) (fun off f => Prod.rec (motive := fun _ => VW) (fun O z => Nat.rec (motive := fun _ => VW) (slowW P op) (fun _ _ => DW.rec (motive := fun _ => VW) (fun fa => forceN off fun off => forceN O fun O => .mk fun cm e m k =>
    forceN (fa e) fun a => Bool.rec (slowV P op cm e m k) (Bool.rec bad (k (Nat.add a O) e m) (Nat.ble (Nat.succ (Nat.add (Nat.div a 268435456) off)) 16777216)) (Nat.beq (Nat.mod a 16) 3)) (cdW x)) z) f) f) f
noncomputable def idxM (i n:Nat) (k:Nat→R):R:=Bool.rec bad (Bool.rec bad (k (Nat.sub i 9223372036854775808)) (Nat.ble (Nat.succ (Nat.sub i 9223372036854775808)) n)) (Nat.ble 9223372036854775808 i)
noncomputable def ptM (r o e:Nat) (m:Mem) (k:K2):R:=Bool.rec bad (k (Nat.add (Nat.mul (Nat.add (Nat.mul o 16777216) r) 16) 3) e m) (Nat.ble (Nat.succ (Nat.lor r o)) 16777216)
noncomputable def idxS (P : Program) (op : Op) (x i : Operand) (z : Option Nat) : VW :=
  Option.rec (motive := fun _ => VW) (slowW P op) (fun z => DW.rec (motive := fun _ => VW) (fun fa => DW.rec (motive := fun _ => VW) (fun fi => forceN z fun z => .mk fun cm e m k =>
    forceN (fa e) fun a => forceN (fi e) fun i => Bool.rec (slowV P op cm e m k)
      (idxM (Nat.div i 16) (Nat.mod (Nat.div (Nat.div a 16) 281474976710656) 16777216) fun j => ptM (Nat.mod (Nat.div a 16) 16777216) (Nat.add (Nat.mod (Nat.div (Nat.div a 16) 16777216) 16777216) (Nat.mul j z)) e m k)
      (Nat.beq (Nat.add (Nat.mul (Nat.mod a 16) 16) (Nat.mod i 16)) 65)) (cdW i)) (cdW x)) z
noncomputable def idxA (P : Program) (op : Op) (x i : Operand) (q : Option (Nat × Nat)) : VW :=
  Option.rec (motive := fun _ => VW) (slowW P op) (fun q => Prod.rec (motive := fun _ => VW) (fun l z => DW.rec (motive := fun _ => VW) (fun fa => DW.rec (motive := fun _ => VW) (fun fi => forceN l fun l => forceN z fun z => .mk fun cm e m k =>
    forceN (fa e) fun a => forceN (fi e) fun i => Bool.rec (slowV P op cm e m k)
      (idxM (Nat.div i 16) l fun j => ptM (Nat.mod (Nat.div a 16) 16777216) (Nat.add (Nat.div (Nat.div a 16) 16777216) (Nat.mul j z)) e m k)
      (Nat.beq (Nat.add (Nat.mul (Nat.mod a 16) 16) (Nat.mod i 16)) 49)) (cdW i)) (cdW x)) q) q
noncomputable def sizeSl (P:Program) (t:TypeId):Option Nat:=(sliceP P t).bind fun E=>sizeP P E
noncomputable def sizeAr (P:Program) (t:TypeId):Option (Nat×Nat):=(arrP P t).bind fun e=>(sizeP P e.2).map fun z=>(e.1,z)
noncomputable def fieldSz (P:Program) (t:TypeId) (i:Nat):Option (Nat×Nat×Nat):=(fieldP P t i).bind fun f=>(sizeP P f.type).map fun z=>(f.offset,Nat.mul f.offset 268435456,z)
noncomputable def litD  (x0:AV):Option Nat:=AV.rec (motive:=fun _=>Option Nat)
  (fun p=>Bool.rec none (some (code p 1)) (Nat.blt p 18446744073709551616))
  (fun p=>Bool.rec none (some (code p 2)) (Nat.blt p 2))
  (fun _ _=>none)
  (fun _ _ _ _=>none)
  (fun _=>none)
  (none)
  (fun _=>none)
  (fun _=>none)
  (fun _ _ _ _ _=>none)
  (fun _ _=>none)
  (fun _ _=>none) x0
noncomputable def litsD  (x0:List Value):Nat→Nat→Option (Nat×Nat):=List.rec (motive:=fun _=>Nat→Nat→Option (Nat×Nat))
  (fun n d=>some (n,d))
  (fun v l ih=>fun n d=>(litD (AV.of v)).bind fun c=>ih (Nat.succ n) (Nat.add d (Nat.shiftLeft c (Nat.mul n 128)))) x0
noncomputable def allocV (P:Program) (op:Op) (t:TypeId) (z:Option (Nat×Nat)):VW :=
 Option.rec (motive:=fun _=>VW) (slowW P op) (fun z=>Prod.rec (motive:=fun _=>VW) (fun n d=>Bool.rec (slowW P op) (forceN n fun n=>forceN d fun d=>.mk fun cm e m k=>newM (.row t n d) m fun c m=>k c e m) (Nat.blt n 16777216)) z) z
noncomputable def boxV (P:Program) (op:Op) (t:TypeId) (x:Operand):VW :=
 DW.rec (motive:=fun _=>VW) (fun fa=>.mk fun cm e m k=>forceN (fa e) fun a=>Bool.rec (slowV P op cm e m k) (newM (.row t 1 a) m fun c m=>k c e m) (Nat.ble (Nat.mod (Nat.add (Nat.mod a 16) 15) 16) 4)) (cdW x)
noncomputable def pickV (P : Program) (op : Op) (c : Operand) (a b : VW) : VW :=
  DW.rec (motive := fun _ => VW) (fun fc => VW.rec (motive := fun _ => VW) (fun fa => VW.rec (motive := fun _ => VW) (fun fb => .mk fun cm e m k =>
    forceN (fc e) fun c => Bool.rec (Bool.rec (slowV P op cm e m k) (fb cm e m k) (Nat.beq c 2)) (fa cm e m k) (Nat.beq c 18)) b) a) (cdW c)
noncomputable def notV (P:Program) (op:Op) (x:Operand):VW :=
 DW.rec (motive:=fun _=>VW) (fun fc=>.mk fun cm e m k=>forceN (fc e) fun c=>Bool.rec (Bool.rec (slowV P op cm e m k) (k 18 e m) (Nat.beq c 2)) (k 2 e m) (Nat.beq c 18)) (cdW x)
noncomputable def nilCheckV (P:Program) (op:Op) (x:Operand):VW :=
 DW.rec (motive:=fun _=>VW) (fun fa=>.mk fun cm e m k=>forceN (fa e) fun a=>Bool.rec (slowV P op cm e m k) (k a e m) (Nat.beq (Nat.mod a 16) 3)) (cdW x)
noncomputable def sideGet (m:Mem) (a:Nat) (k:AV→R):R:=Mem.rec (motive:=fun _=>R) (fun _ _ _ sd _ _=>Option.rec (motive:=fun _=>R) bad k (sd.get a)) m
noncomputable def extractV (P : Program) (op : Op) (x : Operand) (i : Nat) : VW :=
  DW.rec (motive := fun _ => VW) (fun fa => forceN i fun i => .mk fun cm e m k => forceN (fa e) fun a => Bool.rec (slowV P op cm e m k)
    (sideGet m (Nat.div a 16) fun a => AV.rec (motive := fun _ => R) (fun _ => bad) (fun _ => bad) (fun _ _ => bad) (fun _ _ _ _ => bad) (fun _ => bad) bad (fun _ => bad) (fun _ => bad) (fun _ _ _ _ _ => bad) (fun _ _ => bad)
      (fun n c => Bool.rec bad (Nat.rec (motive := fun _ => R) bad (fun d _ => k (Nat.succ d) e m) (dg c i)) (Nat.blt i n)) a) (Nat.beq (Nat.mod a 16) 6)) (cdW x)
noncomputable def agM (m:Mem) (a:Nat) (k:Nat→Nat→R) (o:R):R :=
 sideGet m a fun a=>AV.rec (motive:=fun _=>R) (fun _=>o) (fun _=>o) (fun _ _=>o) (fun _ _ _ _=>o) (fun _=>o) o (fun _=>o) (fun _=>o) (fun _ _ _ _ _=>o) (fun n c=>k n c) (fun _ _=>o) a
noncomputable def fieldV (P : Program) (op : Op) (x : Operand) (f : Option (Nat × Option Nat)) : VW :=
  Option.rec (motive := fun _ => VW) (slowW P op) (fun f => Prod.rec (motive := fun _ => VW) (fun off z => PW.rec (motive := fun _ => VW) (fun g => DW.rec (motive := fun _ => VW) (fun fa => forceN off fun off => .mk fun cm e m k =>
    forceN (fa e) fun a => Bool.rec (slowV P op cm e m k) (agM m (Nat.div a 16) (fun n c => g n c off e m k) bad) (Nat.beq (Nat.mod a 16) 6)) (cdW x)) (.mk (pieceM z))) f) f
noncomputable def fieldSh (P:Program) (t:TypeId) (i:Nat):Option (Nat×Option Nat):=(fieldP P t i).bind fun f=>(shapeP P f.type).map fun z=>(f.offset,z)
noncomputable def indexV (P : Program) (op : Op) (x i : Operand) (q : Option (Nat × Nat × Option Nat)) : VW :=
  Option.rec (motive := fun _ => VW) (slowW P op) (fun q => Prod.rec (motive := fun _ => VW) (fun l q => Prod.rec (motive := fun _ => VW) (fun w z => PW.rec (motive := fun _ => VW) (fun g => DW.rec (motive := fun _ => VW) (fun fa => DW.rec (motive := fun _ => VW) (fun fi => forceN l fun l => forceN w fun w => .mk fun cm e m k =>
    forceN (fa e) fun a => forceN (fi e) fun i => Bool.rec (slowV P op cm e m k) (agM m (Nat.div a 16) (fun n c => idxM (Nat.div i 16) l fun j => g n c (Nat.mul j w) e m k) (slowV P op cm e m k)) (Nat.beq (Nat.add (Nat.mul (Nat.mod a 16) 16) (Nat.mod i 16)) 97)) (cdW i)) (cdW x)) (.mk (pieceM z))) q) q) q
noncomputable def indexSh (P:Program) (t:TypeId):Option (Nat×Nat×Option Nat):=(arrP P t).bind fun e=>(shapeP P e.2).bind fun z=>(sizeP P e.2).map fun w=>(e.1,w,z)
noncomputable def lenMk (n e:Nat) (m:Mem) (k:K2):R:=k (Nat.add (Nat.mul (Nat.add n 9223372036854775808) 16) 1) e m
noncomputable def lenX (P : Program) (op : Op) (x : Operand) : VW :=
  DW.rec (motive := fun _ => VW) (fun fa => .mk fun cm e m k =>
    forceN (fa e) fun a => Bool.rec (slowV P op cm e m k) (lenMk (Nat.mod (Nat.div (Nat.div a 16) 281474976710656) 16777216) e m k) (Nat.beq (Nat.mod a 16) 4)) (cdW x)
noncomputable def lenV (P:Program) (op:Op) (xs:List Operand) (ts:List TypeId):VW :=
 Option.rec (motive:=fun _=>VW) (slowW P op) (fun x=>Option.rec (motive:=fun _=>VW) (slowW P op) (fun _=>lenX P op x) ((head ts).bind (sliceP P))) (one xs)
noncomputable def argsW  (x0:List Operand):Nat→LW:=List.rec (motive:=fun _=>Nat→LW)
  (fun n=>.mk fun _ e m d k=>k n d e m)
  (fun x l ih=>fun n=>VW.rec (motive:=fun _=>LW) (fun f=>LW.rec (motive:=fun _=>LW) (fun g=>forceN (Nat.mul n 128) fun L=>.mk fun cm e m d k=>f cm e m fun c e m=>g cm e m (Nat.add d (Nat.shiftLeft c L)) k) (ih (Nat.succ n))) (rdV x)) x0
noncomputable def calleeV  (x0:Operand):LW→VW:=Operand.rec (motive:=fun _=>LW→VW)
  (fun z0=>fun l=>LW.rec (motive:=fun _=>VW) (fun f=>.mk fun cm e m k=>f cm e m 0 fun n d e m=>evK (Operand.tmp z0) (stOf e m) fun a=>cm a n d m fun v m=>k v e m) l)
  (fun z0=>fun l=>LW.rec (motive:=fun _=>VW) (fun f=>.mk fun cm e m k=>f cm e m 0 fun n d e m=>evK (Operand.const z0) (stOf e m) fun a=>cm a n d m fun v m=>k v e m) l)
  (fun z0=>fun l=>LW.rec (motive:=fun _=>VW) (fun f=>.mk fun cm e m k=>f cm e m 0 fun n d e m=>evK (Operand.global z0) (stOf e m) fun a=>cm a n d m fun v m=>k v e m) l)
  (fun g=>fun l=>LW.rec (motive:=fun _=>VW) (fun f=>.mk fun cm e m k=>f cm e m 0 fun n d e m=>cm (.fn (.func g) 0 0 0 0) n d m fun v m=>k v e m) l) x0
noncomputable def isLen  (x0:Builtin):Bool:=Builtin.rec (motive:=fun _=>Bool)
  (false)
  (false)
  (false)
  (false)
  (false)
  (false)
  (false)
  (false)
  (true)
  (false)
  (false)
  (false)
  (false)
  (false)
  (false)
  (false)
  (false)
  (false)
  (false)
  (false)
  (false)
  (false)
  (false)
  (false)
  (false)
  (false) x0
noncomputable def callV  (x0:Callee):Program→Op→List Operand→List TypeId→VW:=Callee.rec (motive:=fun _=>Program→Op→List Operand→List TypeId→VW)
  (fun x=>fun P op xs ts=>calleeV x (argsW xs 0))
  (fun _ _=>fun P op xs ts=>slowW P op)
  (fun b=>fun P op xs ts=>Bool.rec (slowW P op) (lenV P op xs ts) (isLen b)) x0
noncomputable def isNot  (x0:UnOp):Bool:=UnOp.rec (motive:=fun _=>Bool)
  (false)
  (false)
  (true)
  (false) x0
noncomputable def opV (P:Program) (x0:Op):VW:=Op.rec (motive:=fun _=>VW)
  (fun x=>rdV x)
  (fun x=>rdV x)
  (fun c a b=>pickV P (.pick c a b) c (rdV a) (rdV b))
  (fun t=>allocV P (.alloc t) t ((zeroP P t).bind fun z=>litsD z.cells.toList 0 0))
  (fun t x=>boxV P (.box t x) t x)
  (fun z0 z1=>slowW P (Op.build z0 z1))
  (fun z0 z1 z2=>slowW P (Op.buildSlice z0 z1 z2))
  (fun z0 z1 z2 z3=>slowW P (Op.insert z0 z1 z2 z3))
  (fun t x=>loadV P (.load t x) x (shapeP P t))
  (fun t a x=>storeV P (.store t a x) a x (sizeP P t))
  (fun z0=>slowW P (Op.ready z0))
  (fun z0=>slowW P (Op.waits z0))
  (fun x=>nilCheckV P (.nilCheck x) x)
  (fun o t x y u=>binV P o (.binOp o t x y u) x y)
  (fun o t x=>Bool.rec (slowW P (.unOp o t x)) (notV P (.unOp o t x) x) (isNot o))
  (fun z0 z1 z2=>slowW P (Op.convert z0 z1 z2))
  (fun z0 z1=>slowW P (Op.sliceToArrayPointer z0 z1))
  (fun z0 z1=>slowW P (Op.makeInterface z0 z1))
  (fun z0 z1 z2=>slowW P (Op.makeFunc z0 z1 z2))
  (fun z0 z1=>slowW P (Op.makeMap z0 z1))
  (fun z0 z1=>slowW P (Op.makeChan z0 z1))
  (fun z0 z1 z2=>slowW P (Op.makeSlice z0 z1 z2))
  (fun z0 z1 z2 z3 z4=>slowW P (Op.slice z0 z1 z2 z3 z4))
  (fun t x i=>fieldAddrV P (.fieldAddr t x i) x (fieldSz P t i))
  (fun t x i=>fieldV P (.field t x i) x (fieldSh P t i))
  (fun t x i=>Option.rec (motive:=fun _=>VW) (idxA P (.indexAddr t x i) x i (sizeAr P t)) (fun _=>idxS P (.indexAddr t x i) x i (sizeSl P t)) (sliceP P t))
  (fun t x i=>indexV P (.index t x i) x i (indexSh P t))
  (fun z0 z1 z2 z3=>slowW P (Op.lookup z0 z1 z2 z3))
  (fun z0 z1 z2 z3=>slowW P (Op.mapUpdate z0 z1 z2 z3))
  (fun z0 z1 z2=>slowW P (Op.mapEntry z0 z1 z2))
  (fun z0 z1 z2 z3=>slowW P (Op.entryStore z0 z1 z2 z3))
  (fun z0 z1=>slowW P (Op.range z0 z1))
  (fun z0 z1=>slowW P (Op.next z0 z1))
  (fun z0=>slowW P (Op.entry z0))
  (fun z0 z1 z2 z3=>slowW P (Op.typeAssert z0 z1 z2 z3))
  (fun x i=>extractV P (.extract x i) x i)
  (fun c=>callV c.callee P (.call c) c.args.toList c.argTypes.toList)
  (fun z0=>slowW P (Op.go z0))
  (fun z0=>slowW P (Op.defer z0))
  (fun z0=>slowW P (Op.panic z0))
  (fun z0 z1=>slowW P (Op.send z0 z1))
  (fun z0 z1 z2=>slowW P (Op.recv z0 z1 z2))
  (fun z0 z1=>slowW P (Op.select z0 z1)) x0
end Go.Ex
namespace Go.Ex
open Go.Fip
def VOk (P:Program) (v:VW) (op:Op):Prop:=∀ cm e m k,v.run cm e m k=slowV P op cm e m k
def RdOk (v:VW) (x:Operand):Prop:=∀ cm e m k,v.run cm e m k=slowC x e m k
section
variable {P : Program}
theorem slowW_ok (op:Op):VOk P (slowW P op) op:=fun _ _ _ _=>rfl
theorem dec_1 {c:Nat} (h:c % 16=1) (sd:T AV):dec c sd=some (.i (c / 16)):=by unfold dec; rw [show Nat.mod c 16=1 from h]; rfl
theorem dec_2 {c:Nat} (h:c % 16=2) (sd:T AV):dec c sd=some (.b (c / 16)):=by unfold dec; rw [show Nat.mod c 16=2 from h]; rfl
theorem dec_3 {c:Nat} (h:c % 16=3) (sd:T AV):dec c sd=some (.pt (c / 16 % 16777216) (c / 16 / 16777216)):=by unfold dec; rw [show Nat.mod c 16=3 from h]; rfl
theorem dec_4 {c:Nat} (h:c % 16=4) (sd:T AV):dec c sd=some (.sl (c / 16 % 16777216) (c / 16 / 16777216 % 16777216) (c / 16 / 281474976710656 % 16777216) (c / 16 / 4722366482869645213696)):=by unfold dec; rw [show Nat.mod c 16=4 from h]; rfl
theorem dec_5 {c:Nat} (h:c % 16=5) (sd:T AV):dec c sd=some (.mp (c / 16)):=by unfold dec; rw [show Nat.mod c 16=5 from h]; rfl
theorem dec_6 {c:Nat} (h:c % 16=6) (sd:T AV):dec c sd=sd.get (c / 16):=by unfold dec; rw [show Nat.mod c 16=6 from h]; rfl
theorem constD_ok (v:Value) (e:Nat) (h:(constD (AV.of v)).f e % 16≠0) (sd:T AV) (s:St) (k:Nat→St→R) :
  some (AV.of v)=dec ((constD (AV.of v)).f e) sd∧enc (AV.of v) s k=k ((constD (AV.of v)).f e) s:=by
 cases hv:AV.of v with
 | i p =>
  rw [hv] at h
  cases hb:Nat.blt p 18446744073709551616 with
  | false=>exact absurd (show (constD (.i p)).f e % 16=0 by show (DW.f (Bool.rec _ _ (Nat.blt p _)) e) % 16=0; rw [hb]; rfl) h
  | true =>
   have e1:(constD (.i p)).f e=code p 1:=by show DW.f (Bool.rec _ _ (Nat.blt p _)) e=_; rw [hb]; rfl
   refine ⟨by rw [e1,dec_1 (by show (p * 16+1) % 16=1; omega)]; show some (AV.i p)=some (AV.i ((p * 16+1) / 16)); rw [show (p * 16+1) / 16=p by omega],?_⟩
   rw [e1]; show (Bool.rec bad (k (code p 1) s) (Nat.blt p _):R)=_; rw [hb]
 | b p =>
  rw [hv] at h
  cases hb:Nat.blt p 2 with
  | false=>exact absurd (show (constD (.b p)).f e % 16=0 by show (DW.f (Bool.rec _ _ (Nat.blt p _)) e) % 16=0; rw [hb]; rfl) h
  | true =>
   have e1:(constD (.b p)).f e=code p 2:=by show DW.f (Bool.rec _ _ (Nat.blt p _)) e=_; rw [hb]; rfl
   refine ⟨by rw [e1,dec_2 (by show (p * 16+2) % 16=2; omega)]; show some (AV.b p)=some (AV.b ((p * 16+2) / 16)); rw [show (p * 16+2) / 16=p by omega],?_⟩
   rw [e1]; show (Bool.rec bad (k (code p 2) s) (Nat.blt p _):R)=_; rw [hb]
 | pt r o=>rw [hv] at h; exact absurd rfl h
 | sl r o n c=>rw [hv] at h; exact absurd rfl h
 | mp r=>rw [hv] at h; exact absurd rfl h
 | em=>rw [hv] at h; exact absurd rfl h
 | yd r=>rw [hv] at h; exact absurd rfl h
 | x u=>rw [hv] at h; exact absurd rfl h
 | fn f a b c d=>rw [hv] at h; exact absurd rfl h
 | ag n c=>rw [hv] at h; exact absurd rfl h
 | tu n c=>rw [hv] at h; exact absurd rfl h
theorem cdW_evA (x:Operand) (e:Nat) (m:Mem) (h:(cdW x).f e % 16≠0):evA x (stOf e m)=dec ((cdW x).f e) m.side:=by
 cases x with
 | tmp t=>rfl
 | const v=>exact (constD_ok v e h m.side (stOf e m) (fun _ _=>bad)).1
 | global g=>exact absurd rfl h
 | func f=>exact absurd rfl h
theorem cdW_evC (x:Operand) (e:Nat) (m:Mem) (h:(cdW x).f e % 16≠0) (k:Nat→St→R):evC x (stOf e m) k=k ((cdW x).f e) (stOf e m):=by
 cases x with
 | tmp t =>
  show (Nat.rec (motive:=fun _=>R) bad (fun c _=>k (Nat.succ c) (stOf e m)) (dg e (Nat.succ t)):R)=k (dg e (Nat.succ t)) (stOf e m)
  have h:dg e (Nat.succ t) % 16≠0:=h
  cases hd:dg e (Nat.succ t) with
  | zero=>rw [hd] at h; exact absurd rfl h
  | succ j=>rfl
 | const v=>exact (constD_ok v e h m.side (stOf e m) k).2
 | global g=>exact absurd rfl h
 | func f=>exact absurd rfl h
theorem cdW_evK (x:Operand) (e:Nat) (m:Mem) (k:AV→R) (h:(cdW x).f e % 16≠0):evK x (stOf e m) k=optR (dec ((cdW x).f e) m.side) k:=by
 unfold evK; rw [cdW_evA x e m h]
theorem rdV_ok (x:Operand):RdOk (rdV x) x:=fun cm e m k=>by
 cases x with
 | tmp t=>rfl
 | const v =>
  show (constV (AV.of v) v).run cm e m k=(enc (AV.of v) (stOf e m) fun c s=>memK s (k c))
  cases hv:AV.of v with
  | i p =>
   show VW.run (Bool.rec _ _ (Nat.blt p 18446744073709551616)) cm e m k=(Bool.rec bad (k (code p 1) e m) (Nat.blt p _):R)
   cases hb:Nat.blt p 18446744073709551616 with
   | false=>show slowC (.const v) e m k=bad; show (enc (AV.of v) (stOf e m) fun c s=>memK s (k c))=bad; rw [hv]; show (Bool.rec bad _ (Nat.blt p _):R)=bad; rw [hb]
   | true=>rfl
  | b p =>
   show VW.run (Bool.rec _ _ (Nat.blt p 2)) cm e m k=(Bool.rec bad (k (code p 2) e m) (Nat.blt p _):R)
   cases hb:Nat.blt p 2 with
   | false=>show slowC (.const v) e m k=bad; show (enc (AV.of v) (stOf e m) fun c s=>memK s (k c))=bad; rw [hv]; show (Bool.rec bad _ (Nat.blt p _):R)=bad; rw [hb]
   | true=>rfl
  | pt r o=>show (enc (AV.of v) (stOf e m) fun c s=>memK s (k c))=_; rw [hv]
  | sl r o n c=>show (enc (AV.of v) (stOf e m) fun c s=>memK s (k c))=_; rw [hv]
  | mp r=>show (enc (AV.of v) (stOf e m) fun c s=>memK s (k c))=_; rw [hv]
  | em=>show (enc (AV.of v) (stOf e m) fun c s=>memK s (k c))=_; rw [hv]
  | yd r=>show (enc (AV.of v) (stOf e m) fun c s=>memK s (k c))=_; rw [hv]
  | x u=>show (enc (AV.of v) (stOf e m) fun c s=>memK s (k c))=_; rw [hv]
  | fn f a b c d=>show (enc (AV.of v) (stOf e m) fun c s=>memK s (k c))=_; rw [hv]
  | ag n c=>show (enc (AV.of v) (stOf e m) fun c s=>memK s (k c))=_; rw [hv]
  | tu n c=>show (enc (AV.of v) (stOf e m) fun c s=>memK s (k c))=_; rw [hv]
 | global g=>rfl
 | func f=>rfl
theorem beq_t {a b:Nat} (h:Nat.beq a b=true):a=b:=Nat.eq_of_beq_eq_true h
theorem and_tt {a b:Bool} (h:Bool.and a b=true):a=true∧b=true:=by cases a <;> cases b <;> first | exact ⟨rfl,rfl⟩ | cases h
theorem tags {a b n:Nat} (h:Nat.beq (Nat.add (Nat.mul (Nat.mod a 16) 16) (Nat.mod b 16)) n=true):a % 16=n / 16∧b % 16=n % 16:=by
 have h:a % 16 * 16+b % 16=n:=beq_t h
 omega
section
variable (t : TypeId) (x y : Operand) (p q : Nat) (s : St) (k : Nat → St → R)
theorem intBin_add:intBin .add p q P t x y s k=(Bool.rec bad (retI (Nat.sub (Nat.add p q) 9223372036854775808) s k) (Nat.ble 9223372036854775808 (Nat.add p q)):R):=rfl
theorem intBin_sub:intBin .sub p q P t x y s k=(Bool.rec bad (retI (Nat.sub (Nat.add p 9223372036854775808) q) s k) (Nat.ble q (Nat.add p 9223372036854775808)):R):=rfl
theorem intBin_lss:intBin .lss p q P t x y s k=retB (Nat.blt p q) s k:=rfl
theorem intBin_gtr:intBin .gtr p q P t x y s k=retB (Nat.blt q p) s k:=rfl
theorem intBin_leq:intBin .leq p q P t x y s k=retB (Nat.ble p q) s k:=rfl
theorem intBin_geq:intBin .geq p q P t x y s k=retB (Nat.ble q p) s k:=rfl
theorem intBin_eql:intBin .eql p q P t x y s k=retB (Nat.beq p q) s k:=rfl
theorem intBin_neq:intBin .neq p q P t x y s k=retB (Bool.not (Nat.beq p q)) s k:=rfl
end
theorem retI_st (w e:Nat) (m:Mem) (k:K2):(Bool.rec bad (k (Nat.add (Nat.mul w 16) 1) e m) (Nat.blt w 18446744073709551616):R)=retI w (stOf e m) fun c s=>memK s (k c):=rfl
theorem retB_st (b:Bool) (e:Nat) (m:Mem) (k:K2):(Bool.rec (k 2 e m) (k 18 e m) b:R)=retB b (stOf e m) fun c s=>memK s (k c):=rfl
theorem retB_st' (b:Bool) (e:Nat) (m:Mem) (k:K2):(Bool.rec (k 18 e m) (k 2 e m) b:R)=retB (Bool.not b) (stOf e m) fun c s=>memK s (k c):=by cases b <;> rfl
theorem ib_ok {o:BinOp} {b:BW} (hb:ibW o=some b) (t:TypeId) (x y:Operand) (p q e:Nat) (m:Mem) (k:K2):b.run p q e m k=intBin o p q P t x y (stOf e m) fun c s=>memK s (k c):=by
 cases o with
 | add=>cases hb; rw [intBin_add, ← retI_st]
 | sub=>cases hb; rw [intBin_sub, ← retI_st]
 | mul=>exact nomatch hb
 | quo=>exact nomatch hb
 | rem=>exact nomatch hb
 | and=>exact nomatch hb
 | or=>exact nomatch hb
 | xor=>exact nomatch hb
 | shl=>exact nomatch hb
 | shr=>exact nomatch hb
 | andNot=>exact nomatch hb
 | eql=>cases hb; rw [intBin_eql, ← retB_st]
 | neq=>cases hb; rw [intBin_neq, ← retB_st']
 | lss=>cases hb; rw [intBin_lss, ← retB_st]; rfl
 | leq=>cases hb; rw [intBin_leq, ← retB_st]
 | gtr=>cases hb; rw [intBin_gtr, ← retB_st]; rfl
 | geq=>cases hb; rw [intBin_geq, ← retB_st]
theorem bin2_ok {o:BinOp} {b:BW} (hb:ibW o=some b) (t u:TypeId) (x y:Operand):VOk P (bin2 P (.binOp o t x y u) x y b) (.binOp o t x y u):=fun cm e m k=>by
 show (Bool.rec (slowV P (.binOp o t x y u) cm e m k) (b.run (Nat.div ((cdW x).f e) 16) (Nat.div ((cdW y).f e) 16) e m k) (Nat.beq (Nat.add (Nat.mul (Nat.mod ((cdW x).f e) 16) 16) (Nat.mod ((cdW y).f e) 16)) 17):R)=_
 cases h:Nat.beq (Nat.add (Nat.mul (Nat.mod ((cdW x).f e) 16) 16) (Nat.mod ((cdW y).f e) 16)) 17 with
 | false=>rfl
 | true =>
  obtain ⟨h1,h2⟩:=tags h
  show _=qBin P o t x y (stOf e m) _
  unfold qBin
  rw [cdW_evK x e m _ (by omega),dec_1 h1]
  show _=evK y (stOf e m) _
  rw [cdW_evK y e m _ (by omega),dec_1 h2]
  exact ib_ok hb t x y _ _ e m k
theorem bin_ok (o:BinOp) (t u:TypeId) (x y:Operand):VOk P (binV P o (.binOp o t x y u) x y) (.binOp o t x y u):=by
 unfold binV
 cases hb:ibW o with
 | none=>exact slowW_ok _
 | some b=>exact bin2_ok hb t u x y
end
end Go.Ex
namespace Go.Ex
open Go.Fip
section
variable {P : Program}
theorem opt_congr {α:Type} {o:Option α} {k k':α→R} (h:∀ a,k a=k' a):optR o k=optR o k':=by rw [show k=k' from funext h]
theorem sideM_ok (a:AV) (e:Nat) (m:Mem) (k:K2):sideM a m (fun c m=>k c e m)=sideK a (stOf e m) fun c s=>memK s (k c):=by
 obtain ⟨ds,h,n,sd,sn,b⟩:=m
 cases sn <;> rfl
theorem piece_ok (z:Option Nat) (n c o e:Nat) (m:Mem) (k:K2):pieceM z n c o e m k=pieceK z n c o (stOf e m) fun c s=>memK s (k c):=by
 cases z with
 | none=>rfl
 | some z =>
  show (Bool.rec bad (sideM (.ag z (dgs c o z)) m fun c m=>k c e m) (Nat.ble (Nat.add o z) n):R)=_
  rw [sideM_ok]; rfl
theorem row_ok (e:Nat) (m:Mem) (r:Nat) (k:TypeId→Nat→Nat→R):rowM m r k=rowK (stOf e m) r k:=by
 obtain ⟨ds,h,n,sd,sn,b⟩:=m
 show (Option.rec (motive:=fun _=>R) bad _ (h.get r):R)=optR (rowT (h.get r)) _
 cases h.get r with
 | none=>rfl
 | some o=>cases o <;> rfl
theorem tag1 {a n:Nat} (h:Nat.beq (Nat.mod a 16) n=true):a % 16=n:=beq_t h
theorem load_ok (t:TypeId) (x:Operand):VOk P (loadV P (.load t x) x (shapeP P t)) (.load t x):=fun cm e m k=>by
 cases hz:shapeP P t with
 | none=>rfl
 | some z =>
  show (Bool.rec (slowV P (.load t x) cm e m k) (rowM m (Nat.mod (Nat.div ((cdW x).f e) 16) 16777216) fun _ n c=>pieceM z n c (Nat.div (Nat.div ((cdW x).f e) 16) 16777216) e m k) (Nat.beq (Nat.mod ((cdW x).f e) 16) 3):R)=_
  cases h:Nat.beq (Nat.mod ((cdW x).f e) 16) 3 with
  | false=>rfl
  | true =>
   have h:=tag1 h
   show _=evK x (stOf e m) _
   rw [cdW_evK x e m _ (by omega),dec_3 h,row_ok e]
   show _=rowK (stOf e m) ((cdW x).f e / 16 % 16777216) fun _ n c=>optR (shapeP P t) fun z=>pieceK z n c ((cdW x).f e / 16 / 16777216) (stOf e m) _
   rw [hz]
   show rowK (stOf e m) _ _=rowK (stOf e m) _ _
   congr 1
   funext E n c
   exact piece_ok z n c _ e m k
theorem cells1 {d:Nat} (h:Nat.ble (Nat.mod (Nat.add (Nat.mod d 16) 15) 16) 4=true) (sd:T AV):∃ a,dec d sd=some a∧∀ k,cellsT (some a) d k=k 1 d:=by
 have h:(d % 16+15) % 16≤4:=Nat.le_of_ble_eq_true h
 have:d % 16=1∨d % 16=2∨d % 16=3∨d % 16=4∨d % 16=5:=by omega
 rcases this with h | h | h | h | h
 ·exact ⟨_,dec_1 h sd,fun _=>rfl⟩
 ·exact ⟨_,dec_2 h sd,fun _=>rfl⟩
 ·exact ⟨_,dec_3 h sd,fun _=>rfl⟩
 ·exact ⟨_,dec_4 h sd,fun _=>rfl⟩
 ·exact ⟨_,dec_5 h sd,fun _=>rfl⟩
theorem cells1_ne {d:Nat} (h:Nat.ble (Nat.mod (Nat.add (Nat.mod d 16) 15) 16) 4=true):d % 16≠0:=by
 have h:(d % 16+15) % 16≤4:=Nat.le_of_ble_eq_true h
 omega
theorem store_ok (t : TypeId) (a x : Operand) : VOk P (storeV P (.store t a x) a x (sizeP P t)) (.store t a x) := fun cm e m k => by
  cases hz : sizeP P t with
  | none => rfl
  | some z =>
    show VW.run (Bool.rec _ _ (Nat.beq z 1)) cm e m k = _
    cases hz1 : Nat.beq z 1 with
    | false => rfl
    | true =>
      show (Bool.rec (slowV P (.store t a x) cm e m k) (rowM m (Nat.mod (Nat.div ((cdW a).f e) 16) 16777216) fun E n c => Bool.rec bad (setM m (Nat.mod (Nat.div ((cdW a).f e) 16) 16777216) E n (sds c (Nat.div (Nat.div ((cdW a).f e) 16) 16777216) 1 ((cdW x).f e)) fun m => k 0 e m) (Nat.ble (Nat.succ (Nat.div (Nat.div ((cdW a).f e) 16) 16777216)) n))
        (Bool.and (Nat.beq (Nat.mod ((cdW a).f e) 16) 3) (Nat.ble (Nat.mod (Nat.add (Nat.mod ((cdW x).f e) 16) 15) 16) 4)) : R) = _
      cases h : Bool.and (Nat.beq (Nat.mod ((cdW a).f e) 16) 3) (Nat.ble (Nat.mod (Nat.add (Nat.mod ((cdW x).f e) 16) 15) 16) 4) with
      | false => rfl
      | true =>
        obtain ⟨h1, h2⟩ := and_tt h
        have h1 := tag1 h1
        obtain ⟨v, hv, hc⟩ := cells1 h2 m.side
        have hz1 := beq_t hz1
        subst hz1
        show _ = evC x (stOf e m) _
        rw [cdW_evC x e m (cells1_ne h2)]
        show _ = evK a (stOf e m) _
        rw [cdW_evK a e m _ (by omega), dec_3 h1, row_ok e]
        show _ = cellsT (dec ((cdW x).f e) m.side) ((cdW x).f e) fun m' e' => optR (sizeP P t) fun z => Bool.rec bad (setCells ((cdW a).f e / 16 % 16777216) ((cdW a).f e / 16 / 16777216) m' e' (stOf e m) fun s => memK s (k 0)) (Nat.beq m' z)
        rw [hv, hc, hz]
        rfl
theorem blt_ble (a b:Nat):Nat.blt a b=Nat.ble (Nat.succ a) b:=rfl
theorem lor_blt {r o : Nat} (hr : r < 16777216) : Nat.blt (Nat.lor r o) 16777216 = Nat.blt o 16777216 := by
  by_cases h : o < 16777216
  · have h2 : r ||| o < 2 ^ 24 := Nat.or_lt_two_pow (by omega) (by omega)
    rw [show Nat.blt o 16777216 = true from Nat.ble_eq_true_of_le h]
    exact Nat.ble_eq_true_of_le (show r ||| o < 16777216 by omega)
  · have h2 : o ≤ r ||| o := Nat.right_le_or
    have e1 : Nat.blt o 16777216 = false := by cases hb : Nat.blt o 16777216 with | false => rfl | true => exact absurd (Nat.le_of_ble_eq_true hb) h
    have e2 : Nat.blt (Nat.lor r o) 16777216 = false := by cases hb : Nat.blt (Nat.lor r o) 16777216 with | false => rfl | true => exact absurd (show r ||| o < 16777216 from Nat.le_of_ble_eq_true hb) (by omega)
    rw [e1, e2]
theorem fieldSz_some {t:TypeId} {i off O z:Nat} (h:fieldSz P t i=some (off,O,z)):∃ f,fieldP P t i=some f∧sizeP P f.type=some z∧off=f.offset∧O=Nat.mul off 268435456:=by
 unfold fieldSz at h
 cases hf:fieldP P t i with
 | none=>rw [hf] at h; cases h
 | some f =>
  rw [hf] at h
  have h:(sizeP P f.type).map (fun z=>(f.offset,Nat.mul f.offset 268435456,z))=some (off,O,z):=h
  cases hs:sizeP P f.type with
  | none=>rw [hs] at h; cases h
  | some z' =>
   rw [hs] at h
   have h:=Option.some.inj h
   have h1:f.offset=off:=congrArg (·.1) h
   have h2:Nat.mul f.offset 268435456=O:=congrArg (·.2.1) h
   have h3:z'=z:=congrArg (·.2.2) h
   exact ⟨f,rfl,by rw [hs,h3],h1.symm,by rw [← h2,h1]⟩
theorem fa_code {a:Nat} (h:a % 16=3) (off:Nat):code (Nat.add (Nat.mul (Nat.add (a / 16 / 16777216) off) 16777216) (a / 16 % 16777216)) 3=Nat.add a (Nat.mul off 268435456):=by
 unfold code
 simp only [Nat.add_eq,Nat.mul_eq]
 omega
theorem fa_div (a:Nat):Nat.div a 268435456=a / 16 / 16777216:=by
 show a / 268435456=_
 omega
theorem fieldAddr_ok (t:TypeId) (x:Operand) (i:Nat):VOk P (fieldAddrV P (.fieldAddr t x i) x (fieldSz P t i)) (.fieldAddr t x i):=fun cm e m k=>by
 cases hf:fieldSz P t i with
 | none=>rfl
 | some f =>
  obtain ⟨off,O,z⟩:=f
  cases z with
  | zero=>rfl
  | succ z =>
   obtain ⟨f,hf1,hf2,hf3,hO⟩:=fieldSz_some hf
   show (Bool.rec (slowV P (.fieldAddr t x i) cm e m k) (Bool.rec bad (k (Nat.add ((cdW x).f e) O) e m) (Nat.ble (Nat.succ (Nat.add (Nat.div ((cdW x).f e) 268435456) off)) 16777216)) (Nat.beq (Nat.mod ((cdW x).f e) 16) 3):R)=_
   cases h:Nat.beq (Nat.mod ((cdW x).f e) 16) 3 with
   | false=>rfl
   | true =>
    have h:=tag1 h
    show _=evK x (stOf e m) _
    rw [cdW_evK x e m _ (by omega),dec_3 h]
    show _=optR (fieldP P t i) fun f=>optR (sizeP P f.type) fun z=>Nat.rec (motive:=fun _=>R) bad (fun _ _=>enc (.pt ((cdW x).f e / 16 % 16777216) (Nat.add ((cdW x).f e / 16 / 16777216) f.offset)) (stOf e m) fun c s=>memK s (k c)) z
    rw [hf1]
    show _=optR (sizeP P f.type) fun z=>Nat.rec (motive:=fun _=>R) bad (fun _ _=>enc (.pt ((cdW x).f e / 16 % 16777216) (Nat.add ((cdW x).f e / 16 / 16777216) f.offset)) (stOf e m) fun c s=>memK s (k c)) z
    rw [hf2, ← hf3]
    show _=(Bool.rec bad (k (code (Nat.add (Nat.mul (Nat.add ((cdW x).f e / 16 / 16777216) off) 16777216) ((cdW x).f e / 16 % 16777216)) 3) e m) (Nat.blt (Nat.lor ((cdW x).f e / 16 % 16777216) (Nat.add ((cdW x).f e / 16 / 16777216) off)) 16777216):R)
    rw [lor_blt (Nat.mod_lt _ (by decide))]
    rw [fa_code h,fa_div,blt_ble,hO]
theorem idxK_i (i n:Nat) (k:Nat→R):idxK (.i i) n k=optR (Bool.rec none (Bool.rec none (some (Nat.sub i 9223372036854775808)) (Nat.blt (Nat.sub i 9223372036854775808) n)) (Nat.ble 9223372036854775808 i)) k:=rfl
theorem idxM_ok (i n:Nat) (k:Nat→R):idxM i n k=idxK (.i i) n k:=by
 rw [idxK_i,blt_ble]
 unfold idxM
 generalize Nat.sub i 9223372036854775808=w
 cases Nat.ble 9223372036854775808 i <;> cases Nat.ble (Nat.succ w) n <;> rfl
theorem idxS_ok (t : TypeId) (x i : Operand) : VOk P (idxS P (.indexAddr t x i) x i (sizeSl P t)) (.indexAddr t x i) := fun cm e m k => by
  cases hz : sizeSl P t with
  | none => rfl
  | some z =>
    show (Bool.rec (slowV P (.indexAddr t x i) cm e m k) (idxM (Nat.div ((cdW i).f e) 16) (Nat.mod (Nat.div (Nat.div ((cdW x).f e) 16) 281474976710656) 16777216) fun j => ptM (Nat.mod (Nat.div ((cdW x).f e) 16) 16777216) (Nat.add (Nat.mod (Nat.div (Nat.div ((cdW x).f e) 16) 16777216) 16777216) (Nat.mul j z)) e m k)
      (Nat.beq (Nat.add (Nat.mul (Nat.mod ((cdW x).f e) 16) 16) (Nat.mod ((cdW i).f e) 16)) 65) : R) = _
    cases h : Nat.beq (Nat.add (Nat.mul (Nat.mod ((cdW x).f e) 16) 16) (Nat.mod ((cdW i).f e) 16)) 65 with
    | false => rfl
    | true =>
      obtain ⟨h1, h2⟩ := tags h
      have hs : ∃ E, sliceP P t = some E ∧ sizeP P E = some z := by
        unfold sizeSl at hz
        cases hs : sliceP P t with
        | none => rw [hs] at hz; cases hz
        | some E => rw [hs] at hz; exact ⟨E, rfl, hz⟩
      obtain ⟨E, hs1, hs2⟩ := hs
      show _ = evK x (stOf e m) _
      rw [cdW_evK x e m _ (by omega), dec_4 h1]
      show _ = evK i (stOf e m) _
      rw [cdW_evK i e m _ (by omega), dec_1 h2]
      show _ = optR (sliceP P t) fun E => idxK (.i ((cdW i).f e / 16)) ((cdW x).f e / 16 / 281474976710656 % 16777216) fun j => optR (sizeP P E) fun m' => enc (.pt ((cdW x).f e / 16 % 16777216) (Nat.add ((cdW x).f e / 16 / 16777216 % 16777216) (Nat.mul j m'))) (stOf e m) fun c s => memK s (k c)
      rw [hs1]
      show _ = idxK (.i ((cdW i).f e / 16)) ((cdW x).f e / 16 / 281474976710656 % 16777216) fun j => optR (sizeP P E) fun m' => enc (.pt ((cdW x).f e / 16 % 16777216) (Nat.add ((cdW x).f e / 16 / 16777216 % 16777216) (Nat.mul j m'))) (stOf e m) fun c s => memK s (k c)
      rw [hs2, idxM_ok]
      rfl
theorem idxA_ok (t : TypeId) (x i : Operand) : VOk P (idxA P (.indexAddr t x i) x i (sizeAr P t)) (.indexAddr t x i) := fun cm e m k => by
  cases hz : sizeAr P t with
  | none => rfl
  | some q =>
    obtain ⟨l, z⟩ := q
    show (Bool.rec (slowV P (.indexAddr t x i) cm e m k) (idxM (Nat.div ((cdW i).f e) 16) l fun j => ptM (Nat.mod (Nat.div ((cdW x).f e) 16) 16777216) (Nat.add (Nat.div (Nat.div ((cdW x).f e) 16) 16777216) (Nat.mul j z)) e m k)
      (Nat.beq (Nat.add (Nat.mul (Nat.mod ((cdW x).f e) 16) 16) (Nat.mod ((cdW i).f e) 16)) 49) : R) = _
    cases h : Nat.beq (Nat.add (Nat.mul (Nat.mod ((cdW x).f e) 16) 16) (Nat.mod ((cdW i).f e) 16)) 49 with
    | false => rfl
    | true =>
      obtain ⟨h1, h2⟩ := tags h
      have hs : ∃ E, arrP P t = some (l, E) ∧ sizeP P E = some z := by
        unfold sizeAr at hz
        cases hs : arrP P t with
        | none => rw [hs] at hz; cases hz
        | some y =>
          rw [hs] at hz
          have hz : (sizeP P y.2).map (fun z => (y.1, z)) = some (l, z) := hz
          cases hy : sizeP P y.2 with
          | none => rw [hy] at hz; cases hz
          | some z' => rw [hy] at hz; cases hz; exact ⟨y.2, rfl, hy⟩
      obtain ⟨E, hs1, hs2⟩ := hs
      show _ = evK x (stOf e m) _
      rw [cdW_evK x e m _ (by omega), dec_3 h1]
      show _ = evK i (stOf e m) _
      rw [cdW_evK i e m _ (by omega), dec_1 h2]
      show _ = optR (arrP P t) fun y => idxK (.i ((cdW i).f e / 16)) y.1 fun j => optR (sizeP P y.2) fun m' => enc (.pt ((cdW x).f e / 16 % 16777216) (Nat.add ((cdW x).f e / 16 / 16777216) (Nat.mul j m'))) (stOf e m) fun c s => memK s (k c)
      rw [hs1]
      show _ = idxK (.i ((cdW i).f e / 16)) l fun j => optR (sizeP P E) fun m' => enc (.pt ((cdW x).f e / 16 % 16777216) (Nat.add ((cdW x).f e / 16 / 16777216) (Nat.mul j m'))) (stOf e m) fun c s => memK s (k c)
      rw [hs2, idxM_ok]
      rfl
theorem indexAddr_ok (t:TypeId) (x i:Operand):VOk P (opV P (.indexAddr t x i)) (.indexAddr t x i):=by
 show VOk P (Option.rec (motive:=fun _=>VW) _ _ (sliceP P t)) _
 cases sliceP P t with
 | none=>exact idxA_ok t x i
 | some E=>exact idxS_ok t x i
end
end Go.Ex
namespace Go.Ex
open Go.Fip
section
variable {P : Program}
theorem idx_congr {a:AV} {n:Nat} {k k':Nat→R} (h:∀ j,k j=k' j):idxK a n k=idxK a n k':=by rw [show k=k' from funext h]
theorem agM_eq (m:Mem) (a:Nat) (k:Nat→Nat→R) (o:R):agM m a k o=optR (m.side.get a) fun v=>AV.rec (motive:=fun _=>R) (fun _=>o) (fun _=>o) (fun _ _=>o) (fun _ _ _ _=>o) (fun _=>o) o (fun _=>o) (fun _=>o) (fun _ _ _ _ _=>o) (fun n c=>k n c) (fun _ _=>o) v:=by
 obtain ⟨ds,h,n,sd,sn,b⟩:=m
 show (Option.rec (motive:=fun _=>R) bad _ (sd.get a):R)=optR (sd.get a) _
 cases sd.get a <;> rfl
theorem sideGet_eq (m:Mem) (a:Nat) (k:AV→R):sideGet m a k=optR (m.side.get a) k:=by
 obtain ⟨ds,h,n,sd,sn,b⟩:=m
 show (Option.rec (motive:=fun _=>R) bad _ (sd.get a):R)=optR (sd.get a) _
 cases sd.get a <;> rfl
theorem optR_some {α:Type} (a:α) (k:α→R):optR (some a) k=k a:=rfl
theorem nat1_eq (n:Nat) (s:St) (k:Nat→St→R):nat1 n s k=retI (Nat.add n 9223372036854775808) s k:=rfl
theorem indexT_ag (n c:Nat) (i:AV) (t:TypeId) (s:St) (k:Nat→St→R):indexT (.ag n c) i P t s k=optR (arrP P t) fun y=>idxK i y.1 fun j=>optR (shapeP P y.2) fun z=>optR (sizeP P y.2) fun m'=>pieceK z n c (Nat.mul j m') s k:=rfl
theorem qLen_one (x:Operand) (t:TypeId) (ts:List TypeId) (s:St) (k:Nat→St→R):qLen P [x] (t::ts) s k=evK x s fun a=>optR (P.underlying t) fun d=>optR (lenD d P a s) fun n=>nat1 n s k:=rfl
theorem lenD_sl (E:TypeId) (r o n c:Nat) (s:St):lenD (.slice E) P (.sl r o n c) s=some n:=rfl
theorem indexSh_some {t:TypeId} {l w:Nat} {z:Option Nat} (h:indexSh P t=some (l,w,z)):∃ E,arrP P t=some (l,E)∧shapeP P E=some z∧sizeP P E=some w:=by
 unfold indexSh at h
 cases hs:arrP P t with
 | none=>rw [hs] at h; cases h
 | some y =>
  rw [hs] at h
  have h:((shapeP P y.2).bind fun z=>(sizeP P y.2).map fun w=>(y.1,w,z))=some (l,w,z):=h
  cases h1:shapeP P y.2 with
  | none=>rw [h1] at h; cases h
  | some z' =>
   rw [h1] at h
   have h:(sizeP P y.2).map (fun w=>(y.1,w,z'))=some (l,w,z):=h
   cases h2:sizeP P y.2 with
   | none=>rw [h2] at h; cases h
   | some w'=>rw [h2] at h; cases h; exact ⟨y.2,rfl,h1,h2⟩
theorem index_ok (t:TypeId) (x i:Operand):VOk P (indexV P (.index t x i) x i (indexSh P t)) (.index t x i):=fun cm e m k=>by
 cases hq:indexSh P t with
 | none=>rfl
 | some q =>
  obtain ⟨l,w,z⟩:=q
  obtain ⟨E,hE1,hE2,hE3⟩:=indexSh_some hq
  show (Bool.rec (slowV P (.index t x i) cm e m k) (agM m (Nat.div ((cdW x).f e) 16) (fun n c=>idxM (Nat.div ((cdW i).f e) 16) l fun j=>pieceM z n c (Nat.mul j w) e m k) (slowV P (.index t x i) cm e m k)) (Nat.beq (Nat.add (Nat.mul (Nat.mod ((cdW x).f e) 16) 16) (Nat.mod ((cdW i).f e) 16)) 97):R)=_
  cases h:Nat.beq (Nat.add (Nat.mul (Nat.mod ((cdW x).f e) 16) 16) (Nat.mod ((cdW i).f e) 16)) 97 with
  | false=>rfl
  | true =>
   obtain ⟨h1,h2⟩:=tags h
   have hs:slowV P (.index t x i) cm e m k=optR (m.side.get ((cdW x).f e / 16)) fun a=>indexT a (.i ((cdW i).f e / 16)) P t (stOf e m) fun c s=>memK s (k c):=by
    show evK x (stOf e m) _=_
    rw [cdW_evK x e m _ (by omega),dec_6 h1]
    refine opt_congr fun a=>?_
    rw [cdW_evK i e m _ (by omega),dec_1 h2]
    rfl
   show agM m (Nat.div ((cdW x).f e) 16) _ _=_
   rw [agM_eq]
   refine Eq.trans ?_ hs.symm
   show optR (m.side.get ((cdW x).f e / 16)) _=_
   have key:∀ a,m.side.get ((cdW x).f e / 16)=some a→(∀ n c,a≠.ag n c)→slowV P (.index t x i) cm e m k=indexT a (.i ((cdW i).f e / 16)) P t (stOf e m) fun c s=>memK s (k c):=fun a ha _=>by rw [hs,ha]; rfl
   cases hg:m.side.get ((cdW x).f e / 16) with
   | none=>rfl
   | some a =>
    cases a with
    | ag n c =>
     simp only [optR_some,indexT_ag,hE1,hE2,hE3,idxM_ok]
     exact idx_congr fun j=>piece_ok z n c _ e m k
    | i p=>exact key _ hg (fun _ _ h=>nomatch h)
    | b p=>exact key _ hg (fun _ _ h=>nomatch h)
    | pt r o=>exact key _ hg (fun _ _ h=>nomatch h)
    | sl r o n c=>exact key _ hg (fun _ _ h=>nomatch h)
    | mp r=>exact key _ hg (fun _ _ h=>nomatch h)
    | em=>exact key _ hg (fun _ _ h=>nomatch h)
    | yd r=>exact key _ hg (fun _ _ h=>nomatch h)
    | x u=>exact key _ hg (fun _ _ h=>nomatch h)
    | fn f a b c d=>exact key _ hg (fun _ _ h=>nomatch h)
    | tu n c=>exact key _ hg (fun _ _ h=>nomatch h)
theorem fieldSh_some {t:TypeId} {i off:Nat} {z:Option Nat} (h:fieldSh P t i=some (off,z)):∃ f,fieldP P t i=some f∧shapeP P f.type=some z∧off=f.offset:=by
 unfold fieldSh at h
 cases hf:fieldP P t i with
 | none=>rw [hf] at h; cases h
 | some f =>
  rw [hf] at h
  have h:(shapeP P f.type).map (fun z=>(f.offset,z))=some (off,z):=h
  cases hs:shapeP P f.type with
  | none=>rw [hs] at h; cases h
  | some z'=>rw [hs] at h; cases h; exact ⟨f,rfl,hs,rfl⟩
theorem field_ok (t:TypeId) (x:Operand) (i:Nat):VOk P (fieldV P (.field t x i) x (fieldSh P t i)) (.field t x i):=fun cm e m k=>by
 cases hf:fieldSh P t i with
 | none=>rfl
 | some f =>
  obtain ⟨off,z⟩:=f
  obtain ⟨f,hf1,hf2,hf3⟩:=fieldSh_some hf
  show (Bool.rec (slowV P (.field t x i) cm e m k) (agM m (Nat.div ((cdW x).f e) 16) (fun n c=>pieceM z n c off e m k) bad) (Nat.beq (Nat.mod ((cdW x).f e) 16) 6):R)=_
  cases h:Nat.beq (Nat.mod ((cdW x).f e) 16) 6 with
  | false=>rfl
  | true =>
   have h:=tag1 h
   show _=evK x (stOf e m) _
   rw [cdW_evK x e m _ (by omega),dec_6 h]
   show agM m (Nat.div ((cdW x).f e) 16) _ _=_
   rw [agM_eq]
   refine opt_congr fun a=>?_
   cases a with
   | ag n c =>
    show pieceM z n c off e m k=optR (fieldP P t i) fun f=>optR (shapeP P f.type) fun z=>pieceK z n c f.offset (stOf e m) fun c s=>memK s (k c)
    rw [hf1]
    show pieceM z n c off e m k=optR (shapeP P f.type) fun z=>pieceK z n c f.offset (stOf e m) fun c s=>memK s (k c)
    rw [hf2, ← hf3]
    exact piece_ok z n c _ e m k
   | i p=>rfl
   | b p=>rfl
   | pt r o=>rfl
   | sl r o n c=>rfl
   | mp r=>rfl
   | em=>rfl
   | yd r=>rfl
   | x u=>rfl
   | fn f a b c d=>rfl
   | tu n c=>rfl
theorem extract_ok (x:Operand) (i:Nat):VOk P (extractV P (.extract x i) x i) (.extract x i):=fun cm e m k=>by
 show (Bool.rec (slowV P (.extract x i) cm e m k) (sideGet m (Nat.div ((cdW x).f e) 16) _) (Nat.beq (Nat.mod ((cdW x).f e) 16) 6):R)=_
 cases h:Nat.beq (Nat.mod ((cdW x).f e) 16) 6 with
 | false=>rfl
 | true =>
  have h:=tag1 h
  show _=evK x (stOf e m) _
  rw [cdW_evK x e m _ (by omega),dec_6 h]
  show sideGet m (Nat.div ((cdW x).f e) 16) _=_
  rw [sideGet_eq]
  refine opt_congr fun a=>?_
  cases a <;> rfl
theorem nilCheck_ok (x:Operand):VOk P (nilCheckV P (.nilCheck x) x) (.nilCheck x):=fun cm e m k=>by
 show (Bool.rec (slowV P (.nilCheck x) cm e m k) (k ((cdW x).f e) e m) (Nat.beq (Nat.mod ((cdW x).f e) 16) 3):R)=_
 cases h:Nat.beq (Nat.mod ((cdW x).f e) 16) 3 with
 | false=>rfl
 | true =>
  have h:=tag1 h
  show _=evC x (stOf e m) _
  rw [cdW_evC x e m (by omega),cdW_evK x e m _ (by omega),dec_3 h]
  rfl
theorem not_ok (t:TypeId) (x:Operand):VOk P (notV P (.unOp .not t x) x) (.unOp .not t x):=fun cm e m k=>by
 show (Bool.rec (Bool.rec (slowV P (.unOp .not t x) cm e m k) (k 18 e m) (Nat.beq ((cdW x).f e) 2)) (k 2 e m) (Nat.beq ((cdW x).f e) 18):R)=_
 cases h:Nat.beq ((cdW x).f e) 18 with
 | false =>
  cases h2:Nat.beq ((cdW x).f e) 2 with
  | false=>rfl
  | true =>
   have h2:=beq_t h2
   show _=evK x (stOf e m) _
   rw [cdW_evK x e m _ (by rw [h2]; decide),h2]
   rfl
 | true =>
  have h:=beq_t h
  show _=evK x (stOf e m) _
  rw [cdW_evK x e m _ (by rw [h]; decide),h]
  rfl
theorem pick_ok (c a b:Operand):VOk P (pickV P (.pick c a b) c (rdV a) (rdV b)) (.pick c a b):=fun cm e m k=>by
 show (Bool.rec (Bool.rec (slowV P (.pick c a b) cm e m k) ((rdV b).run cm e m k) (Nat.beq ((cdW c).f e) 2)) ((rdV a).run cm e m k) (Nat.beq ((cdW c).f e) 18):R)=_
 cases h:Nat.beq ((cdW c).f e) 18 with
 | false =>
  cases h2:Nat.beq ((cdW c).f e) 2 with
  | false=>rfl
  | true =>
   have h2:=beq_t h2
   show (rdV b).run cm e m k=evK c (stOf e m) _
   rw [cdW_evK c e m _ (by rw [h2]; decide),h2,rdV_ok]
   rfl
 | true =>
  have h:=beq_t h
  show (rdV a).run cm e m k=evK c (stOf e m) _
  rw [cdW_evK c e m _ (by rw [h]; decide),h,rdV_ok]
  rfl
theorem litsD_ok:∀ (l:List Value) (n d n' d':Nat),litsD l n d=some (n',d')→∀ (s:St) (k:Nat→Nat→St→R),encs l s n d k=k n' d' s
 | [],n,d,n',d',h,s,k=>by cases h; rfl
 | v::l,n,d,n',d',h,s,k=>by
  have h:(litD (AV.of v)).bind (fun c=>litsD l (Nat.succ n) (Nat.add d (Nat.shiftLeft c (Nat.mul n 128))))=some (n',d'):=h
  cases hc:litD (AV.of v) with
  | none=>rw [hc] at h; cases h
  | some c =>
   rw [hc] at h
   have ih:=litsD_ok l _ _ _ _ h s k
   rw [← ih]
   show encS (AV.of v) s _=_
   cases hv:AV.of v with
   | i p =>
    rw [hv] at hc
    have hc:(Bool.rec none (some (code p 1)) (Nat.blt p 18446744073709551616):Option Nat)=some c:=hc
    show (Bool.rec bad _ (Nat.blt p 18446744073709551616):R)=_
    cases hb:Nat.blt p 18446744073709551616 with
    | false=>rw [hb] at hc; cases hc
    | true=>rw [hb] at hc; have hc:=Option.some.inj hc; rw [← hc]; rfl
   | b p =>
    rw [hv] at hc
    have hc:(Bool.rec none (some (code p 2)) (Nat.blt p 2):Option Nat)=some c:=hc
    show (Bool.rec bad _ (Nat.blt p 2):R)=_
    cases hb:Nat.blt p 2 with
    | false=>rw [hb] at hc; cases hc
    | true=>rw [hb] at hc; have hc:=Option.some.inj hc; rw [← hc]; rfl
   | pt r o=>rw [hv] at hc; cases hc
   | sl r o n c=>rw [hv] at hc; cases hc
   | mp r=>rw [hv] at hc; cases hc
   | em=>rw [hv] at hc; cases hc
   | yd r=>rw [hv] at hc; cases hc
   | x u=>rw [hv] at hc; cases hc
   | fn f a b c d=>rw [hv] at hc; cases hc
   | ag n c=>rw [hv] at hc; cases hc
   | tu n c=>rw [hv] at hc; cases hc
theorem newM_ok (o:AO) (e:Nat) (m:Mem) (k:K2):newM o m (fun c m=>k c e m)=alloc (stOf e m) o fun r s=>enc (.pt r 0) s fun c s=>memK s (k c):=by
 obtain ⟨ds,h,n,sd,sn,b⟩:=m
 cases n with
 | zero=>rfl
 | succ j =>
  show (Bool.rec bad (k (Nat.add (Nat.mul (j+1) 16) 3) e ⟨ds,h.put (j+1) (some o),Nat.succ (j+1),sd,sn,b⟩) (Nat.blt (j+1) 16777216):R) =
   (Bool.rec bad (Bool.rec bad (k (code (Nat.add (Nat.mul 0 16777216) (j+1)) 3) e ⟨ds,h.put (j+1) (some o),Nat.succ (j+1),sd,sn,b⟩) (Nat.blt (Nat.lor (j+1) 0) 16777216)) (Nat.blt (j+1) 16777216):R)
  rw [show Nat.lor (j+1) 0=j+1 from Nat.or_zero _,show code (Nat.add (Nat.mul 0 16777216) (j+1)) 3=Nat.add (Nat.mul (j+1) 16) 3 by unfold code; simp only [Nat.add_eq,Nat.mul_eq]; omega]
  cases Nat.blt (j+1) 16777216 <;> rfl
theorem alloc_ok (t:TypeId):VOk P (allocV P (.alloc t) t ((zeroP P t).bind fun z=>litsD z.cells.toList 0 0)) (.alloc t):=fun cm e m k=>by
 cases hz:zeroP P t with
 | none=>rfl
 | some z =>
  show (allocV P (.alloc t) t (litsD z.cells.toList 0 0)).run cm e m k=_
  cases hl:litsD z.cells.toList 0 0 with
  | none=>rfl
  | some y =>
   obtain ⟨n,d⟩:=y
   show VW.run (Bool.rec _ _ (Nat.blt n 16777216)) cm e m k=_
   cases hb:Nat.blt n 16777216 with
   | false=>rfl
   | true =>
    show newM (.row t n d) m (fun c m=>k c e m)=optR (zeroP P t) fun z=>encs z.cells.toList (stOf e m) 0 0 fun n c s=>newRow t n c s fun r s=>enc (.pt r 0) s fun c s=>memK s (k c)
    rw [hz]
    show _=encs z.cells.toList (stOf e m) 0 0 fun n c s=>newRow t n c s fun r s=>enc (.pt r 0) s fun c s=>memK s (k c)
    rw [litsD_ok _ _ _ _ _ hl,newM_ok]
    show _=(Bool.rec bad _ (Nat.blt n 16777216):R)
    rw [hb]
theorem box_ok (t:TypeId) (x:Operand):VOk P (boxV P (.box t x) t x) (.box t x):=fun cm e m k=>by
 show (Bool.rec (slowV P (.box t x) cm e m k) (newM (.row t 1 ((cdW x).f e)) m fun c m=>k c e m) (Nat.ble (Nat.mod (Nat.add (Nat.mod ((cdW x).f e) 16) 15) 16) 4):R)=_
 cases h:Nat.ble (Nat.mod (Nat.add (Nat.mod ((cdW x).f e) 16) 15) 16) 4 with
 | false=>rfl
 | true =>
  obtain ⟨v,hv,hc⟩:=cells1 h m.side
  show _=evC x (stOf e m) _
  rw [cdW_evC x e m (cells1_ne h)]
  show _=cellsT (dec ((cdW x).f e) m.side) ((cdW x).f e) fun n c=>newRow t n c (stOf e m) fun r s=>enc (.pt r 0) s fun c s=>memK s (k c)
  rw [hv,hc]
  exact newM_ok _ e m k
theorem sliceP_und {t E:TypeId} (h:sliceP P t=some E):P.underlying t=some (.slice E):=by
 unfold sliceP at h
 cases hu:P.underlying t with
 | none=>rw [hu] at h; cases h
 | some d =>
  rw [hu] at h
  have h:sliceT d=some E:=h
  cases d <;> first | (cases h; rfl) | cases h
theorem lenMk_eq (n e:Nat) (m:Mem) (k:K2):lenMk n e m k=k (Nat.add (Nat.mul (Nat.add n 9223372036854775808) 16) 1) e m:=rfl
theorem lenMk_ok (n:Nat) (hn:n<16777216) (e:Nat) (m:Mem) (k:K2):lenMk n e m k=retI (Nat.add n 9223372036854775808) (stOf e m) fun c s=>memK s (k c):=by
 rw [← retI_st,lenMk_eq]
 have hb:Nat.blt (Nat.add n 9223372036854775808) 18446744073709551616=true:=by
  refine Nat.ble_eq_true_of_le ?_
  simp only [Nat.add_eq]
  omega
 rw [hb]
theorem mdd (a:Nat):Nat.mod (Nat.div (Nat.div a 16) 281474976710656) 16777216=a / 16 / 281474976710656 % 16777216:=rfl
theorem lenX_run (op:Op) (x:Operand) (cm:CallM) (e:Nat) (m:Mem) (k:K2) :
  (lenX P op x).run cm e m k=(Bool.rec (slowV P op cm e m k) (lenMk (Nat.mod (Nat.div (Nat.div ((cdW x).f e) 16) 281474976710656) 16777216) e m k) (Nat.beq (Nat.mod ((cdW x).f e) 16) 4):R):=by
 unfold lenX
 generalize cdW x=w
 cases w
 rfl
theorem lenX_ok (op:Op) (x:Operand) (t E:TypeId) (ht:sliceP P t=some E) (cm:CallM) (e:Nat) (m:Mem) (k:K2) (h:(cdW x).f e % 16=4) :
  lenMk ((cdW x).f e / 16 / 281474976710656 % 16777216) e m k=evK x (stOf e m) fun a=>optR (P.underlying t) fun d=>optR (lenD d P a (stOf e m)) fun n=>nat1 n (stOf e m) fun c s=>memK s (k c):=by
 rw [lenMk_ok _ (Nat.mod_lt _ (by decide)),cdW_evK x e m _ (by omega),dec_4 h,optR_some,sliceP_und ht,optR_some,lenD_sl,optR_some,nat1_eq]
theorem len_ok (c:Call) (hc:c.callee=.builtin .len):VOk P (lenV P (.call c) c.args.toList c.argTypes.toList) (.call c):=fun cm e m k=>by
 have hs:slowV P (.call c) cm e m k=qLen P c.args.toList c.argTypes.toList (stOf e m) fun c s=>memK s (k c):=by
  show calleeT c.callee (callOf cm) P c.args.toList c.argTypes.toList (stOf e m) _=_
  rw [hc]; rfl
 cases hx:one c.args.toList with
 | none=>unfold lenV; rw [hx]; rfl
 | some x =>
  cases ht:(head c.argTypes.toList).bind (sliceP P) with
  | none=>unfold lenV; rw [hx,ht]; rfl
  | some E =>
   have e0:lenV P (.call c) c.args.toList c.argTypes.toList=lenX P (.call c) x:=by unfold lenV; rw [hx,ht]
   rw [e0,lenX_run]
   cases h:Nat.beq (Nat.mod ((cdW x).f e) 16) 4 with
   | false=>rfl
   | true =>
    have h:=tag1 h
    rw [hs,mdd]
    clear hs e0
    generalize c.args.toList=xs at hx
    generalize c.argTypes.toList=ts at ht
    match xs,hx,ts,ht with
    | [x'],hx,t::ts,ht =>
     cases hx
     rw [qLen_one]
     exact lenX_ok (.call c) x t E ht cm e m k h
theorem args_ok:∀ (l:List Operand) (n:Nat) (cm:CallM) (e:Nat) (m:Mem) (d:Nat) (k:Nat→Nat→Nat→Mem→R),(argsW l n).run cm e m d k=evsC l (stOf e m) n d fun n d s=>memK s (k n d)
 | [],n,cm,e,m,d,k=>rfl
 | x::l,n,cm,e,m,d,k=>by
  show (rdV x).run cm e m (fun c e m=>(argsW l (Nat.succ n)).run cm e m (Nat.add d (Nat.shiftLeft c (Nat.mul n 128))) k)=_
  rw [rdV_ok]
  show evC x (stOf e m) _=evC x (stOf e m) _
  congr 1
  funext c s
  obtain ⟨e',ds,h,nx,sd,sn,b⟩:=s
  exact args_ok l (Nat.succ n) cm e' ⟨ds,h,nx,sd,sn,b⟩ _ k
theorem callee_ok (x:Operand) (xs:List Operand) (ts:List TypeId) (cm:CallM) (e:Nat) (m:Mem) (k:K2):(calleeV x (argsW xs 0)).run cm e m k=evsC xs (stOf e m) 0 0 fun n c s=>evK x s fun f=>callOf cm f n c s fun c s=>memK s (k c):=by
 have key:∀ K,(argsW xs 0).run cm e m 0 K=evsC xs (stOf e m) 0 0 fun n d s=>memK s (K n d):=fun K=>args_ok xs 0 cm e m 0 K
 cases x with
 | func g=>show (argsW xs 0).run cm e m 0 _=_; rw [key]; rfl
 | tmp t=>show (argsW xs 0).run cm e m 0 _=_; rw [key]; rfl
 | const v=>show (argsW xs 0).run cm e m 0 _=_; rw [key]; rfl
 | global g=>show (argsW xs 0).run cm e m 0 _=_; rw [key]; rfl
theorem call_okV (c:Call):VOk P (callV c.callee P (.call c) c.args.toList c.argTypes.toList) (.call c):=by
 cases hc:c.callee with
 | value x =>
  intro cm e m k
  have hs:slowV P (.call c) cm e m k=evsC c.args.toList (stOf e m) 0 0 fun n c s=>evK x s fun f=>callOf cm f n c s fun c s=>memK s (k c):=by
   show calleeT c.callee (callOf cm) P c.args.toList c.argTypes.toList (stOf e m) _=_
   rw [hc]; rfl
  rw [hs]
  exact callee_ok x _ c.argTypes.toList cm e m k
 | builtin b =>
  show VOk P (Bool.rec (slowW P (.call c)) (lenV P (.call c) c.args.toList c.argTypes.toList) (isLen b)) _
  cases b with
  | len=>exact len_ok c hc
  | _=>exact slowW_ok _
 | invoke a b=>exact slowW_ok _
theorem opV_ok (op:Op):VOk P (opV P op) op:=by
 cases op with
 | move x=>exact fun cm e m k=>rdV_ok x cm e m k
 | assign x=>exact fun cm e m k=>rdV_ok x cm e m k
 | pick c a b=>exact pick_ok c a b
 | binOp o t x y u=>exact bin_ok o t u x y
 | load t x=>exact load_ok t x
 | store t a x=>exact store_ok t a x
 | fieldAddr t x i=>exact fieldAddr_ok t x i
 | indexAddr t x i=>exact indexAddr_ok t x i
 | index t x i=>exact index_ok t x i
 | field t x i=>exact field_ok t x i
 | extract x i=>exact extract_ok x i
 | nilCheck x=>exact nilCheck_ok x
 | unOp o t x =>
  show VOk P (Bool.rec (slowW P (.unOp o t x)) (notV P (.unOp o t x) x) (isNot o)) _
  cases o with
  | not=>exact not_ok t x
  | _=>exact slowW_ok _
 | alloc t=>exact alloc_ok t
 | box t x=>exact box_ok t x
 | call c=>exact call_okV c
 | _=>exact slowW_ok _
end
end Go.Ex
namespace Go.Ex
open Go.Fip
structure CW where
 run:CallM→Nat→Mem→K1→K2→R
structure FW where
 run:CallM→Nat→Nat→Nat→Nat→Nat→Nat→Mem→(Nat→Mem→R)→R
noncomputable def slowO (P:Program) (o:Oper) (ops:Array Oper) (cm:CallM) (e:Nat) (m:Mem) (k:K1):R:=op1 o ops (callOf cm) P (stOf e m) fun s=>memK s k
noncomputable def skipV:VW:=.mk fun cm e m k=>sideM (.tu 0 0) m fun c m=>k c e m
noncomputable def guardW (P : Program) (o : Oper) (ops : Array Oper) (d : Nat) (want : Bool) : OW :=
  OW.rec (motive := fun _ => OW) (fun f => OW.rec (motive := fun _ => OW) (fun g => forceN (Nat.mul (Nat.succ d) 128) fun L => .mk fun cm e m k =>
    forceN (Nat.mod (Nat.shiftRight e L) 340282366920938463463374607431768211456) fun c => Bool.rec (Bool.rec (slowO P o ops cm e m k) (g cm e m k) (Nat.beq c 2)) (f cm e m k) (Nat.beq c 18))
    (Bool.rec (putV o.dst (opV P o.op)) (putV o.dst skipV) want)) (Bool.rec (putV o.dst skipV) (putV o.dst (opV P o.op)) want)
noncomputable def operW (P:Program) (ops:Array Oper) (o:Oper):OW :=
 Option.rec (motive:=fun _=>OW) (putV o.dst (opV P o.op)) (fun g=>Option.rec (motive:=fun _=>OW) (.mk fun cm e m k=>slowO P o ops cm e m k) (fun d=>guardW P o ops d g.2) ((ops[g.1]?).bind (·.dst))) o.guard
noncomputable def opsW (P:Program) (ops:Array Oper) (x0:List Oper):OW:=List.rec (motive:=fun _=>OW)
  (.mk fun _ e m k=>k e m)
  (fun o l ih=>OW.rec (motive:=fun _=>OW) (fun f=>OW.rec (motive:=fun _=>OW) (fun g=>.mk fun cm e m k=>f cm e m fun e m=>g cm e m k) (ih)) (operW P ops o)) x0
structure AW where
 run:CallM→Wt→Nat→Mem→K1→R
noncomputable def slowT (P:Program) (ops:Array Oper) (p:PI) (cm:CallM) (wt:Wt) (e e1:Nat) (m m1:Mem) (k:Wt→R):R:=watch1 (callOf cm) P p.i p.o ops (stOf e m) (stOf e1 m1) wt k
noncomputable def slowP (P:Program) (p:PI) (cm:CallM) (e:Nat) (m:Mem) (k:K1):R:=opx p.o.op (callOf cm) P (stOf e m) fun _ _=>putE p.o.dst 0 (stOf e m) fun s=>memK s k
noncomputable def slowN (P:Program) (p:PI) (cm:CallM) (wt:Wt) (e:Nat) (m:Mem) (k:Wt→R):R:=keptK (callOf cm) P p.o wt (stOf e m) k
noncomputable def anyW (P:Program) (ops:Array Oper) (x0:List PS):AW:=List.rec (motive:=fun _=>AW)
  (.mk fun _ _ e m k=>k e m)
  (fun x ps ih=>AW.rec (motive:=fun _=>AW) (fun g=>PS.rec (motive:=fun _=>AW)       (fun p=>OW.rec (motive:=fun _=>AW) (fun f=>Bool.rec (.mk fun cm wt e m k=>f cm e m fun e1 m1=>g cm wt e1 m1 k) (.mk fun cm wt e m k=>f cm e m fun e1 m1=>slowT P ops p cm wt e e1 m m1 fun wt=>g cm wt e1 m1 k) (reads p.o.op)) (operW P ops p.o))       (fun p=>OW.rec (motive:=fun _=>AW) (fun f=>.mk fun cm wt e m k=>f cm e m fun e m=>List.rec (motive:=fun _=>R) (g cm [] e m k) (fun _ _ _=>slowN P p cm wt e m fun wt=>g cm wt e m k) wt) (operW P ops p.o))       (fun p=>.mk fun cm wt e m k=>slowP P p cm e m fun e m=>g cm wt e m k)       (fun p=>OW.rec (motive:=fun _=>AW) (fun f=>.mk fun cm wt e m k=>f cm e m fun e m=>g cm wt e m k) (operW P ops p.o)) x) (ih)) x0
noncomputable def regW (P:Program) (ops:Array Oper) (x0:Bool):CW:=Bool.rec (motive:=fun _=>CW)
  (OW.rec (motive:=fun _=>CW) (fun f=>.mk fun cm e m kn _=>f cm e m kn) (opsW P ops ops.toList))
  (Bool.rec (.mk fun _ _ _ _ _=>bad) (AW.rec (motive:=fun _=>CW) (fun f=>.mk fun cm e m kn _=>f cm [] e m kn) (anyW P ops (planOf ops))) (okR ops)) x0
noncomputable def slowCond (c:Operand) (e:Nat) (m:Mem) (x y:K1):R:=evK c (stOf e m) fun a=>condT a (fun s=>memK s x) (fun s=>memK s y) (stOf e m)
noncomputable def condW (c : Operand) (a b : CW) : CW :=
  DW.rec (motive := fun _ => CW) (fun fc => CW.rec (motive := fun _ => CW) (fun fa => CW.rec (motive := fun _ => CW) (fun fb => .mk fun cm e m kn kx =>
    forceN (fc e) fun d => Bool.rec (Bool.rec (slowCond c e m (fun e m => fa cm e m kn kx) fun e m => fb cm e m kn kx) (fb cm e m kn kx) (Nat.beq d 2)) (fa cm e m kn kx) (Nat.beq d 18)) b) a) (cdW c)
noncomputable def loopW (f:CallM→Nat→Mem→K1→K2→R) (F:Nat):CallM→Nat→Mem→K2→R :=
 Nat.rec (motive:=fun _=>CallM→Nat→Mem→K2→R) (fun _ _ _ _=>bad) (fun _ ih cm e m kx=>f cm e m (fun e m=>ih cm e m kx) kx) F
noncomputable def kOf (kn:K1) (kx:K2) (x:Nat) (s:St):R:=seqT x (fun s=>memK s kn) (fun x s=>memK s (kx x)) s
noncomputable def runS (f:CallM→Nat→Mem→K1→K2→R) (cm:CallM) (s:St) (k:Nat→St→R):R:=memK s fun e m=>f cm e m (fun e m=>k 0 (stOf e m)) fun x e m=>k x (stOf e m)
noncomputable def loopRW (f:CallM→Nat→Mem→K1→K2→R) (F N:Nat) (b:Code) (cm:CallM) (e:Nat) (m:Mem) (kn:K1) (kx:K2):R :=
 loopR (fun s k=>runS f cm s k) N b F (stOf e m) (kOf kn kx)
noncomputable def slowRange (N:Nat) (ps:List Nat) (assign body:Code) (g:Operand) (cm:CallM) (e:Nat) (m:Mem) (kn:K1) (kx:K2):R :=
 evK g (stOf e m) fun g=>rangeF (callOf cm) N ps assign body g (stOf e m) (kOf kn kx)
noncomputable def codeW (P:Program) (F N:Nat) (c:Code):CW :=
 Code.rec (motive:=fun _=>CW)
  (.mk fun _ e m kn _=>kn e m)
  (fun _ ops draw=>regW P ops draw)
  (fun _ _ iha ihb=>CW.rec (motive:=fun _=>CW) (fun fa=>CW.rec (motive:=fun _=>CW) (fun fb=>.mk fun cm e m kn kx=>fa cm e m (fun e m=>fb cm e m kn kx) kx) ihb) iha)
  (fun c _ _ iha ihb=>condW c iha ihb)
  (fun i _ ih=>CW.rec (motive:=fun _=>CW) (fun f=>forceN (Nat.add 2 (Nat.mul 2 i)) fun j=>.mk fun cm e m kn kx=>f cm e m kn fun x e m=>Bool.rec (kx x e m) (kn e m) (Nat.beq x j)) ih)
  (fun b ih=>CW.rec (motive:=fun _=>CW) (fun f=>Bool.rec (.mk fun cm e m kn kx=>loopW f F cm e m kx) (.mk fun cm e m kn kx=>loopRW f F N b cm e m kn kx) (Bool.and (hasNext b) (Bool.not (hasApp b)))) ih)
  (fun g ps assign body _ _=>.mk fun cm e m kn kx=>slowRange N ps.toList assign body g cm e m kn kx)
  (fun i=>forceN (Nat.add 2 (Nat.mul 2 i)) fun j=>.mk fun _ e m _ kx=>kx j e m)
  (fun _ ih=>CW.rec (motive:=fun _=>CW) (fun f=>.mk fun cm e m kn kx=>f cm e m kn fun x e m=>Bool.rec (kx x e m) bad (isGoto x)) ih)
  (fun _=>.mk fun _ e m kn _=>kn e m)
  (fun i=>forceN (Nat.add 3 (Nat.mul 2 i)) fun j=>.mk fun _ e m _ kx=>kx j e m)
  (.mk fun _ e m _ kx=>kx 1 e m)
  (fun _=>.mk fun _ _ _ _ _=>bad) c
noncomputable def withDs (ds:List Nat) (m:Mem) (k:Mem→R):R:=Mem.rec (motive:=fun _=>R) (fun _ h n sd sn b=>k ⟨ds,h,n,sd,sn,b⟩) m
noncomputable def dsK (m:Mem) (k:List Nat→R):R:=Mem.rec (motive:=fun _=>R) (fun ds _ _ _ _ _=>k ds) m
noncomputable def slowLeave (P:Program) (fn:Func) (ds:List Nat) (k:Nat→Mem→R) (x e:Nat) (m:Mem):R:=leave P fn 0 ds (fun v s=>memK s fun _ m=>k v m) x (stOf e m)
structure LvW where
 run:List Nat→(Nat→Mem→R)→Nat→Nat→Mem→R
noncomputable def leave1 (P:Program) (fn:Func) (x0:List ResultVar):LvW:=List.rec (motive:=fun _=>LvW)
  (.mk fun ds k x e m=>slowLeave P fn ds k x e m)
  (fun r l ih=>List.rec (motive:=fun _=>LvW) (ResultVar.rec (motive:=fun _=>LvW)       (fun t=>forceN (Nat.mul (Nat.succ t) 128) fun L=>.mk fun ds k x e m=>dsK m fun d=>List.rec (motive:=fun _=>R)         (Nat.rec (motive:=fun _=>R) bad (fun c _=>withDs ds m fun m=>k (Nat.succ c) m) (Nat.mod (Nat.shiftRight e L) 340282366920938463463374607431768211456))         (fun _ _ _=>slowLeave P fn ds k x e m) d)       (fun _ _=>.mk fun ds k x e m=>slowLeave P fn ds k x e m) r) (fun _ _ _=>.mk fun ds k x e m=>slowLeave P fn ds k x e m) l) x0
noncomputable def joinW (f:CallM→Nat→Mem→K1→K2→R) (N:Nat) (cm:CallM) (s:St) (k:Nat→St→R):R :=
 optR (runS f cm ⟨s.env,s.ds,s.heap,s.next,s.side,s.sn,s.next⟩ endO) (joined N s.lim ⟨s.env,s.ds,s.heap,s.next,s.side,s.sn,s.next⟩ k)
noncomputable def bodyW (P : Program) (F : Nat) (fn : Func) (c : Code) : FW :=
  CW.rec (motive := fun _ => FW) (fun f => LvW.rec (motive := fun _ => FW) (fun g => forceN fn.ntmps fun N => Bool.rec
    (.mk fun cm n₁ c₁ n₂ c₂ n₃ c₃ m k => Bool.rec bad (dsK m fun ds => withDs [] m fun m => f cm (Nat.shiftLeft (Nat.add c₁ (Nat.shiftLeft (Nat.add c₂ (Nat.shiftLeft c₃ (Nat.mul n₂ 128))) (Nat.mul n₁ 128))) 128) m
      (fun e m => g ds k 0 e m) fun x e m => Bool.rec bad (g ds k x e m) (Nat.ble x 1)) (Nat.ble (Nat.add n₁ (Nat.add n₂ n₃)) N))
    (.mk fun cm n₁ c₁ n₂ c₂ n₃ c₃ m k => Bool.rec bad (dsK m fun ds => withDs [] m fun m => joinW f N cm (stOf (Nat.shiftLeft (Nat.add c₁ (Nat.shiftLeft (Nat.add c₂ (Nat.shiftLeft c₃ (Nat.mul n₂ 128))) (Nat.mul n₁ 128))) 128) m)
      fun x s => memK s fun e m => Bool.rec bad (g ds k x e m) (Nat.ble x 1)) (Nat.ble (Nat.add n₁ (Nat.add n₂ n₃)) N))
    (hasNext c)) (leave1 P fn fn.results.toList)) (codeW P F fn.ntmps c)
noncomputable def fnW (P:Program) (F g:Nat):FW :=
 Option.rec (motive:=fun _=>FW) (.mk fun _ _ _ _ _ _ _ _ _=>bad) (fun fn=>Option.rec (motive:=fun _=>FW) (.mk fun _ _ _ _ _ _ _ _ _=>bad) (fun c=>Bool.rec (.mk fun _ _ _ _ _ _ _ _ _=>bad) (bodyW P F fn c) (okC fn.ntmps c)) fn.body) (P.funcs[g]?)
noncomputable def codeS (P:Program) (F N:Nat) (c:Code) (cm:CallM) (s:St) (k:Nat→St→R):R:=CW.rec (motive:=fun _=>R) (fun f=>runS f cm s k) (codeW P F N c)
noncomputable def roundS (P : Program) (F l n c : Nat) (cm : CallM) (s : St) (k : Nat → St → R) (N env : Nat) (ps : List Nat) (a b : Code) : R :=
  codeS P F N a cm ⟨argsE ps env c n 0, [], s.heap, s.next, s.side, s.sn, s.lim⟩ fun e s1 =>
    Nat.rec (motive := fun _ => R) (optR (loopT (s1.heap.get l)) fun y => Bool.rec bad (setH s1 l (some (.loop y.1 y.2.1 y.2.2.1 y.2.2.2.1 y.2.2.2.2.1 .busy y.2.2.2.2.2.2)) fun s1 =>
      codeS P F N b cm s1 (roundE l s k)) (isReady y.2.2.2.2.2.1)) (fun _ _ => bad) e
noncomputable def yieldS (P : Program) (F l n c : Nat) (cm : CallM) (s : St) (k : Nat → St → R) : R :=
  Option.rec (motive := fun _ => R) bad (fun o => AO.rec (motive := fun _ => R) (fun _ _ _ => bad) (fun _ _ => bad) (fun _ _ _ _ _ => bad) bad
    (fun N env ps a b st pe => Bool.rec bad (roundS P F l n c cm s k N env ps a b) (Bool.and (Nat.beq n ps.length) (Bool.and (okC N a) (Bool.and (okC N b) (Bool.and (noRange a) (Bool.and (noRange b) (Bool.and (ps.all fun p => Nat.blt p N) (isReady st)))))))) (fun _ _ => bad) (fun _ _ => bad) o) (s.heap.get l)
noncomputable def callFW (P:Program) (F:Nat) (x0:Fn):Nat→Nat→Nat→Nat→Nat→Nat→CallM→Mem→(Nat→Mem→R)→R:=Fn.rec (motive:=fun _=>Nat→Nat→Nat→Nat→Nat→Nat→CallM→Mem→(Nat→Mem→R)→R)
  (fun g=>fun n₁ c₁ n₂ c₂ n₃ c₃ cm m k=>FW.rec (motive:=fun _=>R) (fun f=>f cm n₁ c₁ n₂ c₂ n₃ c₃ m k) (fnW P F g))
  (fun _=>fun _ _ _ _ _ _ _ _ _=>bad)
  (fun _ _=>fun _ _ _ _ _ _ _ _ _=>bad)
  (fun _ _ _ _=>fun _ _ _ _ _ _ _ _ _=>bad)
  (fun _=>fun _ _ _ _ _ _ _ _ _=>bad) x0
noncomputable def callTW (P:Program) (F:Nat) (x0:AV):Nat→Nat→CallM→Mem→(Nat→Mem→R)→R:=AV.rec (motive:=fun _=>Nat→Nat→CallM→Mem→(Nat→Mem→R)→R)
  (fun _=>fun _ _ _ _ _=>bad)
  (fun _=>fun _ _ _ _ _=>bad)
  (fun _ _=>fun _ _ _ _ _=>bad)
  (fun _ _ _ _=>fun _ _ _ _ _=>bad)
  (fun _=>fun _ _ _ _ _=>bad)
  (fun _ _ _ _ _=>bad)
  (fun l=>fun n c cm m k=>yieldS P F l n c cm (stOf 0 m) fun v s=>memK s fun _ m=>k v m)
  (fun _=>fun _ _ _ _ _=>bad)
  (fun f n₁ c₁ n₃ c₃=>fun n c cm m k=>callFW P F f n₁ c₁ n c n₃ c₃ cm m k)
  (fun _ _=>fun _ _ _ _ _=>bad)
  (fun _ _=>fun _ _ _ _ _=>bad) x0
noncomputable def callM (P:Program) (F D:Nat):CallM :=
 Nat.rec (motive:=fun _=>CallM) (fun _ _ _ _ _=>bad) (fun _ ih f n c m k=>callTW P F f n c ih m k) D
end Go.Ex
namespace Go.Ex
open Go.Fip
section
variable {P : Program}
theorem opx_congr {op:Op} {call:CallR} {s:St} {k k':Nat→St→R} (h:∀ c s,k c s=k' c s):opx op call P s k=opx op call P s k':=by rw [show k=k' from funext fun c=>funext fun s=>h c s]
theorem put_okV {v:VW} {op:Op} (hv:VOk P v op) (d:Option Nat) (cm:CallM) (e:Nat) (m:Mem) (k:K1):(putV d v).run cm e m k=opx op (callOf cm) P (stOf e m) fun c s=>putE d c s fun s=>memK s k:=by
 cases d with
 | none =>
  show v.run cm e m _=_
  rw [hv]
  rfl
 | some d =>
  show v.run cm e m _=_
  rw [hv]
  exact opx_congr fun c s=>by cases s; rfl
theorem side_congr {a:AV} {s:St} {k k':Nat→St→R} (h:∀ c s,k c s=k' c s):sideK a s k=sideK a s k':=by rw [show k=k' from funext fun c=>funext fun s=>h c s]
theorem skip_ok (d:Option Nat) (cm:CallM) (e:Nat) (m:Mem) (k:K1):(putV d skipV).run cm e m k=sideK (.tu 0 0) (stOf e m) fun c s=>putE d c s fun s=>memK s k:=by
 cases d with
 | none =>
  show sideM (.tu 0 0) m (fun c m=>(fun _ e m=>k e m) c e m)=_
  rw [sideM_ok]
  rfl
 | some d =>
  show sideM (.tu 0 0) m (fun c m=>(fun c e m=>putM k (Nat.mul (Nat.succ d) 128) c e m) c e m)=_
  rw [sideM_ok]
  exact side_congr fun c s=>by cases s; rfl
theorem guard_ok (o:Oper) (ops:Array Oper) (d:Nat) (g:Nat×Bool) (hg:o.guard=some g) (hd:(ops[g.1]?).bind (·.dst)=some d) (cm:CallM) (e:Nat) (m:Mem) (k:K1) :
  (guardW P o ops d g.2).run cm e m k=op1 o ops (callOf cm) P (stOf e m) fun s=>memK s k:=by
 have hw:wantedT o.guard ops (stOf e m)=guardT (dec (dg e (Nat.succ d)) m.side) g.2:=by
  rw [hg]
  show ((ops[g.1]?).bind (·.dst)).bind _=_
  rw [hd]
  rfl
 have h1:op1 o ops (callOf cm) P (stOf e m) (fun s=>memK s k)=op1T (guardT (dec (dg e (Nat.succ d)) m.side) g.2) o (callOf cm) P (stOf e m) fun s=>memK s k:=by unfold op1; rw [hw]
 show (Bool.rec (Bool.rec (slowO P o ops cm e m k) (OW.run (Bool.rec (putV o.dst (opV P o.op)) (putV o.dst skipV) g.2) cm e m k) (Nat.beq (dg e (Nat.succ d)) 2)) (OW.run (Bool.rec (putV o.dst skipV) (putV o.dst (opV P o.op)) g.2) cm e m k) (Nat.beq (dg e (Nat.succ d)) 18):R)=_
 cases h18:Nat.beq (dg e (Nat.succ d)) 18 with
 | true =>
  have h18:=beq_t h18
  rw [h1,h18]
  cases hb:g.2 with
  | true=>exact put_okV (opV_ok o.op) _ cm e m k
  | false=>exact skip_ok _ cm e m k
 | false =>
  cases h2:Nat.beq (dg e (Nat.succ d)) 2 with
  | true =>
   have h2:=beq_t h2
   rw [h1,h2]
   cases hb:g.2 with
   | true=>exact skip_ok _ cm e m k
   | false=>exact put_okV (opV_ok o.op) _ cm e m k
  | false=>rfl
theorem oper_ok (ops:Array Oper) (o:Oper) (cm:CallM) (e:Nat) (m:Mem) (k:K1):(operW P ops o).run cm e m k=op1 o ops (callOf cm) P (stOf e m) fun s=>memK s k:=by
 unfold operW
 cases hg:o.guard with
 | none =>
  refine Eq.trans (put_okV (opV_ok o.op) _ cm e m k) ?_
  unfold op1
  rw [hg]
  rfl
 | some g =>
  show OW.run (Option.rec _ _ ((ops[g.1]?).bind (·.dst))) cm e m k=_
  cases hd:(ops[g.1]?).bind (·.dst) with
  | none=>rfl
  | some d=>exact guard_ok o ops d g hg hd cm e m k
theorem op1_congr {o:Oper} {ops:Array Oper} {call:CallR} {s:St} {k k':St→R} (h:∀ s,k s=k' s):op1 o ops call P s k=op1 o ops call P s k':=by rw [show k=k' from funext h]
theorem ops_ok (ops:Array Oper):∀ (l:List Oper) (cm:CallM) (e:Nat) (m:Mem) (k:K1),(opsW P ops l).run cm e m k=opl l ops (callOf cm) P (stOf e m) fun s=>memK s k
 | [],cm,e,m,k=>rfl
 | o::l,cm,e,m,k=>by
  show (operW P ops o).run cm e m (fun e m=>(opsW P ops l).run cm e m k)=_
  rw [oper_ok]
  exact op1_congr fun s=>by cases s with | mk e' ds h n sd sn b=>exact ops_ok ops l cm e' ⟨ds,h,n,sd,sn,b⟩ k
theorem watch_congr {call:CallR} {i:Nat} {o:Oper} {ops:Array Oper} {s s1:St} {wt:Wt} {k k':Wt→R} (h:∀ wt,k wt=k' wt):watch1 call P i o ops s s1 wt k=watch1 call P i o ops s s1 wt k':=by rw [show k=k' from funext h]
theorem kept_congr {call:CallR} {o:Oper} {wt:Wt} {s:St} {k k':Wt→R} (h:∀ wt,k wt=k' wt):keptK call P o wt s k=keptK call P o wt s k':=by rw [show k=k' from funext h]
theorem any_ok (ops:Array Oper):∀ (ps:List PS) (cm:CallM) (wt:Wt) (e:Nat) (m:Mem) (k:K1),(anyW P ops ps).run cm wt e m k=anyX ops (callOf cm) P (fun s=>memK s k) ps wt (stOf e m)
 | [],cm,wt,e,m,k=>rfl
 | x::ps,cm,wt,e,m,k=>by
  have ih:=fun cm wt e m k=>any_ok ops ps cm wt e m k
  have ihs:∀ wt,(fun s=>memK s fun e m=>(anyW P ops ps).run cm wt e m k)=fun s=>anyX ops (callOf cm) P (fun s=>memK s k) ps wt s:=fun wt=>funext fun s=>by
   cases s with | mk e' ds h n sd sn b=>exact ih cm wt e' ⟨ds,h,n,sd,sn,b⟩ k
  cases x with
  | take p =>
   show AW.run (Bool.rec _ _ (reads p.o.op)) cm wt e m k=op1 p.o ops (callOf cm) P (stOf e m) fun s1=>watch1 (callOf cm) P p.i p.o ops (stOf e m) s1 wt fun wt=>anyX ops (callOf cm) P (fun s=>memK s k) ps wt s1
   cases hr:reads p.o.op with
   | false =>
    show (operW P ops p.o).run cm e m (fun e1 m1=>(anyW P ops ps).run cm wt e1 m1 k)=_
    rw [oper_ok]
    refine op1_congr fun s=>?_
    refine Eq.trans (congrFun (ihs wt) s) ?_
    show _=(Bool.rec (anyX ops (callOf cm) P (fun s=>memK s k) ps wt s) _ (reads p.o.op):R)
    rw [hr]
   | true =>
    show (operW P ops p.o).run cm e m (fun e1 m1=>slowT P ops p cm wt e e1 m m1 fun wt=>(anyW P ops ps).run cm wt e1 m1 k)=_
    rw [oper_ok]
    refine op1_congr fun s=>?_
    cases s with
    | mk e' ds h n sd sn b=>exact watch_congr fun wt=>ih cm wt e' ⟨ds,h,n,sd,sn,b⟩ k
  | one p =>
   show (operW P ops p.o).run cm e m (fun e m=>List.rec (motive:=fun _=>R) _ (fun _ _ _=>_) wt)=op1 p.o ops (callOf cm) P (stOf e m) fun s=>keptK (callOf cm) P p.o wt s fun wt=>anyX ops (callOf cm) P (fun s=>memK s k) ps wt s
   rw [oper_ok]
   refine op1_congr fun s=>?_
   cases s with
   | mk e' ds h n sd sn b =>
    cases wt with
    | nil=>exact ih cm [] e' ⟨ds,h,n,sd,sn,b⟩ k
    | cons y wt =>
     exact kept_congr (s:=⟨e',ds,h,n,sd,sn,b⟩) fun wt=>ih cm wt e' ⟨ds,h,n,sd,sn,b⟩ k
  | pend p =>
   show opx p.o.op (callOf cm) P (stOf e m) _=opx p.o.op (callOf cm) P (stOf e m) _
   refine opx_congr fun _ _=>?_
   show putE p.o.dst 0 (stOf e m) (fun s=>memK s fun e m=>(anyW P ops ps).run cm wt e m k)=_
   rw [ihs]
   rfl
  | flush p =>
   show (operW P ops p.o).run cm e m (fun e1 m1=>(anyW P ops ps).run cm wt e1 m1 k)=_
   rw [oper_ok]
   exact op1_congr fun s=>congrFun (ihs wt) s
theorem reg_ok (ops:Array Oper) (draw:Bool) (cm:CallM) (e:Nat) (m:Mem) (kn:K1) (kx:K2):(regW P ops draw).run cm e m kn kx=regT draw ops (callOf cm) P (stOf e m) fun s=>memK s kn:=by
 cases draw with
 | false=>exact ops_ok ops ops.toList cm e m kn
 | true =>
  show CW.run (Bool.rec _ _ (okR ops)) cm e m kn kx=(Bool.rec bad _ (okR ops):R)
  cases okR ops with
  | false=>rfl
  | true=>exact any_ok ops (planOf ops) cm [] e m kn
theorem kOf_eta (k:Nat→St→R):kOf (fun e m=>k 0 (stOf e m)) (fun x e m=>k x (stOf e m))=k:=funext fun x=>funext fun s=>by cases x <;> cases s <;> rfl
variable {F N : Nat}
theorem codeX_congr {c:Code} {call:CallR} {s:St} {k k':Nat→St→R} (h:∀ x s,k x s=k' x s):codeX c call P F N s k=codeX c call P F N s k':=by rw [show k=k' from funext fun c=>funext fun s=>h c s]
def CWOk (P:Program) (F N:Nat) (w:CW) (c:Code):Prop:=∀ cm e m kn kx,w.run cm e m kn kx=codeX c (callOf cm) P F N (stOf e m) (kOf kn kx)
theorem runS_ok {w:CW} {c:Code} (h:CWOk P F N w c) (cm:CallM) (s:St) (k:Nat→St→R):runS w.run cm s k=codeX c (callOf cm) P F N s k:=by
 cases s with
 | mk e ds hh n sd sn b =>
  show w.run cm e ⟨ds,hh,n,sd,sn,b⟩ _ _=_
  rw [h,kOf_eta]
  rfl
theorem loop_okW {w:CW} {b:Code} (h:CWOk P F N w b) (cm:CallM) (kn:K1) (kx:K2):∀ (G e:Nat) (m:Mem),loopW w.run G cm e m kx=loopN (fun s k=>codeX b (callOf cm) P F N s k) G (stOf e m) (kOf kn kx)
 | 0,e,m=>rfl
 | G+1,e,m=>by
  show w.run cm e m (fun e m=>loopW w.run G cm e m kx) kx=_
  rw [h]
  refine codeX_congr fun x s=>?_
  cases s with
  | mk e' ds hh n sd sn b =>
   cases x with
   | zero=>exact loop_okW h cm kn kx G e' ⟨ds,hh,n,sd,sn,b⟩
   | succ x=>rfl
theorem code_okW:∀ c,CWOk P F N (codeW P F N c) c
 | .skip=>fun cm e m kn kx=>rfl
 | .region _ ops draw=>fun cm e m kn kx=>reg_ok ops draw cm e m kn kx
 | .seq a b=>fun cm e m kn kx=>by
  show (codeW P F N a).run cm e m (fun e m=>(codeW P F N b).run cm e m kn kx) kx=_
  rw [code_okW a]
  refine codeX_congr fun x s=>?_
  cases s with
  | mk e' ds hh n sd sn b' =>
   cases x with
   | zero=>exact code_okW b cm e' ⟨ds,hh,n,sd,sn,b'⟩ kn kx
   | succ x=>rfl
 | .cond c a b=>fun cm e m kn kx=>by
  show (Bool.rec (Bool.rec (slowCond c e m (fun e m=>(codeW P F N a).run cm e m kn kx) fun e m=>(codeW P F N b).run cm e m kn kx) ((codeW P F N b).run cm e m kn kx) (Nat.beq ((cdW c).f e) 2)) ((codeW P F N a).run cm e m kn kx) (Nat.beq ((cdW c).f e) 18):R)=evK c (stOf e m) fun v=>condT v (fun s=>codeX a (callOf cm) P F N s (kOf kn kx)) (fun s=>codeX b (callOf cm) P F N s (kOf kn kx)) (stOf e m)
  have ea:=code_okW a cm e m kn kx
  have eb:=code_okW b cm e m kn kx
  cases h:Nat.beq ((cdW c).f e) 18 with
  | true =>
   have h:=beq_t h
   rw [cdW_evK c e m _ (by rw [h]; decide),h]
   exact ea
  | false =>
   cases h2:Nat.beq ((cdW c).f e) 2 with
   | true =>
    have h2:=beq_t h2
    rw [cdW_evK c e m _ (by rw [h2]; decide),h2]
    exact eb
   | false =>
    show slowCond c e m _ _=_
    unfold slowCond
    have e1:(fun s=>memK s fun e m=>(codeW P F N a).run cm e m kn kx)=fun s=>codeX a (callOf cm) P F N s (kOf kn kx):=funext fun s=>by cases s with | mk e' ds hh n sd sn b'=>exact code_okW a cm e' ⟨ds,hh,n,sd,sn,b'⟩ kn kx
    have e2:(fun s=>memK s fun e m=>(codeW P F N b).run cm e m kn kx)=fun s=>codeX b (callOf cm) P F N s (kOf kn kx):=funext fun s=>by cases s with | mk e' ds hh n sd sn b'=>exact code_okW b cm e' ⟨ds,hh,n,sd,sn,b'⟩ kn kx
    rw [e1,e2]
 | .block i b=>fun cm e m kn kx=>by
  show (codeW P F N b).run cm e m kn (fun x e m=>Bool.rec (kx x e m) (kn e m) (Nat.beq x (Nat.add 2 (Nat.mul 2 i))))=_
  rw [code_okW b]
  refine codeX_congr fun x s=>?_
  cases s with
  | mk e' ds hh n sd sn b' =>
   cases x with
   | zero =>
    show kn e' _=(Bool.rec _ _ (Nat.beq 0 (Nat.add 2 (Nat.mul 2 i))):R)
    cases Nat.beq 0 (Nat.add 2 (Nat.mul 2 i)) <;> rfl
   | succ x =>
    show (Bool.rec _ _ (Nat.beq (x+1) (Nat.add 2 (Nat.mul 2 i))):R)=(Bool.rec _ _ (Nat.beq (x+1) (Nat.add 2 (Nat.mul 2 i))):R)
    cases Nat.beq (x+1) (Nat.add 2 (Nat.mul 2 i)) <;> rfl
 | .loop b=>fun cm e m kn kx=>by
  show CW.run (Bool.rec _ _ (Bool.and (hasNext b) (Bool.not (hasApp b)))) cm e m kn kx=(Bool.rec _ _ (Bool.and (hasNext b) (Bool.not (hasApp b))):R)
  cases Bool.and (hasNext b) (Bool.not (hasApp b)) with
  | false=>exact loop_okW (code_okW b) cm kn kx F e m
  | true =>
   show loopR (fun s k=>runS (codeW P F N b).run cm s k) N b F _ _=loopR (fun s k=>codeX b (callOf cm) P F N s k) N b F _ _
   rw [show (fun s k=>runS (codeW P F N b).run cm s k)=fun s k=>codeX b (callOf cm) P F N s k from funext fun s=>funext fun k=>runS_ok (code_okW b) cm s k]
 | .rangeFunc g ps a b=>fun cm e m kn kx=>rfl
 | .exit i=>fun cm e m kn kx=>by
  show kx (Nat.add 2 (Nat.mul 2 i)) e m=kOf kn kx (Nat.add 2 (Nat.mul 2 i)) (stOf e m)
  rw [show Nat.add 2 (Nat.mul 2 i)=(1+2 * i)+1 by simp only [Nat.add_eq,Nat.mul_eq]; omega]
  rfl
 | .scope b=>fun cm e m kn kx=>by
  show (codeW P F N b).run cm e m kn (fun x e m=>Bool.rec (kx x e m) bad (isGoto x))=_
  rw [code_okW b]
  refine codeX_congr fun x s=>?_
  cases s with
  | mk e' ds hh n sd sn b' =>
   cases x with
   | zero=>rfl
   | succ x =>
    show (Bool.rec _ _ (isGoto (x+1)):R)=(Bool.rec _ _ (isGoto (x+1)):R)
    cases isGoto (x+1) <;> rfl
 | .label _=>fun cm e m kn kx=>rfl
 | .goto i=>fun cm e m kn kx=>by
  show kx (Nat.add 3 (Nat.mul 2 i)) e m=kOf kn kx (Nat.add 3 (Nat.mul 2 i)) (stOf e m)
  rw [show Nat.add 3 (Nat.mul 2 i)=(2+2 * i)+1 by simp only [Nat.add_eq,Nat.mul_eq]; omega]
  rfl
 | .ret=>fun cm e m kn kx=>rfl
 | .refuse _=>fun cm e m kn kx=>rfl
end
end Go.Ex
namespace Go.Ex
open Go.Fip
section
variable {P : Program} {F : Nat}
noncomputable def toS (e:Nat) (k:Nat→St→R):Nat→Mem→R:=fun v m=>k v (stOf e m)
theorem marks_congr:∀ {l:List Nat} {s:St} {k k':St→R},(∀ s,k s=k' s)→marks l s k=marks l s k':=fun h=>by rw [show _=_ from funext h]
theorem ress_congr {l:List ResultVar} {n d:Nat} {s:St} {k k':Nat→Nat→St→R} (h:∀ n d s,k n d s=k' n d s):ress l n d P s k=ress l n d P s k':=by rw [show k=k' from funext fun n=>funext fun d=>funext fun s=>h n d s]
theorem resOne_congr {n d:Nat} {s:St} {k k':Nat→St→R} (h:∀ c s,k c s=k' c s):resOne n d s k=resOne n d s k':=by rw [show k=k' from funext fun c=>funext fun s=>h c s]
theorem leave_ds (fn:Func) (ds:List Nat) (e0:Nat) (k:Nat→St→R) (x:Nat) (s:St):leave P fn 0 ds (fun v s=>memK s fun _ m=>toS e0 k v m) x s=leave P fn e0 ds k x s:=by
 unfold leave
 exact congrArg (fun z=>(Bool.rec bad z (Nat.ble x 1):R)) (marks_congr fun s=>ress_congr fun n d s=>resOne_congr fun c s=>rfl)
theorem slowLeave_ok (fn:Func) (ds:List Nat) (e0:Nat) (k:Nat→St→R) (x e:Nat) (m:Mem):slowLeave P fn ds (toS e0 k) x e m=leave P fn e0 ds k x (stOf e m):=leave_ds fn ds e0 k x (stOf e m)
theorem leave1_ok (fn:Func) (ds:List Nat) (e0:Nat) (k:Nat→St→R) (x e:Nat) (m:Mem) (hx:Nat.ble x 1=true):(leave1 P fn fn.results.toList).run ds (toS e0 k) x e m=leave P fn e0 ds k x (stOf e m):=by
 cases hr:fn.results.toList with
 | nil=>exact slowLeave_ok fn ds e0 k x e m
 | cons r l =>
  cases l with
  | cons r2 l=>exact slowLeave_ok fn ds e0 k x e m
  | nil =>
   cases r with
   | cell a t=>exact slowLeave_ok fn ds e0 k x e m
   | tmp t =>
    obtain ⟨d,h,n,sd,sn,b⟩:=m
    cases d with
    | cons y d=>exact slowLeave_ok fn ds e0 k x e ⟨y::d,h,n,sd,sn,b⟩
    | nil =>
     show (Nat.rec (motive:=fun _=>R) bad (fun c _=>k (Nat.succ c) (stOf e0 ⟨ds,h,n,sd,sn,b⟩)) (dg e (Nat.succ t)):R)=(Bool.rec bad (ress fn.results.toList 0 0 P (stOf e ⟨[],h,n,sd,sn,b⟩) fun n d s=>resOne n d s fun c s=>k c (back e0 ds s)) (Nat.ble x 1):R)
     rw [hx,hr]
     show _=(Nat.rec (motive:=fun _=>R) bad (fun c _=>resOne 1 (Nat.add 0 (Nat.shiftLeft (Nat.succ c) (Nat.mul 0 128))) (stOf e ⟨[],h,n,sd,sn,b⟩) fun c s=>k c (back e0 ds s)) (dg e (Nat.succ t)):R)
     cases dg e (Nat.succ t) with
     | zero=>rfl
     | succ c =>
      show k (Nat.succ c) _=resOne 1 (Nat.add 0 (Nat.shiftLeft (Nat.succ c) (Nat.mul 0 128))) _ _
      rw [show Nat.add 0 (Nat.shiftLeft (Nat.succ c) (Nat.mul 0 128))=Nat.succ c by simp [Nat.shiftLeft]]
      rfl
theorem join_congr {N lim:Nat} {base:St} {k k':Nat→St→R} (h:∀ x s,k x s=k' x s):joined N lim base k=joined N lim base k':=by rw [show k=k' from funext fun c=>funext fun s=>h c s]
theorem body_ok (fn:Func) (c:Code) (hok:okC fn.ntmps c=true) (cm:CallM) (n₁ c₁ n₂ c₂ n₃ c₃ e0:Nat) (m:Mem) (k:Nat→St→R) :
  (bodyW P F fn c).run cm n₁ c₁ n₂ c₂ n₃ c₃ m (toS e0 k)=enterF (callOf cm) P F fn c n₁ c₁ n₂ c₂ n₃ c₃ (stOf e0 m) k:=by
 obtain ⟨ds,h,n,sd,sn,b⟩:=m
 have hL:∀ x e m,(Bool.rec bad ((leave1 P fn fn.results.toList).run ds (toS e0 k) x e m) (Nat.ble x 1):R)=leave P fn e0 ds k x (stOf e m):=fun x e m=>by
  cases hx:Nat.ble x 1 with
  | true=>exact leave1_ok fn ds e0 k x e m hx
  | false=>unfold leave; rw [hx]
 show FW.run (Bool.rec _ _ (hasNext c)) cm n₁ c₁ n₂ c₂ n₃ c₃ ⟨ds,h,n,sd,sn,b⟩ (toS e0 k)=(Bool.rec bad (joinF c (callOf cm) P F fn.ntmps _ (leave P fn e0 ds k)) (Bool.and (okC fn.ntmps c) (Nat.ble (Nat.add n₁ (Nat.add n₂ n₃)) fn.ntmps)):R)
 rw [hok]
 unfold joinF
 cases hn:hasNext c with
 | false =>
  show (Bool.rec bad _ (Nat.ble (Nat.add n₁ (Nat.add n₂ n₃)) fn.ntmps):R)=(Bool.rec bad _ (Nat.ble (Nat.add n₁ (Nat.add n₂ n₃)) fn.ntmps):R)
  cases Nat.ble (Nat.add n₁ (Nat.add n₂ n₃)) fn.ntmps with
  | false=>rfl
  | true =>
   show (codeW P F fn.ntmps c).run cm _ _ (fun e m=>(leave1 P fn fn.results.toList).run ds (toS e0 k) 0 e m) (fun x e m=>Bool.rec bad ((leave1 P fn fn.results.toList).run ds (toS e0 k) x e m) (Nat.ble x 1))=_
   rw [code_okW c]
   refine codeX_congr fun x s=>?_
   cases s with
   | mk e' ds' h' n' sd' sn' b' =>
    cases x with
    | zero=>exact hL 0 e' ⟨ds',h',n',sd',sn',b'⟩
    | succ x=>exact hL (x+1) e' ⟨ds',h',n',sd',sn',b'⟩
 | true =>
  show (Bool.rec bad _ (Nat.ble (Nat.add n₁ (Nat.add n₂ n₃)) fn.ntmps):R)=(Bool.rec bad _ (Nat.ble (Nat.add n₁ (Nat.add n₂ n₃)) fn.ntmps):R)
  cases Nat.ble (Nat.add n₁ (Nat.add n₂ n₃)) fn.ntmps with
  | false=>rfl
  | true =>
   show optR (runS (codeW P F fn.ntmps c).run cm _ endO) (joined fn.ntmps _ _ fun x s=>memK s fun e m=>Bool.rec bad ((leave1 P fn fn.results.toList).run ds (toS e0 k) x e m) (Nat.ble x 1))=_
   rw [runS_ok (code_okW c)]
   rw [join_congr (k':=leave P fn e0 ds k) fun x s=>by cases s with | mk e' ds' h' n' sd' sn' b'=>exact hL x e' ⟨ds',h',n',sd',sn',b'⟩]
   rfl
theorem fn_ok (g:Nat) (cm:CallM) (n₁ c₁ n₂ c₂ n₃ c₃ e0:Nat) (m:Mem) (k:Nat→St→R):(fnW P F g).run cm n₁ c₁ n₂ c₂ n₃ c₃ m (toS e0 k)=fnT (.func g) n₁ c₁ n₂ c₂ n₃ c₃ (callOf cm) P F (stOf e0 m) k:=by
 show _=optR (P.funcs[g]?) fun fn=>optR fn.body fun c=>enterF (callOf cm) P F fn c n₁ c₁ n₂ c₂ n₃ c₃ (stOf e0 m) k
 unfold fnW
 cases P.funcs[g]? with
 | none=>rfl
 | some fn =>
  show FW.run (Option.rec (motive:=fun _=>FW) _ _ fn.body) _ _ _ _ _ _ _ _ _=optR fn.body _
  cases fn.body with
  | none=>rfl
  | some c =>
   show FW.run (Bool.rec _ (bodyW P F fn c) (okC fn.ntmps c)) _ _ _ _ _ _ _ _ _=enterF (callOf cm) P F fn c n₁ c₁ n₂ c₂ n₃ c₃ (stOf e0 m) k
   cases hok:okC fn.ntmps c with
   | true=>exact body_ok fn c hok cm n₁ c₁ n₂ c₂ n₃ c₃ e0 m k
   | false=>unfold enterF; rw [hok]; rfl
theorem codeS_ok (N:Nat) (c:Code) (cm:CallM) (s:St) (k:Nat→St→R):codeS P F N c cm s k=codeX c (callOf cm) P F N s k:=runS_ok (code_okW c) cm s k
theorem yield_ok (l n c:Nat) (cm:CallM) (s:St) (k:Nat→St→R):yieldS P F l n c cm s k=yieldK (callOf cm) P F l n c s k:=by
 unfold yieldS yieldK
 cases s.heap.get l with
 | none=>rfl
 | some o =>
  cases o with
  | loop N env ps a b st pe =>
   show (Bool.rec bad (roundS P F l n c cm s k N env ps a b) _:R)=(Bool.rec bad (roundK (callOf cm) P F l n c s k (N,env,ps,a,b,st,pe)) _:R)
   have e:roundS P F l n c cm s k N env ps a b=roundK (callOf cm) P F l n c s k (N,env,ps,a,b,st,pe):=by
    unfold roundS roundK
    rw [codeS_ok]
    refine codeX_congr fun x s1=>?_
    cases x with
    | succ x=>rfl
    | zero =>
     show optR _ _=optR _ _
     refine congrArg _ (funext fun y=>?_)
     show (Bool.rec bad (setH s1 l _ fun s1=>codeS P F N b cm s1 (roundE l s k)) _:R)=(Bool.rec bad (setH s1 l _ fun s1=>codeX b (callOf cm) P F N s1 (roundE l s k)) _:R)
     rw [show (fun s1=>codeS P F N b cm s1 (roundE l s k))=fun s1=>codeX b (callOf cm) P F N s1 (roundE l s k) from funext fun s1=>codeS_ok N b cm s1 _]
   rw [e]
  | row E n c=>rfl
  | map es q=>rfl
  | iter m a l b c=>rfl
  | mark=>rfl
  | gh g k=>rfl
  | bag es c=>rfl
theorem yield_env (l n c e0:Nat) (m:Mem) (call:CallR) (k:Nat→St→R):yieldK call P F l n c (stOf 0 m) (fun v s=>memK s fun _ m=>toS e0 k v m)=yieldK call P F l n c (stOf e0 m) k:=rfl
theorem callM_ok (P:Program) (F:Nat):∀ D,callX P F D=callOf (callM P F D)
 | 0=>funext fun f=>funext fun n=>funext fun c=>funext fun s=>funext fun k=>by cases s; rfl
 | D+1=>funext fun f=>funext fun n=>funext fun c=>funext fun s=>funext fun k=>by
  have ih:=callM_ok P F D
  cases s with
  | mk e ds h nx sd sn b =>
   show callT f n c (callX P F D) P F _ k=callTW P F f n c (callM P F D) ⟨ds,h,nx,sd,sn,b⟩ (toS e k)
   rw [ih]
   cases f with
   | fn f n₁ c₁ n₃ c₃ =>
    cases f with
    | func g=>exact (fn_ok g (callM P F D) n₁ c₁ n c n₃ c₃ e ⟨ds,h,nx,sd,sn,b⟩ k).symm
    | _=>rfl
   | yd l =>
    show yieldK (callOf (callM P F D)) P F l n c (stOf e ⟨ds,h,nx,sd,sn,b⟩) k=yieldS P F l n c (callM P F D) (stOf 0 ⟨ds,h,nx,sd,sn,b⟩) fun v s=>memK s fun _ m=>toS e k v m
    rw [yield_ok,yield_env]
   | _=>rfl
end
end Go.Ex
namespace Go.Ex
open Go.Fip
noncomputable def m0:Mem:=⟨[],full 25,0,full 25,0,0⟩
noncomputable def isTM (c:Nat) (_:Mem):R:=Bool.rec bad (some []) (Nat.beq c 18)
theorem run_fnM {P:Program} {F D g:Nat} {fn:Func} {cd:Code} (hP:Named P) (hm:P.follows .mixedOrders=true) (hf:P.funcs[g]? = some fn) (hb:fn.body=some cd)
  (h:callM P F D (.fn (.func g) 0 0 0 0) 0 0 m0 isTM=(some []:Option (List Out))) (w:World):Go.Fip.Fn P g #[] w (fun v _=>v=.bool true):=by
 refine run_fn (F:=F) (D:=D) hP hm hf hb ?_ w
 unfold runB
 rw [callM_ok]
 show doneR (callM P F D (.fn (.func g) 0 0 0 0) 0 0 m0 isTM)=true
 rw [h]
 rfl
end Go.Ex
namespace Go.Ex
open Go.Fip
open Go.RowKit
noncomputable def litT (env:Nat) (ds:List Nat) (next sn lim:Nat) (hs:List (Nat×AO)) (sds:List (Nat×AV)):St:=⟨env,ds,putAll hs,next,putAll sds,sn,lim⟩
noncomputable def eqO2 (x y:Option AO):Bool :=
 match x,y with
 | none,none=>true
 | some (.row E n c),some (.row E' n' c')=>Bool.and (Nat.beq E E') (Bool.and (Nat.beq n n') (Nat.beq c c'))
 | some (.map es q),some (.map es' q')=>Bool.and (Nat.beq q q') (eqE es es')
 | some (.bag es q),some (.bag es' q')=>Bool.and (Nat.beq q q') (eqE es es')
 | some .mark,some .mark=>true
 | _,_=>false
noncomputable def eqA2 (x y:Option AV):Bool :=
 match x,y with
 | none,none=>true
 | x,some y=>eqA x y
 | _,_=>false
noncomputable def allH2 (h:T AO):List (Nat×AO)→Bool
 | []=>true
 | x::l=>Bool.and (Bool.and (Nat.blt x.1 16777216) (eqO2 (h.get x.1) (some x.2))) (allH2 h l)
noncomputable def allS2 (sd:T AV):List (Nat×AV)→Bool
 | []=>true
 | x::l=>Bool.and (Bool.and (Nat.blt x.1 16777216) (eqA (sd.get x.1) x.2)) (allS2 sd l)
noncomputable def upH (h h':T AO) (n:Nat):Bool:=Nat.rec (motive:=fun _=>Bool) true (fun i ih=>Bool.rec false ih (eqO2 (h.get i) (h'.get i))) n
noncomputable def upS (h h':T AV) (n:Nat):Bool:=Nat.rec (motive:=fun _=>Bool) true (fun i ih=>Bool.rec false ih (eqA2 (h.get i) (h'.get i))) n
noncomputable def leH (q next sn lim:Nat) (hs:List (Nat×AO)) (sds:List (Nat×AV)) (h:T AO) (nx:Nat) (sd:T AV) (m b:Nat):Bool :=
 Bool.and (Bool.and (Nat.beq b lim) (Bool.and (Nat.beq nx next) (Nat.beq m sn))) (Bool.and (Bool.and (allH2 h hs) (allS2 sd sds)) (Bool.and (upH (putAll hs) h lim) (upS (putAll sds) sd q)))
noncomputable def leT (N q env:Nat) (ds:List Nat) (next sn lim:Nat) (hs:List (Nat×AO)) (sds:List (Nat×AV)) (s:St):Bool :=
 Bool.and (leH q next sn lim hs sds s.heap s.next s.side s.sn s.lim) (Bool.and (eqL s.ds ds) (Bool.and (Nat.blt env (2 ^ (Nat.succ N * 128))) (leE env s.env (Nat.succ N))))
section
variable {T : Out → Prop} {φ : Phi} {s : St} {N : Nat} {a : Act} {P : Program} {w : World} {C : Cx} {call : CallR}
theorem eqO2_eq {x y:Option AO} (h:eqO2 x y=true):x=y:=by
 unfold eqO2 at h
 split at h
 ·rfl
 ·obtain ⟨h1,h2⟩:=and_t h
  obtain ⟨h3,h4⟩:=and_t h2
  rw [beq_eq h1,beq_eq h3,beq_eq h4]
 ·obtain ⟨h1,h2⟩:=and_t h
  rw [beq_eq h1,eqE_eq _ _ h2]
 ·obtain ⟨h1,h2⟩:=and_t h
  rw [beq_eq h1,eqE_eq _ _ h2]
 ·rfl
 ·cases h
theorem eqA2_eq {x y:Option AV} (h:eqA2 x y=true):x=y:=by
 unfold eqA2 at h
 split at h
 ·rfl
 ·exact eqA_eq h
 ·cases h
theorem allH2_spec {hp:Ex.T AO}:∀ {l:List (Nat×AO)},allH2 hp l=true→∀ x∈l,x.1<16777216∧hp.get x.1=some x.2
 | y::l,h,x,hx=>by
  obtain ⟨h1,h2⟩:=and_t (show Bool.and (Bool.and (Nat.blt y.1 16777216) (eqO2 (hp.get y.1) (some y.2))) (allH2 hp l)=true from h)
  obtain ⟨h3,h4⟩:=and_t h1
  rcases List.mem_cons.1 hx with e | hx
  ·rw [e]; exact ⟨blt_lt h3,eqO2_eq h4⟩
  ·exact allH2_spec h2 x hx
theorem allS2_spec {sd:Ex.T AV}:∀ {l:List (Nat×AV)},allS2 sd l=true→∀ x∈l,x.1<16777216∧sd.get x.1=some x.2
 | y::l,h,x,hx=>by
  obtain ⟨h1,h2⟩:=and_t (show Bool.and (Bool.and (Nat.blt y.1 16777216) (eqA (sd.get y.1) y.2)) (allS2 sd l)=true from h)
  obtain ⟨h3,h4⟩:=and_t h1
  rcases List.mem_cons.1 hx with e | hx
  ·rw [e]; exact ⟨blt_lt h3,eqA_eq h4⟩
  ·exact allS2_spec h2 x hx
theorem upH_spec {h h':Ex.T AO}:∀ {n:Nat},upH h h' n=true→∀ i,i<n→h.get i=h'.get i
 | n+1,hh,i,hi=>by
  obtain ⟨h1,h2⟩:=brec_t (show Bool.rec (motive:=fun _=>Bool) false (upH h h' n) (eqO2 (h.get n) (h'.get n))=true from hh)
  by_cases e:i=n
  ·subst e; exact eqO2_eq h1
  ·exact upH_spec h2 i (by omega)
theorem upS_spec {h h':Ex.T AV}:∀ {n:Nat},upS h h' n=true→∀ i,i<n→h.get i=h'.get i
 | n+1,hh,i,hi=>by
  obtain ⟨h1,h2⟩:=brec_t (show Bool.rec (motive:=fun _=>Bool) false (upS h h' n) (eqA2 (h.get n) (h'.get n))=true from hh)
  by_cases e:i=n
  ·subst e; exact eqA2_eq h1
  ·exact upS_spec h2 i (by omega)
theorem leH_ok {q next sn lim : Nat} {hs : List (Nat × AO)} {sds : List (Nat × AV)} {env : Nat} {ds : List Nat} (hq : C.sn0 ≤ q) (hw : WR P C φ s w) (h : leH q next sn lim hs sds s.heap s.next s.side s.sn s.lim = true) :
    WR P C φ (litT env ds next sn lim hs sds) w ∧ s.sn = sn ∧ s.next = next ∧ s.lim = lim ∧ (∀ i, (putAll sds).get i = s.side.get i ∨ (putAll sds).get i = none) ∧ ∀ i, i < q → (putAll sds).get i = s.side.get i := by
  obtain ⟨h1, h2⟩ := and_t h
  obtain ⟨h3, h4⟩ := and_t h1
  obtain ⟨h5, h6⟩ := and_t h4
  obtain ⟨h7, h8⟩ := and_t h2
  obtain ⟨h9, h10⟩ := and_t h7
  obtain ⟨h11, h12⟩ := and_t h8
  have elim := beq_eq h3
  have enext := beq_eq h5
  have esn := beq_eq h6
  have hH := allH2_spec h9
  have hSd := allS2_spec h10
  have hUH := upH_spec h11
  have hUS := upS_spec h12
  obtain ⟨f1, f2⟩ := putAll_spec hs fun x hx => (hH x hx).1
  obtain ⟨f3, f4⟩ := putAll_spec sds fun x hx => (hSd x hx).1
  have hrow : ∀ r o, (putAll hs).get r = some o → s.heap.get r = some o := fun r o hr => (hH (r, o) (f2 r o hr)).2
  have hside : ∀ i, (putAll sds).get i = s.side.get i ∨ (putAll sds).get i = none := fun i => by
    cases hg : (putAll sds).get i with
    | none => exact .inr rfl
    | some x => exact .inl (hSd (i, x) (f4 i x hg)).2.symm
  refine ⟨?_, esn, enext, elim, hside, hUS⟩
  exact
    { full := f1
      sok := ⟨f3, fun i hi => by
        rcases hside i with e | e
        · exact e.trans (hw.sok.2 i (by rw [esn]; exact hi))
        · exact e⟩
      row := fun r o hr => by
        obtain ⟨j1, q, j2, j3, j4⟩ := hw.row r o (hrow r o hr)
        exact ⟨enext ▸ j1, q, j2, j3, j4.drop hside (Nat.le_of_eq esn)⟩
      inj := fun r r' o o' q q' k1 k2 => hw.inj r r' o o' q q' (hrow r o k1) (hrow r' o' k2)
      new := fun r hr => hw.new r (by rw [enext]; exact hr)
      rng := hw.rng
      lim := elim.symm.trans hw.lim
      limn := enext ▸ hw.limn
      low := fun r hr => (hUH r (by have h1 := hw.lim; omega)).trans (hw.low r hr)
      sn := esn ▸ hw.sn
      sdl := fun i hi => (hUS i (Nat.lt_of_lt_of_le hi hq)).trans (hw.sdl i hi)
      os := hw.os
      tape := hw.tape
      output := hw.output
      size := hw.size
      frame := hw.frame
      gid := fun r i k hr => hw.gid r i k (hrow r _ hr)
      ghl := fun i D hi => by rw [show (litT env ds next sn lim hs sds).next = s.next from enext.symm]; exact hw.ghl i D hi }
theorem leT_ok {q env next sn lim:Nat} {ds:List Nat} {hs:List (Nat×AO)} {sds:List (Nat×AV)} (hq:C.sn0≤q) (hS:SR P C N φ s a w) (h:leT N q env ds next sn lim hs sds s=true) :
  SR P C N φ (litT env ds next sn lim hs sds) a w∧s.sn=sn∧∀ i,i<q→(putAll sds).get i=s.side.get i:=by
 obtain ⟨h1,h2⟩:=and_t h
 obtain ⟨h3,h4⟩:=and_t h2
 obtain ⟨h5,h6⟩:=and_t h4
 have eds:=eqL_eq _ _ h3
 have henv:=blt_lt h5
 have hE:=leE_spec h6
 obtain ⟨k1,k2,k3,k4,k5,k6⟩:=leH_ok (env:=env) (ds:=ds) hq hS.wr h1
 refine ⟨⟨k1,⟨hS.er.size,fun t ht=>?_⟩,?_⟩,k2,k6⟩
 ·have ht:dg env (t+1)≠0:=ht
  have hlt:t+1<N+1:=by
   refine Nat.lt_of_not_le fun hge=>ht ?_
   rw [dg_eq,Nat.div_eq_of_lt (Nat.lt_of_lt_of_le henv (Nat.pow_le_pow_right (by decide) (by omega))),Nat.zero_mod]
  rcases hE (t+1) hlt with e | e
  ·exact absurd e ht
  ·show ∃ v,a.tmps[t]? = some v∧CV φ (putAll sds) sn (dg env (t+1)) v
   rw [e] at ht ⊢
   obtain ⟨v,g1,g2⟩:=hS.er.slot t ht
   exact ⟨v,g1,g2.drop k5 (Nat.le_of_eq k2)⟩
 ·show DR φ ds a.defers
  rw [← eds]; exact hS.dr
end
def Tri (P:Program) (N:Nat) (s0:St) (en:Nat) (c:Code) (s s':St):Prop :=
 ∀ (C:Cx) (φ0 φ:Phi) (a:Act) (w:World),C.sn0≤s0.sn→Ext φ0 s0.side s0.sn φ s.side s.sn→SR P C N φ s a w →
  c.wpIn (Fr none) 0 P (fun e a' w'=>exN e=some en∧∃ φ',Ext φ0 s0.side s0.sn φ' s'.side s'.sn∧SR P C N φ' s' a' w') a w
def TriR (P:Program) (N:Nat) (s0:St) (en:Nat) (c:Code) (m:Nat) (s s':St):Prop :=
 ∀ (C:Cx) (φ0 φ:Phi) (a:Act) (w:World),C.sn0≤s0.sn→Ext φ0 s0.side s0.sn φ s.side s.sn→SR P C N φ s a w →
  Code.roundsIn (Fr none) 0 P c (fun e a' w'=>exN e=some en∧∃ φ',Ext φ0 s0.side s0.sn φ' s'.side s'.sn∧SR P C N φ' s' a' w') m a w
noncomputable def chk (N q env:Nat) (ds:List Nat) (next sn lim:Nat) (hs:List (Nat×AO)) (sds:List (Nat×AV)) (s:St):R:=Bool.rec bad (some []) (leT N q env ds next sn lim hs sds s)
noncomputable def preS (P:Program) (F N:Nat) (cm:CallM):Nat→Code→St→(St→R)→R
 | 0,_,s,k=>k s
 | n+1,.seq a b,s,k=>codeS P F N a cm s fun e s=>seqT e (fun s=>preS P F N cm n b s k) (fun _ _=>bad) s
 | _,_,_,_=>bad
noncomputable def repS (P:Program) (F N:Nat) (cm:CallM) (c:Code) (k:St→R) (n:Nat):St→R :=
 Nat.rec (motive:=fun _=>St→R) k (fun _ ih s=>codeS P F N c cm s fun e s=>seqT e ih (fun _ _=>bad) s) n
section
variable {P : Program} {N F n m en : Nat} {s s1 s' s0 : St} {c x y : Code} {call : CallR} {cm : CallM} {env next sn lim : Nat} {ds : List Nat} {hs : List (Nat × AO)} {sds : List (Nat × AV)}
theorem preS_ok:∀ (n:Nat) (c:Code) (s:St) (k:St→R),preS P F N cm n c s k=preX (callOf cm) P F N n c s k
 | 0,_,_,_=>rfl
 | n+1,.seq a b,s,k=>by
  show codeS P F N a cm s _=codeX a (callOf cm) P F N s _
  rw [codeS_ok]
  exact codeX_congr fun e s=>by rw [show (fun s=>preS P F N cm n b s k)=fun s=>preX (callOf cm) P F N n b s k from funext fun s=>preS_ok n b s k]
 | n+1,.skip,_,_=>rfl
 | n+1,.region _ _ _,_,_=>rfl
 | n+1,.cond _ _ _,_,_=>rfl
 | n+1,.block _ _,_,_=>rfl
 | n+1,.loop _,_,_=>rfl
 | n+1,.rangeFunc _ _ _ _,_,_=>rfl
 | n+1,.exit _,_,_=>rfl
 | n+1,.scope _,_,_=>rfl
 | n+1,.label _,_,_=>rfl
 | n+1,.goto _,_,_=>rfl
 | n+1,.ret,_,_=>rfl
 | n+1,.refuse _,_,_=>rfl
theorem Tri.run (hm:P.follows .mixedOrders=true) (hc:CallOK P (callOf cm)) (hok:okC N c=true)
  (h:codeS P F N c cm s (fun e t=>Bool.rec bad (chk N s0.sn env ds next sn lim hs sds t) (Nat.beq e en))=some []):Tri P N s0 en c s (litT env ds next sn lim hs sds):=by
 intro C φ0 φ a w h1 hE hS
 rw [codeS_ok] at h
 refine Go.wpIn_mono (code_ok hm hc F N none c C φ s a w (fun _=>True) _ hok (fun h=>nomatch h) hS ⟨[],h,fun _ hh=>nomatch hh⟩) fun e a' w' hq=>?_
 obtain ⟨en',hen,φ',t,he',hS',hk⟩:=hq
 obtain ⟨h2,hk⟩:=ok_bool hk
 obtain ⟨h3,_⟩:=ok_bool hk
 obtain ⟨h4,h5,h6⟩:=leT_ok h1 hS' h3
 have hE2:=hE.trans he'
 exact ⟨beq_eq h2 ▸ hen,φ',⟨hE2.rows,h5 ▸ hE2.le,fun i hi=>(h6 i hi).trans (hE2.side i hi)⟩,h4⟩
theorem Tri.pre (n : Nat) (hm : P.follows .mixedOrders = true) (hc : CallOK P (callOf cm)) (hok : okC N c = true)
    (h : preS P F N cm n c s (chk N s0.sn env ds next sn lim hs sds) = some []) (hr : Tri P N s0 en (restN n c) (litT env ds next sn lim hs sds) s') : Tri P N s0 en c s s' := by
  intro C φ0 φ a w h1 hE hS
  rw [preS_ok] at h
  have key : ∀ (n : Nat) (c : Code) (φ : Phi) (s : St) (a : Act) (w : World), okC N c = true → Ext φ0 s0.side s0.sn φ s.side s.sn → SR P C N φ s a w → Ok (fun _ => True) (preX (callOf cm) P F N n c s (chk N s0.sn env ds next sn lim hs sds)) →
      Tri P N s0 en (restN n c) (litT env ds next sn lim hs sds) s' → c.wpIn (Fr none) 0 P (fun e a' w' => exN e = some en ∧ ∃ φ', Ext φ0 s0.side s0.sn φ' s'.side s'.sn ∧ SR P C N φ' s' a' w') a w := by
    intro n
    induction n with
    | zero =>
      intro c φ s a w hok hE hS h hr
      obtain ⟨h3, _⟩ := ok_bool h
      obtain ⟨h4, h5, h6⟩ := leT_ok h1 hS h3
      exact hr C φ0 φ a w h1 ⟨hE.rows, h5 ▸ hE.le, fun i hi => (h6 i hi).trans (hE.side i hi)⟩ h4
    | succ n ih =>
      intro c φ s a w hok hE hS h hr
      cases c with
      | seq x y =>
        obtain ⟨hx, hy⟩ := okC_seq hok
        have h : Ok (fun _ => True) (codeX x (callOf cm) P F N s fun e s => seqT e (fun s => preX (callOf cm) P F N n y s (chk N s0.sn env ds next sn lim hs sds)) (fun _ _ => bad) s) := h
        refine wpIn_seq (Go.wpIn_mono (code_ok hm hc F N none x C φ s a w _ _ hx (fun h => nomatch h) hS h) fun e a' w' hq => ?_)
        obtain ⟨en', hen, φ', t, he', hS', hk⟩ := hq
        cases e with
        | normal => cases hen; exact ih y φ' t a' w' hy (hE.trans he') hS' hk hr
        | ret => cases hen; exact (ok_bad hk).elim
        | exit i =>
          cases hen
          rw [show 2 + 2 * i = (1 + 2 * i) + 1 by omega] at hk
          exact (ok_bad hk).elim
        | goto i =>
          cases hen
          rw [show 3 + 2 * i = (2 + 2 * i) + 1 by omega] at hk
          exact (ok_bad hk).elim
        | panic c => cases hen
        | outgrown => cases hen
      | _ => exact (ok_bad h).elim
  exact key n c φ s a w hok hE hS ⟨[], h, fun _ hh => nomatch hh⟩ hr
theorem Tri.seq (h1 : Tri P N s0 0 x s s1) (h2 : Tri P N s0 en y s1 s') : Tri P N s0 en (.seq x y) s s' := fun C φ0 φ a w hq hE hS =>
  wpIn_seq (Go.wpIn_mono (h1 C φ0 φ a w hq hE hS) fun e a' w' hh => by
    obtain ⟨he, φ', hE', hS'⟩ := hh
    cases e with
    | normal => exact h2 C φ0 φ' a' w' hq hE' hS'
    | ret => cases he
    | exit i => have he : some (2 + 2 * i) = some 0 := he; simp at he
    | goto i => have he : some (3 + 2 * i) = some 0 := he; simp at he
    | panic c => cases he
    | outgrown => cases he)
theorem TriR.last (h:Tri P N s0 (en+1) c s s'):TriR P N s0 (en+1) c 1 s s':=fun C φ0 φ a w hq hE hS=>by
 rw [roundsIn_succ]
 refine Go.wpIn_mono (h C φ0 φ a w hq hE hS) fun e a' w' hh=>?_
 cases e with
 | normal=>obtain ⟨he,_⟩:=hh; cases he
 | ret=>exact hh
 | exit i=>exact hh
 | goto i=>exact hh
 | panic c=>exact hh
 | outgrown=>exact hh
theorem TriR.rep (n : Nat) (hm : P.follows .mixedOrders = true) (hc : CallOK P (callOf cm)) (hok : okC N c = true)
    (h : repS P F N cm c (chk N s0.sn env ds next sn lim hs sds) n s = some []) (hr : TriR P N s0 en c m (litT env ds next sn lim hs sds) s') : TriR P N s0 en c (m + n) s s' := by
  intro C φ0 φ a w h1 hE hS
  have key : ∀ (n : Nat) (φ : Phi) (s : St) (a : Act) (w : World), Ext φ0 s0.side s0.sn φ s.side s.sn → SR P C N φ s a w → Ok (fun _ => True) (repS P F N cm c (chk N s0.sn env ds next sn lim hs sds) n s) →
      Code.roundsIn (Fr none) 0 P c (fun e a' w' => exN e = some en ∧ ∃ φ', Ext φ0 s0.side s0.sn φ' s'.side s'.sn ∧ SR P C N φ' s' a' w') (m + n) a w := by
    intro n
    induction n with
    | zero =>
      intro φ s a w hE hS h
      obtain ⟨h3, _⟩ := ok_bool (show Ok _ (Bool.rec bad (some []) (leT N s0.sn env ds next sn lim hs sds s)) from h)
      obtain ⟨h4, h5, h6⟩ := leT_ok h1 hS h3
      exact hr C φ0 φ a w h1 ⟨hE.rows, h5 ▸ hE.le, fun i hi => (h6 i hi).trans (hE.side i hi)⟩ h4
    | succ n ih =>
      intro φ s a w hE hS h
      have h : Ok (fun _ => True) (codeS P F N c cm s fun e s => seqT e (repS P F N cm c (chk N s0.sn env ds next sn lim hs sds) n) (fun _ _ => bad) s) := h
      rw [codeS_ok] at h
      show Code.roundsIn (Fr none) 0 P c _ ((m + n) + 1) a w
      rw [roundsIn_succ]
      refine Go.wpIn_mono (code_ok hm hc F N none c C φ s a w _ _ hok (fun h => nomatch h) hS h) fun e a' w' hq => ?_
      obtain ⟨en', hen, φ', t, he', hS', hk⟩ := hq
      cases e with
      | normal => cases hen; exact ih φ' t a' w' (hE.trans he') hS' hk
      | ret => cases hen; exact (ok_bad hk).elim
      | exit i =>
        cases hen
        rw [show 2 + 2 * i = (1 + 2 * i) + 1 by omega] at hk
        exact (ok_bad hk).elim
      | goto i =>
        cases hen
        rw [show 3 + 2 * i = (2 + 2 * i) + 1 by omega] at hk
        exact (ok_bad hk).elim
      | panic c => cases hen
      | outgrown => cases hen
  exact key n φ s a w hE hS ⟨[], h, fun _ hh => nomatch hh⟩
theorem Tri.loop {i : Nat} (h : TriR P N s0 (2 + 2 * i) c m s s') : Tri P N s0 0 (.block i (.loop c)) s s' := fun C φ0 φ a w hq hE hS =>
  wpIn_block (wpIn_loop_rounds m (by
    have := h C φ0 φ a w hq hE hS
    have mono : ∀ (m : Nat) (a : Act) (w : World), Code.roundsIn (Fr none) 0 P c (fun e a' w' => exN e = some (2 + 2 * i) ∧ ∃ φ', Ext φ0 s0.side s0.sn φ' s'.side s'.sn ∧ SR P C N φ' s' a' w') m a w →
        Code.roundsIn (Fr none) 0 P c (Exit.inBlock i fun e a' w' => exN e = some 0 ∧ ∃ φ', Ext φ0 s0.side s0.sn φ' s'.side s'.sn ∧ SR P C N φ' s' a' w') m a w := by
      intro m
      induction m with
      | zero => intro a w h; exact h
      | succ m ih =>
        intro a w h
        rw [roundsIn_succ] at h ⊢
        refine Go.wpIn_mono h fun e a' w' hh => ?_
        cases e with
        | normal => exact ih a' w' hh
        | ret => obtain ⟨he, _⟩ := hh; have he : some 1 = some (2 + 2 * i) := he; simp at he; omega
        | exit j =>
          obtain ⟨he, hh⟩ := hh
          have he : some (2 + 2 * j) = some (2 + 2 * i) := he
          have e1 : j = i := by simp at he; omega
          show (if j = i then _ else _)
          rw [if_pos e1]
          exact ⟨rfl, hh⟩
        | goto j => obtain ⟨he, _⟩ := hh; have he : some (3 + 2 * j) = some (2 + 2 * i) := he; simp at he; omega
        | panic c => obtain ⟨he, _⟩ := hh; cases he
        | outgrown => obtain ⟨he, _⟩ := hh; cases he
    exact mono m a w this))
end
end Go.Ex
namespace Go.Ex
open Go.Fip
open Go.RowKit
noncomputable def callOn (P:Program) (F:Nat) (O:CallR) (D:Nat):CallR:=Nat.rec (motive:=fun _=>CallR) O (fun _ ih f n c s k=>callT f n c ih P F s k) D
noncomputable def callMn (P:Program) (F:Nat) (O:CallM) (D:Nat):CallM:=Nat.rec (motive:=fun _=>CallM) O (fun _ ih f n c m k=>callTW P F f n c ih m k) D
noncomputable def isF0 (g n₁ c₁ n₃ c₃:Nat):AV→Bool
 | .fn (.func g') a b d e=>Bool.and (Nat.beq g' g) (Bool.and (Bool.and (Nat.beq a n₁) (Nat.beq b c₁)) (Bool.and (Nat.beq d n₃) (Nat.beq e c₃)))
 | _=>false
noncomputable def entE (n₁ c₁ n c c₃:Nat):Nat:=Nat.shiftLeft (Nat.add c₁ (Nat.shiftLeft (Nat.add c (Nat.shiftLeft c₃ (Nat.mul n 128))) (Nat.mul n₁ 128))) 128
noncomputable def orM (P:Program) (base:CallM) (fn:Func) (g n₁ c₁ n c n₃ c₃ next sn lim:Nat) (hs:List (Nat×AO)) (sds:List (Nat×AV)) (en:Nat) (s2:St):CallM:=fun f n' c' m k =>
 Bool.rec (base f n' c' m k) (dsK m fun ds=>slowLeave P fn ds k en s2.env ⟨s2.ds,s2.heap,s2.next,s2.side,s2.sn,lim⟩)
  (Bool.and (Bool.and (isF0 g n₁ c₁ n₃ c₃ f) (Bool.and (Nat.beq n' n) (Nat.beq c' c))) (Mem.rec (motive:=fun _=>Bool) (fun _ h nx sd m b=>leH sn next sn lim hs sds h nx sd m b) m))
section
variable {T : Out → Prop} {φ : Phi} {s : St} {N : Nat} {a : Act} {P : Program} {w : World} {C : Cx} {call : CallR} {F : Nat}
theorem callOn_ok (hP:Named P) (hm:P.follows .mixedOrders=true) {O:CallR} (hO:CallOK P O):∀ D,CallOK P (callOn P F O D)
 | 0=>hO
 | D+1=>fun C φ s w T k av v n c aS0 hw hav hn hc has h=>by
  have ih:=callOn_ok hP hm hO D
  have h:Ok T (callT av n c (callOn P F O D) P F s k):=h
  cases av with
  | fn f n₁ c₁ n₃ c₃ =>
   obtain ⟨xs,ys,rfl,h1,h3,b1,b3,hx,hy⟩:=hav
   cases f with
   | func g=>exact ok_fn hP hm ih hw h1 hn h3 b1 hc b3 hx has hy h
   | _=>exact (ok_bad h).elim
  | yd l =>
   obtain ⟨q,hq,hl,rfl⟩:=hav
   exact ok_yield hm ih hw hq hl hn has h
  | _=>exact (ok_bad h).elim
theorem callMn_ok (O:CallM):∀ D,callOn P F (callOf O) D=callOf (callMn P F O D)
 | 0=>rfl
 | D+1=>funext fun f=>funext fun n=>funext fun c=>funext fun s=>funext fun k=>by
  have ih:=callMn_ok O D
  cases s with
  | mk e ds h nx sd sn b =>
   show callT f n c (callOn P F (callOf O) D) P F _ k=callTW P F f n c (callMn P F O D) ⟨ds,h,nx,sd,sn,b⟩ (toS e k)
   rw [ih]
   cases f with
   | fn f n₁ c₁ n₃ c₃ =>
    cases f with
    | func g=>exact (fn_ok g (callMn P F O D) n₁ c₁ n c n₃ c₃ e ⟨ds,h,nx,sd,sn,b⟩ k).symm
    | _=>rfl
   | yd l =>
    show yieldK (callOf (callMn P F O D)) P F l n c (stOf e ⟨ds,h,nx,sd,sn,b⟩) k=yieldS P F l n c (callMn P F O D) (stOf 0 ⟨ds,h,nx,sd,sn,b⟩) fun v s=>memK s fun _ m=>toS e k v m
    rw [yield_ok,yield_env]
   | _=>rfl
theorem callM_good (hP:Named P) (hm:P.follows .mixedOrders=true) (D:Nat):CallOK P (callOf (callM P F D)):=by
 rw [← callM_ok]; exact call_ok hP hm F D
theorem callMn_good (hP:Named P) (hm:P.follows .mixedOrders=true) {O:CallM} (hO:CallOK P (callOf O)) (D:Nat):CallOK P (callOf (callMn P F O D)):=by
 rw [← callMn_ok]; exact callOn_ok hP hm hO D
theorem isF0_eq {g n₁ c₁ n₃ c₃:Nat} {f:AV} (h:isF0 g n₁ c₁ n₃ c₃ f=true):f=.fn (.func g) n₁ c₁ n₃ c₃:=by
 unfold isF0 at h
 split at h
 ·obtain ⟨h1,h2⟩:=and_t h
  obtain ⟨h3,h4⟩:=and_t h2
  obtain ⟨h5,h6⟩:=and_t h3
  obtain ⟨h7,h8⟩:=and_t h4
  rw [beq_eq h1,beq_eq h5,beq_eq h6,beq_eq h7,beq_eq h8]
 ·cases h
theorem WR.atb {b:Nat} (h:WR P C φ s w) (hb:b≤s.next):WR P (C.at b s) φ ⟨s.env,s.ds,s.heap,s.next,s.side,s.sn,b⟩ w :=
 { h with lim:=rfl,limn:=hb,low:=fun _ _=>rfl,sn:=Nat.le_refl _,sdl:=fun _ _=>rfl }
theorem or_ok (hP : Named P) (hm : P.follows .mixedOrders = true) {base : CallM} (hbase : CallOK P (callOf base)) {fn : Func} {cd : Code} {g n₁ c₁ n c n₃ c₃ next sn lim lim' en : Nat} {hs : List (Nat × AO)} {sds : List (Nat × AV)} {s2 : St}
    (hf : P.funcs[g]? = some fn) (hb : fn.body = some cd) (hle : Nat.ble (n₁ + (n + n₃)) fn.ntmps = true) (hl : Nat.ble lim lim' = true) (hl' : Nat.ble lim' next = true) (hen : Nat.ble en 1 = true)
    (htri : Tri P fn.ntmps (litT 0 [] next sn lim hs sds) en cd (litT (entE n₁ c₁ n c c₃) [] next sn lim' hs sds) s2) : CallOK P (callOf (orM P base fn g n₁ c₁ n c n₃ c₃ next sn lim hs sds en s2)) := by
  intro C φ s w T k av v n' c' aS0 hw hav hn hc has h
  cases s with
  | mk e ds hp nx sd m b =>
    have h : Ok T (Bool.rec (motive := fun _ => R) (base av n' c' ⟨ds, hp, nx, sd, m, b⟩ (toS e k)) (slowLeave P fn ds (toS e k) en s2.env ⟨s2.ds, s2.heap, s2.next, s2.side, s2.sn, lim⟩)
      (Bool.and (Bool.and (isF0 g n₁ c₁ n₃ c₃ av) (Bool.and (Nat.beq n' n) (Nat.beq c' c))) (leH sn next sn lim hs sds hp nx sd m b))) := h
    cases hx : Bool.and (Bool.and (isF0 g n₁ c₁ n₃ c₃ av) (Bool.and (Nat.beq n' n) (Nat.beq c' c))) (leH sn next sn lim hs sds hp nx sd m b) with
    | false => rw [hx] at h; exact hbase C φ ⟨e, ds, hp, nx, sd, m, b⟩ w T k av v n' c' aS0 hw hav hn hc has h
    | true =>
      rw [hx] at h
      have hlv : Ok T (slowLeave P fn ds (toS e k) en s2.env ⟨s2.ds, s2.heap, s2.next, s2.side, s2.sn, lim⟩) := h
      rw [slowLeave_ok] at hlv
      obtain ⟨x1, x2⟩ := and_t hx
      obtain ⟨x3, x4⟩ := and_t x1
      obtain ⟨x5, x6⟩ := and_t x4
      have e1 := isF0_eq x3
      have e2 := beq_eq x5
      have e3 := beq_eq x6
      subst e1; subst e2; subst e3
      obtain ⟨xs, ys, rfl, h1, h3, b1, b3, hxs, hys⟩ := hav
      have hsn : C.sn0 ≤ sn := by
        have h0 := hw.sn
        obtain ⟨y1, y2⟩ := and_t x2
        obtain ⟨y3, y4⟩ := and_t y1
        obtain ⟨y5, y6⟩ := and_t y4
        have : m = sn := beq_eq y6
        exact this ▸ h0
      obtain ⟨k1, k2, k3, k4, k5, k6⟩ := leH_ok (env := 0) (ds := []) hsn hw x2
      refine ⟨.enter g (xs ++ aS0 ++ ys), ?_, .inl ⟨g, _, rfl, ?_⟩⟩
      · have := ent hf (hP g fn hf) hb (xs ++ aS0 ++ ys) w
        simpa [Deferred.ofValue, invoke, Result.andThen] using this
      · have cv : ∀ {c : Nat} {u : Value}, CV φ sd m c u → CV φ (putAll sds) sn c u := fun h => h.drop k5 (Nat.le_of_eq k2)
        have hwb := k1.atb (b := lim') (show lim' ≤ next from ble_le hl')
        have hS : SR P (C.at lim' (litT 0 [] next sn lim hs sds)) fn.ntmps φ (litT (entE n₁ c₁ n' c' c₃) [] next sn lim' hs sds)
            { tmps := (xs ++ aS0 ++ ys) ++ Array.replicate (fn.ntmps - (xs ++ aS0 ++ ys).size) undef, defers := [] } w :=
          ⟨hwb.env _ _, er_enter h1 hn h3 b1 hc b3 (fun i u hi => cv (hxs i u hi)) (fun i u hi => cv (has i u hi)) (fun i u hi => cv (hys i u hi)) (ble_le hle), trivial⟩
        have hbody := htri (C.at lim' (litT 0 [] next sn lim hs sds)) φ φ _ w (show sn ≤ sn from Nat.le_refl _) (show Ext φ (putAll sds) sn φ (putAll sds) sn from .refl) hS
        refine ok_fnB (env0 := entE n₁ c₁ n' c' c₃) hf hb (Go.wpIn_mono hbody fun ex a' w' hq => ?_)
        obtain ⟨hex, φ', hE, hS'⟩ := hq
        have hfr := k1.from (b := lim') (lim := lim) (ble_le hl) rfl hS'.wr
        refine ⟨en, hex, φ', ⟨s2.env, s2.ds, s2.heap, s2.next, s2.side, s2.sn, lim⟩, ⟨hE.rows, ?_, fun i hi => ?_⟩, ⟨hfr, hS'.er, hS'.dr⟩, hlv⟩
        · show m ≤ s2.sn
          have h8 := hE.le
          have h8 : sn ≤ s2.sn := h8
          have k2 : m = sn := k2
          omega
        · have hi : i < m := hi
          have k2 : m = sn := k2
          exact (hE.side i (by show i < sn; omega)).trans (k6 i (by omega))
theorem Good.pre {fn:Func} {c:Code} {s:St} {cm:CallM} {n env next sn lim:Nat} {ds:List Nat} {hs:List (Nat×AO)} {sds:List (Nat×AV)} (hm:P.follows .mixedOrders=true) (hc:CallOK P (callOf cm)) (hok:okC fn.ntmps c=true)
  (h:preS P F fn.ntmps cm n c s (chk fn.ntmps 0 env ds next sn lim hs sds)=some []) (hg:Good P fn (restN n c) (litT env ds next sn lim hs sds)):Good P fn c s:=fun w0 φ a w hS=>by
 rw [preS_ok] at h
 refine ok_pre (T:=fun _=>True) (fun c=>code_ok hm hc F fn.ntmps none c) n c φ s a w _ hok hS ⟨[],h,fun _ hh=>nomatch hh⟩ fun φ' s' a' w' hS' hk=>?_
 obtain ⟨h1,_⟩:=ok_bool (show Ok _ (Bool.rec bad (some []) (leT fn.ntmps 0 env ds next sn lim hs sds s')) from hk)
 exact hg w0 φ' a' w' (leT_ok (Nat.le_refl _) hS' h1).1
theorem Good.end {fn:Func} {c:Code} {s:St} {cm:CallM} (hm:P.follows .mixedOrders=true) (hc:CallOK P (callOf cm)) (hok:okC fn.ntmps c=true)
  (h:codeS P F fn.ntmps c cm s (leave P fn 0 [] fun c _=>Bool.rec bad (some []) (Nat.beq c 18))=some []):Good P fn c s:=fun w0 φ a w hS=>by
 rw [codeS_ok] at h
 exact Go.wpIn_mono (code_ok hm hc F fn.ntmps none c (cx0 w0) φ s a w (fun _=>True) _ hok (fun h=>nomatch h) hS ⟨[],h,fun _ hh=>nomatch hh⟩) fun e a' w' hq=>by
  obtain ⟨en,hen,φ',s',he',hS',hk⟩:=hq
  exact ⟨en,hen,φ',s',ext0,hS',hk⟩
end
noncomputable def cI (n:Nat):Nat:=Nat.add (Nat.mul (Nat.add n 9223372036854775808) 16) 1
noncomputable def cL:List Nat→Nat
 | []=>0
 | x::l=>Nat.add x (Nat.shiftLeft (cL l) 128)
noncomputable def cE:List (Nat×Nat)→Nat
 | []=>0
 | x::l=>Nat.add (Nat.shiftLeft x.2 (Nat.mul (Nat.succ x.1) 128)) (cE l)
noncomputable def cS (r o n c:Nat):Nat:=Nat.add (Nat.mul (Nat.add r (Nat.mul 16777216 (Nat.add o (Nat.mul 16777216 (Nat.add n (Nat.mul 16777216 c)))))) 16) 4
noncomputable def mks:List Nat→List (Nat×AO)→List (Nat×AO)
 | [],h=>h
 | r::l,h=>(r,.mark)::mks l h
def hdC:Code→Code
 | .seq a _=>a
 | c=>c
def tlC:Code→Code
 | .seq _ b=>b
 | c=>c
def lpC:Code→Code
 | .block _ (.loop c)=>c
 | c=>c
end Go.Ex
set_option maxRecDepth 100000
namespace Go.Ex
noncomputable abbrev fnAt (g:Nat):Func:=(Go.Proofs.Tryz.prog.funcs[g]?).getD default
noncomputable abbrev cdAt (g:Nat):Code:=(fnAt g).body.getD .skip
theorem named_of {P:Go.Program} (h:(P.funcs.toList.all fun fn => !(fn.name == "runtime.NumGoroutine"))=true):Named P:=fun g fn hf=>by
 have:=List.all_eq_true.1 h fn (Array.mem_toList_iff.2 (Array.mem_of_getElem? hf))
 simpa using this
theorem named:Named Go.Proofs.Tryz.prog:=named_of (by kernel_rfl)
theorem mixed:Go.Proofs.Tryz.prog.follows .mixedOrders=true:=by kernel_rfl
end Go.Ex
