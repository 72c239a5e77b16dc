/- Joined texts: what the statement needs, walks by program (wip/tools). -/
import Derived.Test.YteiipodhpbdlbaaGreatA2
set_option linter.unusedVariables false
set_option linter.unusedSimpArgs false
set_option linter.unusedSectionVars false
set_option linter.unnecessarySimpa false
namespace Go.Fip
namespace Tn
def Ch:Int→List Pr→Prop
 | _,[]=>True
 | u,e::p=>e.1=u∧Ch e.2 p
def en:Int→List Pr→Int
 | u,[]=>u
 | _,e::p=>en e.2 p
theorem jZ:∀ {a b:List Pr} {u:Int},Ch u (a++b)↔Ch u a∧Ch (en u a) b
 | [],b,u=>⟨fun h=>⟨trivial,h⟩,fun h=>h.2⟩
 | e::a,b,u=>by
  show e.1=u∧Ch e.2 (a++b)↔(e.1=u∧Ch e.2 a)∧Ch (en e.2 a) b
  rw [jZ,and_assoc]
theorem qH:∀ {p:List Pr} {u:Int},Ch u p→∀ x,sur p x=d1 u x - d1 (en u p) x
 | [],u,_,x=>by show (0:Int)=d1 u x - d1 u x; omega
 | e::p,u,h,x=>by
  have ih:=qH h.2 x
  show d1 e.1 x - d1 e.2 x+sur p x=d1 u x - d1 (en e.2 p) x
  rw [ih,h.1]; omega
theorem uZ {a b:List Pr} (h:a.Perm b) (x:Int):sur a x=sur b x:=by
 induction h with
 | nil=>rfl
 | cons e _ ih=>show d1 e.1 x - d1 e.2 x+_=d1 e.1 x - d1 e.2 x+_; rw [ih]
 | swap e f l=>show d1 f.1 x - d1 f.2 x+(d1 e.1 x - d1 e.2 x+sur l x)=d1 e.1 x - d1 e.2 x+(d1 f.1 x - d1 f.2 x+sur l x); omega
 | trans _ _ h1 h2=>exact h1.trans h2
def In8 (R:List Pr):Prop:=∀ e∈R,(0≤e.1∧e.1<8)∧0≤e.2∧e.2<8
def sm (f:Int→Int):Nat→Int
 | 0=>0
 | k+1=>sm f k+f (k:Int)
theorem ZW {u:Int}:∀ k:Nat,sm (d1 u) k=if 0≤u∧u<(k:Int) then 1 else 0
 | 0=>by rw [if_neg (by omega)]; rfl
 | k+1=>by
  show sm (d1 u) k+d1 u (k:Int)=_
  rw [ZW k]
  unfold d1
  by_cases e:u=(k:Int)
  ·rw [if_pos e,if_neg (by omega),if_pos (by omega)]; rfl
  ·rw [if_neg e]
   by_cases h:0≤u∧u<(k:Int)
   ·rw [if_pos h,if_pos (by omega)]; rfl
   ·rw [if_neg h,if_neg (by omega)]; rfl
theorem XF {f g:Int→Int}:∀ k:Nat,sm (fun x=>f x+g x) k=sm f k+sm g k
 | 0=>rfl
 | k+1=>by show sm _ k+(f k+g k)=sm f k+f k+(sm g k+g k); rw [XF k]; omega
theorem ZL {f g:Int→Int}:∀ k:Nat,sm (fun x=>f x - g x) k=sm f k - sm g k
 | 0=>rfl
 | k+1=>by show sm _ k+(f k - g k)=sm f k+f k - (sm g k+g k); rw [ZL k]; omega
theorem ZM:∀ {R:List Pr},In8 R→sm (sur R) 8=0
 | [],_=>rfl
 | e::R,h=>by
  have he:=h e (List.mem_cons_self ..)
  have ih:=ZM (R:=R) fun x hx=>h x (List.mem_cons_of_mem _ hx)
  have h1:sm (sur (e::R)) 8=sm (fun x=>(d1 e.1 x - d1 e.2 x)+sur R x) 8:=rfl
  rw [h1,XF,ZL,ZW,ZW,ih,if_pos (by omega),if_pos (by omega)]; rfl
theorem X8 {f:Int→Int}:∀ {k:Nat},(∀ j:Nat,j<k→f (j:Int)≤0)→sm f k≤0∧∀ j:Nat,j<k→sm f k≤f (j:Int)
 | 0,_=>⟨Int.le_refl _,fun j hj=>by omega⟩
 | k+1,h=>by
  obtain ⟨h1,h2⟩:=X8 (f:=f) (k:=k) fun j hj=>h j (by omega)
  have h3:=h k (by omega)
  refine ⟨by show sm f k+f k≤0; omega,fun j hj=>?_⟩
  show sm f k+f k≤f j
  by_cases e:j=k
  ·subst e; omega
  ·have:=h2 j (by omega); omega
theorem Y9 {R:List Pr} (h:In8 R) (hle:∀ x,0≤x→x<8→sur R x≤0):∀ x,0≤x→x<8→sur R x=0:=fun x h0 h8=>by
 have:=(X8 (f:=sur R) (k:=8) fun j hj=>hle j (by omega) (by omega)).2 x.toNat (by omega)
 rw [ZM h,show ((x.toNat:Nat):Int)=x by omega] at this
 have:=hle x h0 h8
 omega
theorem qF:∀ {R:List Pr} {x:Int},(∀ e∈R,¬ e.1=x)→sur R x≤0
 | [],_,_=>Int.le_refl _
 | e::R,x,h=>by
  have ih:=qF (R:=R) (x:=x) fun f hf=>h f (List.mem_cons_of_mem _ hf)
  have he:=h e (List.mem_cons_self ..)
  show d1 e.1 x - d1 e.2 x+sur R x≤0
  unfold d1
  rw [if_neg he]
  split <;> omega
theorem Z6:∀ {R:List Pr} {x:Int} {e:Pr},e∈R→e.2=x→(∀ e∈R,¬ e.1=x)→sur R x<0
 | f::R,x,e,he,hx,h=>by
  have hf:=h f (List.mem_cons_self ..)
  have hR:=qF (R:=R) (x:=x) fun f hf=>h f (List.mem_cons_of_mem _ hf)
  show d1 f.1 x - d1 f.2 x+sur R x<0
  unfold d1
  rw [if_neg hf]
  rcases List.mem_cons.1 he with e1 | he
  ·rw [← e1,if_pos hx]; omega
  ·have:=Z6 he hx fun f hf=>h f (List.mem_cons_of_mem _ hf)
   split <;> omega
theorem YF {R:List Pr} {e:Pr} (h:e∈R):R.Perm (e::R.erase e):=List.perm_cons_erase h
theorem greedy:∀ (m:Nat) (R:List Pr) (u:Int),R.length=m→∃ p q,(p++q).Perm R∧Ch u p∧∀ e∈q,¬ e.1=en u p
 | 0,R,u,hm=>⟨[],[],by rw [List.eq_nil_of_length_eq_zero hm]; exact .refl _,trivial,fun e he=>by cases he⟩
 | m+1,R,u,hm=>by
  by_cases h:∃ e∈R,e.1=u
  ·obtain ⟨e,he,hu⟩:=h
   have hp:=YF he
   have hl:=hp.length_eq
   obtain ⟨p,q,h1,h2,h3⟩:=greedy m (R.erase e) e.2 (by simp only [List.length_cons] at hl; omega)
   exact ⟨e::p,q,(h1.cons e).trans hp.symm,⟨hu,h2⟩,h3⟩
  ·exact ⟨[],R,.refl _,trivial,fun e he hu=>h ⟨e,he,hu⟩⟩
def vis (u:Int) (p:List Pr):List Int:=u::p.map (·.2)
theorem jI:∀ {p:List Pr} {u x:Int},x∈vis u p→∃ a b,p=a++b∧en u a=x
 | [],u,x,h=>⟨[],[],rfl,(List.mem_singleton.1 (show x∈[u] from h)).symm⟩
 | e::p,u,x,h=>by
  rcases List.mem_cons.1 h with h | h
  ·exact ⟨[],e::p,rfl,h.symm⟩
  ·obtain ⟨a,b,h1,h2⟩:=jI (p:=p) (u:=e.2) (x:=x) h
   exact ⟨e::a,b,by rw [h1]; rfl,h2⟩
theorem q9:∀ {p:List Pr} {u:Int},Ch u p→∀ e∈p,e.1∈vis u p∧e.2∈vis u p
 | f::p,u,h,e,he=>by
  rcases List.mem_cons.1 he with e1 | he
  ·rw [e1]; exact ⟨by rw [h.1]; exact List.mem_cons_self ..,List.mem_cons_of_mem _ (List.mem_cons_self ..)⟩
  ·obtain ⟨h1,h2⟩:=q9 h.2 e he
   exact ⟨List.mem_cons_of_mem _ h1,List.mem_cons_of_mem _ h2⟩
def ConnR (R:List Pr):Prop:=∀ C:Int→Prop,(∀ e∈R,(C e.1↔C e.2))→∀ e∈R,∀ f∈R,C e.1→C f.1
theorem cover {R:List Pr} (h8:In8 R) (hc:ConnR R) {u:Int} (hu:∃ e∈R,e.1=u):∀ (m:Nat) (p q:List Pr),q.length=m→(p++q).Perm R→Ch u p→(∀ x,0≤x→x<8→sur q x=0)→∃ p',p'.Perm R∧Ch u p':=by
 intro m
 induction m using Nat.strongRecOn with
 | ind m ih =>
  intro p q hm hp hch hev
  cases q with
  | nil=>exact ⟨p,by simpa using hp,hch⟩
  | cons g q =>
   have hinR:∀ e∈g::q,e∈R:=fun e he=>hp.mem_iff.1 (List.mem_append_right _ he)
   have hpR:∀ e∈p,e∈R:=fun e he=>hp.mem_iff.1 (List.mem_append_left _ he)
   have key:∃ e∈g::q,e.1∈vis u p∨e.2∈vis u p:=Classical.byContradiction fun hno=>by
    have hno:∀ e∈g::q,e.1 ∉ vis u p∧e.2 ∉ vis u p:=fun e he=>⟨fun h=>hno ⟨e,he,.inl h⟩,fun h=>hno ⟨e,he,.inr h⟩⟩
    have hsh:∀ e∈R,(e.1∈vis u p↔e.2∈vis u p):=fun e he=>by
     rcases List.mem_append.1 (hp.mem_iff.2 he) with h | h
     ·exact ⟨fun _=>(q9 hch e h).2,fun _=>(q9 hch e h).1⟩
     ·exact ⟨fun h2=>absurd h2 (hno e h).1,fun h2=>absurd h2 (hno e h).2⟩
    obtain ⟨e,he,heu⟩:=hu
    have h1:e.1∈vis u p:=by rw [heu]; exact List.mem_cons_self ..
    exact (hno g (List.mem_cons_self ..)).1 (hc (· ∈ vis u p) hsh e he g (hinR g (List.mem_cons_self ..)) h1)
   obtain ⟨e,he,hv⟩:=key
   have out:∃ x,x∈vis u p∧(0≤x∧x<8)∧∃ f∈g::q,f.1=x:=by
    have he8:=h8 e (hinR e he)
    rcases hv with hv | hv
    ·exact ⟨e.1,hv,he8.1,e,he,rfl⟩
    ·refine ⟨e.2,hv,he8.2,Classical.byContradiction fun hno=>?_⟩
     have:=Z6 he rfl fun f hf hx=>hno ⟨f,hf,hx⟩
     rw [hev e.2 he8.2.1 he8.2.2] at this
     omega
   obtain ⟨x,hx,hx8,f,hf,hfx⟩:=out
   obtain ⟨a,b,hab,hax⟩:=jI hx
   obtain ⟨c,q',k1,k2,k3⟩:=greedy (g::q).length (g::q) x rfl
   have hq8:In8 (g::q):=fun e he=>h8 e (hinR e he)
   have hsum:∀ y,sur (g::q) y=sur c y+sur q' y:=fun y=>by rw [← uZ k1 y,qB]
   have hend:en x c=x:=Classical.byContradiction fun hne=>by
    have hs:=qF k3
    have hsc:=qH k2 (en x c)
    have h9:=hsum (en x c)
    have hc8:0≤en x c∧en x c<8:=by
     have:∀ {c:List Pr} {x:Int},(0≤x∧x<8)→(∀ e∈c,(0≤e.1∧e.1<8)∧0≤e.2∧e.2<8)→0≤en x c∧en x c<8:=fun {c}=>by
      induction c with
      | nil=>intro x hx _; exact hx
      | cons e c ih2=>intro x hx h; exact ih2 (h e (List.mem_cons_self ..)).2 fun f hf=>h f (List.mem_cons_of_mem _ hf)
     exact this hx8 fun e he=>hq8 e (k1.mem_iff.1 (List.mem_append_left _ he))
    rw [hev _ hc8.1 hc8.2,hsc] at h9
    unfold d1 at h9
    rw [if_neg (fun e=>hne e.symm),if_pos rfl] at h9
    omega
   have hc0:c≠[]:=fun e=>by
    subst e
    have hfq:f∈q':=k1.mem_iff.2 hf
    exact k3 f hfq hfx
   have hlen:=k1.length_eq
   rw [List.length_append,hm] at hlen
   have hcl:1≤c.length:=List.length_pos_iff.2 hc0
   refine ih q'.length (by omega) (a++(c++b)) q' rfl ?_ ?_ fun y h0 h8'=>?_
   ·refine List.Perm.trans ?_ hp
    rw [hab]
    have:(a++(c++b)++q').Perm (a++b++(c++q')):=by
     rw [List.append_assoc,List.append_assoc,List.append_assoc]
     refine List.Perm.append_left a ?_
     rw [← List.append_assoc, ← List.append_assoc]
     exact List.Perm.append_right q' (List.perm_append_comm)
    exact this.trans (List.Perm.append_left _ k1)
   ·rw [hab] at hch
    have h1:=jZ.1 hch
    refine jZ.2 ⟨h1.1,?_⟩
    rw [hax] at h1 ⊢
    exact jZ.2 ⟨k2,by rw [hend]; exact h1.2⟩
   ·have h9:=hsum y
    rw [hev y h0 h8',qH k2 y,hend] at h9
    omega
theorem VJ {C:List Int}:∀ {k:Nat},0≤(upTo C k).1∧((upTo C k).1=0→∀ j:Nat,j<k→nth C (j:Int)≤0)
 | 0=>⟨Int.le_refl _,fun _ j hj=>by omega⟩
 | k+1=>by
  obtain ⟨h1,h2⟩:=VJ (C:=C) (k:=k)
  by_cases h:0<nth C (k:Int)
  ·rw [up_t h]
   exact ⟨by show 0≤(upTo C k).1+nth C (k:Int); omega,fun e=>by have e:(upTo C k).1+nth C (k:Int)=0:=e; omega⟩
  ·rw [up_f h]
   refine ⟨h1,fun e j hj=>?_⟩
   by_cases ej:j=k
   ·subst ej; omega
   ·exact h2 e j (by omega)
theorem V6 {C:List Int}:∀ {k:Nat},(upTo C k).1=1→∃ u:Nat,u<k∧(upTo C k).2=(u:Int)∧nth C (u:Int)=1∧∀ j:Nat,j<k→j≠u→nth C (j:Int)≤0
 | 0,e=>by cases e
 | k+1,e=>by
  obtain ⟨h1,h2⟩:=VJ (C:=C) (k:=k)
  by_cases h:0<nth C (k:Int)
  ·rw [up_t h] at e ⊢
   have e:(upTo C k).1+nth C (k:Int)=1:=e
   exact ⟨k,by omega,rfl,by omega,fun j hj hne=>h2 (by omega) j (by omega)⟩
  ·rw [up_f h] at e ⊢
   obtain ⟨u,k1,k2,k3,k4⟩:=V6 e
   refine ⟨u,by omega,k2,k3,fun j hj hne=>?_⟩
   by_cases ej:j=k
   ·subst ej; omega
   ·exact k4 j (by omega) hne
theorem VA {C : List Int} {u v : Int} (hu : 0 ≤ u) (huv : ¬ u = v) : ∀ {k : Nat}, (∀ j : Nat, j < k → nth C (j : Int) = d1 u (j : Int) - d1 v (j : Int)) → upTo C k = if u < (k : Int) then (1, u) else (0, 0)
  | 0, _ => by rw [if_neg (by omega)]; rfl
  | k + 1, h => by
    have ih := VA hu huv (k := k) fun j hj => h j (by omega)
    have hk := h k (by omega)
    unfold d1 at hk
    by_cases e : u = (k : Int)
    · rw [if_pos e, if_neg (by omega)] at hk
      rw [up_t (by omega), ih, if_neg (by omega), if_pos (by omega), hk, e]; rfl
    · rw [if_neg e] at hk
      rw [up_f (by split at hk <;> omega), ih]
      by_cases h2 : u < (k : Int)
      · rw [if_pos h2, if_pos (by omega)]
      · rw [if_neg h2, if_neg (by omega)]
theorem Y8 {C:List Int}:∀ {k:Nat},(∀ j:Nat,j<k→nth C (j:Int)=0)→upTo C k=(0,0)
 | 0,_=>rfl
 | k+1,h=>by rw [up_f (by rw [h k (by omega)]; omega)]; exact Y8 fun j hj=>h j (by omega)
theorem kB {sl:List Pr} {x:Int}:∀ {k:Nat},x∈outTo sl k↔∃ j:Nat,j<k∧x=(j:Int)∧goes sl (j:Int)=true
 | 0=>⟨(fun h=>by cases h),(fun ⟨j,hj,_⟩=>by omega)⟩
 | k+1=>by
  have ih:=kB (sl:=sl) (x:=x) (k:=k)
  by_cases h:goes sl (k:Int)=true
  ·rw [out_t h,List.mem_append,ih,List.mem_singleton]
   constructor
   ·rintro (⟨i,h1,h2,h3⟩ | e)
    ·exact ⟨i,by omega,h2,h3⟩
    ·exact ⟨k,by omega,e,h⟩
   ·rintro ⟨i,h1,h2,h3⟩
    by_cases e:i=k
    ·exact .inr (e ▸ h2)
    ·exact .inl ⟨i,by omega,h2,h3⟩
  ·rw [out_f h,ih]
   constructor
   ·rintro ⟨i,h1,h2,h3⟩; exact ⟨i,by omega,h2,h3⟩
   ·rintro ⟨i,h1,h2,h3⟩
    by_cases e:i=k
    ·exact absurd (e ▸ h3) h
    ·exact ⟨i,by omega,h2,h3⟩
theorem kD {sl:List Pr} {x:Int}:goes sl x=true↔∃ e∈sl,e.1=x:=by
 unfold goes
 rw [vT]
 constructor
 ·rintro ⟨i,hi,hp⟩
  exact ⟨nth sl (i:Int),by rw [zO hi]; exact List.getElem_mem _,of_decide_eq_true hp⟩
 ·rintro ⟨e,he,hx⟩
  obtain ⟨i,hi,rfl⟩:=List.getElem_of_mem he
  exact ⟨i,hi,by rw [zO hi]; exact decide_eq_true hx⟩
theorem Book.in8 {n:Int} {sl:List Pr} (h:Book n sl):In8 sl:=fun e he=>by
 obtain ⟨i,hi,rfl⟩:=List.getElem_of_mem he
 have:=h.ok i hi
 rw [zO hi] at this
 have h8:=h.n8
 exact ⟨⟨this.1.1,by have:=this.1.2; omega⟩,this.2.1,by have:=this.2.2; omega⟩
theorem YA {sl:List Pr} (hl:1≤sl.length):Conn sl↔ConnR sl:=by
 constructor
 ·intro h C hC e he f hf hCe
  have shut:∀ D:Int→Prop,(∀ e∈sl,(D e.1↔D e.2))→Shut sl D:=fun D hD i hi=>by rw [zO hi]; exact hD _ (List.getElem_mem _)
  obtain ⟨i,hi,rfl⟩:=List.getElem_of_mem he
  obtain ⟨j,hj,rfl⟩:=List.getElem_of_mem hf
  have at_:∀ {i:Nat} (hi:i<sl.length),nth sl (i:Int)=sl[i]:=fun hi=>zO hi
  by_cases h0:C (nth sl 0).1
  ·have:=h C (shut C hC) h0 j hj
   rwa [at_ hj] at this
  ·have:=h (fun x=>¬ C x) (shut _ fun e he=>not_congr (hC e he)) h0 i hi
   rw [at_ hi] at this
   exact absurd hCe this
 ·intro h C hC h0 i hi
  have hC2:∀ e∈sl,(C e.1↔C e.2):=fun e he=>by
   obtain ⟨j,hj,rfl⟩:=List.getElem_of_mem he
   have:=hC j hj
   rwa [zO hj] at this
  have h0':C (sl[0]'(by omega)).1:=by
   have e:nth sl 0=sl[0]'(by omega):=zO (i:=0) (by omega)
   rwa [e] at h0
  rw [zO hi]
  exact h C hC2 _ (List.getElem_mem _) _ (List.getElem_mem _) h0'
theorem euler {n : Int} {sl : List Pr} (hb : Book n sl) {u : Int} : u ∈ starts n sl ↔ ∃ p : List Pr, p.Perm sl ∧ Ch u p := by
  have h8 := hb.in8
  have hl := hb.l1
  have hn8 := hb.n8
  have hC : ∀ j : Nat, j < 8 → nth (spTo sl sl.length) (j : Int) = sur sl (j : Int) := fun j hj => by
    have := XB hb.ok hb.n8 (x := (j : Int)) (by omega) sl.length (Nat.le_refl _)
    rwa [List.take_length] at this
  constructor
  · intro hm
    have hcn : Conn sl := Classical.byContradiction fun h => by rw [st_1 h] at hm; cases hm
    have hcr := (YA hl).1 hcn
    have go : (∃ e ∈ sl, e.1 = u) → (∀ p q : List Pr, (p ++ q).Perm sl → Ch u p → (∀ e ∈ q, ¬ e.1 = en u p) → ∀ x, 0 ≤ x → x < 8 → sur q x = 0) → ∃ p : List Pr, p.Perm sl ∧ Ch u p := fun hu hz => by
      obtain ⟨p, q, k1, k2, k3⟩ := greedy sl.length sl u rfl
      exact cover h8 hcr hu q.length p q rfl k1 k2 (hz p q k1 k2 k3)
    have enr : ∀ {c : List Pr} {x : Int}, (0 ≤ x ∧ x < 8) → In8 c → 0 ≤ en x c ∧ en x c < 8 := fun {c} => by
      induction c with
      | nil => intro x hx _; exact hx
      | cons e c ih2 => intro x hx h; exact ih2 (h e (List.mem_cons_self ..)).2 fun f hf => h f (List.mem_cons_of_mem _ hf)
    by_cases h0 : (upTo (spTo sl sl.length) 8).1 = 0
    · rw [st_2 hcn h0, kB] at hm
      obtain ⟨j, hj, hju, hg⟩ := hm
      have hu8 : 0 ≤ u ∧ u < 8 := by omega
      have hz0 : ∀ x, 0 ≤ x → x < 8 → sur sl x = 0 := Y9 h8 fun x hx0 hx8 => by
        have := VJ.2 h0 x.toNat (by omega)
        rw [hC x.toNat (by omega), show ((x.toNat : Nat) : Int) = x by omega] at this
        exact this
      rw [← hju] at hg
      refine go (kD.1 hg) fun p q k1 k2 k3 => ?_
      have hpq : In8 (p ++ q) := fun e he => h8 e (k1.mem_iff.1 he)
      have hsum : ∀ y, sur sl y = d1 u y - d1 (en u p) y + sur q y := fun y => by rw [← uZ k1 y, qB, qH k2 y]
      have hv := enr hu8 fun e he => hpq e (List.mem_append_left _ he)
      have hend : u = en u p := Classical.byContradiction fun hne => by
        have h1 := hsum (en u p)
        rw [hz0 _ hv.1 hv.2] at h1
        have h2 := qF k3
        unfold d1 at h1
        rw [if_neg hne, if_pos rfl] at h1
        omega
      intro x hx0 hx8
      have h1 := hsum x
      rw [hz0 x hx0 hx8, ← hend] at h1
      omega
    · by_cases h1 : (upTo (spTo sl sl.length) 8).1 = 1
      · rw [st_3 hcn h1, List.mem_singleton] at hm
        obtain ⟨w, hw, e1, e2, e3⟩ := V6 h1
        have huw : u = (w : Int) := hm.trans e1
        rw [hC w hw, ← huw] at e2
        have hu8 : 0 ≤ u ∧ u < 8 := by omega
        have hgo : ∃ e ∈ sl, e.1 = u := Classical.byContradiction fun hno => by
          have := qF (R := sl) (x := u) fun e he hx => hno ⟨e, he, hx⟩
          omega
        refine go hgo fun p q k1 k2 k3 => ?_
        have hpq : In8 (p ++ q) := fun e he => h8 e (k1.mem_iff.1 he)
        have hsum : ∀ y, sur sl y = d1 u y - d1 (en u p) y + sur q y := fun y => by rw [← uZ k1 y, qB, qH k2 y]
        have hq := qF k3
        have hend : ¬ u = en u p := fun e => by
          have h1 := hsum u
          rw [← e, e2] at h1
          rw [← e] at hq
          omega
        refine Y9 (fun e he => hpq e (List.mem_append_right _ he)) fun x hx0 hx8 => ?_
        have h1 := hsum x
        unfold d1 at h1
        by_cases ex : u = x
        · rw [if_pos ex, if_neg (fun e => hend (ex.trans e.symm)), ← ex, e2] at h1
          rw [← ex]; omega
        · have h3 := e3 x.toNat (by omega) (by omega)
          rw [hC x.toNat (by omega), show ((x.toNat : Nat) : Int) = x by omega] at h3
          by_cases ev : en u p = x
          · rw [← ev]; exact hq
          · rw [if_neg ex, if_neg ev] at h1; omega
      · rw [st_4 hcn h0 h1] at hm; cases hm
  · rintro ⟨p, hp, hch⟩
    have hpl := hp.length_eq
    obtain ⟨e0, p0, rfl⟩ : ∃ e p', p = e :: p' := by
      cases p with
      | nil => simp only [List.length_nil] at hpl; omega
      | cons e p => exact ⟨e, p, rfl⟩
    have hu1 : e0.1 = u := hch.1
    have hin : ∃ e ∈ sl, e.1 = u := ⟨e0, hp.mem_iff.1 (List.mem_cons_self ..), hu1⟩
    have hcr : ConnR sl := fun C hC e he f hf hCe => by
      have same : ∀ {p : List Pr} {u : Int}, Ch u p → (∀ e ∈ p, (C e.1 ↔ C e.2)) → ∀ e ∈ p, (C e.1 ↔ C u) := fun {p} => by
        induction p with
        | nil => intro u _ _ e he; cases he
        | cons g p ih =>
          intro u hch hC e he
          rcases List.mem_cons.1 he with e1 | he
          · rw [e1, hch.1]
          · have h1 := ih hch.2 (fun f hf => hC f (List.mem_cons_of_mem _ hf)) e he
            have h2 := hC g (List.mem_cons_self ..)
            rw [hch.1] at h2
            exact h1.trans h2.symm
      have hCp : ∀ e ∈ e0 :: p0, (C e.1 ↔ C e.2) := fun e he => hC e (hp.mem_iff.1 he)
      exact (same hch hCp f (hp.mem_iff.2 hf)).2 ((same hch hCp e (hp.mem_iff.2 he)).1 hCe)
    have hcn := (YA hl).2 hcr
    have hu8 : 0 ≤ u ∧ u < 8 := by rw [← hu1]; exact (h8 e0 (hp.mem_iff.1 (List.mem_cons_self ..))).1
    have hun : u < n := by
      obtain ⟨e, he, hx⟩ := hin
      obtain ⟨i, hi, rfl⟩ := List.getElem_of_mem he
      have := hb.ok i hi
      rw [zO hi] at this
      rw [← hx]; exact this.1.2
    have hs : ∀ j : Nat, j < 8 → nth (spTo sl sl.length) (j : Int) = d1 u (j : Int) - d1 (en u (e0 :: p0)) (j : Int) := fun j hj => by rw [hC j hj, ← uZ hp, qH hch]
    by_cases he : u = en u (e0 :: p0)
    · have hz := Y8 (C := spTo sl sl.length) (k := 8) fun j hj => by rw [hs j hj, ← he]; omega
      rw [st_2 hcn (by rw [hz]), kB]
      exact ⟨u.toNat, by omega, by omega, kD.2 (by rw [show ((u.toNat : Nat) : Int) = u by omega]; exact hin)⟩
    · have hz := VA hu8.1 he hs
      rw [if_pos (show u < ((8 : Nat) : Int) by omega)] at hz
      rw [st_3 hcn (by rw [hz]), hz]
      exact List.mem_singleton.2 rfl
theorem XD {sl : List Pr} {out : List Int} {i : Nat} (hi : (i : Int) ∉ out) : ∀ k, i < k → (lead sl (-1) out k).Perm ((i : Int) :: lead sl (-1) (out ++ [(i : Int)]) k) := by
  have low : ∀ k, k ≤ i → lead sl (-1) (out ++ [(i : Int)]) k = lead sl (-1) out k := fun k => by
    induction k with
    | zero => intro _; rfl
    | succ k ih =>
      intro hk
      have e : led sl (-1) (out ++ [(i : Int)]) k ↔ led sl (-1) out k := by
        unfold led
        rw [List.mem_append, List.mem_singleton]
        constructor
        · rintro ⟨h1, h2⟩; exact ⟨h1, fun h => h2 (.inl h)⟩
        · rintro ⟨h1, h2⟩; exact ⟨h1, fun h => h.elim h2 fun h => by omega⟩
      by_cases h : led sl (-1) out k
      · rw [lead_t h, lead_t (e.2 h), ih (by omega)]
      · rw [lead_f h, lead_f (fun hh => h (e.1 hh)), ih (by omega)]
  intro k
  induction k with
  | zero => intro h; omega
  | succ k ih =>
    intro hk
    by_cases e : i = k
    · subst e
      rw [lead_t (show led sl (-1) out i from ⟨.inl (by decide), hi⟩), lead_f (fun h => h.2 (by simp)), low i (Nat.le_refl _)]
      exact List.perm_append_singleton _ _
    · have e2 : led sl (-1) (out ++ [(i : Int)]) k ↔ led sl (-1) out k := by
        unfold led
        rw [List.mem_append, List.mem_singleton]
        constructor
        · rintro ⟨h1, h2⟩; exact ⟨h1, fun h => h2 (.inl h)⟩
        · rintro ⟨h1, h2⟩; exact ⟨h1, fun h => h.elim h2 fun h => by omega⟩
      by_cases h : led sl (-1) out k
      · rw [lead_t h, lead_t (e2.2 h)]
        exact (ih (by omega)).append_right _
      · rw [lead_f h, lead_f (fun hh => h (e2.1 hh))]
        exact ih (by omega)
theorem kJ {sl:List Pr} {out:List Int} {i:Nat} (hi:(i:Int) ∉ out) (hl:i<sl.length):(left sl out).Perm (nth sl (i:Int)::left sl (out++[(i:Int)])):=(XD hi sl.length hl).map _
theorem XG {n:Int} {sl:List Pr} (hb:Book n sl) {out:List Int} (h:1≤(left sl out).length):Book n (left sl out):=left_book hb (by omega)
open Classical in
theorem k9 {n:Int} {sl:List Pr} (hb:Book n sl) {u:Int} {out:List Int}:play n sl u out=true↔∃ p:List Pr,p.Perm (left sl out)∧Ch u p:=by
 unfold play
 rw [decide_eq_true_eq]
 unfold Play
 by_cases h:left sl out=[]
 ·rw [h]; exact ⟨fun _=>⟨[],.refl _,trivial⟩,fun _=>.inl rfl⟩
 ·rw [or_iff_right h]
  exact euler (XG hb (List.length_pos_iff.2 h))
structure Fst (n:Int) (sl:List Pr) (k:Nat):Prop where
 nd:∀ i j:Nat,i<j→j<k→¬ nth (first n sl k).out (i:Int)=nth (first n sl k).out (j:Int)
 run:∀ i:Nat,i+1<k→(nth sl (nth (first n sl k).out ((i+1:Nat):Int))).1=(nth sl (nth (first n sl k).out (i:Int))).2
 at0:k=0→(first n sl k).at_ = -1
 at1:∀ m:Nat,m+1=k→(first n sl k).at_=(nth sl (nth (first n sl k).out (m:Int))).2
 on:∃ u p,(1≤k→u=(first n sl k).at_)∧List.Perm p (left sl (first n sl k).out)∧Ch u p
theorem ZN {sl:List Pr}:left sl []=sl:=by
 have key:∀ k,k≤sl.length→(lead sl (-1) [] k).map (fun i=>nth sl i)=sl.take k:=fun k=>by
  induction k with
  | zero=>intro _; rfl
  | succ k ih =>
   intro hk
   rw [lead_t (show led sl (-1) [] k from ⟨.inl (by decide),by simp⟩),List.map_append,ih (by omega),uM (by omega)]; rfl
 have:=key sl.length (Nat.le_refl _)
 rwa [List.take_length] at this
theorem vH {a:List Int} {x:Int} {i:Nat} (h:i<a.length):nth (a++[x]) (i:Int)=nth a (i:Int):=by
 rw [zO (by simp; omega),zO h,List.getElem_append_left h]
theorem qG {a:List Int} {x:Int} {i:Nat} (h:i=a.length):nth (a++[x]) (i:Int)=x:=by
 rw [zO (by simp; omega),List.getElem_append_right (by omega)]; simp
theorem Z5 {n : Int} {sl : List Pr} (hb : Book n sl) (hs : ¬ starts n sl = []) : ∀ k, k ≤ sl.length → Fst n sl k
  | 0, _ => by
    obtain ⟨u, hu⟩ := List.exists_mem_of_ne_nil _ hs
    obtain ⟨p, h1, h2⟩ := (euler hb).1 hu
    exact ⟨fun i j _ hj => by omega, fun i hi => by omega, fun _ => rfl, fun m hm => by omega, u, p, fun h => by omega, by show p.Perm (left sl []); rw [ZN]; exact h1, h2⟩
  | k + 1, hk => by
    have ih := Z5 hb hs k (by omega)
    obtain ⟨u, p, hu, hp, hch⟩ := ih.on
    have hol := first_len n sl k
    generalize hO : (first n sl k).out = out at *
    generalize hA : (first n sl k).at_ = a at *
    have ihnd : ∀ i j : Nat, i < j → j < k → ¬ nth out (i : Int) = nth out (j : Int) := fun i j h1 h2 => by have := ih.nd i j h1 h2; rwa [hO] at this
    have ihrun : ∀ i : Nat, i + 1 < k → (nth sl (nth out ((i + 1 : Nat) : Int))).1 = (nth sl (nth out (i : Int))).2 := fun i h => by have := ih.run i h; rwa [hO] at this
    have ihat0 : k = 0 → a = -1 := fun h => by have := ih.at0 h; rwa [hA] at this
    have ihat1 : ∀ m : Nat, m + 1 = k → a = (nth sl (nth out (m : Int))).2 := fun m h => by have := ih.at1 m h; rwa [hA, hO] at this
    have hbr : ∀ x ∈ out, 0 ≤ x ∧ x < (sl.length : Int) := by rw [← hO]; exact q7 hb.l1 k
    have hnd : out.Nodup := by
      rw [List.nodup_iff_pairwise_ne, List.pairwise_iff_getElem]
      intro i j hi hj hij
      have := ihnd i j hij (by omega)
      rwa [zO hi, zO hj] at this
    -- what is left is not nothing
    have hex : ∃ i : Nat, i < sl.length ∧ (i : Int) ∉ out := Classical.byContradiction fun hno => by
      have hall : ∀ x ∈ (List.range sl.length).map (fun i : Nat => (i : Int)), x ∈ out := fun x hx => by
        obtain ⟨i, hi, rfl⟩ := List.mem_map.1 hx
        exact Classical.byContradiction fun h => hno ⟨i, List.mem_range.1 hi, h⟩
      have hl2 : ((List.range sl.length).map (fun i : Nat => (i : Int))).length ≤ out.length := by
        have hd : ((List.range sl.length).map (fun i : Nat => (i : Int))).Nodup := by
          rw [List.nodup_iff_pairwise_ne, List.pairwise_map]
          exact (List.nodup_iff_pairwise_ne.1 List.nodup_range).imp fun h e => h (by omega)
        have sub : ∀ {A B : List Int}, A.Nodup → (∀ x ∈ A, x ∈ B) → A.length ≤ B.length := fun {A} => by
          induction A with
          | nil => intro B _ _; exact Nat.zero_le _
          | cons x A ih =>
            intro B hd h
            have hd := List.nodup_cons.1 hd
            have hx : x ∈ B := h x (List.mem_cons_self ..)
            have := ih (B := B.erase x) hd.2 fun y hy => (List.mem_erase_of_ne (fun e => hd.1 (by rw [← e]; exact hy))).2 (h y (List.mem_cons_of_mem _ hy))
            rw [List.length_erase_of_mem hx] at this
            have := List.length_pos_of_mem hx
            simp only [List.length_cons]
            omega
        exact sub hd hall
      rw [List.length_map, List.length_range] at hl2
      omega
    obtain ⟨i0, hi0, hni0⟩ := hex
    have hne : p ≠ [] := fun e => by
      have h1 := (kJ hni0 hi0).length_eq
      have h2 := hp.length_eq
      rw [e] at h2
      simp only [List.length_cons, List.length_nil] at h1 h2
      omega
    obtain ⟨e, p', rfl⟩ : ∃ e p', p = e :: p' := by
      cases p with
      | nil => exact absurd rfl hne
      | cons e p => exact ⟨e, p, rfl⟩
    have hem : e ∈ left sl out := hp.mem_iff.1 (List.mem_cons_self ..)
    obtain ⟨x, hx, hxe⟩ := List.mem_map.1 hem
    obtain ⟨i, hi, rfl, hled⟩ := vR.1 hx
    have hxe : nth sl (i : Int) = e := hxe
    have hper : p'.Perm (left sl (out ++ [(i : Int)])) := by
      have h1 := kJ hled.2 hi
      rw [hxe] at h1
      exact (hp.trans h1).cons_inv
    have hgood : play n sl (nth sl (i : Int)).2 (out ++ [(i : Int)]) = true := (k9 hb).2 ⟨p', hper, by rw [hxe]; exact hch.2⟩
    have hil : (i : Int) ∈ lead sl a out sl.length := by
      refine vR.2 ⟨i, hi, rfl, ?_, hled.2⟩
      by_cases hk0 : k = 0
      · left; rw [ihat0 hk0]; decide
      · right; rw [hxe, hch.1, hu (by omega)]
    have hsome : ∃ y, (lead sl a out sl.length).find? (fun i => play n sl (nth sl i).2 (out ++ [i])) = some y := by
      cases hf : (lead sl a out sl.length).find? (fun i => play n sl (nth sl i).2 (out ++ [i])) with
      | some y => exact ⟨y, rfl⟩
      | none => exact absurd hgood (List.find?_eq_none.1 hf _ hil)
    obtain ⟨y, hy⟩ := hsome
    have hpk : pick (fun i => play n sl (nth sl i).2 (out ++ [i])) (lead sl a out sl.length) = y := by unfold pick; rw [hy]; rfl
    have hym := List.mem_of_find?_eq_some hy
    have hyp := List.find?_some hy
    obtain ⟨j, hj, rfl, hjl⟩ := vR.1 hym
    obtain ⟨p2, hp2, hch2⟩ := (k9 hb).1 hyp
    have hout : (first n sl (k + 1)).out = out ++ [(j : Int)] := by
      show (first n sl k).out ++ [pick (fun i => play n sl (nth sl i).2 ((first n sl k).out ++ [i])) (lead sl (first n sl k).at_ (first n sl k).out sl.length)] = _
      rw [hO, hA, hpk]
    have hat : (first n sl (k + 1)).at_ = (nth sl (j : Int)).2 := by
      show (nth sl (pick (fun i => play n sl (nth sl i).2 ((first n sl k).out ++ [i])) (lead sl (first n sl k).at_ (first n sl k).out sl.length))).2 = _
      rw [hO, hA, hpk]
    refine ⟨fun i1 i2 h12 hi2 => ?_, fun i1 hi1 => ?_, fun h => by omega, fun m hm => ?_, (nth sl (j : Int)).2, p2, fun _ => hat.symm, by rw [hout]; exact hp2, hch2⟩
    · rw [hout]
      by_cases e2 : i2 = k
      · rw [vH (by omega), qG (by omega), zO (by omega)]
        intro e
        exact hjl.2 (e ▸ List.getElem_mem _)
      · rw [vH (by omega), vH (by omega)]
        exact ihnd i1 i2 h12 (by omega)
    · rw [hout]
      by_cases e2 : i1 + 1 = k
      · rw [qG (i := i1 + 1) (by omega), vH (by omega), ← ihat1 i1 e2]
        rcases hjl.1 with h | h
        · have : a = (nth sl (nth out (i1 : Int))).2 := ihat1 i1 e2
          have hb2 := hbr (nth out (i1 : Int)) (by rw [zO (by omega)]; exact List.getElem_mem _)
          have hok := hb.ok (nth out (i1 : Int)).toNat (by omega)
          rw [show (((nth out (i1 : Int)).toNat : Nat) : Int) = nth out (i1 : Int) by omega] at hok
          have h21 := hok.2.1
          rw [← this] at h21
          omega
        · exact h
      · rw [vH (i := i1 + 1) (by omega), vH (by omega)]
        exact ihrun i1 (by omega)
    · have hmk : m = k := by omega
      rw [hat, hout, qG (by omega)]
theorem first_tune {n:Int} {sl:List Pr} (hb:Book n sl) (hs:¬ starts n sl=[]):Tune sl (first n sl sl.length).out:=by
 have h:=Z5 hb hs sl.length (Nat.le_refl _)
 have hl:=first_len n sl sl.length
 exact ⟨hl,fun i hi=>q7 hb.l1 sl.length _ (by rw [zO hi]; exact List.getElem_mem _),fun i j hij hj=>h.nd i j hij (by omega),fun i hi=>h.run i (by omega)⟩
end Tn
end Go.Fip
namespace Go.Fip
namespace Tn
def swp (p:Pr):Pr:=(p.2,p.1)
def turnTo (sl:List Pr) (k:Nat):List Pr:=(sl.take k).map swp
theorem turn_len {sl:List Pr} {k:Nat} (h:k≤sl.length):(turnTo sl k).length=k:=by unfold turnTo; rw [List.length_map,List.length_take]; omega
theorem turn_snoc {sl:List Pr} {k:Nat} (h:k<sl.length):turnTo sl k++[((nth sl (k:Int)).2,(nth sl (k:Int)).1)]=turnTo sl (k+1):=by
 unfold turnTo; rw [uM h,List.map_append]; rfl
theorem uB {sl:List Pr} {i:Int} (h:0≤i∧i<(sl.length:Int)):nth (turnTo sl sl.length) i=swp (nth sl i):=by
 obtain ⟨j,rfl⟩:∃ j:Nat,i=(j:Int):=⟨i.toNat,by omega⟩
 unfold turnTo
 rw [List.take_length,zO (by rw [List.length_map]; omega),zO (by omega),List.getElem_map]
theorem Book.turn {n : Int} {sl : List Pr} (h : Book n sl) : Book n (turnTo sl sl.length) := by
  have hl := turn_len (sl := sl) (Nat.le_refl _)
  exact ⟨h.n1, h.n8, by rw [hl]; exact h.l1, by rw [hl]; exact h.l14, fun i hi => by
    rw [hl] at hi
    rw [uB (by omega)]
    have := h.ok i hi
    exact ⟨this.2, this.1⟩⟩
def revTo (t:List Int) (k:Nat):List Int:=(t.drop (t.length - k)).reverse
theorem rev_0 (t:List Int):revTo t 0=[]:=by unfold revTo; simp
theorem rev_len {t:List Int} {k:Nat} (h:k≤t.length):(revTo t k).length=k:=by unfold revTo; rw [List.length_reverse,List.length_drop]; omega
theorem rev_snoc {t:List Int} {k:Nat} (h:k<t.length):revTo t k++[nth t (((t.length - 1 - k:Nat):Int))]=revTo t (k+1):=by
 unfold revTo
 have e:t.drop (t.length - (k+1))=nth t ((t.length - 1 - k:Nat):Int)::t.drop (t.length - k):=by
  rw [show t.length - (k+1)=t.length - 1 - k by omega,Sf.drop_cons (by omega),show t.length - 1 - k+1=t.length - k by omega]
 rw [e,List.reverse_cons]
theorem rev_all (t:List Int):revTo t t.length=t.reverse:=by unfold revTo; rw [Nat.sub_self,List.drop_zero]
theorem vU {t:List Int} {i:Nat} (h:i<t.length):nth t.reverse (i:Int)=nth t ((t.length - 1 - i:Nat):Int):=by
 rw [zO (by rw [List.length_reverse]; exact h),zO (by omega),List.getElem_reverse]
theorem Tune.turn {sl:List Pr} {t:List Int} (h:Tune sl t):Tune (turnTo sl sl.length) t.reverse:=by
 have hl:=turn_len (sl:=sl) (Nat.le_refl _)
 have hr:t.reverse.length=t.length:=List.length_reverse
 refine ⟨by rw [hr,hl]; exact h.len,fun i hi=>?_,fun i j hij hj=>?_,fun i hi=>?_⟩
 ·rw [hr] at hi
  rw [vU hi,hl]; exact h.inn _ (by omega)
 ·rw [hr] at hj
  rw [vU (by omega),vU hj]
  exact fun e=>h.nd _ _ (by omega) (by omega) e.symm
 ·rw [hr] at hi
  rw [vU hi,vU (by omega)]
  have h1:=h.inn (t.length - 1 - (i+1)) (by omega)
  have h2:=h.inn (t.length - 1 - i) (by omega)
  rw [uB h1,uB h2]
  have:=h.run (t.length - 1 - (i+1)) (by omega)
  rw [show t.length - 1 - (i+1)+1=t.length - 1 - i by omega] at this
  exact this.symm
theorem ends_turn {sl:List Pr} {t:List Int} (h:Tune sl t) (hl:1≤sl.length):ends (turnTo sl sl.length) t.reverse=((ends sl t).2,(ends sl t).1):=by
 have htl:=h.len
 have hr:t.reverse.length=t.length:=List.length_reverse
 have e0:=vU (t:=t) (i:=0) (by omega)
 have e1:=vU (t:=t) (i:=t.length - 1) (by omega)
 have i0:=h.inn 0 (by omega)
 have i1:=h.inn (t.length - 1) (by omega)
 unfold ends
 rw [hr,show (0:Int)=((0:Nat):Int) from rfl,e0,show (t.length:Int) - 1=((t.length - 1:Nat):Int) by omega,e1]
 rw [show t.length - 1 - 0=t.length - 1 by omega,show t.length - 1 - (t.length - 1)=0 by omega]
 rw [uB i1,uB i0]
 rfl
theorem wants_len (sl:List Pr) (t:List Int):(wants sl t).length=t.length+1:=by unfold wants; simp
theorem Tune.note {n:Int} {sl:List Pr} {t:List Int} (h:Tune sl t) (hb:Book n sl) {i:Nat} (hi:i<t.length):okP n (nth sl (nth t (i:Int))):=by
 have h1:=h.inn i hi
 have:=hb.ok (nth t (i:Int)).toNat (by omega)
 rwa [show (((nth t (i:Int)).toNat:Nat):Int)=nth t (i:Int) by omega] at this
theorem ZX {n : Int} {sl : List Pr} {t : List Int} (h : Tune sl t) (hb : Book n sl) : ∀ x ∈ wants sl t, 1 ≤ x ∧ x ≤ 8 := fun x hx => by
  have h8 := hb.n8
  have hl := h.len
  have hl1 := hb.l1
  rcases List.mem_cons.1 hx with e | hx
  · have := h.note hb (i := 0) (by omega)
    rw [e]
    have h0 : okP n (nth sl (nth t 0)) := this
    have h1 := h0.1
    omega
  · obtain ⟨y, hy, rfl⟩ := List.mem_map.1 hx
    obtain ⟨i, hi, rfl⟩ := List.getElem_of_mem hy
    have := h.note hb hi
    rw [zO hi] at this
    have h2 := this.2
    omega
theorem wants_day {n room:Int} {sl:List Pr} {t:List Int} (h:Tune sl t) (hb:Book n sl) (h11:sl.length≤11) (hr:1≤room∧room≤6):Sf.ck room (wants sl t)=0 :=
 Sf.ck_iff.2 ⟨hr.1,hr.2,by rw [wants_len,h.len]; omega,ZX h hb⟩
theorem rev_day {room:Int} {l:List Int} (h:Sf.ck room l=0):Sf.ck room l.reverse=0:=by
 have h:=Sf.ck_iff.1 h
 exact Sf.ck_iff.2 ⟨h.r1,h.r2,by rw [List.length_reverse]; exact h.n,fun x hx=>h.w x (List.mem_reverse.1 hx)⟩
def moved (t:List Int) (a:Nat):List Int:=t.drop a++t.take a
theorem moved_len {t:List Int} {a:Nat} (h:a≤t.length):(moved t a).length=t.length:=by unfold moved; rw [List.length_append,List.length_drop,List.length_take]; omega
theorem xU {t : List Int} {a i : Nat} (ha : a ≤ t.length) (hi : i < t.length) : nth (moved t a) (i : Int) = if i + a < t.length then nth t ((i + a : Nat) : Int) else nth t ((i + a - t.length : Nat) : Int) := by
  rw [zO (by rw [moved_len ha]; exact hi)]
  unfold moved
  by_cases h : i + a < t.length
  · rw [if_pos h, List.getElem_append_left (by rw [List.length_drop]; omega), List.getElem_drop, zO h]
    congr 1; omega
  · rw [if_neg h, List.getElem_append_right (by rw [List.length_drop]; omega), List.getElem_take, zO (by omega)]
    congr 1; rw [List.length_drop]; omega
theorem Tune.moved {sl : List Pr} {t : List Int} (h : Tune sl t) (hl : 1 ≤ sl.length) (hc : (ends sl t).1 = (ends sl t).2) {a : Nat} (ha : a < t.length) : Tune sl (Tn.moved t a) := by
  have hml := moved_len (t := t) (a := a) (by omega)
  have htl := h.len
  refine ⟨by rw [hml]; exact h.len, fun i hi => ?_, fun i j hij hj => ?_, fun i hi => ?_⟩
  · rw [hml] at hi
    rw [xU (by omega) hi]
    split
    · exact h.inn _ (by assumption)
    · exact h.inn _ (by omega)
  · rw [hml] at hj
    rw [xU (by omega) (by omega), xU (by omega) hj]
    split <;> split
    · exact h.nd _ _ (by omega) (by omega)
    · exact fun e => h.nd _ _ (by omega) (by omega) e.symm
    · omega
    · exact h.nd _ _ (by omega) (by omega)
  · rw [hml] at hi
    rw [xU (by omega) hi, xU (by omega) (by omega)]
    split <;> split
    · have := h.run (i + a) (by omega)
      rwa [show i + a + 1 = i + 1 + a by omega] at this
    · omega
    · rw [show i + 1 + a - t.length = 0 by omega, show i + a = t.length - 1 by omega]
      unfold ends at hc
      rw [show (t.length : Int) - 1 = ((t.length - 1 : Nat) : Int) by omega] at hc
      exact hc
    · have := h.run (i + a - t.length) (by omega)
      rwa [show i + a - t.length + 1 = i + 1 + a - t.length by omega] at this
theorem ends_moved {sl : List Pr} {t : List Int} (h : Tune sl t) (hl : 1 ≤ sl.length) (hc : (ends sl t).1 = (ends sl t).2) {a : Nat} (ha : a < t.length) : (ends sl (Tn.moved t a)).1 = (ends sl (Tn.moved t a)).2 := by
  have hml := moved_len (t := t) (a := a) (by omega)
  have htl := h.len
  have e0 := xU (t := t) (a := a) (i := 0) (by omega) (by omega)
  have e1 := xU (t := t) (a := a) (i := t.length - 1) (by omega) (by omega)
  unfold ends at hc ⊢
  rw [hml]
  rw [show (t.length : Int) - 1 = ((t.length - 1 : Nat) : Int) by omega] at hc ⊢
  rw [show (0 : Int) = ((0 : Nat) : Int) from rfl, e0, e1, if_pos (by omega)]
  by_cases h0 : a = 0
  · subst h0
    rw [if_pos (by omega), show 0 + 0 = 0 from rfl, show t.length - 1 + 0 = t.length - 1 from rfl]
    exact hc
  · rw [if_neg (by omega)]
    have := h.run (a - 1) (by omega)
    rw [show a - 1 + 1 = a by omega] at this
    rw [show 0 + a = a by omega, show t.length - 1 + a - t.length = a - 1 by omega]
    exact this
theorem q4 {l:List Int} {k:Nat} (hk:k<l.length):l.take (k+1)=l.take k++[nth l (k:Int)]:=by rw [zO hk,List.take_succ_eq_append_getElem hk]
theorem X4 {t:List Int} {a:Nat} (h:a<t.length):nth (t.drop a) ((t.length - a - 1:Nat):Int)=nth t ((t.length - 1:Nat):Int):=by
 rw [zO (by rw [List.length_drop]; omega),zO (by omega),List.getElem_drop]
 congr 1; omega
theorem ZE {room : Nat} {n : Int} {sl : List Pr} {t : List Int} (hr : 1 ≤ room) (h : Tune sl t) (hb : Book n sl) (hc : (ends sl t).1 = (ends sl t).2) {a : Nat} (ha : a < t.length) :
    Sf.few room (wants sl (moved t a)) ≤ Sf.few room (wants sl t) + room ∧ Sf.few room (wants sl t) ≤ Sf.few room (wants sl (moved t a)) + room := by
  by_cases h0 : a = 0
  · subst h0
    have e : moved t 0 = t := by unfold moved; simp
    rw [e]; omega
  · -- the parts
    have htl := h.len
    let f : Int → Int := fun i => (nth sl i).2 + 1
    let c := (nth sl (nth t 0)).1 + 1
    let x := (nth sl (nth t (a : Int))).1 + 1
    let A := (t.take (a - 1)).map f
    let B0 := ((t.drop a).take (t.length - a - 1)).map f
    have hx : f (nth t ((a - 1 : Nat) : Int)) = x := by
      have := h.run (a - 1) (by omega)
      rw [show a - 1 + 1 = a by omega] at this
      show (nth sl (nth t ((a - 1 : Nat) : Int))).2 + 1 = (nth sl (nth t (a : Int))).1 + 1
      rw [this]
    have hcl : f (nth t ((t.length - 1 : Nat) : Int)) = c := by
      unfold ends at hc
      rw [show (t.length : Int) - 1 = ((t.length - 1 : Nat) : Int) by omega] at hc
      show (nth sl (nth t ((t.length - 1 : Nat) : Int))).2 + 1 = (nth sl (nth t 0)).1 + 1
      rw [show (nth sl (nth t 0)).1 = (nth sl (nth t ((t.length - 1 : Nat) : Int))).2 from hc]
    have t1 : t.take a = t.take (a - 1) ++ [nth t ((a - 1 : Nat) : Int)] := by
      have := q4 (l := t) (k := a - 1) (by omega)
      rwa [show a - 1 + 1 = a by omega] at this
    have t2 : t.drop a = (t.drop a).take (t.length - a - 1) ++ [nth t ((t.length - 1 : Nat) : Int)] := by
      have hd : (t.drop a).length = t.length - a := List.length_drop
      have := q4 (l := t.drop a) (k := t.length - a - 1) (by omega)
      rw [show t.length - a - 1 + 1 = (t.drop a).length by omega, List.take_length] at this
      rw [← X4 (t := t) (a := a) (by omega)]
      exact this
    have w1 : wants sl t = c :: A ++ x :: (B0 ++ [c]) := by
      show c :: t.map f = _
      conv => lhs; rw [← List.take_append_drop a t, t1, t2]
      rw [List.map_append, List.map_append, List.map_append, List.map_singleton, List.map_singleton, hx, hcl]
      simp [A, B0]
    have w2 : wants sl (moved t a) = (x :: (B0 ++ [c])) ++ (A ++ [x]) := by
      have e0 : nth (moved t a) 0 = nth t (a : Int) := by
        have := xU (t := t) (a := a) (i := 0) (by omega) (by omega)
        rw [if_pos (by omega)] at this
        rwa [show 0 + a = a by omega] at this
      show ((nth sl (nth (moved t a) 0)).1 + 1) :: (moved t a).map f = _
      rw [e0]
      unfold moved
      rw [t1, t2, List.map_append, List.map_append, List.map_append, List.map_singleton, List.map_singleton, hx, hcl]
      simp [A, B0, x]
    constructor
    · rw [w1, w2]; exact Sf.few_rot hr
    · have h2 : wants sl (moved t a) = x :: B0 ++ c :: (A ++ [x]) := by rw [w2]; simp
      have h1 : wants sl t = (c :: (A ++ [x])) ++ (B0 ++ [c]) := by rw [w1]; simp
      rw [h1, h2]; exact Sf.few_rot hr
theorem few_movedI {room:Int} {n:Int} {sl:List Pr} {t:List Int} (hr:1≤room) (h:Tune sl t) (hb:Book n sl) (hc:(ends sl t).1=(ends sl t).2) {a:Nat} (ha:a<t.length) :
  (Sf.few room (wants sl (moved t a)):Int)≤(Sf.few room (wants sl t):Int)+room∧(Sf.few room (wants sl t):Int)≤(Sf.few room (wants sl (moved t a)):Int)+room:=by
 obtain ⟨r,rfl⟩:∃ r:Nat,room=(r:Int):=⟨room.toNat,by omega⟩
 have:=ZE (room:=r) (by omega) h hb hc ha
 omega
end Tn
namespace Sf
theorem few_revI {room:Int} {l:List Int} (hr:1≤room):few room l.reverse=few room l:=by
 obtain ⟨r,rfl⟩:∃ r:Nat,room=(r:Int):=⟨room.toNat,by omega⟩
 exact XO (by omega)
theorem few_len {room:Int} (hr:1≤room) (l:List Int):few room l≤l.length:=(run_len (rule:=3) (l:=l) hr l.length).2.2
theorem few_difI {room:Int} {l:List Int} (hr:1≤room) (h:(difTo l l.length:Int)≤room):(few room l:Int)=(difTo l l.length:Int):=by
 obtain ⟨r,rfl⟩:∃ r:Nat,room=(r:Int):=⟨room.toNat,by omega⟩
 rw [XP (by omega) (by omega)]
theorem dif_t {l:List Int} {k:Nat} (h:nth l (k:Int)∈l.take (k:Int).toNat):(difTo l (k+1):Int)=(difTo l k:Int):=by
 rw [Int.toNat_natCast] at h
 show ((difTo l k+(if _ then 0 else 1):Nat):Int)=_; rw [if_pos h]; rfl
theorem dif_f {l:List Int} {k:Nat} (h:¬ nth l (k:Int)∈l.take (k:Int).toNat):(difTo l (k+1):Int)=(difTo l k:Int)+1:=by
 rw [Int.toNat_natCast] at h
 show ((difTo l k+(if _ then 0 else 1):Nat):Int)=_; rw [if_neg h]; rfl
theorem dif_le (l:List Int):∀ k,difTo l k≤k
 | 0=>Nat.le_refl _
 | k+1=>by have:=dif_le l k; show difTo l k+(if _ then 0 else 1)≤k+1; split <;> omega
end Sf
end Go.Fip
