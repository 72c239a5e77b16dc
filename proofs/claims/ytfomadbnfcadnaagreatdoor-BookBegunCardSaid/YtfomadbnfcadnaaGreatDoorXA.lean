/- The arguments of this seat's laws, as they are read; what the listed variables hold. -/
import Derived.Test.YtfomadbnfcadnaaGreatDoorRows
import Derived.Test.YtfomadbnfcadnaaGreatDoorMB
import Derived.Test.YtfomadbnfcadnaaGreatDoorMC
import Derived.Deep.Slices
import Derived.LaidMore
import Derived.Lay
import Derived.Lib.LaidU8
import Derived.Stop.Joined
import Derived.Shelf.Vars
set_option linter.unusedVariables false
set_option linter.unusedSimpArgs false
set_option linter.unusedSectionVars false
set_option linter.unnecessarySimpa false
set_option maxRecDepth 100000
namespace Go.Proofs.YtfomadbnfcadnaaGreatDoor
open Go.ChangeShapes Go.WideShapes Go.ChangeAt Go.RowKit Go.Fip
theorem own : ownKnob Tryz.prog.godebug = none := by kernel_rfl
theorem laidO : laidOutB Tryz.prog = true := by kernel_rfl
section
variable {H : Type} {enc : TypeId × Value → H} {W : World} {b : Nat} {v : Value} {d : DataW H} {ps : List MemPlace}
theorem addr_add (ab ao o : Nat) : (⟨ab, ao, none⟩ : Addr).add o = ⟨ab, ao + o, none⟩ := by
  unfold Addr.add
  split
  · subst_vars; rfl
  · rfl
theorem ent_cells {n : Nat} {cs : List Value} {x : DataW H × List MemPlace} (h : DataW.trod enc Tryz.prog W 0 (fun _ => true) true n 38 cs = some x) : ∃ e : En, cs = encE e := by
  obtain ⟨xs, k, hk, hxy, hlen, hxl, hf⟩ := DataW.trod_struct Tryz.underlying38 h
  have hc : Tryz.prog.cellsOf 38 = 5 := by kernel_rfl
  have hc2 : Tryz.prog.cellsOf 2 = 1 := by kernel_rfl
  rw [hc] at hlen
  match cs, hlen with
  | [v0, v1, v2, v3, v4], _ =>
    match xs, hxl with
    | [y0, y1, y2, y3, y4], _ =>
      have g0 := hf 0 _ rfl
      have g1 := hf 1 _ rfl
      have g2 := hf 2 _ rfl
      have g3 := hf 3 _ rfl
      have g4 := hf 4 _ rfl
      simp [hc2] at g0 g1 g2 g3 g4
      obtain ⟨n0, e0, _, _⟩ := DataW.trod_int Tryz.underlying2 g0
      obtain ⟨n1, e1, _, _⟩ := DataW.trod_int Tryz.underlying2 g1
      obtain ⟨n2, e2, _, _⟩ := DataW.trod_int Tryz.underlying2 g2
      obtain ⟨n3, e3, _, _⟩ := DataW.trod_int Tryz.underlying2 g3
      obtain ⟨n4, e4, _, _⟩ := DataW.trod_int Tryz.underlying2 g4
      simp only [List.cons.injEq, and_true] at e0 e1 e2 e3 e4
      subst e0 e1 e2 e3 e4
      exact ⟨⟨n0, n1, n2, n3, n4⟩, rfl⟩
theorem slice_ents {fuel : Nat} {x : DataW H × List MemPlace} (hok : Cell.okWide Tryz.prog W .any b 22 v) (h : DataW.trod enc Tryz.prog W 0 (fun _ => true) true fuel 22 [v] = some x) : ∃ l : List En, Rd encE 5 v l W := by
  rcases Go.Deep.open_slice Tryz.underlying22 h with ⟨e1, _⟩ | ⟨a, len, cap, m, n, D, Pl, e1, _, h2, _, h4, _, h6⟩
  · cases e1
    exact ⟨[], ⟨none, 0, rfl, Nat.le_refl _, .inl ⟨rfl, rfl⟩⟩, fun i x hx => by simp at hx⟩
  · cases e1
    simp [Cell.okWide, Cell.ok, Tryz.underlying22] at hok
    have hsp : a.spot = none := hok.2.2.2.1
    obtain ⟨ab, ao, asp⟩ := a
    simp only at hsp
    subst hsp
    simp only [if_true] at h4
    have hc : Tryz.prog.cellsOf 38 = 5 := by kernel_rfl
    have each : ∀ i, i < len → ∃ e : En, ∀ j u, (encE e)[j]? = some u → W.cell? ⟨ab, ao + i * 5 + j, none⟩ = some u := fun i hi => by
      obtain ⟨cs', h9, h10⟩ := h6 i (by omega)
      rw [hc] at h9
      obtain ⟨e, rfl⟩ := ent_cells h10
      obtain ⟨_, hlen, hcell⟩ := World.cells?_some h9
      refine ⟨e, fun j u hj => ?_⟩
      have hj5 : j < 5 := by
        have := (List.getElem?_eq_some_iff.1 hj).1
        exact this
      have h11 := hcell j (by omega)
      rw [addr_add, addr_add] at h11
      rw [h11]
      exact hj
    obtain ⟨p, hp⟩ := Go.Deep.choose_lt each
    refine ⟨(List.range len).map p, ⟨some ⟨ab, ao, none⟩, cap, by simp, by simpa using h2, .inr ⟨ab, ao, rfl⟩⟩, fun i x hx j u hj => ?_⟩
    rw [List.getElem?_map] at hx
    by_cases hi : i < len
    · rw [List.getElem?_range hi] at hx
      simp at hx
      subst hx
      exact hp i hi j u hj
    · rw [List.getElem?_eq_none (by simp; omega)] at hx
      simp at hx
set_option maxRecDepth 100000 in
theorem argBook (hok : Value.okWide Tryz.prog W .any b 24 v) (h : DataW.Trod enc Tryz.prog W 0 (fun _ => true) true 24 v d ps) : ∃ (s : Value) (l : List En), v = .agg #[s] ∧ Rd encE 5 s l W := by
  obtain ⟨fuel, h⟩ := h
  simp only [Value.okWide, Tryz.underlying24] at hok
  obtain ⟨cs, rfl, hsz, ts, hts, _, hrow⟩ := hok
  have hct : Tryz.prog.cellTypes Tryz.prog.depth 24 = some [22] := by kernel_rfl
  have hcs : Tryz.prog.cellsOf 24 = 1 := by kernel_rfl
  have hc22 : Tryz.prog.cellsOf 22 = 1 := by kernel_rfl
  rw [hct] at hts
  cases hts
  rw [hcs] at hsz
  obtain ⟨x, rfl⟩ : ∃ x, cs = #[x] := by
    obtain ⟨l⟩ := cs
    match l, hsz with
    | [x], _ => exact ⟨x, rfl⟩
  have hcells : (Value.agg #[x]).cells.toList = [x] := rfl
  rw [hcells] at h
  obtain ⟨xs, n, _, _, _, hl, hf⟩ := DataW.trod_struct Tryz.underlying24 h
  have g0 := hf 0 _ rfl
  match xs, hl with
  | [a0], _ =>
    simp [hc22] at g0
    obtain ⟨u0, hu0, k0⟩ := hrow 0 x rfl
    simp at hu0
    subst hu0
    obtain ⟨l, hl2⟩ := slice_ents k0 g0
    exact ⟨x, l, rfl, hl2⟩
set_option maxRecDepth 100000 in
theorem argEnt (hok : Value.okWide Tryz.prog W .any b 38 v) (h : DataW.Trod enc Tryz.prog W 0 (fun _ => true) true 38 v d ps) : ∃ e : En, v = .agg #[.int .i64 e.n, .int .i64 e.d, .int .i64 e.f, .int .i64 e.t, .int .i64 e.a] := by
  obtain ⟨fuel, h⟩ := h
  simp only [Value.okWide, Tryz.underlying38] at hok
  obtain ⟨cs, rfl, hsz, ts, hts, _, hrow⟩ := hok
  have hcells : (Value.agg cs).cells.toList = cs.toList := rfl
  rw [hcells] at h
  obtain ⟨e, he⟩ := ent_cells h
  refine ⟨e, ?_⟩
  obtain ⟨l⟩ := cs
  simp only at he
  rw [show l = encE e from he]; rfl
set_option maxRecDepth 100000 in
theorem argWords (hok : Value.okWide Tryz.prog W .any b 39 v) (h : DataW.Trod enc Tryz.prog W 0 (fun _ => true) true 39 v d ps) : ∃ xs : List UInt64, Rd encW 1 v xs W := by
  obtain ⟨xs, hx, hw⟩ := arg_ints Tryz.underlying39 Tryz.underlying32 (by kernel_rfl) hok h
  refine ⟨xs.map fun n => UInt64.ofNat n.toNat, ?_, fun i x hi j u hj => ?_⟩
  · rw [List.length_map]; exact hx.1
  · rw [List.getElem?_map] at hi
    cases hq : xs[i]? with
    | none => rw [hq] at hi; simp at hi
    | some z =>
      rw [hq] at hi
      simp at hi
      subst hi
      have hz := hw z (List.mem_of_getElem? hq)
      have hb : 0 ≤ z ∧ z ≤ 18446744073709551615 := by simpa [Lit.wf, IntKind.min, IntKind.max, IntKind.signed, IntKind.bits] using hz
      have he : ((UInt64.ofNat z.toNat).toNat : Int) = z := by
        rw [UInt64.toNat_ofNat', Nat.mod_eq_of_lt (by omega)]; omega
      match j, hj with
      | 0, hj =>
        simp only [encW, List.getElem?_cons_zero, Option.some.injEq] at hj
        rw [he] at hj
        exact hx.2 i z hq 0 u (by simpa using hj)
      | j + 1, hj => simp [encW] at hj
theorem argStr (hok : Value.okWide Tryz.prog W .any b 9 v) (h : DataW.Trod enc Tryz.prog W 0 (fun _ => true) true 9 v d ps) : ∃ l : List UInt8, v = str l := by
  obtain ⟨s, rfl, _, _, _⟩ := Go.ChangeMaps.open_string Tryz.underlying9 hok h
  exact ⟨s.data.toList, rfl⟩
theorem argU64 (hok : Value.okWide Tryz.prog W .any b 32 v) (h : DataW.Trod enc Tryz.prog W 0 (fun _ => true) true 32 v d ps) : ∃ x : UInt64, v = .int .u64 (x.toNat : Int) := by
  obtain ⟨a, rfl, _, _, w⟩ := open_int Tryz.underlying32 hok h
  have hb : 0 ≤ a ∧ a ≤ 18446744073709551615 := by simpa [Lit.wf, IntKind.min, IntKind.max, IntKind.signed, IntKind.bits] using w
  exact ⟨UInt64.ofNat a.toNat, by rw [UInt64.toNat_ofNat', Nat.mod_eq_of_lt (by omega)]; congr 1; omega⟩
theorem argInt {t : Nat} {k : IntKind} (ht : Tryz.prog.underlying t = some (.int k)) (hok : Value.okWide Tryz.prog W .any b t v) (h : DataW.Trod enc Tryz.prog W 0 (fun _ => true) true t v d ps) : ∃ a : Int, v = .int k a ∧ (Lit.int k a).wf = true := by
  obtain ⟨a, rfl, _, _, w⟩ := open_int ht hok h
  exact ⟨a, rfl, w⟩
end
theorem trodAll_five {H : Type} {enc : TypeId × Value → H} {P : Program} {w : World} {base : Nat} {spare : Nat → Bool} {held : Bool} {t0 t1 t2 t3 t4 : TypeId} {args : Array Value} {ds : List (DataW H)} {ps : List MemPlace} (h : DataW.TrodAll enc P w base spare held [t0, t1, t2, t3, t4] args.toList ds ps) :
    ∃ v0 v1 v2 v3 v4 d0 d1 d2 d3 d4 p0 p1 p2 p3 p4, args = #[v0, v1, v2, v3, v4] ∧ ds = [d0, d1, d2, d3, d4] ∧ ps = p0 ++ p1 ++ p2 ++ p3 ++ p4 ∧ DataW.Trod enc P w base spare held t0 v0 d0 p0 ∧ DataW.Trod enc P w base spare held t1 v1 d1 p1 ∧ DataW.Trod enc P w base spare held t2 v2 d2 p2 ∧ DataW.Trod enc P w base spare held t3 v3 d3 p3 ∧ DataW.Trod enc P w base spare held t4 v4 d4 p4 := by
  obtain ⟨v0, vs0, d0, ds0, p0, q0, hargs, rfl, rfl, h0, r0⟩ := trodAll_cons h
  obtain ⟨v1, vs1, d1, ds1, p1, q1, rfl, rfl, rfl, h1, r1⟩ := trodAll_cons r0
  obtain ⟨v2, vs2, d2, ds2, p2, q2, rfl, rfl, rfl, h2, r2⟩ := trodAll_cons r1
  obtain ⟨v3, vs3, d3, ds3, p3, q3, rfl, rfl, rfl, h3, r3⟩ := trodAll_cons r2
  obtain ⟨v4, vs4, d4, ds4, p4, q4, rfl, rfl, rfl, h4, r4⟩ := trodAll_cons r3
  obtain ⟨rfl, rfl, rfl⟩ := trodAll_nil r4
  exact ⟨v0, v1, v2, v3, v4, d0, d1, d2, d3, d4, p0, p1, p2, p3, p4, by cases args; simp_all, rfl, by simp, h0, h1, h2, h3, h4⟩
theorem trodAll_seven {H : Type} {enc : TypeId × Value → H} {P : Program} {w : World} {base : Nat} {spare : Nat → Bool} {held : Bool} {t0 t1 t2 t3 t4 t5 t6 : TypeId} {args : Array Value} {ds : List (DataW H)} {ps : List MemPlace} (h : DataW.TrodAll enc P w base spare held [t0, t1, t2, t3, t4, t5, t6] args.toList ds ps) :
    ∃ v0 v1 v2 v3 v4 v5 v6 d0 d1 d2 d3 d4 d5 d6 p0 p1 p2 p3 p4 p5 p6, args = #[v0, v1, v2, v3, v4, v5, v6] ∧ ds = [d0, d1, d2, d3, d4, d5, d6] ∧ ps = p0 ++ p1 ++ p2 ++ p3 ++ p4 ++ p5 ++ p6 ∧ DataW.Trod enc P w base spare held t0 v0 d0 p0 ∧ DataW.Trod enc P w base spare held t1 v1 d1 p1 ∧ DataW.Trod enc P w base spare held t2 v2 d2 p2 ∧ DataW.Trod enc P w base spare held t3 v3 d3 p3 ∧ DataW.Trod enc P w base spare held t4 v4 d4 p4 ∧ DataW.Trod enc P w base spare held t5 v5 d5 p5 ∧ DataW.Trod enc P w base spare held t6 v6 d6 p6 := by
  obtain ⟨v0, vs0, d0, ds0, p0, q0, hargs, rfl, rfl, h0, r0⟩ := trodAll_cons h
  obtain ⟨v1, vs1, d1, ds1, p1, q1, rfl, rfl, rfl, h1, r1⟩ := trodAll_cons r0
  obtain ⟨v2, vs2, d2, ds2, p2, q2, rfl, rfl, rfl, h2, r2⟩ := trodAll_cons r1
  obtain ⟨v3, vs3, d3, ds3, p3, q3, rfl, rfl, rfl, h3, r3⟩ := trodAll_cons r2
  obtain ⟨v4, vs4, d4, ds4, p4, q4, rfl, rfl, rfl, h4, r4⟩ := trodAll_cons r3
  obtain ⟨v5, vs5, d5, ds5, p5, q5, rfl, rfl, rfl, h5, r5⟩ := trodAll_cons r4
  obtain ⟨v6, vs6, d6, ds6, p6, q6, rfl, rfl, rfl, h6, r6⟩ := trodAll_cons r5
  obtain ⟨rfl, rfl, rfl⟩ := trodAll_nil r6
  exact ⟨v0, v1, v2, v3, v4, v5, v6, d0, d1, d2, d3, d4, d5, d6, p0, p1, p2, p3, p4, p5, p6, by cases args; simp_all, rfl, by simp, h0, h1, h2, h3, h4, h5, h6⟩
section
variable {W : World}
theorem iface_of {H : Type} {enc : TypeId × Value → H} {sp : Nat → Bool} {fuel t : Nat} {cs : List Value} {n : String} {d : DataW H} {p : List MemPlace} {ms : Array (String × TypeId)} (ht : Tryz.prog.underlying t = some (.interface ms))
    (h : DataW.trod enc Tryz.prog W 0 sp false fuel t cs = some (.iface n d, p)) : ∃ te pe, cs = [.iface te pe] := by
  cases fuel with
  | zero => simp [DataW.trod] at h
  | succ fuel =>
    unfold DataW.trod at h
    rw [ht] at h
    split at h <;> first | exact ⟨_, _, rfl⟩ | (exfalso; simp_all; done)
theorem gl_of (hs : W.ShapedOpen Tryz.prog) (h : laidMet Tryz.prog Rows.bookBooksRow.laid W) : Gl W where
  tab := by
    obtain ⟨g, t, cs, fuel, p, hg, ht, hv, hd⟩ := Lib.laidMet.reads h (n := "internal/strconv.uint64pow10") (d := Rows.laid_internal_strconv_uint64pow10) (.tail _ (.tail _ (.head _)))
    obtain rfl := Option.some.inj ((show Tryz.prog.globalNamed "internal/strconv.uint64pow10" = some 0 by kernel_rfl).symm.trans hg)
    obtain rfl := Option.some.inj ((show (Tryz.prog.globals[0]?).map (·.type) = some 213 by kernel_rfl).symm.trans ht)
    have hu : Tryz.prog.underlying 213 = some (.array 20 32) := Tryz.underlying213
    have hce : Tryz.prog.cellsOf 32 = 1 := by kernel_rfl
    have hct : Tryz.prog.cellsOf 213 = 20 := by kernel_rfl
    have := Lib.cells_of_tab (zs := Lib.pow10Tab) hu Tryz.underlying32 hce hct (show DataW.trod (fun _ => ()) Tryz.prog W 0 (fun _ => true) false fuel 213 cs.toList = some (Lib.tabData .u64 Lib.pow10Tab, p) from hd)
    unfold Lib.TabIs
    rw [hv, ← this]
  len := Go.Proofs.cell_of_shapedOpen_int (k := .i64) (zero := #[.int .i64 0]) (t := 3) hs (of_decide_eq_true (by kernel_rfl)) (by kernel_rfl) rfl (by kernel_rfl) (by kernel_rfl) Tryz.underlying3
  syn := by
    obtain ⟨g, t, cs, fuel, p, hg, ht, hv, hd⟩ := Lib.laidMet.reads h (n := "strconv.ErrSyntax") (d := Rows.laid_strconv_ErrSyntax) (.tail _ (.tail _ (.tail _ (.tail _ (.tail _ (.head _))))))
    obtain rfl := Option.some.inj ((show Tryz.prog.globalNamed "strconv.ErrSyntax" = some 4 by kernel_rfl).symm.trans hg)
    obtain rfl := Option.some.inj ((show (Tryz.prog.globals[4]?).map (·.type) = some 114 by kernel_rfl).symm.trans ht)
    obtain ⟨te, pe, hcs⟩ := iface_of Tryz.underlying114 hd
    have := World.var?_cell hg hv 0
    rw [Array.eq_one_of_toList hcs] at this
    exact ⟨te, pe, by simpa using this⟩
  rng := by
    obtain ⟨g, t, cs, fuel, p, hg, ht, hv, hd⟩ := Lib.laidMet.reads h (n := "strconv.ErrRange") (d := Rows.laid_strconv_ErrRange) (.tail _ (.tail _ (.tail _ (.tail _ (.head _)))))
    obtain rfl := Option.some.inj ((show Tryz.prog.globalNamed "strconv.ErrRange" = some 5 by kernel_rfl).symm.trans hg)
    obtain rfl := Option.some.inj ((show (Tryz.prog.globals[5]?).map (·.type) = some 114 by kernel_rfl).symm.trans ht)
    obtain ⟨te, pe, hcs⟩ := iface_of Tryz.underlying114 hd
    have := World.var?_cell hg hv 0
    rw [Array.eq_one_of_toList hcs] at this
    exact ⟨te, pe, by simpa using this⟩
  tz := by
    obtain ⟨g, t, cs, fuel, p, hg, ht, hv, hd⟩ := Lib.laidMet.reads h (n := "math/bits.deBruijn64tab") (d := Rows.laid_math_bits_deBruijn64tab) (.tail _ (.head _))
    obtain rfl := Option.some.inj ((show Tryz.prog.globalNamed "math/bits.deBruijn64tab" = some 7 by kernel_rfl).symm.trans hg)
    obtain rfl := Option.some.inj ((show (Tryz.prog.globals[7]?).map (·.type) = some 238 by kernel_rfl).symm.trans ht)
    have hu : Tryz.prog.underlying 238 = some (.array 64 5) := Tryz.underlying238
    have hce : Tryz.prog.cellsOf 5 = 1 := by kernel_rfl
    have hct : Tryz.prog.cellsOf 238 = 64 := by kernel_rfl
    have h1 := Lib.cells_of_tab (zs := [0, 1, 56, 2, 57, 49, 28, 3, 61, 58, 42, 50, 38, 29, 17, 4, 62, 47, 59, 36, 45, 43, 51, 22, 53, 39, 33, 30, 24, 18, 12, 5, 63, 55, 48, 27, 60, 41, 37, 16, 46, 35, 44, 21, 52, 32, 23, 11, 54, 26, 40, 15, 34, 20, 31, 10, 25, 14, 19, 9, 13, 8, 7, 6]) hu Tryz.underlying5 hce hct (show DataW.trod (fun _ => ()) Tryz.prog W 0 (fun _ => true) false fuel 238 cs.toList = some (Lib.tabData .u8 _, p) from hd)
    have h2 := World.var?_cell hg hv 15
    rw [h2, ← Array.getElem?_toList, h1]
    rfl
end
theorem handed_laid {H : Type} {enc : TypeId × Value → H} {a : Assume} {C : Checked} {os : Os} {f : FuncId} {fn : Func} {s : ChangeSpec} {conds : List PathCond} {apart fresh handsOn again : Bool} {X : World → Array Value → Prop}
    (hX : ∀ (w w' : World) (args : Array Value), w.heap = w'.heap → X w args → X w' args)
    (own : ownKnob C.prog.godebug = none) (started : os.Started) (noInit : C.prog.inits.idxOf? f = none) (hfn : C.prog.funcs[f]? = some fn)
    (witness : ∃ (w : World) (tape : Tape) (i : Input), w.os = os ∧ (w.forCall tape i).Shaped C.prog ∧ i.vars = [] ∧ Input.okWide C.prog (w.forCall tape i) .any w.heap.size f i ∧
      ((s.pre enc C.prog fn conds apart (w.forCall tape i).memory i.args ∧ X (w.forCall tape i).memory i.args) ∧ sizedMet enc C.prog fn (OpenSpec.ofChange s) apart (w.forCall tape i).memory i.args) ∧ a.holds C.prog (lone (Frame.enter C.prog f i.args .normal) [] (w.forCall tape i)))
    (contract : ∀ (W : World) (base : Nat) (args : Array Value) (ds gs : List (DataW H)) (before : List MemPlace),
      (∀ (j : Nat) t v, fn.params[j]? = some t → args[j]? = some v → Value.okWide C.prog W .any base t v) →
      DataW.Whole enc C.prog fn.params.toList s.vars apart W args.toList ds gs before → X W args → W.ShapedOpen C.prog →
      Calls C.prog f args W fun e W' => ∃ v, e = .returned v ∧ s.post enc C.prog fn apart fresh handsOn again W args v W') :
    ReturnsInHanded a C os f .any (fun w args => (s.pre enc C.prog fn conds apart w args ∧ X w args) ∧ sizedMet enc C.prog fn (OpenSpec.ofChange s) apart w args) (s.post enc C.prog fn apart fresh handsOn again) := by
  refine returnsInHanded_of_calls own started noInit witness ?_
  intro w tape i _ hsh _ hok hpre hholds
  obtain ⟨_, _, _, fn', hfn', _, _, _, _, hval⟩ := hok
  have e : fn' = fn := Option.some.inj (hfn'.symm.trans hfn)
  subst e
  obtain ⟨⟨⟨ds, gs, before, hw, hc⟩, hx⟩, hz⟩ := hpre
  have hw' := DataW.Whole.of_heap (w' := w.forCall tape i) (by rfl) hw
  refine (contract (w.forCall tape i) w.heap.size i.args ds gs before hval hw' (hX _ _ _ (by rfl) hx) hsh).mono fun e W' ⟨v, he, hp⟩ => ?_
  subst he
  exact ChangeSpec.post_blind hp
end Go.Proofs.YtfomadbnfcadnaaGreatDoor
