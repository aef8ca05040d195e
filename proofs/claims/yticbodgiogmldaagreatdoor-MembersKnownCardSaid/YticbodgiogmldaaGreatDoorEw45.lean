/- What a row's list of tables says of the world. The tables that the rows list, and what the world then holds. -/
import Derived.Test.YticbodgiogmldaaGreatDoorEw46
import Derived.LaidLaws
import Derived.Lib.LaidTab
import Derived.ChangeArms
import Derived.DataReads
import Derived.Test.YticbodgiogmldaaGreatDoorRows
section
set_option linter.all false
namespace Go.Ev
open Go Go.Proofs

section
variable {H : Type} {enc : TypeId × Value → H} {P : Program} {w : World} {base : Nat} {sp : Nat → Bool} {held : Bool}
theorem pair_of_trod {fuel : Nat} {e t0 t1 : TypeId} {f0 f1 : Field} {cs : List Value} {k : IntKind} {d : DataW H} {p : List MemPlace} (he : P.underlying e = some (.struct #[f0, f1])) (e0 : f0.type = t0) (e1 : f1.type = t1) (h0 : P.underlying t0 = some (.int k)) (h1 : P.underlying t1 = some (.int k))
    (o0 : f0.offset = 0) (o1 : f1.offset = 1) (c0 : P.cellsOf t0 = 1) (c1 : P.cellsOf t1 = 1) (hc : P.cellsOf e = 2) (h : DataW.trod enc P w base sp held fuel e cs = some (d, p)) :
    ∃ a b, cs = [.int k a, .int k b] ∧ d = .agg [.lit (.int k a), .lit (.int k b)] := by
  cases fuel with
  | zero => simp [DataW.trod] at h
  | succ fuel =>
    unfold DataW.trod at h
    simp only [he, hc] at h
    split at h
    · rename_i hl
      match cs, hl with
      | [x, y], _ =>
        simp only [List.mapM_cons, List.mapM_nil, o0, o1, e0, e1, c0, c1, List.drop_zero, List.drop_succ_cons, List.take_succ_cons, List.take_zero, Option.map_eq_some_iff, Option.bind_eq_bind, Option.bind_eq_some_iff, Option.pure_def, Option.some.injEq] at h
        obtain ⟨xs, ⟨r0, hr0, ys, ⟨r1, hr1, zs, rfl, rfl⟩, rfl⟩, hx⟩ := h
        obtain ⟨n0, q0, rfl, _⟩ := DataW.trod_int h0 hr0
        obtain ⟨n1, q1, rfl, _⟩ := DataW.trod_int h1 hr1
        simp only [List.cons.injEq, and_true] at q0 q1
        subst q0 q1
        refine ⟨n0, n1, rfl, ?_⟩
        have := congrArg Prod.fst hx
        simpa using this.symm
    · cases h
theorem arr_of_trod {fuel n : Nat} {t e t0 t1 : TypeId} {f0 f1 : Field} {cs : List Value} {k : IntKind} {ds : List (DataW H)} {p : List MemPlace} (ht : P.underlying t = some (.array n e)) (he : P.underlying e = some (.struct #[f0, f1])) (e0 : f0.type = t0) (e1 : f1.type = t1) (h0 : P.underlying t0 = some (.int k)) (h1 : P.underlying t1 = some (.int k))
    (o0 : f0.offset = 0) (o1 : f1.offset = 1) (c0 : P.cellsOf t0 = 1) (c1 : P.cellsOf t1 = 1) (hc : P.cellsOf e = 2) (h : DataW.trod enc P w base sp held fuel t cs = some (.agg ds, p)) :
    ∀ i d, ds[i]? = some d → ∃ a b, d = .agg [.lit (.int k a), .lit (.int k b)] ∧ cs[2 * i]? = some (.int k a) ∧ cs[2 * i + 1]? = some (.int k b) := by
  cases fuel with
  | zero => simp [DataW.trod] at h
  | succ fuel =>
    unfold DataW.trod at h
    simp only [ht, hc] at h
    split at h
    · rename_i hl
      obtain ⟨xs, hm, hx⟩ := Option.map_eq_some_iff.1 h
      have hxs : xs.map (·.1) = ds := by
        have := congrArg Prod.fst hx
        simpa using this
      intro i d hd
      have hxl : xs.length = n := by simpa using Lib.mapM_length hm
      have hi : i < n := by
        have := (List.getElem?_eq_some_iff.1 hd).1
        rw [← hxs] at this
        simp at this; omega
      obtain ⟨b, hb, hf⟩ := Lib.mapM_at hm i i (by simp [hi])
      obtain ⟨x, y, hc1, hc2⟩ := pair_of_trod (d := b.1) (p := b.2) he e0 e1 h0 h1 o0 o1 c0 c1 hc (by rw [hf])
      refine ⟨x, y, ?_, ?_, ?_⟩
      · rw [← hxs] at hd
        simp only [List.getElem?_map, hb, Option.map_some, Option.some.injEq] at hd
        rw [← hd, hc2]
      · have := congrArg (·[0]?) hc1
        simp only [List.getElem?_take, List.getElem?_drop, List.getElem?_cons_zero] at this
        rw [show 2 * i = i * 2 + 0 by omega]
        simpa using this
      · have := congrArg (·[1]?) hc1
        simp only [List.getElem?_take, List.getElem?_drop] at this
        rw [show 2 * i + 1 = i * 2 + 1 by omega]
        simpa using this
    · cases h
theorem slice_of_trod {fuel : Nat} {t e t0 t1 : TypeId} {f0 f1 : Field} {cs : List Value} {k : IntKind} {ds : List (DataW H)} {p : List MemPlace} (ht : P.underlying t = some (.slice e)) (he : P.underlying e = some (.struct #[f0, f1])) (e0 : f0.type = t0) (e1 : f1.type = t1) (h0 : P.underlying t0 = some (.int k)) (h1 : P.underlying t1 = some (.int k))
    (o0 : f0.offset = 0) (o1 : f1.offset = 1) (c0 : P.cellsOf t0 = 1) (c1 : P.cellsOf t1 = 1) (hc : P.cellsOf e = 2) (hne : 0 < ds.length) (h : DataW.trod enc P w base (fun _ => true) held fuel t cs = some (.slice ds [], p)) :
    ∃ b o, cs = [.slice (some ⟨b, o, none⟩) ds.length ds.length] ∧ ∀ i d, ds[i]? = some d → ∃ x y, d = .agg [.lit (.int k x), .lit (.int k y)] ∧ w.cell? ⟨b, o + 2 * i, none⟩ = some (.int k x) ∧ w.cell? ⟨b, o + (2 * i + 1), none⟩ = some (.int k y) := by
  rcases DataW.trod_slice ht h with ⟨_, hx⟩ | ⟨a, len, cap, elems, rest, n, rfl, rfl, hx, hb, hle, hmax, hel, hat, hrest, _⟩
  · cases hx
  · simp only [Prod.mk.injEq, DataW.slice.injEq] at hx
    obtain ⟨⟨hds, hrs⟩, _⟩ := hx
    have hr0 : rest.length = 0 := by
      have := congrArg List.length hrs
      simpa using this.symm
    have hcap : cap = len := by
      have := (hrest rfl).1
      omega
    have hlen : ds.length = len := by rw [hds]; simpa using hel
    subst hcap
    have main : ∀ i d, ds[i]? = some d → ∃ x y, d = .agg [.lit (.int k x), .lit (.int k y)] ∧ w.cell? (a.add (i * 2)) = some (.int k x) ∧ w.cell? ((a.add (i * 2)).add 1) = some (.int k y) := by
      intro i d hd
      have hi : i < cap := by
        have := (List.getElem?_eq_some_iff.1 hd).1
        omega
      have h3 := hat i hi
      rw [hds, List.getElem?_map] at hd
      obtain ⟨b, hb', rfl⟩ := Option.map_eq_some_iff.1 hd
      rw [hb', hc] at h3
      obtain ⟨cs', hcs, htr⟩ := Option.bind_eq_some_iff.1 h3
      obtain ⟨x, y, rfl, hd2⟩ := pair_of_trod (d := b.1) (p := b.2) he e0 e1 h0 h1 o0 o1 c0 c1 hc htr
      obtain ⟨_, _, hcell⟩ := World.cells?_some hcs
      refine ⟨x, y, hd2, ?_, ?_⟩
      · have := hcell 0 (by omega)
        simpa [Addr.add] using this
      · exact hcell 1 (by omega)
    obtain ⟨b, o, sp⟩ := a
    have hsp : sp = none := by
      obtain ⟨x, y, _, hx0, _⟩ := main 0 (ds[0]'hne) (by simp [hne])
      simp only [Nat.zero_mul, Addr.add, if_true] at hx0
      unfold World.cell? at hx0
      cases sp with
      | none => rfl
      | some v => split at hx0 <;> simp at hx0
    subst hsp
    refine ⟨b, o, by rw [hlen], fun i d hd => ?_⟩
    obtain ⟨x, y, h4, h5, h6⟩ := main i d hd
    refine ⟨x, y, h4, ?_, ?_⟩
    · by_cases e : i = 0
      · subst e; simpa [Addr.add] using h5
      · rw [show o + 2 * i = o + i * 2 by omega]
        have e2 : ¬ i * 2 = 0 := by omega
        rw [Addr.add, if_neg e2] at h5
        exact h5
    · by_cases e : i = 0
      · subst e; simpa [Addr.add] using h6
      · rw [show o + (2 * i + 1) = o + i * 2 + 1 by omega]
        have e2 : ¬ i * 2 = 0 := by omega
        rw [Addr.add, if_neg (by omega), Addr.add, if_neg e2] at h6
        exact h6
end
end Go.Ev
end
section
set_option linter.all false
namespace Go.Ev
open Go Go.Proofs Go.Proofs.YticbodgiogmldaaGreatDoor
set_option maxRecDepth 100000

theorem LaidVars_get {P : Program} {w : World} : ∀ {l : List (String × DataW Unit)} {ps : List MemPlace}, DataW.LaidVars P w l ps → ∀ (i : Nat) (n : String) (d : DataW Unit), l[i]? = some (n, d) →
    ∃ g t cs fuel p, P.globalNamed n = some g ∧ (P.globals[g]?).map (·.type) = some t ∧ w.var? P n = some cs ∧ DataW.trod (fun _ => ()) P w 0 (fun _ => true) false fuel t cs.toList = some (d, p) ∧ ∀ x ∈ MemPlace.row ⟨g, 0, none⟩ cs.size, x ∈ ps
  | [], ps, _, i, n, d, hd => by simp at hd
  | (n0, d0) :: r, ps, h, i, n, d, hd => by
    obtain ⟨g, t, cs, fuel, p, q, h1, h2, h3, h4, h5, rfl⟩ := h
    cases i with
    | zero =>
      simp only [List.getElem?_cons_zero, Option.some.injEq, Prod.mk.injEq] at hd
      obtain ⟨rfl, rfl⟩ := hd
      exact ⟨g, t, cs, fuel, p, h1, h2, h3, h4, fun x hx => by simp [hx]⟩
    | succ i =>
      obtain ⟨g', t', cs', fuel', p', k1, k2, k3, k4, k5⟩ := LaidVars_get h5 i n d (by simpa using hd)
      exact ⟨g', t', cs', fuel', p', k1, k2, k3, k4, fun x hx => by simp [k5 x hx]⟩

def pairD (x y : Int) : DataW Unit := .agg [.lit (.int .i64 x), .lit (.int .i64 y)]
def pairsOf : List Int → List (DataW Unit)
  | x :: y :: r => pairD x y :: pairsOf r
  | _ => []
theorem pairD_inj {x y a b : Int} (h : pairD x y = .agg [.lit (.int .i64 a), .lit (.int .i64 b)]) : x = a ∧ y = b := by
  simpa [pairD] using h
theorem pairsOf_get : ∀ {l : List Int}, l.length % 2 = 0 → ∀ (i : Nat) (v : Int), l[i]? = some v → ∃ x y, (pairsOf l)[i / 2]? = some (pairD x y) ∧ (i % 2 = 0 → v = x) ∧ (i % 2 = 1 → v = y)
  | [], _, i, v, h => by simp at h
  | [x], h, i, v, _ => by simp at h
  | x :: y :: r, h, 0, v, hv => ⟨x, y, rfl, fun _ => by simpa using hv.symm, fun h => by simp at h⟩
  | x :: y :: r, h, 1, v, hv => ⟨x, y, rfl, fun h => by simp at h, fun _ => by simpa using hv.symm⟩
  | x :: y :: r, h, i + 2, v, hv => by
    obtain ⟨a, b, h1, h2, h3⟩ := pairsOf_get (l := r) (by simp at h; omega) i v (by simpa using hv)
    refine ⟨a, b, ?_, fun e => h2 (by omega), fun e => h3 (by omega)⟩
    rw [show (i + 2) / 2 = i / 2 + 1 by omega, pairsOf, List.getElem?_cons_succ]
    exact h1
/-- The tables that all rows of this seat list. -/
noncomputable def laidL : List (String × DataW Unit) := Rows.membersKnownRow.laid
theorem laid_met {w : World} (h : laidMetH Tryz.prog laidL w) : laidMet Tryz.prog laidL w := by
  unfold laidMetH at h
  have e : (laidL.filter fun x => x.2.handleName?.isSome) = [] := by kernel_rfl
  rw [e] at h
  exact h
theorem lens_of {w : World} (h : laidMet Tryz.prog laidL w) : ∀ i v, ln0[i]? = some v → w.cell? ⟨1, i, none⟩ = some (.int .i64 v) := by
  obtain ⟨ps, hv, _, _⟩ := h
  obtain ⟨g, t, cs, fuel, p, h1, h2, h3, h4, _⟩ := LaidVars_get hv 7 "circa/months.lengths" Rows.laid_circa_months_lengths rfl
  obtain rfl : 1 = g := Option.some.inj ((show Tryz.prog.globalNamed "circa/months.lengths" = some 1 by kernel_rfl).symm.trans h1)
  obtain rfl : 251 = t := Option.some.inj ((show (Tryz.prog.globals[1]?).map (·.type) = some 251 by kernel_rfl).symm.trans h2)
  have hc := Lib.cells_of_tab (zs := ln0) (k := .i64) Tryz.underlying251 Tryz.underlying3 (by kernel_rfl) (by kernel_rfl) h4
  intro i v hi
  rw [World.var?_cell (by kernel_rfl : Tryz.prog.globalNamed "circa/months.lengths" = some 1) h3 i, ← Array.getElem?_toList, hc, List.getElem?_map, hi]
  rfl
theorem spans_of {w : World} (h : laidMet Tryz.prog laidL w) : ∀ i v, sp0[i]? = some v → w.cell? ⟨2, i, none⟩ = some (.int .i64 v) := by
  obtain ⟨ps, hv, _, _⟩ := h
  obtain ⟨g, t, cs, fuel, p, h1, h2, h3, h4, _⟩ := LaidVars_get hv 8 "circa/seasons.spans" Rows.laid_circa_seasons_spans rfl
  obtain rfl : 2 = g := Option.some.inj ((show Tryz.prog.globalNamed "circa/seasons.spans" = some 2 by kernel_rfl).symm.trans h1)
  obtain rfl : 294 = t := Option.some.inj ((show (Tryz.prog.globals[2]?).map (·.type) = some 294 by kernel_rfl).symm.trans h2)
  have h4 : DataW.trod (fun _ => ()) Tryz.prog w 0 (fun _ => true) false fuel 294 cs.toList = some (.agg (pairsOf sp0), p) := h4
  have hc := arr_of_trod Tryz.underlying294 Tryz.underlying293 rfl rfl Tryz.underlying3 Tryz.underlying3 rfl rfl (by kernel_rfl) (by kernel_rfl) (by kernel_rfl) h4
  intro i v hi
  rw [World.var?_cell (by kernel_rfl : Tryz.prog.globalNamed "circa/seasons.spans" = some 2) h3 i, ← Array.getElem?_toList]
  obtain ⟨x, y, hd, hx, hy⟩ := pairsOf_get rfl i v hi
  obtain ⟨a, b, he, ha, hb⟩ := hc _ _ hd
  obtain ⟨rfl, rfl⟩ := pairD_inj he
  rcases Nat.mod_two_eq_zero_or_one i with h2 | h2
  · rw [hx h2, ← ha, show 2 * (i / 2) = i by omega]
  · rw [hy h2, ← hb, show 2 * (i / 2) + 1 = i by omega]
theorem steps_of {w : World} (h : laidMet Tryz.prog laidL w) : ∃ b o, w.cell? ⟨5, 0, none⟩ = some (.slice (some ⟨b, o, none⟩) 3 3) ∧ ∀ i v, st0[i]? = some v → w.cell? ⟨b, o + i, none⟩ = some (.int .i64 v) := by
  obtain ⟨ps, hv, _, _⟩ := h
  obtain ⟨g, t, cs, fuel, p, h1, h2, h3, h4, _⟩ := LaidVars_get hv 6 "circa/years.steps" Rows.laid_circa_years_steps rfl
  obtain rfl : 5 = g := Option.some.inj ((show Tryz.prog.globalNamed "circa/years.steps" = some 5 by kernel_rfl).symm.trans h1)
  obtain rfl : 314 = t := Option.some.inj ((show (Tryz.prog.globals[5]?).map (·.type) = some 314 by kernel_rfl).symm.trans h2)
  have h4 : DataW.trod (fun _ => ()) Tryz.prog w 0 (fun _ => true) false fuel 314 cs.toList = some (.slice (pairsOf st0) [], p) := h4
  obtain ⟨b, o, hcs, hc⟩ := slice_of_trod Tryz.underlying314 Tryz.underlying315 rfl rfl Tryz.underlying2 Tryz.underlying2 rfl rfl (by kernel_rfl) (by kernel_rfl) (by kernel_rfl) (by decide) h4
  refine ⟨b, o, ?_, fun i v hi => ?_⟩
  · rw [World.var?_cell (by kernel_rfl : Tryz.prog.globalNamed "circa/years.steps" = some 5) h3 0, ← Array.getElem?_toList, hcs]; rfl
  · obtain ⟨x, y, hd, hx, hy⟩ := pairsOf_get rfl i v hi
    obtain ⟨a, b', he, ha, hb⟩ := hc _ _ hd
    obtain ⟨rfl, rfl⟩ := pairD_inj he
    rcases Nat.mod_two_eq_zero_or_one i with h2 | h2
    · rw [hx h2, ← ha, show 2 * (i / 2) = i by omega]
    · rw [hy h2, ← hb, show 2 * (i / 2) + 1 = i by omega]
theorem err_of {w : World} (h : laidMet Tryz.prog laidL w) {i g : Nat} {n : String} {text : List UInt8} (hi : laidL[i]? = some (n, .iface "*errors.errorString" (.ptr (.agg [.lit (.string text)])))) (hg : Tryz.prog.globalNamed n = some g) (ht : (Tryz.prog.globals[g]?).map (·.type) = some 181) :
    (∃ b o, w.cell? ⟨g, 0, none⟩ = some (.iface 319 (.pointer (some ⟨b, o, none⟩)))) ∧ ∀ c e fz, w.heap[g]? = some (.cells c e fz) → c.size = 1 := by
  obtain ⟨ps, hv, _, hps⟩ := h
  obtain ⟨g', t, cs, fuel, p, h1, h2, h3, h4, h5⟩ := LaidVars_get hv i n _ hi
  obtain rfl : g = g' := Option.some.inj (hg.symm.trans h1)
  obtain rfl : 181 = t := Option.some.inj (ht.symm.trans h2)
  obtain ⟨a, s, hcs, hcell, _⟩ := errorString_of_trod Tryz.underlying181 (fun u hu => typeName_ptr_named (nm := "errors.errorString") (by kernel_rfl) (by kernel_rfl) (by decide) u hu) Tryz.underlying319 Tryz.underlying321 rfl rfl Tryz.underlying9 (by kernel_rfl) (by kernel_rfl) h4 (fun u v e => by
    have hc0 : w.cell? ⟨g, 0, none⟩ = some (.iface u v) := by
      rw [World.var?_cell hg h3 0, ← Array.getElem?_toList, e]; rfl
    have hsz : cs.size = 1 := by
      have := congrArg List.length e
      simpa using this
    exact (hps g 0 (h5 _ (by rw [hsz]; simp [MemPlace.row]))).2 u v hc0)
  obtain ⟨b, o, sp⟩ := a
  have hsp : sp = none := by
    unfold World.cell? at hcell
    cases sp with
    | none => rfl
    | some v => split at hcell <;> simp at hcell
  subst hsp
  refine ⟨⟨b, o, by rw [World.var?_cell hg h3 0, ← Array.getElem?_toList, hcs]; rfl⟩, fun c e fz hb => ?_⟩
  have h3' := h3
  unfold World.var? at h3'
  rw [hg] at h3'
  simp only [Option.bind_some, hb, Option.some.injEq] at h3'
  have := congrArg List.length hcs
  rw [h3']
  simpa using this
theorem rootW_of {w : World} (h : laidMetH Tryz.prog laidL w) : RootW w := by
  have h := laid_met h
  have hS := err_of h (i := 5) (g := 3) (n := "strconv.ErrSyntax") rfl (by kernel_rfl) (by kernel_rfl)
  have hR := err_of h (i := 4) (g := 4) (n := "strconv.ErrRange") rfl (by kernel_rfl) (by kernel_rfl)
  exact ⟨steps_of h, lens_of h, spans_of h, hS.1, hR.1, hS.2, hR.2⟩
end Go.Ev
end
