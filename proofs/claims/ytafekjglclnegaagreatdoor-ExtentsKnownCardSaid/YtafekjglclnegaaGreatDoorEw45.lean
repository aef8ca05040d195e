/- The tables that the rows list, and what the world then holds. -/
import Derived.Test.YtafekjglclnegaaGreatDoorEw44
import Derived.Test.YtafekjglclnegaaGreatDoorRows
set_option linter.all false
namespace Go.Ev
open Go Go.Proofs Go.Proofs.YtafekjglclnegaaGreatDoor
set_option maxRecDepth 100000

theorem LaidVars_get {P : Program} {w : World} : ∀ {l : List (String × DataW Unit)} {ps : List MemPlace}, DataW.LaidVars P w l ps → ∀ (i : Nat) (n : String) (d : DataW Unit), l[i]? = some (n, d) →
    ∃ g t cs fuel p, P.globalNamed n = some g ∧ (P.globals[g]?).map (·.type) = some t ∧ w.var? P n = some cs ∧ DataW.trod (fun _ => ()) P w 0 (fun _ => true) false fuel t cs.toList = some (d, p) ∧ ∀ x ∈ MemPlace.row ⟨g, 0, none⟩ cs.size, x ∈ ps
  | [], ps, _, i, n, d, hd => by simp at hd
  | (n0, d0) :: r, ps, h, i, n, d, hd => by
    obtain ⟨g, t, cs, fuel, p, q, h1, h2, h3, h4, h5, rfl⟩ := h
    cases i with
    | zero =>
      simp only [List.getElem?_cons_zero, Option.some.injEq, Prod.mk.injEq] at hd
      obtain ⟨rfl, rfl⟩ := hd
      exact ⟨g, t, cs, fuel, p, h1, h2, h3, h4, fun x hx => by simp [hx]⟩
    | succ i =>
      obtain ⟨g', t', cs', fuel', p', k1, k2, k3, k4, k5⟩ := LaidVars_get h5 i n d (by simpa using hd)
      exact ⟨g', t', cs', fuel', p', k1, k2, k3, k4, fun x hx => by simp [k5 x hx]⟩

def pairD (x y : Int) : DataW Unit := .agg [.lit (.int .i64 x), .lit (.int .i64 y)]
def pairsOf : List Int → List (DataW Unit)
  | x :: y :: r => pairD x y :: pairsOf r
  | _ => []
theorem pairD_inj {x y a b : Int} (h : pairD x y = .agg [.lit (.int .i64 a), .lit (.int .i64 b)]) : x = a ∧ y = b := by
  simpa [pairD] using h
theorem pairsOf_get : ∀ {l : List Int}, l.length % 2 = 0 → ∀ (i : Nat) (v : Int), l[i]? = some v → ∃ x y, (pairsOf l)[i / 2]? = some (pairD x y) ∧ (i % 2 = 0 → v = x) ∧ (i % 2 = 1 → v = y)
  | [], _, i, v, h => by simp at h
  | [x], h, i, v, _ => by simp at h
  | x :: y :: r, h, 0, v, hv => ⟨x, y, rfl, fun _ => by simpa using hv.symm, fun h => by simp at h⟩
  | x :: y :: r, h, 1, v, hv => ⟨x, y, rfl, fun h => by simp at h, fun _ => by simpa using hv.symm⟩
  | x :: y :: r, h, i + 2, v, hv => by
    obtain ⟨a, b, h1, h2, h3⟩ := pairsOf_get (l := r) (by simp at h; omega) i v (by simpa using hv)
    refine ⟨a, b, ?_, fun e => h2 (by omega), fun e => h3 (by omega)⟩
    rw [show (i + 2) / 2 = i / 2 + 1 by omega, pairsOf, List.getElem?_cons_succ]
    exact h1
/-- The tables that all rows of this seat list. -/
noncomputable def laidL : List (String × DataW Unit) := Rows.extentsKnownRow.laid
theorem laid_met {w : World} (h : laidMetH Tryz.prog laidL w) : laidMet Tryz.prog laidL w := by
  unfold laidMetH at h
  have e : (laidL.filter fun x => x.2.handleName?.isSome) = [] := by kernel_rfl
  rw [e] at h
  exact h
theorem lens_of {w : World} (h : laidMet Tryz.prog laidL w) : ∀ i v, ln0[i]? = some v → w.cell? ⟨1, i, none⟩ = some (.int .i64 v) := by
  obtain ⟨ps, hv, _, _⟩ := h
  obtain ⟨g, t, cs, fuel, p, h1, h2, h3, h4, _⟩ := LaidVars_get hv 7 "circa/months.lengths" Rows.laid_circa_months_lengths rfl
  obtain rfl : 1 = g := Option.some.inj ((show Tryz.prog.globalNamed "circa/months.lengths" = some 1 by kernel_rfl).symm.trans h1)
  obtain rfl : 340 = t := Option.some.inj ((show (Tryz.prog.globals[1]?).map (·.type) = some 340 by kernel_rfl).symm.trans h2)
  have hc := Lib.cells_of_tab (zs := ln0) (k := .i64) Tryz.underlying340 Tryz.underlying3 (by kernel_rfl) (by kernel_rfl) h4
  intro i v hi
  rw [World.var?_cell (by kernel_rfl : Tryz.prog.globalNamed "circa/months.lengths" = some 1) h3 i, ← Array.getElem?_toList, hc, List.getElem?_map, hi]
  rfl
theorem spans_of {w : World} (h : laidMet Tryz.prog laidL w) : ∀ i v, sp0[i]? = some v → w.cell? ⟨2, i, none⟩ = some (.int .i64 v) := by
  obtain ⟨ps, hv, _, _⟩ := h
  obtain ⟨g, t, cs, fuel, p, h1, h2, h3, h4, _⟩ := LaidVars_get hv 8 "circa/seasons.spans" Rows.laid_circa_seasons_spans rfl
  obtain rfl : 2 = g := Option.some.inj ((show Tryz.prog.globalNamed "circa/seasons.spans" = some 2 by kernel_rfl).symm.trans h1)
  obtain rfl : 343 = t := Option.some.inj ((show (Tryz.prog.globals[2]?).map (·.type) = some 343 by kernel_rfl).symm.trans h2)
  have h4 : DataW.trod (fun _ => ()) Tryz.prog w 0 (fun _ => true) false fuel 343 cs.toList = some (.agg (pairsOf sp0), p) := h4
  have hc := arr_of_trod Tryz.underlying343 Tryz.underlying342 rfl rfl Tryz.underlying3 Tryz.underlying3 rfl rfl (by kernel_rfl) (by kernel_rfl) (by kernel_rfl) h4
  intro i v hi
  rw [World.var?_cell (by kernel_rfl : Tryz.prog.globalNamed "circa/seasons.spans" = some 2) h3 i, ← Array.getElem?_toList]
  obtain ⟨x, y, hd, hx, hy⟩ := pairsOf_get rfl i v hi
  obtain ⟨a, b, he, ha, hb⟩ := hc _ _ hd
  obtain ⟨rfl, rfl⟩ := pairD_inj he
  rcases Nat.mod_two_eq_zero_or_one i with h2 | h2
  · rw [hx h2, ← ha, show 2 * (i / 2) = i by omega]
  · rw [hy h2, ← hb, show 2 * (i / 2) + 1 = i by omega]
theorem steps_of {w : World} (h : laidMet Tryz.prog laidL w) : ∃ b o, w.cell? ⟨5, 0, none⟩ = some (.slice (some ⟨b, o, none⟩) 3 3) ∧ ∀ i v, st0[i]? = some v → w.cell? ⟨b, o + i, none⟩ = some (.int .i64 v) := by
  obtain ⟨ps, hv, _, _⟩ := h
  obtain ⟨g, t, cs, fuel, p, h1, h2, h3, h4, _⟩ := LaidVars_get hv 6 "circa/years.steps" Rows.laid_circa_years_steps rfl
  obtain rfl : 5 = g := Option.some.inj ((show Tryz.prog.globalNamed "circa/years.steps" = some 5 by kernel_rfl).symm.trans h1)
  obtain rfl : 358 = t := Option.some.inj ((show (Tryz.prog.globals[5]?).map (·.type) = some 358 by kernel_rfl).symm.trans h2)
  have h4 : DataW.trod (fun _ => ()) Tryz.prog w 0 (fun _ => true) false fuel 358 cs.toList = some (.slice (pairsOf st0) [], p) := h4
  obtain ⟨b, o, hcs, hc⟩ := slice_of_trod Tryz.underlying358 Tryz.underlying359 rfl rfl Tryz.underlying2 Tryz.underlying2 rfl rfl (by kernel_rfl) (by kernel_rfl) (by kernel_rfl) (by decide) h4
  refine ⟨b, o, ?_, fun i v hi => ?_⟩
  · rw [World.var?_cell (by kernel_rfl : Tryz.prog.globalNamed "circa/years.steps" = some 5) h3 0, ← Array.getElem?_toList, hcs]; rfl
  · obtain ⟨x, y, hd, hx, hy⟩ := pairsOf_get rfl i v hi
    obtain ⟨a, b', he, ha, hb⟩ := hc _ _ hd
    obtain ⟨rfl, rfl⟩ := pairD_inj he
    rcases Nat.mod_two_eq_zero_or_one i with h2 | h2
    · rw [hx h2, ← ha, show 2 * (i / 2) = i by omega]
    · rw [hy h2, ← hb, show 2 * (i / 2) + 1 = i by omega]
theorem err_of {w : World} (h : laidMet Tryz.prog laidL w) {i g : Nat} {n : String} {text : List UInt8} (hi : laidL[i]? = some (n, .iface "*errors.errorString" (.ptr (.agg [.lit (.string text)])))) (hg : Tryz.prog.globalNamed n = some g) (ht : (Tryz.prog.globals[g]?).map (·.type) = some 251) :
    ∃ b o, w.cell? ⟨g, 0, none⟩ = some (.iface 367 (.pointer (some ⟨b, o, none⟩))) := by
  obtain ⟨ps, hv, _, hps⟩ := h
  obtain ⟨g', t, cs, fuel, p, h1, h2, h3, h4, h5⟩ := LaidVars_get hv i n _ hi
  obtain rfl : g = g' := Option.some.inj (hg.symm.trans h1)
  obtain rfl : 251 = t := Option.some.inj (ht.symm.trans h2)
  obtain ⟨a, s, hcs, hcell, _⟩ := errorString_of_trod Tryz.underlying251 (fun u hu => typeName_ptr_named (nm := "errors.errorString") (by kernel_rfl) (by kernel_rfl) (by decide) u hu) Tryz.underlying367 Tryz.underlying369 rfl rfl Tryz.underlying9 (by kernel_rfl) (by kernel_rfl) h4 (fun u v e => by
    have hc0 : w.cell? ⟨g, 0, none⟩ = some (.iface u v) := by
      rw [World.var?_cell hg h3 0, ← Array.getElem?_toList, e]; rfl
    have hsz : cs.size = 1 := by
      have := congrArg List.length e
      simpa using this
    exact (hps g 0 (h5 _ (by rw [hsz]; simp [MemPlace.row]))).2 u v hc0)
  obtain ⟨b, o, sp⟩ := a
  have hsp : sp = none := by
    unfold World.cell? at hcell
    cases sp with
    | none => rfl
    | some v => split at hcell <;> simp at hcell
  subst hsp
  exact ⟨b, o, by rw [World.var?_cell hg h3 0, ← Array.getElem?_toList, hcs]; rfl⟩
theorem rootW_of {w : World} (h : laidMetH Tryz.prog laidL w) : RootW w := by
  have h := laid_met h
  exact ⟨steps_of h, lens_of h, spans_of h, err_of h (i := 5) (n := "strconv.ErrSyntax") rfl (by kernel_rfl) (by kernel_rfl), err_of h (i := 4) (n := "strconv.ErrRange") rfl (by kernel_rfl) (by kernel_rfl)⟩
end Go.Ev
