/- What a row's list of tables says of the world. -/
import Derived.Test.YtafekjglclnegaaGreatDoorEw43
import Derived.LaidLaws
import Derived.Lib.LaidTab
import Derived.ChangeArms
import Derived.DataReads
set_option linter.all false
namespace Go.Ev
open Go Go.Proofs

section
variable {H : Type} {enc : TypeId × Value → H} {P : Program} {w : World} {base : Nat} {sp : Nat → Bool} {held : Bool}
theorem pair_of_trod {fuel : Nat} {e t0 t1 : TypeId} {f0 f1 : Field} {cs : List Value} {k : IntKind} {d : DataW H} {p : List MemPlace} (he : P.underlying e = some (.struct #[f0, f1])) (e0 : f0.type = t0) (e1 : f1.type = t1) (h0 : P.underlying t0 = some (.int k)) (h1 : P.underlying t1 = some (.int k))
    (o0 : f0.offset = 0) (o1 : f1.offset = 1) (c0 : P.cellsOf t0 = 1) (c1 : P.cellsOf t1 = 1) (hc : P.cellsOf e = 2) (h : DataW.trod enc P w base sp held fuel e cs = some (d, p)) :
    ∃ a b, cs = [.int k a, .int k b] ∧ d = .agg [.lit (.int k a), .lit (.int k b)] := by
  cases fuel with
  | zero => simp [DataW.trod] at h
  | succ fuel =>
    unfold DataW.trod at h
    simp only [he, hc] at h
    split at h
    · rename_i hl
      match cs, hl with
      | [x, y], _ =>
        simp only [List.mapM_cons, List.mapM_nil, o0, o1, e0, e1, c0, c1, List.drop_zero, List.drop_succ_cons, List.take_succ_cons, List.take_zero, Option.map_eq_some_iff, Option.bind_eq_bind, Option.bind_eq_some_iff, Option.pure_def, Option.some.injEq] at h
        obtain ⟨xs, ⟨r0, hr0, ys, ⟨r1, hr1, zs, rfl, rfl⟩, rfl⟩, hx⟩ := h
        obtain ⟨n0, q0, rfl, _⟩ := DataW.trod_int h0 hr0
        obtain ⟨n1, q1, rfl, _⟩ := DataW.trod_int h1 hr1
        simp only [List.cons.injEq, and_true] at q0 q1
        subst q0 q1
        refine ⟨n0, n1, rfl, ?_⟩
        have := congrArg Prod.fst hx
        simpa using this.symm
    · cases h
theorem arr_of_trod {fuel n : Nat} {t e t0 t1 : TypeId} {f0 f1 : Field} {cs : List Value} {k : IntKind} {ds : List (DataW H)} {p : List MemPlace} (ht : P.underlying t = some (.array n e)) (he : P.underlying e = some (.struct #[f0, f1])) (e0 : f0.type = t0) (e1 : f1.type = t1) (h0 : P.underlying t0 = some (.int k)) (h1 : P.underlying t1 = some (.int k))
    (o0 : f0.offset = 0) (o1 : f1.offset = 1) (c0 : P.cellsOf t0 = 1) (c1 : P.cellsOf t1 = 1) (hc : P.cellsOf e = 2) (h : DataW.trod enc P w base sp held fuel t cs = some (.agg ds, p)) :
    ∀ i d, ds[i]? = some d → ∃ a b, d = .agg [.lit (.int k a), .lit (.int k b)] ∧ cs[2 * i]? = some (.int k a) ∧ cs[2 * i + 1]? = some (.int k b) := by
  cases fuel with
  | zero => simp [DataW.trod] at h
  | succ fuel =>
    unfold DataW.trod at h
    simp only [ht, hc] at h
    split at h
    · rename_i hl
      obtain ⟨xs, hm, hx⟩ := Option.map_eq_some_iff.1 h
      have hxs : xs.map (·.1) = ds := by
        have := congrArg Prod.fst hx
        simpa using this
      intro i d hd
      have hxl : xs.length = n := by simpa using Lib.mapM_length hm
      have hi : i < n := by
        have := (List.getElem?_eq_some_iff.1 hd).1
        rw [← hxs] at this
        simp at this; omega
      obtain ⟨b, hb, hf⟩ := Lib.mapM_at hm i i (by simp [hi])
      obtain ⟨x, y, hc1, hc2⟩ := pair_of_trod (d := b.1) (p := b.2) he e0 e1 h0 h1 o0 o1 c0 c1 hc (by rw [hf])
      refine ⟨x, y, ?_, ?_, ?_⟩
      · rw [← hxs] at hd
        simp only [List.getElem?_map, hb, Option.map_some, Option.some.injEq] at hd
        rw [← hd, hc2]
      · have := congrArg (·[0]?) hc1
        simp only [List.getElem?_take, List.getElem?_drop, List.getElem?_cons_zero] at this
        rw [show 2 * i = i * 2 + 0 by omega]
        simpa using this
      · have := congrArg (·[1]?) hc1
        simp only [List.getElem?_take, List.getElem?_drop] at this
        rw [show 2 * i + 1 = i * 2 + 1 by omega]
        simpa using this
    · cases h
theorem slice_of_trod {fuel : Nat} {t e t0 t1 : TypeId} {f0 f1 : Field} {cs : List Value} {k : IntKind} {ds : List (DataW H)} {p : List MemPlace} (ht : P.underlying t = some (.slice e)) (he : P.underlying e = some (.struct #[f0, f1])) (e0 : f0.type = t0) (e1 : f1.type = t1) (h0 : P.underlying t0 = some (.int k)) (h1 : P.underlying t1 = some (.int k))
    (o0 : f0.offset = 0) (o1 : f1.offset = 1) (c0 : P.cellsOf t0 = 1) (c1 : P.cellsOf t1 = 1) (hc : P.cellsOf e = 2) (hne : 0 < ds.length) (h : DataW.trod enc P w base (fun _ => true) held fuel t cs = some (.slice ds [], p)) :
    ∃ b o, cs = [.slice (some ⟨b, o, none⟩) ds.length ds.length] ∧ ∀ i d, ds[i]? = some d → ∃ x y, d = .agg [.lit (.int k x), .lit (.int k y)] ∧ w.cell? ⟨b, o + 2 * i, none⟩ = some (.int k x) ∧ w.cell? ⟨b, o + (2 * i + 1), none⟩ = some (.int k y) := by
  rcases DataW.trod_slice ht h with ⟨_, hx⟩ | ⟨a, len, cap, elems, rest, n, rfl, rfl, hx, hb, hle, hmax, hel, hat, hrest, _⟩
  · cases hx
  · simp only [Prod.mk.injEq, DataW.slice.injEq] at hx
    obtain ⟨⟨hds, hrs⟩, _⟩ := hx
    have hr0 : rest.length = 0 := by
      have := congrArg List.length hrs
      simpa using this.symm
    have hcap : cap = len := by
      have := (hrest rfl).1
      omega
    have hlen : ds.length = len := by rw [hds]; simpa using hel
    subst hcap
    have main : ∀ i d, ds[i]? = some d → ∃ x y, d = .agg [.lit (.int k x), .lit (.int k y)] ∧ w.cell? (a.add (i * 2)) = some (.int k x) ∧ w.cell? ((a.add (i * 2)).add 1) = some (.int k y) := by
      intro i d hd
      have hi : i < cap := by
        have := (List.getElem?_eq_some_iff.1 hd).1
        omega
      have h3 := hat i hi
      rw [hds, List.getElem?_map] at hd
      obtain ⟨b, hb', rfl⟩ := Option.map_eq_some_iff.1 hd
      rw [hb', hc] at h3
      obtain ⟨cs', hcs, htr⟩ := Option.bind_eq_some_iff.1 h3
      obtain ⟨x, y, rfl, hd2⟩ := pair_of_trod (d := b.1) (p := b.2) he e0 e1 h0 h1 o0 o1 c0 c1 hc htr
      obtain ⟨_, _, hcell⟩ := World.cells?_some hcs
      refine ⟨x, y, hd2, ?_, ?_⟩
      · have := hcell 0 (by omega)
        simpa [Addr.add] using this
      · exact hcell 1 (by omega)
    obtain ⟨b, o, sp⟩ := a
    have hsp : sp = none := by
      obtain ⟨x, y, _, hx0, _⟩ := main 0 (ds[0]'hne) (by simp [hne])
      simp only [Nat.zero_mul, Addr.add, if_true] at hx0
      unfold World.cell? at hx0
      cases sp with
      | none => rfl
      | some v => split at hx0 <;> simp at hx0
    subst hsp
    refine ⟨b, o, by rw [hlen], fun i d hd => ?_⟩
    obtain ⟨x, y, h4, h5, h6⟩ := main i d hd
    refine ⟨x, y, h4, ?_, ?_⟩
    · by_cases e : i = 0
      · subst e; simpa [Addr.add] using h5
      · rw [show o + 2 * i = o + i * 2 by omega]
        have e2 : ¬ i * 2 = 0 := by omega
        rw [Addr.add, if_neg e2] at h5
        exact h5
    · by_cases e : i = 0
      · subst e; simpa [Addr.add] using h6
      · rw [show o + (2 * i + 1) = o + i * 2 + 1 by omega]
        have e2 : ¬ i * 2 = 0 := by omega
        rw [Addr.add, if_neg (by omega), Addr.add, if_neg e2] at h6
        exact h6
end
end Go.Ev
