/- Reading: types, parts of values, loads. -/
import Derived.Test.YtafekjglclnegaaGreatDoorEw3
import Derived.Laws.Cells
import Derived.Laws.Entries
set_option linter.all false
namespace Go.Ev
open Go Go.RowKit

/-- The tables are the program's. -/
structure TabOK (P : Program) (T : Tab) : Prop where
  ty : ∀ t e, T.ty.get t = some e → P.info? t = some e.i ∧ P.underlying t = some e.u ∧ (aggD (some e.u) = true → P.eqGuardType P.depth t = e.guard) ∧ ((structD (some e.u)).isSome = true → P.stoodInHeld t = e.stood)
  fn : ∀ f fn, T.fn.get f = some fn → P.funcs[f]? = some fn ∧ fn.name ≠ "runtime.NumGoroutine"

section
variable {P : Program} {T : Tab} (hT : TabOK P T)
include hT
theorem und_some {t : TypeId} {d : TypeDesc} (h : T.und t = some d) : P.underlying t = some d := by
  simp only [Tab.und, ob_some, Option.some.injEq] at h
  obtain ⟨e, he, rfl⟩ := h
  exact (hT.ty t e he).2.1
theorem inf_some {t : TypeId} {i : TypeInfo} (h : T.inf t = some i) : P.info? t = some i := by
  simp only [Tab.inf, ob_some, Option.some.injEq] at h
  obtain ⟨e, he, rfl⟩ := h
  exact (hT.ty t e he).1
theorem run_und {t : TypeId} {d : TypeDesc} (h : T.und t = some d) (w : World) : (underlying t).run P w = .ok d w := run_underlying (und_some hT h) w
theorem run_inf {t : TypeId} {i : TypeInfo} (h : T.inf t = some i) (w : World) : (typeInfo t).run P w = .ok i w := by
  simp [typeInfo, inf_some hT h]
theorem run_sz {t : TypeId} {n : Nat} (h : szOf T t = some n) (w : World) : (sizeOf t).run P w = .ok n w := by
  simp only [szOf, ob_some, Option.some.injEq] at h
  obtain ⟨e, he, rfl⟩ := h
  have := run_inf (T := T) hT (t := t) (i := e.i) (by simp [Tab.inf, he, ob]) w
  simp [sizeOf, this]
theorem run_agg {t : TypeId} {d : TypeDesc} (h : T.und t = some d) (w : World) : (isAgg t).run P w = .ok (aggD (some d)) w := by
  simp only [isAgg, Sem.run_bind, run_und hT h w, Result.andThen_ok]
  cases d <;> rfl
theorem run_zero {t : TypeId} {v : AV} {m : Nat → Loc} (h : zeroA T t = some v) (w : World) : (zeroValue t).run P w = .ok (conc m v) w ∧ idsA v = [] := by
  simp only [zeroA, ob_some] at h
  obtain ⟨i, hi, z, hz, hv⟩ := h
  obtain ⟨h1, h2⟩ := absV_conc (m := m) hv
  refine ⟨?_, h2⟩
  simp [zeroValue, run_inf hT hi w, hz, h1]
end

theorem add_none (b o i : Nat) : (⟨b, o, none⟩ : Addr).add i = ⟨b, o + i, none⟩ := by
  unfold Addr.add
  split
  · subst i; rfl
  · rfl

theorem concL_get {m : Nat → Loc} {cs : List AV} {i : Nat} : (concL m cs)[i]? = (cs[i]?).map (conc m) := by rw [concL_map, List.getElem?_map]
theorem concL_len {m : Nat → Loc} {cs : List AV} : (concL m cs).length = cs.length := by rw [concL_map, List.length_map]
theorem concL_app {m : Nat → Loc} {cs ds : List AV} : concL m (cs ++ ds) = concL m cs ++ concL m ds := by simp only [concL_map, List.map_append]
theorem takeA_some {cs r : List AV} {off n : Nat} (h : takeA cs off n = some r) : r = (cs.drop off).take n ∧ off + n ≤ cs.length ∨ n = 0 ∧ r = [] := by
  simp only [takeA, ok_some, Option.some.injEq, beq_iff] at h
  obtain ⟨h1, rfl⟩ := h
  rw [List.length_take, List.length_drop] at h1
  rcases Nat.eq_zero_or_pos n with hz | hp
  · subst hz; exact .inr ⟨rfl, by simp⟩
  · exact .inl ⟨rfl, by omega⟩
theorem takeA_len {cs r : List AV} {off n : Nat} (h : takeA cs off n = some r) : r.length = n := by
  simp only [takeA, ok_some, Option.some.injEq, beq_iff] at h
  obtain ⟨h1, rfl⟩ := h
  exact h1
theorem takeA_get {cs r : List AV} {off n : Nat} (h : takeA cs off n = some r) {i : Nat} (hi : i < n) : cs[off + i]? = r[i]? := by
  simp only [takeA, ok_some, Option.some.injEq] at h
  obtain ⟨_, rfl⟩ := h
  rw [List.getElem?_take_of_lt hi, List.getElem?_drop]
theorem takeA_ok {D : Nat → Prop} {m : Nat → Loc} {cs r : List AV} {off n : Nat} (h : takeA cs off n = some r) (ho : okL D m cs) : okL D m r := by
  simp only [takeA, ok_some, Option.some.injEq] at h
  obtain ⟨_, rfl⟩ := h
  rw [okL_iff] at ho ⊢
  exact fun v hv => ho v (List.mem_of_mem_drop (List.mem_of_mem_take hv))
theorem takeA_conc {m : Nat → Loc} {cs r : List AV} {off n : Nat} (h : takeA cs off n = some r) : List.take n (List.drop off (concL m cs)) = concL m r := by
  simp only [takeA, ok_some, Option.some.injEq] at h
  obtain ⟨_, rfl⟩ := h
  simp [concL_map]

section
variable {P : Program} {T : Tab} (hT : TabOK P T)
include hT
theorem run_partA {t : TypeId} {cs : List AV} {off : Nat} {v : AV} {m : Nat → Loc} (h : partA T t cs off = some v) (w : World) : (part t (concL m cs).toArray off).run P w = .ok (conc m v) w := by
  simp only [partA, ob_some] at h
  obtain ⟨d, hd, h⟩ := h
  simp only [part, Sem.run_bind, run_agg hT hd w, Result.andThen_ok]
  cases hb : aggD (some d) with
  | true =>
    simp only [hb, cond_true, ob_some, Option.some.injEq] at h
    obtain ⟨n, hn, r, hr, rfl⟩ := h
    simp [run_sz hT hn w, takeA_conc hr, conc]
  | false =>
    simp only [hb, cond_false] at h
    simp [concL_get, h]
theorem partA_ok {D : Nat → Prop} {m : Nat → Loc} {t : TypeId} {cs : List AV} {off : Nat} {v : AV} (h : partA T t cs off = some v) (ho : okL D m cs) : okV D m v := by
  simp only [partA, ob_some] at h
  obtain ⟨d, hd, h⟩ := h
  cases hb : aggD (some d) with
  | true =>
    simp only [hb, cond_true, ob_some, Option.some.injEq] at h
    obtain ⟨n, hn, r, hr, rfl⟩ := h
    exact okV_agg.2 (takeA_ok hr ho)
  | false =>
    simp only [hb, cond_false] at h
    exact okL_iff.1 ho v (List.mem_of_getElem? h)
end

/-- A block that is read, in the world. -/
theorem Inv.cells {cfg : Cfg} {D : Nat → Prop} {m : Nat → Loc} {C : Ctx} {o : Own} {w : World} (h : Inv cfg D m C o w) {id : Nat} {cs : List AV} (hd : D id) (hc : cellsOf (get C o id) = some cs) :
    ∃ rw g c e fz, get C o id = .cells cs rw g ∧ w.heap[(m id).blk]? = some (.cells c e fz) ∧ CellsRel D m (m id) cs rw g c fz := by
  have := h.obj id hd
  cases hx : get C o id with
  | cells cs' rw g =>
    rw [hx] at hc this
    simp only [cellsOf, Option.some.injEq] at hc
    subst hc
    obtain ⟨c, e, fz, hb, hr⟩ := this
    exact ⟨rw, g, c, e, fz, rfl, hb, hr⟩
  | _ => rw [hx] at hc; cases hc
theorem cell_of {w : World} {b i : Nat} {c : Array Value} {e : TypeId} {fz : Nat × Nat} (h : w.heap[b]? = some (.cells c e fz)) : w.cell? ⟨b, i, none⟩ = c[i]? := by
  simp [World.cell?, h]
theorem Inv.cell {cfg : Cfg} {D : Nat → Prop} {m : Nat → Loc} {C : Ctx} {o : Own} {w : World} (h : Inv cfg D m C o w) {id : Nat} {cs : List AV} (hd : D id) (hc : cellsOf (get C o id) = some cs) {i : Nat} {v : AV} (hv : cs[i]? = some v) :
    w.cell? ⟨(m id).blk, (m id).base + i, none⟩ = some (conc m v) ∧ okV D m v := by
  obtain ⟨rw, g, c, e, fz, _, hb, hr⟩ := h.cells hd hc
  exact ⟨(cell_of hb).trans (hr.at' i v hv), okL_iff.1 hr.okc v (List.mem_of_getElem? hv)⟩
theorem Inv.range {cfg : Cfg} {D : Nat → Prop} {m : Nat → Loc} {C : Ctx} {o : Own} {w : World} (h : Inv cfg D m C o w) {id : Nat} {cs r : List AV} {off n : Nat} (hd : D id) (hc : cellsOf (get C o id) = some cs) (hr : takeA cs off n = some r) (P : Program) :
    (loadCells ⟨(m id).blk, (m id).base + off, none⟩ n).run P w = .ok (concL m r).toArray w ∧ okL D m r := by
  have hl := takeA_len hr
  refine ⟨?_, takeA_ok hr ?_⟩
  · have := run_loadCells_list (P := P) (w := w) ⟨(m id).blk, (m id).base + off, none⟩ (concL m r) (fun j v hv => by
      rw [concL_get] at hv
      obtain ⟨u, hu, rfl⟩ := Option.map_eq_some_iff.1 hv
      have hj : j < n := by
        have := (List.getElem?_eq_some_iff.1 hu).1
        omega
      rw [add_none, Nat.add_assoc]
      exact (h.cell hd hc ((takeA_get hr hj).trans hu)).1)
    rw [concL_len, hl] at this
    exact this
  · obtain ⟨rw, g, c, e, fz, _, _, hr⟩ := h.cells hd hc
    exact hr.okc

section
variable {P : Program} {T : Tab} (hT : TabOK P T)
include hT
theorem run_loadA {cfg : Cfg} {D : Nat → Prop} {m : Nat → Loc} {C : Ctx} {o : Own} {w : World} (h : Inv cfg D m C o w) {t : TypeId} {p v : AV} (hp : okV D m p) (hv : loadA T C o t p = some v) :
    ∃ a, conc m p = .pointer (some a) ∧ (loadVar t a).run P w = .ok (conc m v) w ∧ okV D m v := by
  cases p with
  | ptr id off =>
    have hd : D id := (hp (id, 0) (by simp [idsA])).1
    simp only [loadA, ob_some] at hv
    obtain ⟨cs, hc, hv⟩ := hv
    refine ⟨_, rfl, ?_⟩
    simp only [partA, ob_some] at hv
    obtain ⟨d, hd', hv⟩ := hv
    simp only [loadVar, Sem.run_bind, run_agg hT hd' w, Result.andThen_ok]
    cases hb : aggD (some d) with
    | true =>
      simp only [hb, cond_true, ob_some, Option.some.injEq] at hv
      obtain ⟨n, hn, r, hr, rfl⟩ := hv
      obtain ⟨h1, h2⟩ := h.range hd hc hr P
      refine ⟨?_, okV_agg.2 h2⟩
      simp [run_sz hT hn w, h1, conc]
    | false =>
      simp only [hb, cond_false] at hv
      obtain ⟨h1, h2⟩ := h.cell hd hc hv
      refine ⟨?_, h2⟩
      simp [h1]
  | _ => simp [loadA] at hv
end
end Go.Ev
