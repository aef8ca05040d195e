/- Cells laid over others; stores. -/
import Derived.Test.YtafekjglclnegaaGreatDoorEw6
import Derived.Laws.CopyRow
set_option linter.all false
namespace Go.Ev
open Go Go.RowKit

theorem overA_some : ∀ {cs vs r : List AV}, overA cs vs = some r → r = vs ++ cs.drop vs.length ∧ vs.length ≤ cs.length
  | cs, [], r, h => by cases cs <;> (simp only [overA, Option.some.injEq] at h; subst h; simp)
  | [], _ :: _, r, h => by cases h
  | c :: cs, v :: vs, r, h => by
    simp only [overA, ob_some, Option.some.injEq] at h
    obtain ⟨r', hr, rfl⟩ := h
    obtain ⟨rfl, hl⟩ := overA_some hr
    simp; exact hl
theorem layA_some : ∀ {cs : List AV} {off : Nat} {vs r : List AV}, layA cs off vs = some r → r = cs.take off ++ vs ++ cs.drop (off + vs.length) ∧ off + vs.length ≤ cs.length
  | cs, 0, vs, r, h => by
    have h' : overA cs vs = some r := by cases cs <;> exact h
    obtain ⟨rfl, hl⟩ := overA_some h'
    simp; exact hl
  | [], n + 1, vs, r, h => by cases h
  | c :: cs, n + 1, vs, r, h => by
    simp only [layA, ob_some, Option.some.injEq] at h
    obtain ⟨r', hr, rfl⟩ := h
    obtain ⟨rfl, hl⟩ := layA_some hr
    rw [show n + 1 + vs.length = (n + vs.length) + 1 by omega]
    simp; omega
theorem layA_conc {m : Nat → Loc} {cs vs r : List AV} {off : Nat} (h : layA cs off vs = some r) : concL m r = (concL m cs).take off ++ concL m vs ++ (concL m cs).drop (off + (concL m vs).length) := by
  obtain ⟨rfl, _⟩ := layA_some h
  simp [concL_map]
theorem layA_len {cs vs r : List AV} {off : Nat} (h : layA cs off vs = some r) : r.length = cs.length := by
  obtain ⟨rfl, hl⟩ := layA_some h
  simp; omega
theorem layA_ok {D : Nat → Prop} {m : Nat → Loc} {cs vs r : List AV} {off : Nat} (h : layA cs off vs = some r) (hc : okL D m cs) (hv : okL D m vs) : okL D m r := by
  obtain ⟨rfl, _⟩ := layA_some h
  rw [okL_iff] at hc hv ⊢
  intro v hm
  simp only [List.mem_append] at hm
  rcases hm with (hm | hm) | hm
  · exact hc v (List.mem_of_mem_take hm)
  · exact hv v hm
  · exact hc v (List.mem_of_mem_drop hm)
theorem layA_get {cs vs r : List AV} {off : Nat} (h : layA cs off vs = some r) (i : Nat) : r[i]? = if off ≤ i ∧ i < off + vs.length then vs[i - off]? else cs[i]? := by
  obtain ⟨rfl, hl⟩ := layA_some h
  rw [List.append_assoc, List.getElem?_append, List.length_take, Nat.min_eq_left (by omega)]
  by_cases h1 : i < off
  · rw [if_pos h1, if_neg (by omega), List.getElem?_take_of_lt h1]
  · rw [if_neg h1, List.getElem?_append]
    by_cases h2 : i - off < vs.length
    · rw [if_pos h2, if_pos (by omega)]
    · rw [if_neg h2, if_neg (by omega), List.getElem?_drop]
      congr 1; omega

/-- The cells of a value, filled in one by one. -/
theorem fold_lay : ∀ (vs : List Value) (j off : Nat) (A : Array Value), off + j + vs.length ≤ A.size →
    ((vs.zipIdx j).foldl (fun cs p => cs.setIfInBounds (off + p.2) p.1) A).toList = A.toList.take (off + j) ++ vs ++ A.toList.drop (off + j + vs.length)
  | [], j, off, A, h => by simp
  | v :: vs, j, off, A, h => by
    simp only [List.length_cons] at h
    rw [List.zipIdx_cons, List.foldl_cons, fold_lay vs (j + 1) off _ (by simp; omega)]
    have e := list_seg_step A.toList (off + j) v vs (by simp; omega)
    simpa [Array.toList_setIfInBounds, Nat.add_assoc] using e
theorem run_fillA {m : Nat → Loc} {place : Nat → Option (Nat × Nat)} : ∀ {ps : List (Nat × AV)} {cells r : List AV}, fillA place cells ps = some r →
    Instr.fill place (concL m cells).toArray (ps.map fun p => (p.1, conc m p.2)) = some (concL m r).toArray
  | [], cells, r, h => by cases h; simp [Instr.fill]
  | p :: ps, cells, r, h => by
    simp only [fillA, ob_some, ok_some, beq_iff] at h
    obtain ⟨q, hq, hl, r', hr, h⟩ := h
    have hlen := (layA_some hr).2
    simp only [List.map_cons, Instr.fill, hq, conc_cells]
    have h1 : ¬ ((concL m (cellsA p.2)).toArray.size ≠ q.2) := by simp [concL_len, hl]
    have h2 : ¬ (q.1 + (concL m (cellsA p.2)).toArray.size > (concL m cells).toArray.size) := by simp [concL_len]; omega
    have hf := fold_lay (concL m (cellsA p.2)) 0 q.1 (concL m cells).toArray (by simp [concL_len]; omega)
    have ih := run_fillA (m := m) h
    have e : (concL m (cellsA p.2)).toArray.zipIdx.foldl (fun cs (x : Value × Nat) => cs.setIfInBounds (q.1 + x.2) x.1) (concL m cells).toArray = (concL m r').toArray := by
      apply Array.toList_inj.1
      rw [← Array.foldl_toList, Array.toList_zipIdx, hf, layA_conc hr]
      simp
    simp only [h1, h2, decide_false, Bool.or_self, Bool.false_eq_true, if_false]
    rw [← ih]
    congr 1
theorem fillA_ok {D : Nat → Prop} {m : Nat → Loc} {place : Nat → Option (Nat × Nat)} : ∀ {ps : List (Nat × AV)} {cells r : List AV}, fillA place cells ps = some r → okL D m cells → (∀ p ∈ ps, okV D m p.2) → okL D m r
  | [], cells, r, h, hc, _ => by cases h; exact hc
  | p :: ps, cells, r, h, hc, hp => by
    simp only [fillA, ob_some, ok_some] at h
    obtain ⟨q, hq, hl, r', hr, h⟩ := h
    exact fillA_ok h (layA_ok hr hc (okV_cells (hp p (by simp)))) (fun p hm => hp p (by simp [hm]))

theorem setRow_size (w : World) (g : Nat) (cs : Array Value) : (w.setRow g cs).heap.size = w.heap.size := by simp [World.setRow]

/-- Cells are written into a block that may be written. -/
theorem run_writeA {P : Program} {cfg : Cfg} {D : Nat → Prop} {m : Nat → Loc} {C : Ctx} {o o' : Own} {w : World} (h : Inv cfg D m C o w) {id off : Nat} {vs : List AV} (hd : D id) (hv : okL D m vs) (h1 : allOne vs = true) (hw : writeA C o id off vs = some o') :
    ∃ w', (storeCells ⟨(m id).blk, (m id).base + off, none⟩ (concL m vs) 0).run P w = .ok () w' ∧ Ext cfg C D m o w D m o' w' := by
  simp only [writeA, ob_some, Option.some.injEq] at hw
  obtain ⟨x, hx, x', hx', rfl⟩ := hw
  cases x <;> simp only [layObj, reduceCtorEq] at hx'
  rename_i cs rw g
  cases rw <;> simp only [reduceCtorEq, ob_some, Option.some.injEq] at hx'
  obtain ⟨cs', hl, rfl⟩ := hx'
  have hob := h.obj id hd
  rw [own_get hx] at hob
  obtain ⟨c, e, fz, hb, hr⟩ := hob
  obtain rfl := hr.free rfl
  have hokc : okL D m cs' := layA_ok hl hr.okc hv
  by_cases hnil : vs = []
  · subst hnil
    have : cs' = cs := by
      obtain ⟨rfl, _⟩ := layA_some hl
      simp
    subst this
    refine ⟨w, rfl, Ext.put h hd hx rfl (Nat.le_refl _) (fun _ _ => rfl) ⟨c, e, (0, 0), hb, hr⟩ rfl rfl rfl⟩
  · have hlen := (layA_some hl).2
    have hpos : 0 < vs.length := List.length_pos_iff.2 hnil
    have hfit : (m id).base + off + vs.length ≤ c.size := by
      have hi : off + vs.length - 1 < cs.length := by omega
      have := hr.at' (off + vs.length - 1) _ (List.getElem?_eq_getElem hi)
      have := (Array.getElem?_eq_some_iff.1 this).1
      omega
    have hst := run_storeCells_at P (m id).blk ((m id).base + off) e (concL m vs) 0 c w hb (by rw [concL_len]; omega) (fun v hvm => by
      rw [concL_map] at hvm
      obtain ⟨u, hu, rfl⟩ := List.mem_map.1 hvm
      exact oneA_conc (allOne_iff.1 h1 u hu))
    refine ⟨_, hst, Ext.put h hd hx rfl (Nat.le_of_eq (setRow_size _ _ _).symm) (fun k hk => setRow_other _ _ _ _ hk) ?_ rfl rfl rfl⟩
    refine ⟨_, e, (0, 0), setRow_heap w _ c _ e _ hb, ⟨fun i v hi => ?_, hokc, fun _ => rfl, fun s hs => ?_⟩⟩
    · rw [layA_get hl] at hi
      simp only [Nat.add_zero, List.getElem?_toArray]
      rw [List.append_assoc, List.getElem?_append, List.length_take, Array.length_toList, Nat.min_eq_left (by omega)]
      by_cases hc1 : off ≤ i ∧ i < off + vs.length
      · rw [if_pos hc1] at hi
        rw [if_neg (by omega), List.getElem?_append, if_pos (by rw [concL_len]; omega), show (m id).base + i - ((m id).base + off) = i - off by omega, concL_get, hi]; rfl
      · rw [if_neg hc1] at hi
        have hci := hr.at' i v hi
        by_cases hc2 : i < off
        · rw [if_pos (by omega), List.getElem?_take_of_lt (by omega), Array.getElem?_toList]; exact hci
        · rw [if_neg (by omega), List.getElem?_append, if_neg (by rw [concL_len]; omega), List.getElem?_drop, concL_len, Array.getElem?_toList]
          rw [← hci]; congr 1; omega
    · obtain ⟨a1, a2, a3⟩ := hr.grow s hs
      refine ⟨a1, a2, ?_⟩
      simp only [Nat.add_zero, List.size_toArray, List.length_append, List.length_take, List.length_drop, Array.length_toList, concL_len]
      rw [← a3]; omega

section
variable {P : Program} {T : Tab} (hT : TabOK P T)
include hT
theorem run_storeA {cfg : Cfg} {D : Nat → Prop} {m : Nat → Loc} {C : Ctx} {o o' : Own} {w : World} (h : Inv cfg D m C o w) {t : TypeId} {p v : AV} (hp : okV D m p) (hv : okV D m v) (hs : storeA T C o t v p = some o') :
    ∃ w', (Instr.storeAt t (conc m p) (conc m v)).run P w = .ok () w' ∧ Ext cfg C D m o w D m o' w' := by
  cases p <;> simp only [storeA, reduceCtorEq, ob_some, ok_some, Bool.and_eq_true, beq_iff] at hs
  rename_i id off
  obtain ⟨n, hn, ⟨hl, h1⟩, hw⟩ := hs
  have hd : D id := (hp (id, 0) (by simp [idsA])).1
  obtain ⟨w', hr, he⟩ := run_writeA (P := P) h hd (okV_cells hv) h1 hw
  refine ⟨w', ?_, he⟩
  have hsz : (conc m v).cells.size = n := by rw [conc_cells]; simp [concL_len, hl]
  simp only [Instr.storeAt, conc, Instr.sureAddr, storeVar, Sem.run_bind, Sem.run_pure, Result.andThen_ok, run_sz hT hn w, hsz]
  simp only [ne_eq, not_true, if_false, conc_cells, Sem.run_bind]
  simpa using hr
end
end Go.Ev
