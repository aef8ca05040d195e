/- Operations that make a block, or store into one. -/
import Derived.Test.YtafekjglclnegaaGreatDoorEw9
set_option linter.all false
namespace Go.Ev
open Go Go.RowKit

theorem alloc_heap_new (w : World) (x : Obj) : (w.alloc x).heap[w.heap.size]? = some x := by
  show (w.heap.push x)[w.heap.size]? = _
  simp
/-- A new block. -/
theorem Ext.fresh1 {cfg : Cfg} {C : Ctx} {D : Nat → Prop} {m : Nat → Loc} {o : Own} {w w0 : World} (hi : Inv cfg D m C o w) (x : AObj) (l : Loc) (b : Obj) (hw : w0.heap = w.heap) (hos : w0.os = w.os) (ht : w0.tape = w.tape) (hu : w0.output = w.output) (hl : l.blk = w.heap.size) (hx : ObjRel D m l x (some b)) :
    Ext cfg C D m o w (addD D (C.lo + o.n)) (upd m (C.lo + o.n) l) (o.push x) (w0.alloc b) := by
  refine Ext.alloc hi (by simp [hw]) (fun k hk => ?_) (by omega) ?_ hos ht hu
  · rw [Below.heap_alloc w0 b k (by rw [hw]; exact hk), hw]
  · rw [hl, ← hw, alloc_heap_new]; exact hx
theorem ok_new {D : Nat → Prop} {n : Nat} : addD D n n := .inr rfl
theorem cells_new {D : Nat → Prop} {m : Nat → Loc} {l : Loc} {cs : List AV} {rw : Bool} {e : TypeId} (hb : l.base = 0) (ho : okL D m cs) : ObjRel D m l (.cells cs rw none) (some (.cells (concL m cs).toArray e)) :=
  ⟨_, e, (0, 0), rfl, ⟨fun i v hv => by rw [hb, Nat.zero_add]; simp [concL_get, hv], ho, fun _ => rfl, fun s hs => by cases hs⟩⟩
theorem ok_ptr_new {D : Nat → Prop} {m : Nat → Loc} {n off : Nat} {l : Loc} : okV (addD D n) (upd m n l) (.ptr n off) := fun i hi => by
  simp only [idsA, List.mem_singleton] at hi; subst hi; exact ⟨ok_new, Nat.zero_le _⟩

theorem repA_len (z : List AV) : ∀ k, (repA z k).length = k * z.length
  | 0 => by simp [repA]
  | k + 1 => by rw [repA, List.length_append, repA_len z k, Nat.succ_mul, Nat.add_comm]
theorem repA_get (z : List AV) (hz : 0 < z.length) : ∀ k i, i < k * z.length → (repA z k)[i]? = z[i % z.length]?
  | 0, i, h => by simp at h
  | k + 1, i, h => by
    rw [repA, List.getElem?_append]
    by_cases hi : i < z.length
    · rw [if_pos hi, Nat.mod_eq_of_lt hi]
    · rw [if_neg hi, repA_get z hz k (i - z.length) (by rw [Nat.succ_mul] at h; omega), ← Nat.mod_eq_sub_mod (by omega)]
theorem rep_conc {m : Nat → Loc} (z : List AV) (hz : 0 < z.length) (k n : Nat) (hn : n = k * z.length) :
    (Array.range n).map (fun i => (concL m z).toArray[i % (concL m z).toArray.size]!) = (concL m (repA z k)).toArray := by
  subst hn
  apply Array.ext
  · simp [concL_len, repA_len]
  · intro i h1 h2
    have hi : i < k * z.length := by simpa using h1
    have hm : i % z.length < z.length := Nat.mod_lt _ hz
    have h3 : (concL m (repA z k))[i]? = (concL m z)[i % z.length]? := by rw [concL_get, concL_get, repA_get z hz k i hi]
    simp only [Array.getElem_map, Array.getElem_range, List.size_toArray, concL_len, List.getElem_toArray]
    have h4 : i % z.length < (concL m z).length := by rw [concL_len]; exact hm
    have h5 : i < (concL m (repA z k)).length := by rw [concL_len, repA_len]; exact hi
    rw [List.getElem?_eq_getElem h5, List.getElem?_eq_getElem h4, Option.some.injEq] at h3
    rw [h3]
    simp [h4]
theorem repA_ok {D : Nat → Prop} {m : Nat → Loc} {z : List AV} (hz : okL D m z) : ∀ k, okL D m (repA z k)
  | 0 => okL_nil
  | k + 1 => okL_append.2 ⟨hz, repA_ok hz k⟩

section
variable {P : Program} {T : Tab} (hT : TabOK P T) {cfg : Cfg} {C : Ctx} {D : Nat → Prop} {m : Nat → Loc} {o : Own} {w : World} (hi : Inv cfg D m C o w) {ρ : Operand → Option AV} {ev : Operand → Value} (hρ : RhoOK D m ρ ev)
include hT hi hρ
omit hT hρ in
theorem alloc_ok {s : Sem Next} {v : AV} {r : AV × Own} {e : TypeId} (hv : okV D m v) (hs : s.run P w = .ok (.value (.pointer (some ⟨w.heap.size, 0, none⟩))) (w.alloc (.cells (conc m v).cells e))) (h : allocV C o v = some r) : OpOK P cfg C D m o w s r := by
  simp only [allocV, ok_some, Option.some.injEq] at h
  obtain ⟨_, rfl⟩ := h
  have he := Ext.fresh1 hi (.cells (cellsA v) true none) ⟨w.heap.size, 0, 0⟩ (.cells (conc m v).cells e) rfl rfl rfl rfl rfl (by rw [conc_cells]; exact cells_new rfl (okV_cells hv))
  refine ⟨_, _, _, _, hs, .inl ?_, ok_ptr_new, he⟩
  simp [conc, Own.next, upd_eq]
theorem do_alloc {oo : Oper} {t : TypeId} {r : AV × Own} (ho : oo.op = .alloc t) (h : doAlloc t T C ρ o = some r) : OpS P cfg C D m o w ev oo r := by
  simp only [doAlloc, ob_some] at h
  obtain ⟨z, hz, h⟩ := h
  obtain ⟨h1, h2⟩ := run_zero hT (m := m) hz w
  refine alloc_ok (e := t) hi (okV_none h2) ?_ h
  simp [execOp, ho, Instr.alloc, h1, newVar, newRow]
omit hT in
theorem do_box {oo : Oper} {t : TypeId} {x : Operand} {r : AV × Own} (ho : oo.op = .box t x) (h : doBox x T C ρ o = some r) : OpS P cfg C D m o w ev oo r := by
  simp only [doBox, ob_some] at h
  obtain ⟨v, hv, h⟩ := h
  obtain ⟨h3, h4⟩ := hρ x _ hv
  refine alloc_ok (e := t) hi h4 ?_ h
  simp [execOp, ho, Instr.box, h3, newVar, newRow]
theorem do_buildSlice {oo : Oper} {t : TypeId} {len : Nat} {parts : Array (Nat × Operand)} {r : AV × Own} (ho : oo.op = .buildSlice t len parts) (h : doBuildSlice t len parts T C ρ o = some r) : OpS P cfg C D m o w ev oo r := by
  simp only [doBuildSlice, buildSliceA, ob_some, ok_some, Bool.and_eq_true, ble_iff, beq_iff, natLt_iff, Option.some.injEq] at h
  obtain ⟨elem, he, n, hn, z, hz, ps, hps, ⟨⟨hb, hl⟩, h0⟩, cs, hcs, _, rfl⟩ := h
  obtain ⟨hp1, hp2⟩ := partsA_conc hρ hps
  obtain ⟨hz1, hz2⟩ := run_zero hT (m := m) hz w
  have hparts : (parts.map fun (x : Nat × Operand) => (x.1, ev x.2)).toList = ps.map fun p => (p.1, conc m p.2) := by simpa using hp1
  have hf := run_fillA (m := m) hcs
  have hok := fillA_ok (D := D) (m := m) hcs (repA_ok (okL_zero hz2) len) hp2
  have he' := Ext.fresh1 hi (.cells cs true none) ⟨w.heap.size, 0, 0⟩ (.cells (concL m cs).toArray elem) rfl rfl rfl rfl rfl (cells_new rfl hok)
  refine ⟨_, _, _, .value (.slice (some ⟨w.heap.size, 0, none⟩) len len), ?_, .inl ?_, ?_, he'⟩
  · have h1 : ¬ (len * n > 2 ^ 24) := by omega
    by_cases hlz : len * n = 0
    · have hln : len = 0 := by rcases Nat.mul_eq_zero.1 hlz with h | h <;> omega
      subst hln
      simp only [repA, concL] at hf
      simp only [execOp, ho, Instr.buildSlice, Sem.run_bind, run_und hT (und_elem he) w, Result.andThen_ok, run_sz hT hn w, hparts]
      have e0 : ∀ f : Nat → Value, (Array.range 0).map f = #[] := fun f => by apply Array.toList_inj.1; simp
      simp only [Nat.zero_mul, if_true, gt_iff_lt, Nat.not_lt_zero, if_false, Sem.run_pure, Result.andThen_ok, e0, hf]
      simp [newRow]
    · have hrep := rep_conc (m := m) (cellsA z) (by omega) len (len * n) (by rw [hl])
      simp only [execOp, ho, Instr.buildSlice, Sem.run_bind, run_und hT (und_elem he) w, Result.andThen_ok, run_sz hT hn w, if_neg h1, hparts, Sem.run_pure, if_neg hlz, hz1, conc_cells, hrep, hf]
      simp [newRow]
  · simp [conc, capC, Own.next, upd_eq]
  · intro i hm
    simp only [idsA, List.mem_singleton, needC] at hm
    subst hm
    exact ⟨ok_new, Nat.zero_le _⟩
omit hT in
theorem do_makeMap {oo : Oper} {t : TypeId} {x : Option Operand} {r : AV × Own} (ho : oo.op = .makeMap t x) (h : doMakeMap x T C ρ o = some r) : OpS P cfg C D m o w ev oo r := by
  simp only [doMakeMap, ok_some, Option.some.injEq, Option.isNone_iff_eq_none] at h
  obtain ⟨rfl, rfl⟩ := h
  have he' := Ext.fresh1 hi (.map []) ⟨w.heap.size, 0, 0⟩ (.map #[] 0) rfl rfl rfl rfl rfl ⟨#[], 0, rfl, rfl, fun e hm => by cases hm⟩
  refine ⟨_, _, _, .value (.map (some w.heap.size)), ?_, .inl ?_, ?_, he'⟩
  · simp [execOp, ho, Instr.makeMap]
  · simp [conc, Own.next, upd_eq]
  · intro i hm
    simp only [idsA, List.mem_singleton] at hm
    subst hm
    exact ⟨ok_new, Nat.zero_le _⟩
theorem do_store {oo : Oper} {t : TypeId} {a x : Operand} {r : AV × Own} (ho : oo.op = .store t a x) (h : doStore t a x T C ρ o = some r) : OpS P cfg C D m o w ev oo r := by
  simp only [doStore, ob_some, Option.some.injEq] at h
  obtain ⟨p, hp, v, hv, o', hs, rfl⟩ := h
  obtain ⟨h1, h2⟩ := hρ a _ hp
  obtain ⟨h3, h4⟩ := hρ x _ hv
  obtain ⟨w', hr, he⟩ := run_storeA hT hi h2 h4 hs
  exact ⟨D, m, w', .skip, by simp only [execOp, ho, h1, h3, Sem.run_bind, hr, Result.andThen_ok, Sem.run_pure], .inr ⟨rfl, rfl⟩, okV_undef, he⟩
end
end Go.Ev
