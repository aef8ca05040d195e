/- Operations that only reckon, as the machine carries them out. -/
import Derived.Test.YtafekjglclnegaaGreatDoorEw8
set_option linter.all false
namespace Go.Ev
open Go Go.RowKit

/-- What the machine does at an operation is what the reckoner says. -/
def OpOK (P : Program) (cfg : Cfg) (C : Ctx) (D : Nat → Prop) (m : Nat → Loc) (o : Own) (w : World) (s : Sem Next) (r : AV × Own) : Prop :=
  ∃ D' m' w' nx, s.run P w = .ok nx w' ∧ (nx = .value (conc m' r.1) ∨ nx = .skip ∧ r.1 = undefA) ∧ okV D' m' r.1 ∧ Ext cfg C D m o w D' m' r.2 w'

theorem OpOK.pure {P : Program} {cfg : Cfg} {C : Ctx} {D : Nat → Prop} {m : Nat → Loc} {o : Own} {w : World} {s : Sem Next} {r : AV × Own} (hi : Inv cfg D m C o w) (ho : r.2 = o) (h : s.run P w = .ok (.value (conc m r.1)) w) (hv : okV D m r.1) : OpOK P cfg C D m o w s r :=
  ⟨D, m, w, _, h, .inl rfl, hv, by rw [ho]; exact Ext.refl hi⟩
/-- Operands are what the reckoner says. -/
def RhoOK (D : Nat → Prop) (m : Nat → Loc) (ρ : Operand → Option AV) (ev : Operand → Value) : Prop := ∀ x v, ρ x = some v → ev x = conc m v ∧ okV D m v

theorem mapAll_conc {D : Nat → Prop} {m : Nat → Loc} {ρ : Operand → Option AV} {ev : Operand → Value} (hρ : RhoOK D m ρ ev) : ∀ {xs : List Operand} {vs : List AV}, mapAll ρ xs = some vs → xs.map ev = concL m vs ∧ okL D m vs
  | [], vs, h => by cases h; exact ⟨by simp [concL], okL_nil⟩
  | x :: xs, vs, h => by
    simp only [mapAll, ob_some, Option.some.injEq] at h
    obtain ⟨v, hv, vs', hvs, rfl⟩ := h
    obtain ⟨h1, h2⟩ := hρ x v hv
    obtain ⟨h3, h4⟩ := mapAll_conc hρ hvs
    exact ⟨by simp [concL, h1, h3], okL_cons.2 ⟨h2, h4⟩⟩
theorem mapAll_arr {D : Nat → Prop} {m : Nat → Loc} {ρ : Operand → Option AV} {ev : Operand → Value} (hρ : RhoOK D m ρ ev) {xs : Array Operand} {vs : List AV} (h : mapAll ρ xs.toList = some vs) : xs.map ev = (concL m vs).toArray ∧ okL D m vs := by
  obtain ⟨h1, h2⟩ := mapAll_conc hρ h
  refine ⟨?_, h2⟩
  apply Array.toList_inj.1
  simpa using h1
theorem partsA_conc {D : Nat → Prop} {m : Nat → Loc} {ρ : Operand → Option AV} {ev : Operand → Value} (hρ : RhoOK D m ρ ev) : ∀ {xs : List (Nat × Operand)} {ps : List (Nat × AV)}, partsA ρ xs = some ps → xs.map (fun p => (p.1, ev p.2)) = ps.map (fun p => (p.1, conc m p.2)) ∧ ∀ p ∈ ps, okV D m p.2
  | [], ps, h => by cases h; simp
  | x :: xs, ps, h => by
    simp only [partsA, ob_some, Option.some.injEq] at h
    obtain ⟨v, hv, ps', hps, rfl⟩ := h
    obtain ⟨h1, h2⟩ := hρ _ v hv
    obtain ⟨h3, h4⟩ := partsA_conc hρ hps
    refine ⟨by simp [h1, h3], fun p hp => ?_⟩
    rcases List.mem_cons.1 hp with rfl | hp
    · exact h2
    · exact h4 p hp
theorem optA_conc {D : Nat → Prop} {m : Nat → Loc} {ρ : Operand → Option AV} {ev : Operand → Value} (hρ : RhoOK D m ρ ev) {x : Option Operand} {v : Option AV} (h : optA ρ x = some v) : x.map ev = v.map (conc m) := by
  cases x with
  | none => cases h; rfl
  | some x =>
    simp only [optA, ob_some, Option.some.injEq] at h
    obtain ⟨u, hu, rfl⟩ := h
    simp [(hρ x u hu).1]

theorem okL_zero {D : Nat → Prop} {m : Nat → Loc} {v : AV} (h : idsA v = []) : okL D m (cellsA v) := okV_cells (okV_none h)

section
variable {P : Program} {T : Tab} (hT : TabOK P T) {cfg : Cfg} {C : Ctx} {D : Nat → Prop} {m : Nat → Loc} {o : Own} {w : World} (hi : Inv cfg D m C o w) {ρ : Operand → Option AV} {ev : Operand → Value} (hρ : RhoOK D m ρ ev)
include hT hi hρ
theorem run_places : ∀ {fs : List Field} {pl : List (Nat × Nat)}, placesA T fs = some pl → ∀ w, (fs.mapM (fun f => (do pure (f.offset, ← sizeOf f.type) : Sem (Nat × Nat)))).run P w = .ok pl w
  | [], pl, h, w => by cases h; simp
  | f :: fs, pl, h, w => by
    simp only [placesA, ob_some, Option.some.injEq] at h
    obtain ⟨n, hn, r, hr, rfl⟩ := h
    simp only [List.mapM_cons, Sem.run_bind, run_sz hT hn w, Result.andThen_ok, Sem.run_pure, run_places hr w]
theorem build_ok {t : TypeId} {parts : Array (Nat × Operand)} {v : AV} (h : buildA T ρ t parts.toList = some v) : (Instr.build t (parts.map fun (i, x) => (i, ev x))).run P w = .ok (conc m v) w ∧ okV D m v := by
  simp only [buildA, ob_some] at h
  obtain ⟨z, hz, ps, hps, h⟩ := h
  obtain ⟨hzr, hz0⟩ := run_zero hT (m := m) hz w
  obtain ⟨hp1, hp2⟩ := partsA_conc hρ hps
  have hparts : (parts.map fun (x : Nat × Operand) => (x.1, ev x.2)).toList = ps.map fun p => (p.1, conc m p.2) := by simpa using hp1
  cases hu : T.und t with
  | none => simp [hu, buildD] at h
  | some d =>
    cases d <;> simp only [hu, buildD, reduceCtorEq, ob_some, Option.some.injEq] at h
    · rename_i n elem
      obtain ⟨sz, hsz, cs, hcs, rfl⟩ := h
      refine ⟨?_, okV_agg.2 (fillA_ok hcs (okL_zero hz0) hp2)⟩
      have hf := run_fillA (m := m) hcs
      simp only [Instr.build, Sem.run_bind, hzr, Result.andThen_ok, run_und hT hu w, run_sz hT hsz w, conc_cells, hparts, hf, Sem.run_pure, conc]
    · rename_i fields
      obtain ⟨pl, hpl, cs, hcs, rfl⟩ := h
      refine ⟨?_, okV_agg.2 (fillA_ok hcs (okL_zero hz0) hp2)⟩
      have hm : (fields.mapM (fun f => (do pure (f.offset, ← sizeOf f.type) : Sem (Nat × Nat)))).run P w = .ok pl.toArray w := by
        rw [Array.mapM_eq_mapM_toList, Sem.run_map, run_places hT hi hρ hpl w]; rfl
      have hf := run_fillA (m := m) hcs
      have hp : (fun i : Nat => pl.toArray[i]?) = fun i : Nat => pl[i]? := by funext i; simp
      simp only [Instr.build, Sem.run_bind, hzr, Result.andThen_ok, run_und hT hu w, conc_cells, hparts, hm, hp, hf, Sem.run_pure, conc]

/-- The operation, as the machine has it. -/
abbrev OpS (P : Program) (cfg : Cfg) (C : Ctx) (D : Nat → Prop) (m : Nat → Loc) (o : Own) (w : World) (ev : Operand → Value) (oo : Oper) (r : AV × Own) : Prop := OpOK P cfg C D m o w (execOp ev oo) r

omit hT in
theorem do_move {oo : Oper} {x : Operand} {r : AV × Own} (ho : oo.op = .move x ∨ oo.op = .assign x) (h : doMove x T C ρ o = some r) : OpS P cfg C D m o w ev oo r := by
  simp only [doMove, keep_some] at h
  obtain ⟨h1, h2⟩ := hρ x _ h.1
  exact OpOK.pure hi h.2 (by rcases ho with ho | ho <;> simp [execOp, ho, h1]) h2
omit hT in
theorem do_pick {oo : Oper} {c a b : Operand} {r : AV × Own} (ho : oo.op = .pick c a b) (h : doPick c a b T C ρ o = some r) : OpS P cfg C D m o w ev oo r := by
  simp only [doPick, keep_some, ob_some] at h
  obtain ⟨⟨cv, hc, h⟩, h2⟩ := h
  have h3 := (hρ c _ hc).1
  cases cv <;> simp only [pickV, reduceCtorEq] at h
  rename_i b'
  cases b' <;> simp only [pickV] at h
  · obtain ⟨h4, h5⟩ := hρ b _ h
    exact OpOK.pure hi h2 (by simp [execOp, ho, h3, h4, conc, asBool]) h5
  · obtain ⟨h4, h5⟩ := hρ a _ h
    exact OpOK.pure hi h2 (by simp [execOp, ho, h3, h4, conc, asBool]) h5
theorem do_build {oo : Oper} {t : TypeId} {parts : Array (Nat × Operand)} {r : AV × Own} (ho : oo.op = .build t parts) (h : doBuild t parts T C ρ o = some r) : OpS P cfg C D m o w ev oo r := by
  simp only [doBuild, keep_some] at h
  obtain ⟨h1, h2⟩ := build_ok hT hi hρ h.1
  exact OpOK.pure hi h.2 (by simp only [execOp, ho, Sem.run_bind, h1, Result.andThen_ok, Sem.run_pure]) h2
theorem do_load {oo : Oper} {t : TypeId} {a : Operand} {r : AV × Own} (ho : oo.op = .load t a) (h : doLoad t a T C ρ o = some r) : OpS P cfg C D m o w ev oo r := by
  simp only [doLoad, keep_some, ob_some] at h
  obtain ⟨⟨p, hp, h⟩, h2⟩ := h
  obtain ⟨h3, h4⟩ := hρ a _ hp
  obtain ⟨ad, h5, h6, h7⟩ := run_loadA hT hi h4 h
  exact OpOK.pure hi h2 (by simp only [execOp, ho, Sem.run_bind, h3, h5, Instr.loadAt, Instr.sureAddr, Sem.run_pure, Result.andThen_ok, h6]) h7
omit hT in
theorem do_nilCheck {oo : Oper} {x : Operand} {r : AV × Own} (ho : oo.op = .nilCheck x) (h : doNilCheck x T C ρ o = some r) : OpS P cfg C D m o w ev oo r := by
  simp only [doNilCheck, keep_some, ob_some] at h
  obtain ⟨⟨p, hp, h⟩, h2⟩ := h
  obtain ⟨h3, h4⟩ := hρ x _ hp
  cases p <;> simp only [nilCheckA, reduceCtorEq, Option.some.injEq] at h
  · rw [h] at h4 h3
    refine OpOK.pure hi h2 ?_ h4
    rw [← h] at h3 ⊢
    simp only [conc] at h3 ⊢
    simp only [execOp, ho, h3, Sem.run_pure]
  · rw [h] at h4 h3
    refine OpOK.pure hi h2 ?_ h4
    rw [← h] at h3 ⊢
    simp only [conc] at h3 ⊢
    simp only [execOp, ho, h3, Sem.run_pure]
theorem do_bin {oo : Oper} {op : BinOp} {t yt : TypeId} {x y : Operand} {r : AV × Own} (ho : oo.op = .binOp op t x y yt) (h : doBin op t x y T C ρ o = some r) : OpS P cfg C D m o w ev oo r := by
  simp only [doBin, keep_some, ob_some] at h
  obtain ⟨⟨a, ha, b, hb, h⟩, h2⟩ := h
  obtain ⟨h3, _⟩ := hρ x _ ha
  obtain ⟨h4, _⟩ := hρ y _ hb
  obtain ⟨h5, h6⟩ := run_binA hT (m := m) h w
  exact OpOK.pure hi h2 (by simp only [execOp, ho, h3, h4]; rw [Sem.run_bind, h5]; rfl) (okV_none h6)
omit hT in
theorem do_un {oo : Oper} {op : UnOp} {t : TypeId} {x : Operand} {r : AV × Own} (ho : oo.op = .unOp op t x) (h : doUn op x T C ρ o = some r) : OpS P cfg C D m o w ev oo r := by
  simp only [doUn, keep_some, ob_some] at h
  obtain ⟨⟨a, ha, h⟩, h2⟩ := h
  obtain ⟨h3, _⟩ := hρ x _ ha
  obtain ⟨h5, h6⟩ := run_unA (P := P) (m := m) h w
  exact OpOK.pure hi h2 (by simp only [execOp, ho, h3, Sem.run_bind, h5, Result.andThen_ok, Sem.run_pure]) (okV_none h6)
theorem do_iface {oo : Oper} {t : TypeId} {x : Operand} {r : AV × Own} (ho : oo.op = .makeInterface t x) (h : doIface t x T C ρ o = some r) : OpS P cfg C D m o w ev oo r := by
  simp only [doIface, keep_some, ob_some, makeIfaceA] at h
  obtain ⟨⟨v, hv, h⟩, h2⟩ := h
  obtain ⟨h3, h4⟩ := hρ x _ hv
  split at h <;> simp only [reduceCtorEq, Option.some.injEq] at h
  rename_i d hne hu
  refine OpOK.pure hi h2 ?_ (by rw [← h]; exact h4)
  rw [← h]
  simp only [execOp, ho, h3, Instr.makeInterface, Sem.run_bind, run_und hT hu w, Result.andThen_ok, conc]
  cases d <;> first | rfl | exact absurd rfl (hne _)
omit hT in
theorem do_func {oo : Oper} {fn : Fn} {first captured : Array Operand} {r : AV × Own} (ho : oo.op = .makeFunc fn first captured) (h : doFunc fn first captured T C ρ o = some r) : OpS P cfg C D m o w ev oo r := by
  simp only [doFunc, keep_some] at h
  obtain ⟨h, h2⟩ := h
  cases fn <;> simp only [makeFuncA, reduceCtorEq, ob_some, Option.some.injEq] at h
  obtain ⟨a, ha, b, hb, h⟩ := h
  obtain ⟨h3, h4⟩ := mapAll_arr hρ ha
  obtain ⟨h5, h6⟩ := mapAll_arr hρ hb
  refine OpOK.pure hi h2 ?_ ?_
  · rw [← h]; simp [execOp, ho, Instr.makeFunc, h3, h5, conc]
  · rw [← h]
    intro i hm
    simp only [idsA, List.mem_append] at hm
    rcases hm with hm | hm
    · exact h4 i hm
    · exact h6 i hm
theorem do_slice {oo : Oper} {t : TypeId} {x : Operand} {lo hi' mx : Option Operand} {r : AV × Own} (ho : oo.op = .slice t x lo hi' mx) (h : doSlice t x lo hi' mx T C ρ o = some r) : OpS P cfg C D m o w ev oo r := by
  simp only [doSlice, keep_some, ob_some] at h
  obtain ⟨⟨v, hv, l, hl, hh, hhh, mm, hmm, h⟩, h2⟩ := h
  obtain ⟨h3, h4⟩ := hρ x _ hv
  obtain ⟨h5, h6⟩ := run_sliceOf hT h4 h w
  exact OpOK.pure hi h2 (by simp only [execOp, ho, h3, optA_conc hρ hl, optA_conc hρ hhh, optA_conc hρ hmm, Sem.run_bind, h5, Result.andThen_ok, Sem.run_pure]) h6
theorem do_fieldAddr {oo : Oper} {s : TypeId} {x : Operand} {f : Nat} {r : AV × Own} (ho : oo.op = .fieldAddr s x f) (h : doFieldAddr s x f T C ρ o = some r) : OpS P cfg C D m o w ev oo r := by
  simp only [doFieldAddr, keep_some, ob_some] at h
  obtain ⟨⟨v, hv, h⟩, h2⟩ := h
  obtain ⟨h3, h4⟩ := hρ x _ hv
  obtain ⟨h5, h6⟩ := run_fieldAddr hT h4 h w
  exact OpOK.pure hi h2 (by simp only [execOp, ho, h3, Sem.run_bind, h5, Result.andThen_ok, Sem.run_pure]) h6
theorem do_field {oo : Oper} {s : TypeId} {x : Operand} {f : Nat} {r : AV × Own} (ho : oo.op = .field s x f) (h : doField s x f T C ρ o = some r) : OpS P cfg C D m o w ev oo r := by
  simp only [doField, keep_some, ob_some] at h
  obtain ⟨⟨v, hv, h⟩, h2⟩ := h
  obtain ⟨h3, h4⟩ := hρ x _ hv
  obtain ⟨h5, h6⟩ := run_field hT h4 h w
  exact OpOK.pure hi h2 (by simp only [execOp, ho, h3, Sem.run_bind, h5, Result.andThen_ok, Sem.run_pure]) h6
omit hT hi hρ in
theorem idxA_some {v : AV} {n : Nat} (h : idxA v = some n) : ∃ k, v = .int k (.ofNat n) := by
  unfold idxA at h
  split at h
  · cases h; exact ⟨_, rfl⟩
  · cases h
theorem do_indexAddr {oo : Oper} {t : TypeId} {x ix : Operand} {r : AV × Own} (ho : oo.op = .indexAddr t x ix) (h : doIndexAddr t x ix T C ρ o = some r) : OpS P cfg C D m o w ev oo r := by
  simp only [doIndexAddr, keep_some, ob_some] at h
  obtain ⟨⟨v, hv, i, hix, n, hn, h⟩, h2⟩ := h
  obtain ⟨k, rfl⟩ := idxA_some hn
  obtain ⟨h3, h4⟩ := hρ x _ hv
  obtain ⟨h7, _⟩ := hρ ix _ hix
  obtain ⟨h5, h6⟩ := run_indexAddr hT (k := k) h4 h w
  exact OpOK.pure hi h2 (by simp only [execOp, ho, h3, h7, conc, Int.ofNat_eq_natCast, Sem.run_bind, h5, Result.andThen_ok, Sem.run_pure]) h6
theorem do_index {oo : Oper} {t : TypeId} {x ix : Operand} {r : AV × Own} (ho : oo.op = .index t x ix) (h : doIndex t x ix T C ρ o = some r) : OpS P cfg C D m o w ev oo r := by
  simp only [doIndex, keep_some, ob_some] at h
  obtain ⟨⟨v, hv, i, hix, n, hn, h⟩, h2⟩ := h
  obtain ⟨k, rfl⟩ := idxA_some hn
  obtain ⟨h3, h4⟩ := hρ x _ hv
  obtain ⟨h7, _⟩ := hρ ix _ hix
  obtain ⟨h5, h6⟩ := run_index hT (k := k) h4 h w
  exact OpOK.pure hi h2 (by simp only [execOp, ho, h3, h7, conc, Int.ofNat_eq_natCast, Sem.run_bind, h5, Result.andThen_ok, Sem.run_pure]) h6
omit hT in
theorem do_extract {oo : Oper} {t : Operand} {i : Nat} {r : AV × Own} (ho : oo.op = .extract t i) (h : doExtract t i T C ρ o = some r) : OpS P cfg C D m o w ev oo r := by
  simp only [doExtract, keep_some, ob_some] at h
  obtain ⟨⟨v, hv, h⟩, h2⟩ := h
  obtain ⟨h3, h4⟩ := hρ t _ hv
  cases v <;> simp only [extractA, reduceCtorEq] at h
  rename_i vs
  refine OpOK.pure hi h2 ?_ (okL_iff.1 (okV_tuple.1 h4) _ (List.mem_of_getElem? h))
  simp [execOp, ho, h3, conc, Instr.extract, concL_get, h]
end
end Go.Ev
