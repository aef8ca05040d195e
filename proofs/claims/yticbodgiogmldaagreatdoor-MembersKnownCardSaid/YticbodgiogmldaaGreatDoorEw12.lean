/- Slices that are made, maps, ranges over strings. -/
import Derived.Test.YticbodgiogmldaaGreatDoorEw11
set_option linter.all false
namespace Go.Ev
open Go Go.RowKit

theorem wrap_small (n : Nat) (h : n ≤ 10000) : IntKind.i64.wrap (n : Int) = (n : Int) := wrap_id .i64 _ (by simp only [loK]; omega) (by simp only [hiK]; omega)

theorem getObj_run {P : Program} {w : World} {r : Nat} {x : Obj} (h : w.heap[r]? = some x) (hx : ∀ c e f, x ≠ .cells c e f) : (getObj r).run P w = .ok x w := by
  cases x <;> first | exact absurd rfl (hx _ _ _) | simp [getObj, Sem.run, h]
theorem setObj_run {P : Program} {w : World} {r : Nat} {x y : Obj} (h : w.heap[r]? = some x) (hx : ∀ c e f, x ≠ .cells c e f) : (setObj r y).run P w = .ok () { w with heap := w.heap.setIfInBounds r y } := by
  cases x <;> first | exact absurd rfl (hx _ _ _) | simp [setObj, Sem.run, h]
theorem setObj_other (w : World) (r k : Nat) (y : Obj) (h : k ≠ r) : ({ w with heap := w.heap.setIfInBounds r y } : World).heap[k]? = w.heap[k]? := by
  simp only [Array.getElem?_setIfInBounds]; rw [if_neg (fun e => h e.symm)]
theorem setObj_same (w : World) (r : Nat) (x y : Obj) (h : w.heap[r]? = some x) : ({ w with heap := w.heap.setIfInBounds r y } : World).heap[r]? = some y := by
  have := (Array.getElem?_eq_some_iff.1 h).1
  simp [this]

/-- Keys, as the machine compares them. -/
theorem sameNow_eq {m : Nat → Loc} {d : TypeDesc} {k e : AV} {b : Bool} (hk : keyD k (some d) = true) (h : keyEq k e = some b) : Instr.sameNow d (conc m k) (conc m e) = some b := by
  cases d <;> simp only [keyD, Bool.false_eq_true] at hk <;> cases k <;> simp at hk <;> cases e <;> simp only [keyEq, reduceCtorEq, ok_some, sameK_iff, Option.some.injEq] at h
  · subst h; simp [Instr.sameNow, conc, boolEq_beq]
  · obtain ⟨rfl, rfl⟩ := h; simp [Instr.sameNow, conc, intEq_beq]
  · subst h
    simp only [Instr.sameNow, conc, Option.some.injEq, bytesEq_beq]
    rw [beq_toListBytes, toList_mk', toList_mk']
theorem findNow_eq {m : Nat → Loc} {d : TypeDesc} {k : AV} (hk : keyD k (some d) = true) : ∀ {es : List (AV × AV)} {en : List MapEntry} {r : Option AV} {i : Nat}, en.map (fun e => (e.key, e.val)) = es.map (fun e => (conc m e.1, conc m e.2)) → findA k es = some r →
    ∃ q, Instr.findNow d (conc m k) en i = some q ∧ q.map (·.2) = r.map (conc m)
  | [], en, r, i, he, h => by
    cases h
    cases en with
    | nil => exact ⟨none, rfl, rfl⟩
    | cons _ _ => simp at he
  | e :: es, en, r, i, he, h => by
    cases en with
    | nil => simp at he
    | cons n en =>
      simp only [List.map_cons, List.cons.injEq, Prod.mk.injEq] at he
      obtain ⟨⟨h1, h2⟩, he⟩ := he
      simp only [findA, ob_some] at h
      obtain ⟨b, hb, h⟩ := h
      have hs := sameNow_eq (m := m) hk hb
      cases b with
      | true =>
        simp only [cond_true, Option.some.injEq] at h
        subst h
        exact ⟨some (i, n.val), by simp [Instr.findNow, h1, hs], by simp [h2]⟩
      | false =>
        simp only [cond_false] at h
        obtain ⟨q, hq, hqr⟩ := findNow_eq hk (i := i + 1) he h
        exact ⟨q, by simp [Instr.findNow, h1, hs, hq], hqr⟩
theorem keyEq_true {k e : AV} (h : keyEq k e = some true) : k = e := by
  cases e <;> simp only [keyEq, reduceCtorEq] at h <;> cases k <;> simp only [reduceCtorEq, ok_some, sameK_iff, Option.some.injEq] at h
  · rw [boolEq_beq, beq_iff_eq] at h; rw [h]
  · rw [intEq_iff] at h; rw [h.1, h.2]
  · rw [bytesEq_beq, beq_iff_eq] at h; rw [h]
theorem findNow_set {m : Nat → Loc} {d : TypeDesc} {k v : AV} (hk : keyD k (some d) = true) : ∀ {es es' : List (AV × AV)} {en : List MapEntry} {i : Nat}, en.map (fun e => (e.key, e.val)) = es.map (fun e => (conc m e.1, conc m e.2)) → setE k v es = some es' →
    ∃ j x, Instr.findNow d (conc m k) en i = some (some (i + j, x)) ∧ (∃ e, en[j]? = some e ∧ e.key = conc m k) ∧ (en.modify j fun e => { e with key := conc m k, val := conc m v }).map (fun e => (e.key, e.val)) = es'.map (fun e => (conc m e.1, conc m e.2))
  | [], es', en, i, he, h => by cases h
  | e :: es, es', en, i, he, h => by
    cases en with
    | nil => simp at he
    | cons n en =>
      simp only [List.map_cons, List.cons.injEq, Prod.mk.injEq] at he
      obtain ⟨⟨h1, h2⟩, he⟩ := he
      simp only [setE, ob_some] at h
      obtain ⟨b, hb, h⟩ := h
      have hs := sameNow_eq (m := m) hk hb
      cases b with
      | true =>
        simp only [cond_true, Option.some.injEq] at h
        subst h
        exact ⟨0, n.val, by simp [Instr.findNow, h1, hs], ⟨n, rfl, by rw [h1, keyEq_true hb]⟩, by simp [he]⟩
      | false =>
        simp only [cond_false, ob_some, Option.some.injEq] at h
        obtain ⟨es1, hes, rfl⟩ := h
        obtain ⟨j, x, a1, ⟨e1, a2, a3⟩, a4⟩ := findNow_set hk (i := i + 1) he hes
        refine ⟨j + 1, x, ?_, ⟨e1, by simpa using a2, a3⟩, ?_⟩
        · simp only [Instr.findNow, h1, hs]
          rw [show i + (j + 1) = i + 1 + j by omega, ← a1]
        · simp [h1, h2, a4]
theorem setE_ok {D : Nat → Prop} {m : Nat → Loc} {k v : AV} (hk : okV D m k) (hv : okV D m v) : ∀ {es es' : List (AV × AV)}, setE k v es = some es' → (∀ e ∈ es, okV D m e.1 ∧ okV D m e.2) → ∀ e ∈ es', okV D m e.1 ∧ okV D m e.2
  | [], es', h, _ => by cases h
  | e :: es, es', h, ho => by
    simp only [setE, ob_some] at h
    obtain ⟨b, hb, h⟩ := h
    cases b with
    | true =>
      simp only [cond_true, Option.some.injEq] at h
      subst h
      intro x hx
      rcases List.mem_cons.1 hx with rfl | hx
      · exact ⟨hk, hv⟩
      · exact ho x (List.mem_cons_of_mem _ hx)
    | false =>
      simp only [cond_false, ob_some, Option.some.injEq] at h
      obtain ⟨es1, hes, rfl⟩ := h
      intro x hx
      rcases List.mem_cons.1 hx with rfl | hx
      · exact ho x List.mem_cons_self
      · exact setE_ok hk hv hes (fun e he => ho e (List.mem_cons_of_mem _ he)) x hx
theorem sameBits_self {m : Nat → Loc} {d : TypeDesc} {k : AV} (hk : keyD k (some d) = true) : Instr.sameBits 10000 (conc m k) (conc m k) = true := by
  cases d <;> simp only [keyD, Bool.false_eq_true] at hk <;> cases k <;> simp at hk <;> simp only [conc, Instr.sameBits] <;> first | (simp; done) | (rw [beq_toListBytes]; simp)
theorem checkKey_run {P : Program} {m : Nat → Loc} {d : TypeDesc} {t : TypeId} {k : AV} {b : Bool} {w : World} (hk : keyD k (some d) = true) (hu : (underlying t).run P w = .ok d w) : (Instr.checkKey b 10000 t (conc m k)).run P w = .ok () w := by
  unfold Instr.checkKey
  simp only [Sem.run_bind, hu, Result.andThen_ok]
  cases d <;> simp only [keyD, Bool.false_eq_true] at hk <;> cases k <;> simp at hk <;> simp [conc]
theorem findKey_run {P : Program} {m : Nat → Loc} {d : TypeDesc} {t : TypeId} {k : AV} {w : World} {es : List (AV × AV)} {en : List MapEntry} {r : Option AV} (hk : keyD k (some d) = true) (hu : (underlying t).run P w = .ok d w)
    (he : en.map (fun e => (e.key, e.val)) = es.map (fun e => (conc m e.1, conc m e.2))) (h : findA k es = some r) : ∃ q, (Instr.findKey t (conc m k) en).run P w = .ok q w ∧ q.map (·.2) = r.map (conc m) := by
  obtain ⟨q, hq, hqr⟩ := findNow_eq (m := m) hk (i := 0) he h
  exact ⟨q, by simp [Instr.findKey, hu, hq], hqr⟩
theorem findA_mem {D : Nat → Prop} {m : Nat → Loc} {k v : AV} : ∀ {es : List (AV × AV)}, findA k es = some (some v) → (∀ e ∈ es, okV D m e.1 ∧ okV D m e.2) → okV D m v
  | [], h, _ => by cases h
  | e :: es, h, ho => by
    simp only [findA, ob_some] at h
    obtain ⟨b, hb, h⟩ := h
    cases b with
    | true => simp only [cond_true, Option.some.injEq] at h; subst h; exact (ho e (by simp)).2
    | false => simp only [cond_false] at h; exact findA_mem h (fun e he => ho e (by simp [he]))

section
variable {P : Program} {T : Tab} (hT : TabOK P T) {cfg : Cfg} {C : Ctx} {D : Nat → Prop} {m : Nat → Loc} {o : Own} {w : World} (hi : Inv cfg D m C o w) {ρ : Operand → Option AV} {ev : Operand → Value} (hρ : RhoOK D m ρ ev)
include hT hi hρ
omit hi hρ in
theorem small_some {t : TypeId} (h : smallT T t = true) : ∃ i, T.inf t = some i ∧ i.bytes ≤ 100000 := by
  unfold smallT at h
  split at h
  · rename_i i hi
    exact ⟨i, hi, ble_iff.1 h⟩
  · cases h
theorem do_makeSlice {oo : Oper} {t : TypeId} {l c : Operand} {r : AV × Own} (ho : oo.op = .makeSlice t l c) (h : doMakeSlice t l c T C ρ o = some r) : OpS P cfg C D m o w ev oo r := by
  simp only [doMakeSlice, makeSliceA, ob_some, ok_some, Bool.and_eq_true, ble_iff, beq_iff, natLt_iff, Option.some.injEq] at h
  obtain ⟨lv, hlv, cv, hcv, elem, he, n, hn, z, hz, cn, hcn, ln, hln, ⟨⟨⟨⟨hl, h0⟩, hb⟩, hsm⟩, _⟩, rfl⟩ := h
  obtain ⟨kc, rfl, hc1⟩ := natA_some hcn
  obtain ⟨kl, rfl, hl1⟩ := natA_some hln
  have e1 := (hρ l _ hlv).1
  have e2 := (hρ c _ hcv).1
  obtain ⟨hz1, hz2⟩ := run_zero hT (m := m) hz w
  obtain ⟨inf, hinf, hby⟩ := small_some hT hsm
  have hmul : inf.bytes * cn ≤ 100000 * 10000 := Nat.mul_le_mul hby hc1
  have hmul2 : inf.bytes * ln ≤ 100000 * 10000 := Nat.mul_le_mul hby (Nat.le_trans hl1 hc1)
  have hcs : okL D m (repA (cellsA z) cn) := repA_ok (okL_zero hz2) cn
  have he' := Ext.fresh1 hi (.cells (repA (cellsA z) cn) true none) ⟨w.heap.size, 0, 0⟩ (.cells (concL m (repA (cellsA z) cn)).toArray elem) rfl rfl rfl rfl rfl (cells_new rfl hcs)
  refine ⟨_, _, _, .value (.slice (some ⟨w.heap.size, 0, none⟩) ln cn), ?_, .inl ?_, ?_, he'⟩
  · have hrep : (Array.range (cn * n)).map (fun i => (if cn * n = 0 then #[] else (concL m (cellsA z)).toArray)[i % (if cn * n = 0 then #[] else (concL m (cellsA z)).toArray).size]!) = (concL m (repA (cellsA z) cn)).toArray := by
      by_cases hz0 : cn * n = 0
      · have : cn = 0 := by rcases Nat.mul_eq_zero.1 hz0 with h | h <;> omega
        subst this
        apply Array.toList_inj.1
        simp [repA, concL]
      · rw [if_neg hz0]
        exact rep_conc (m := m) (cellsA z) (by omega) cn (cn * n) (by rw [hl])
    have hw1 := wrap_small cn hc1
    have hw2 := wrap_small ln (by omega)
    have t1 : ¬ ((cn : Int) < 0) := by omega
    have t2 : ¬ ((inf.bytes : Int) * (cn : Int) > 2 ^ 48) := by
      have : (inf.bytes : Int) * (cn : Int) = ((inf.bytes * cn : Nat) : Int) := by simp
      rw [this]; omega
    have t3 : ¬ ((ln : Int) < 0) := by omega
    have t4 : ¬ ((ln : Int) > (cn : Int)) := by omega
    simp only [execOp, ho, e1, e2, conc, Int.ofNat_eq_natCast, Instr.makeSlice, Sem.run_bind, run_und hT (und_elem he) w, Result.andThen_ok, asInt, asIntOf, Sem.run_pure, run_inf hT hinf w, hw1, hw2, t1, t2, t3, t4, decide_false, Bool.or_self, Bool.false_eq_true, if_false, run_askRoom, run_sz hT hn w, Int.toNat_natCast]
    by_cases hz0 : cn * n = 0
    · simp only [hz0, if_true, Sem.run_pure, Result.andThen_ok] at hrep ⊢
      simp only [hrep, newRow, Sem.run_bind, run_newObj, Result.andThen_ok, Sem.run_pure]; rfl
    · simp only [hz0, if_false, Sem.run_pure, Result.andThen_ok, Sem.run_bind, hz1, conc_cells] at hrep ⊢
      simp only [hrep, newRow, Sem.run_bind, run_newObj, Result.andThen_ok, Sem.run_pure]; rfl
  · simp [conc, capC, Own.next, upd_eq]
  · intro i hm
    simp only [idsA, List.mem_singleton, needC] at hm
    subst hm
    exact ⟨ok_new, Nat.zero_le _⟩
omit hi hρ in
theorem mapD_some {t kt et : TypeId} (h : mapD (T.und t) = some (kt, et)) : T.und t = some (.map kt et) := by
  cases hu : T.und t with
  | none => simp [hu, mapD] at h
  | some d => cases d <;> simp [hu, mapD] at h; simp [h]
theorem do_mapUp {oo : Oper} {t : TypeId} {mo k x : Operand} {r : AV × Own} (ho : oo.op = .insert t mo k x ∨ oo.op = .mapUpdate t mo k x) (h : doMapUp t mo k x T C ρ o = some r) : OpS P cfg C D m o w ev oo r := by
  simp only [doMapUp, mapUpA, ob_some, ok_some] at h
  obtain ⟨mv, hmv, kv, hkv, v, hv, ⟨kt, et⟩, hmt, hkd, h⟩ := h
  simp only at hkd
  obtain ⟨e1, o1⟩ := hρ mo _ hmv
  obtain ⟨e2, o2⟩ := hρ k _ hkv
  obtain ⟨e3, o3⟩ := hρ x _ hv
  cases mv <;> simp only [insertA, reduceCtorEq, ob_some] at h
  rename_i id
  have hd : D id := (o1 (id, 0) (by simp [idsA])).1
  obtain ⟨y, hy, es, hes, rr, hf, h⟩ := h
  cases y <;> simp only [entriesOf, reduceCtorEq, Option.some.injEq] at hes
  subst hes
  have hob := hi.obj id hd
  rw [own_get hy] at hob
  obtain ⟨en, ck, hb, hen, hoe⟩ := hob
  cases hud : T.und kt with
  | none => rw [hud] at hkd; simp [keyD] at hkd
  | some d =>
    rw [hud] at hkd
    have hck := checkKey_run (P := P) (w := w) (m := m) (b := false) hkd (run_und hT hud w)
    have hg := getObj_run (P := P) hb (by simp)
    cases rr with
    | none =>
      simp only [Option.some.injEq] at h
      subst h
      obtain ⟨q, hq, hqr⟩ := findKey_run (P := P) (w := w) (m := m) hkd (run_und hT hud w) hen hf
      have hq0 : q = none := by cases q <;> simp at hqr; rfl
      subst hq0
      have hst := setObj_run (P := P) (y := .map (en.push { key := conc m kv, val := conc m v, born := ck }) (ck + 1)) hb (by simp)
      refine ⟨D, m, { w with heap := w.heap.setIfInBounds (m id).blk (.map (en.push { key := conc m kv, val := conc m v, born := ck }) (ck + 1)) }, .skip, ?_, .inr ⟨rfl, rfl⟩, okV_undef, Ext.put hi hd hy rfl ?_ ?_ ?_ rfl rfl rfl⟩
      · have : (Instr.mapUpdate t (conc m (.map id)) (conc m kv) (conc m v)).run P w = .ok () { w with heap := w.heap.setIfInBounds (m id).blk (.map (en.push { key := conc m kv, val := conc m v, born := ck }) (ck + 1)) } := by
          simp only [Instr.mapUpdate, conc, Sem.run_bind, run_und hT (mapD_some hT hmt) w, Result.andThen_ok, hg, hck, hq, hst]
        rcases ho with ho | ho <;> simp only [execOp, ho, e1, e2, e3, Sem.run_bind, this, Result.andThen_ok, Sem.run_pure]
      · simp
      · intro j hj; exact setObj_other _ _ _ _ hj
      · rw [setObj_same _ _ _ _ hb]
        refine ⟨_, _, rfl, ?_, ?_⟩
        · simp [hen]
        · intro e he
          rcases List.mem_append.1 he with he | he
          · exact hoe e he
          · simp only [List.mem_singleton] at he; subst he; exact ⟨o2, o3⟩
    | some old =>
      simp only [ob_some, Option.some.injEq] at h
      obtain ⟨es', hset, rfl⟩ := h
      obtain ⟨j, xv, hfn, ⟨e0, he0, hek⟩, hmap⟩ := findNow_set (m := m) hkd (i := 0) hen hset
      rw [Nat.zero_add] at hfn
      have hq : (Instr.findKey kt (conc m kv) en.toList).run P w = .ok (some (j, xv)) w := by simp [Instr.findKey, run_und hT hud w, hfn]
      have hst := setObj_run (P := P) (y := .map (en.modify j fun e => { e with key := conc m kv, val := conc m v }) ck) hb (by simp)
      have hek' : ((en[j]?).map (·.key)).getD (conc m kv) = conc m kv := by
        rw [← Array.getElem?_toList, he0]; simp [hek]
      refine ⟨D, m, { w with heap := w.heap.setIfInBounds (m id).blk (.map (en.modify j fun e => { e with key := conc m kv, val := conc m v }) ck) }, .skip, ?_, .inr ⟨rfl, rfl⟩, okV_undef, Ext.put hi hd hy rfl ?_ ?_ ?_ rfl rfl rfl⟩
      · have : (Instr.mapUpdate t (conc m (.map id)) (conc m kv) (conc m v)).run P w = .ok () { w with heap := w.heap.setIfInBounds (m id).blk (.map (en.modify j fun e => { e with key := conc m kv, val := conc m v }) ck) } := by
          simp only [Instr.mapUpdate, conc, Sem.run_bind, run_und hT (mapD_some hT hmt) w, Result.andThen_ok, hg, hck, hq, hek', Instr.keyThatStays, sameBits_self hkd, if_true, Sem.run_pure, hst]
        rcases ho with ho | ho <;> simp only [execOp, ho, e1, e2, e3, Sem.run_bind, this, Result.andThen_ok, Sem.run_pure]
      · simp
      · intro j' hj; exact setObj_other _ _ _ _ hj
      · rw [setObj_same _ _ _ _ hb]
        exact ⟨_, _, rfl, by rw [Array.toList_modify]; exact hmap, setE_ok o2 o3 hset hoe⟩
theorem do_lookup {oo : Oper} {t : TypeId} {x ix : Operand} {okv : Bool} {r : AV × Own} (ho : oo.op = .lookup t x ix okv) (h : doLookup t x ix okv T C ρ o = some r) : OpS P cfg C D m o w ev oo r := by
  simp only [doLookup, keep_some, lookA, ob_some, ok_some] at h
  obtain ⟨⟨mv, hmv, kv, hkv, ⟨kt, et⟩, hmt, hkd, h⟩, hr⟩ := h
  simp only at hkd h
  obtain ⟨e1, o1⟩ := hρ x _ hmv
  obtain ⟨e2, o2⟩ := hρ ix _ hkv
  cases mv <;> simp only [lookupA, reduceCtorEq, ob_some] at h
  rename_i id
  have hd : D id := (o1 (id, 0) (by simp [idsA])).1
  obtain ⟨es, hes, rr, hf, h⟩ := h
  have hob := hi.obj id hd
  cases hy : get C o id <;> simp only [hy, entriesOf, reduceCtorEq, Option.some.injEq] at hes
  subst hes
  rw [hy] at hob
  obtain ⟨en, ck, hb, hen, hoe⟩ := hob
  cases hud : T.und kt with
  | none => rw [hud] at hkd; simp [keyD] at hkd
  | some d =>
    rw [hud] at hkd
    obtain ⟨q, hq, hqr⟩ := findKey_run (P := P) (w := w) (m := m) hkd (run_und hT hud w) hen hf
    have hck := checkKey_run (P := P) (w := w) (m := m) (b := en.isEmpty) hkd (run_und hT hud w)
    have hg := getObj_run (P := P) hb (by simp)
    cases rr with
    | some v =>
      simp only [Option.some.injEq] at h
      have hv := findA_mem hf hoe
      cases q with
      | none => simp at hqr
      | some q =>
        simp only [Option.map_some, Option.some.injEq] at hqr
        refine OpOK.pure hi hr ?_ ?_
        · rw [← h]
          simp only [execOp, ho, e1, e2, conc, Instr.lookup, Sem.run_bind, run_und hT (mapD_some hT hmt) w, Result.andThen_ok, hg, hck, hq, Sem.run_pure]
          cases okv <;> simp [answerA, conc, concL, hqr]
        · rw [← h]
          cases okv
          · exact hv
          · exact okV_tuple.2 (okL_cons.2 ⟨hv, okL_cons.2 ⟨okV_bool, okL_nil⟩⟩)
    | none =>
      simp only [ob_some, Option.some.injEq] at h
      obtain ⟨z, hz, h⟩ := h
      obtain ⟨hz1, hz2⟩ := run_zero hT (m := m) hz w
      have hq0 : q = none := by cases q <;> simp at hqr; rfl
      subst hq0
      refine OpOK.pure hi hr ?_ ?_
      · rw [← h]
        simp only [execOp, ho, e1, e2, conc, Instr.lookup, Sem.run_bind, run_und hT (mapD_some hT hmt) w, Result.andThen_ok, hg, hck, hq, Sem.run_pure, hz1]
        cases okv <;> simp [answerA, conc, concL]
      · rw [← h]
        cases okv
        · exact okV_none hz2
        · exact okV_tuple.2 (okL_cons.2 ⟨okV_none hz2, okL_cons.2 ⟨okV_bool, okL_nil⟩⟩)
theorem do_range {oo : Oper} {t : TypeId} {x : Operand} {r : AV × Own} (ho : oo.op = .range t x) (h : doRange t x T C ρ o = some r) : OpS P cfg C D m o w ev oo r := by
  simp only [doRange, ob_some] at h
  obtain ⟨v, hv, h⟩ := h
  obtain ⟨e1, o1⟩ := hρ x _ hv
  cases v <;> simp only [rangeA, reduceCtorEq, ok_some, Option.some.injEq] at h
  rename_i s
  obtain ⟨hs, rfl⟩ := h
  have he' := Ext.fresh1 hi (.siter s 0) ⟨w.heap.size, 0, 0⟩ (.stringIter ⟨⟨s⟩⟩ 0) rfl rfl rfl rfl rfl ⟨rfl, rfl⟩
  refine ⟨_, _, _, .value (.pointer (some ⟨w.heap.size, 0, none⟩)), ?_, .inl ?_, ok_ptr_new, he'⟩
  · simp only [execOp, ho, e1, conc, Instr.range, Sem.run_bind, run_und hT (und_str hs) w, Result.andThen_ok, Sem.run_pure, run_newObj]; rfl
  · simp [conc, Own.next, upd_eq]
omit hT in
theorem do_next {oo : Oper} {it : Operand} {s : Bool} {r : AV × Own} (ho : oo.op = .next it s) (h : doNext it s T C ρ o = some r) : OpS P cfg C D m o w ev oo r := by
  simp only [doNext, ok_some, ob_some] at h
  obtain ⟨rfl, v, hv, h⟩ := h
  obtain ⟨e1, o1⟩ := hρ it _ hv
  unfold nextA at h
  split at h
  · rename_i id
    simp only [ob_some] at h
    obtain ⟨y, hy, h⟩ := h
    have hd : D id := (o1 (id, 0) (by simp [idsA])).1
    cases y <;> simp only [nextObj, reduceCtorEq, Option.some.injEq] at h
    rename_i s pos
    subst h
    have hob := hi.obj id hd
    rw [own_get hy] at hob
    obtain ⟨hob, hbase⟩ := hob
    have hg := getObj_run (P := P) hob (by simp)
    have hsz : (ByteArray.mk ⟨s⟩).size = s.length := rfl
    unfold nextS
    cases hlt : natLt pos s.length with
    | true =>
      have hp := natLt_iff.1 hlt
      simp only [cond_true]
      have hst := setObj_run (P := P) (y := .stringIter ⟨⟨s⟩⟩ (pos + (Utf8.decode ⟨⟨s⟩⟩ pos).2)) hob (by simp)
      refine ⟨D, m, { w with heap := w.heap.setIfInBounds (m id).blk (.stringIter ⟨⟨s⟩⟩ (pos + (Utf8.decode ⟨⟨s⟩⟩ pos).2)) }, .value (.tuple #[.bool true, .int .i64 pos, .int .i32 (Utf8.decode ⟨⟨s⟩⟩ pos).1]), ?_, .inl ?_, ?_, Ext.put hi hd hy rfl ?_ ?_ ?_ rfl rfl rfl⟩
      · simp only [execOp, ho, e1, conc, hbase, Instr.next, Sem.run_bind, hg, Result.andThen_ok, hsz, if_pos hp, hst, Sem.run_pure, Go.goInt]
      · simp [conc, concL, goInt_eq, outN_eq]
      · exact okV_tuple.2 (okL_cons.2 ⟨okV_bool, okL_cons.2 ⟨by rw [goInt_eq]; exact okV_int, okL_cons.2 ⟨by rw [outN_eq]; exact okV_int, okL_nil⟩⟩⟩)
      · simp
      · intro j hj; exact setObj_other _ _ _ _ hj
      · rw [setObj_same _ _ _ _ hob]; exact ⟨rfl, hbase⟩
    | false =>
      have hp : ¬ pos < s.length := by have := natLt_false.1 hlt; omega
      simp only [cond_false]
      refine OpOK.pure hi rfl ?_ (okV_tuple.2 (okL_cons.2 ⟨okV_bool, okL_nil⟩))
      simp only [execOp, ho, e1, conc, hbase, Instr.next, Sem.run_bind, hg, Result.andThen_ok, hsz, if_neg hp, Sem.run_pure, concL]
  · cases h
end
end Go.Ev
