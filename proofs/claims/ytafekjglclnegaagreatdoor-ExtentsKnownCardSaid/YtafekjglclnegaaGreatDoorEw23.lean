/- A drawn region: what its checks say; the context in which an operation that writes nothing runs. -/
import Derived.Test.YtafekjglclnegaaGreatDoorEw22
set_option linter.all false
namespace Go.Ev
open Go Go.RowKit

theorem tmpJ_spec {acc : List Nat} {n k t : Nat} : ∀ {l : List Oper} {i : Nat}, tmpJ acc n k t i l = true → ∀ (d : Nat) (op : Oper), l[d]? = some op → op.dst = some t → i + d ≠ k → ordB acc n (i + d) k = true
  | [], i, h, d, op, hd, _, _ => by simp at hd
  | o :: rest, i, h, d, op, hd, ht, hne => by
    simp only [tmpJ, Bool.and_eq_true] at h
    cases d with
    | zero =>
      simp only [List.getElem?_cons_zero, Option.some.injEq] at hd
      subst hd
      have h1 := h.1
      simp only [ht, isDst, Bool.or_eq_true, Bool.not_eq_true', beq_iff] at h1
      rcases h1 with (h1 | h1) | h1
      · exact absurd h1 (by simp)
      · exact absurd h1 hne
      · exact h1
    | succ d =>
      have := tmpJ_spec h.2 d op (by simpa using hd) ht (by omega)
      rwa [show i + (d + 1) = i + 1 + d by omega]
theorem tmpK_spec {ops : Array Oper} {acc : List Nat} : ∀ {l : List Oper} {i : Nat}, tmpK ops acc i l = true → ∀ (d : Nat) (op : Oper), l[d]? = some op → ∀ t ∈ tmpsOf ops op, tmpJ acc ops.size (i + d) t 0 ops.toList = true
  | [], i, h, d, op, hd, _, _ => by simp at hd
  | o :: rest, i, h, d, op, hd, t, ht => by
    simp only [tmpK, Bool.and_eq_true, List.all_eq_true] at h
    cases d with
    | zero =>
      simp only [List.getElem?_cons_zero, Option.some.injEq] at hd
      subst hd
      exact h.1 t ht
    | succ d =>
      have := tmpK_spec h.2 d op (by simpa using hd) t ht
      rwa [show i + (d + 1) = i + 1 + d by omega]
theorem edgeJ_spec {j : Nat} : ∀ {l : List Edge}, edgeJ j l = true → ∀ e ∈ l, Region.binds .any e = true → e.on < j
  | [], _, e, he, _ => by cases he
  | x :: l, h, e, he, hb => by
    simp only [edgeJ, Bool.and_eq_true, Bool.or_eq_true, Bool.not_eq_true', natLt_iff] at h
    rcases List.mem_cons.1 he with rfl | he
    · rcases h.1 with h1 | h1
      · rw [hb] at h1; cases h1
      · exact h1
    · exact edgeJ_spec h.2 e he hb
theorem edgeK_spec : ∀ {l : List Oper} {i : Nat}, edgeK i l = true → ∀ (d : Nat) (op : Oper), l[d]? = some op → ∀ e ∈ op.after.toList, Region.binds .any e = true → e.on < i + d
  | [], i, h, d, op, hd, _, _, _ => by simp at hd
  | o :: rest, i, h, d, op, hd, e, he, hb => by
    simp only [edgeK, Bool.and_eq_true] at h
    cases d with
    | zero =>
      simp only [List.getElem?_cons_zero, Option.some.injEq] at hd
      subst hd
      exact edgeJ_spec h.1 e he hb
    | succ d =>
      have := edgeK_spec h.2 d op (by simpa using hd) e he hb
      rwa [show i + (d + 1) = i + 1 + d by omega]
theorem elemN_iff {id : Nat} : ∀ {l : List Nat}, elemN id l = true ↔ id ∈ l
  | [] => by simp [elemN]
  | x :: l => by
    simp only [elemN, Bool.or_eq_true, beq_iff, elemN_iff (l := l), List.mem_cons]
    exact ⟨fun h => h.imp Eq.symm fun x => x, fun h => h.imp Eq.symm fun x => x⟩
theorem readsNot_spec {j : Nat} {ids : List Nat} : ∀ {log : List (Nat × Foot)}, readsNot j ids log = true → ∀ id, (j, Foot.reads id) ∈ log → id ∉ ids
  | [], _, id, h => by cases h
  | e :: rest, h, id, hm => by
    simp only [readsNot, Bool.and_eq_true] at h
    rcases List.mem_cons.1 hm with rfl | hm
    · have h1 := h.1
      simp only [Bool.not_eq_true', Bool.and_eq_false_iff] at h1
      rcases h1 with h1 | h1
      · simp at h1
      · intro hin; rw [elemN_iff.2 hin] at h1; cases h1
    · exact readsNot_spec h.2 id hm
theorem apartJ_spec {acc : List Nat} {n i : Nat} {log : List (Nat × Foot)} {ids : List Nat} : ∀ {l : List Oper} {b : Nat}, apartJ acc n log i ids b l = true → ∀ (d : Nat) (op : Oper), l[d]? = some op → i ≠ b + d →
    isFree (kindOp op.op) = true ∨ ordB acc n i (b + d) = true ∨ (isLoad (kindOp op.op) = true ∧ ∀ id, (b + d, Foot.reads id) ∈ log → id ∉ ids)
  | [], b, h, d, op, hd, _ => by simp at hd
  | o :: rest, b, h, d, op, hd, hne => by
    simp only [apartJ, Bool.and_eq_true] at h
    cases d with
    | zero =>
      simp only [List.getElem?_cons_zero, Option.some.injEq] at hd
      subst hd
      have h1 := h.1
      simp only [Bool.or_eq_true, Bool.and_eq_true, beq_iff] at h1
      rcases h1 with ((h1 | h1) | h1) | ⟨h1, h2⟩
      · exact absurd h1 hne
      · exact .inl h1
      · exact .inr (.inl h1)
      · exact .inr (.inr ⟨h1, fun id => readsNot_spec h2 id⟩)
    | succ d =>
      have := apartJ_spec h.2 d op (by simpa using hd) (by omega)
      rwa [show b + (d + 1) = b + 1 + d by omega]
theorem apartE_spec {ops : Array Oper} {acc : List Nat} {log : List (Nat × Foot)} : ∀ {l : List (Nat × Foot)}, apartE ops acc log l = true → ∀ i ids, (i, Foot.bar ids) ∈ l → apartJ acc ops.size log i ids 0 ops.toList = true
  | [], _, i, ids, h => by cases h
  | e :: rest, h, i, ids, hm => by
    simp only [apartE, Bool.and_eq_true] at h
    rcases List.mem_cons.1 hm with rfl | hm
    · exact h.1
    · exact apartE_spec h.2 i ids hm

/-- What the checks of a drawn region say. -/
structure Checks (cfg : Cfg) (ops : Array Oper) (S : Nat → St) : Prop where
  bar : ∀ e ids, e < ops.size → footAt cfg ops S e = .bar ids → ∀ j op, ops[j]? = some op → e ≠ j →
    isFree (kindOp op.op) = true ∨ ordB (befR ops.toList.reverse) ops.size e j = true ∨ (isLoad (kindOp op.op) = true ∧ ∀ id, footAt cfg ops S j = .reads id → id ∉ ids)
  tmp : ∀ k op, ops[k]? = some op → ∀ t ∈ tmpsOf ops op, ∀ j, dstAt ops j = some t → j ≠ k → ordB (befR ops.toList.reverse) ops.size j k = true
  edge : ∀ k op, ops[k]? = some op → ∀ e ∈ op.after.toList, Region.binds .any e = true → e.on < k
theorem checks_of {cfg : Cfg} {ops : Array Oper} {S : Nat → St} {acc : List Nat} {log : List (Nat × Foot)} (hs : statA ops = some acc) (hl : ∀ k, k < ops.size → (k, footAt cfg ops S k) ∈ log) (ha : apartE ops acc log log = true) : Checks cfg ops S := by
  simp only [statA, forceL_eq, ok_some, Bool.and_eq_true, Option.some.injEq] at hs
  obtain ⟨⟨h1, h2⟩, rfl⟩ := hs
  refine ⟨fun e ids he hf j op hop hne => ?_, fun k op hop t ht j hj hne => ?_, fun k op hop e he hb => ?_⟩
  · have hjl : j < ops.size := (Array.getElem?_eq_some_iff.1 hop).1
    have h3 := apartE_spec ha e ids (by rw [← hf]; exact hl e he)
    have h4 := apartJ_spec h3 j op (by simpa using hop) (by simpa using hne)
    rw [Nat.zero_add] at h4
    rcases h4 with h4 | h4 | ⟨h4, h5⟩
    · exact .inl h4
    · exact .inr (.inl h4)
    · exact .inr (.inr ⟨h4, fun id hr => h5 id (by rw [← hr]; exact hl j hjl)⟩)
  · have h3 := tmpK_spec h1 k op (by simpa using hop) t ht
    rw [Nat.zero_add] at h3
    unfold dstAt at hj
    cases hjo : ops[j]? with
    | none => rw [hjo] at hj; cases hj
    | some oj =>
      rw [hjo] at hj
      have h4 := tmpJ_spec h3 j oj (by simpa using hjo) hj (by simpa using hne)
      rwa [Nat.zero_add] at h4
  · have := edgeK_spec h2 k op (by simpa using hop) e he hb
    rwa [Nat.zero_add] at this
theorem ordB_iff {ops : Array Oper} {E : Nat → Prop} (hd : ∀ j, E j → WaitsOK ops E j) {e j : Nat} (hE : ¬ E e) (hw : WaitsOK ops E e) (hne : j ≠ e) (h : ordB (befR ops.toList.reverse) ops.size j e = true ∨ ordB (befR ops.toList.reverse) ops.size e j = true) : E j ↔ j < e := by
  have hb : (j < e ∧ bitAt (befR ops.toList.reverse) ops.size j e = true) ∨ (e < j ∧ bitAt (befR ops.toList.reverse) ops.size e j = true) := by
    unfold ordB at h
    rcases Nat.lt_or_ge j e with hl | hg
    · rw [ble_iff.2 (Nat.le_of_lt hl), bleF (by omega : ¬ e ≤ j), cond_true, cond_false] at h
      exact .inl ⟨hl, h.elim id id⟩
    · rw [ble_iff.2 hg, bleF (by omega : ¬ j ≤ e), cond_true, cond_false] at h
      exact .inr ⟨by omega, h.elim id id⟩
  rcases hb with ⟨hl, hb⟩ | ⟨hl, hb⟩
  · exact ⟨fun _ => hl, fun _ => before_in hd e hw hb⟩
  · exact ⟨fun hj => absurd (before_in hd j (hd j hj) hb) hE, fun hh => by omega⟩

theorem namesAt_ok {D : Nat → Prop} {m : Nat → Loc} {args : List AV} (h : okL D m args) : ∀ {ps : List Nat} {i : Nat}, i ∈ namesAt args ps → D i
  | [], i, hi => by cases hi
  | p :: ps, i, hi => by
    unfold namesAt at hi
    split at hi
    · rename_i id hid
      rcases List.mem_cons.1 hi with rfl | hi
      · simp only [ob_some] at hid
        obtain ⟨v, hv, hn⟩ := hid
        have := okL_iff.1 h v (List.mem_of_getElem? hv)
        cases v <;> simp only [nameOf, reduceCtorEq, Option.some.injEq] at hn <;> subst hn <;> exact (this _ (by simp [idsA]; rfl)).1
      · exact namesAt_ok h hi
    · exact namesAt_ok h hi
theorem nameOf_ok {D : Nat → Prop} {m : Nat → Loc} {v : AV} (h : okV D m v) {i : Nat} (hn : nameOf v = some i) : D i := by
  cases v <;> simp only [nameOf, reduceCtorEq, Option.some.injEq] at hn <;> subst hn <;> exact (h _ (by simp [idsA]; rfl)).1
theorem foot_names {cfg : Cfg} {D : Nat → Prop} {m : Nat → Loc} {ρ : Operand → Option AV} {ev : Operand → Value} (hρ : RhoOK D m ρ ev) {op : Op} {i : Nat} (h : i ∈ footIds (footA cfg ρ op)) : D i := by
  have b1 : ∀ x : Operand, i ∈ footIds (bar1 (ob (ρ x) nameOf)) → D i := by
    intro x hx
    cases hv : ρ x with
    | none => rw [hv] at hx; cases hx
    | some v =>
      rw [hv] at hx
      simp only [ob] at hx
      cases hn : nameOf v with
      | none => rw [hn] at hx; cases hx
      | some id =>
        rw [hn] at hx
        simp only [bar1, footIds, List.mem_singleton] at hx
        subst hx
        exact nameOf_ok (hρ x v hv).2 hn
  cases op <;> simp only [footA, footK, kindOp, footIds] at h <;> first | cases h | exact b1 _ h | skip
  · rename_i t a
    cases hx : ob (ρ a) nameOf <;> rw [hx] at h <;> cases h
  · rename_i c
    cases hcal : c.callee with
    | invoke x n => rw [hcal] at h; cases h
    | builtin b =>
      rw [hcal] at h
      have : i ∈ footIds (bar1 (ob c.args.toList[0]? fun x => ob (ρ x) nameOf)) → D i := by
        intro hh
        cases hx : c.args.toList[0]? with
        | none => rw [hx] at hh; cases hh
        | some x => rw [hx] at hh; exact b1 x hh
      cases b <;> first | exact this h | cases h
    | value f =>
      rw [hcal] at h
      simp only [footC] at h
      cases hf : ρ f with
      | none => rw [hf] at h; cases h
      | some fv =>
        cases hvs : mapAll ρ c.args.toList with
        | none => rw [hf, hvs] at h; cases h
        | some vs =>
          rw [hf, hvs] at h
          obtain ⟨_, h4⟩ := mapAll_arr hρ hvs
          have h2 := (hρ f _ hf).2
          cases fv <;> simp only [footF, List.not_mem_nil] at h
          rename_i fid first captured
          have hok : okL D m (first ++ vs ++ captured) := by
            have : okL D m first ∧ okL D m captured := ⟨fun i hm => h2 i (by simp [idsA, hm]), fun i hm => h2 i (by simp [idsA, hm])⟩
            exact okL_append.2 ⟨okL_append.2 ⟨this.1, h4⟩, this.2⟩
          refine namesAt_ok hok (ps := cfg.lend fid) ?_
          cases hna : namesAt (first ++ vs ++ captured) (cfg.lend fid) with
          | nil => rw [hna] at h; cases h
          | cons x xs => rw [hna] at h; exact h

/- the context of the quiet -/
def hotOwn (f : Nat → AObj) (r N : Nat) : Own := ⟨N - r, ((List.range (N - r)).map fun k => f (k + r)).reverse, []⟩
def hotC (cfg : Cfg) (f : Nat → AObj) (N : Nat) : Ctx := ⟨[(cfg.root.n, hotOwn f cfg.root.n N), (0, cfg.root)], N⟩
def cold : Own := ⟨0, [], []⟩
theorem hot_get {cfg : Cfg} {f : Nat → AObj} {N : Nat} {l : List AObj} {id : Nat} (h : id < N) : get (hotC cfg f N) (pushes l cold) id = if cfg.root.n ≤ id then f id else cfg.root.at id := by
  rw [get, getB]
  simp only [hotC]
  rw [bleF (by omega : ¬ N ≤ id)]
  simp only [cond_false, pushes, cold, leAt, getB]
  by_cases hr : cfg.root.n ≤ id
  · rw [ble_iff.2 hr, if_pos hr, cond_true]
    unfold hotOwn Own.at
    simp only
    rw [List.getD_eq_getElem?_getD, List.getElem?_reverse (by simp; omega)]
    simp only [List.length_map, List.length_range, List.getElem?_map]
    rw [show N - cfg.root.n - 1 - (N - cfg.root.n - 1 - (id - cfg.root.n)) = id - cfg.root.n by omega, List.getElem?_range (by omega)]
    simp only [Option.map_some, Option.getD_some]
    rw [show id - cfg.root.n + cfg.root.n = id by omega]
  · rw [bleF hr, if_neg hr, cond_false]
    simp only [hotOwn, leAt]
    rw [ble_iff.2 (Nat.zero_le _), cond_true, Nat.sub_zero]
theorem pushes_get {C C' : Ctx} {o o' : Own} {l : List AObj} {id : Nat} (hn : C'.lo + o'.n = C.lo + o.n) (h1 : C.lo + o.n ≤ id) (h2 : id < C.lo + o.n + l.length) : get C' (pushes l o') id = get C (pushes l o) id := by
  have key : ∀ (C : Ctx) (o : Own), C.lo + o.n ≤ id → id < C.lo + o.n + l.length → get C (pushes l o) id = l.getD (C.lo + o.n + l.length - 1 - id) .dead := by
    intro C o h1 h2
    rw [get, getB, ble_iff.2 (by omega : C.lo ≤ id), cond_true]
    unfold pushes Own.at
    simp only
    rw [show o.n + l.length - 1 - (id - C.lo) = C.lo + o.n + l.length - 1 - id by omega]
    simp only [List.getD_eq_getElem?_getD]
    rw [List.getElem?_append_left (by omega)]
  rw [key C o h1 h2, key C' o' (by omega) (by omega), hn]
end Go.Ev
