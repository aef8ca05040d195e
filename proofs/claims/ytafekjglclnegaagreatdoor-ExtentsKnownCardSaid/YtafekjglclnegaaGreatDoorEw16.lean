/- Plain laws of regions whose order is drawn: what goes before what; what an operation leaves as it is. -/
import Derived.Test.YtafekjglclnegaaGreatDoorEw15
set_option linter.all false
namespace Go.Ev
open Go Go.RowKit

theorem forceN_eq {α : Type} (k : Nat → α) (n : Nat) : forceN k n = k n := by cases n <;> rfl
theorem forceL_eq {α : Type} (k : List Nat → α) (l : List Nat) : forceL k l = k l := by cases l <;> rfl
theorem bitsAt_lt {acc : List Nat} {n j i : Nat} (h : (bitsAt acc n j).testBit i = true) : j < n := by
  unfold bitsAt at h
  cases hb : natLt j n with
  | true => exact natLt_iff.1 hb
  | false => simp [hb] at h
theorem orE_bit {acc : List Nat} {n i : Nat} : ∀ {es : List Edge} {s : Nat}, (orE acc n es s).testBit i = true → s.testBit i = true ∨ ∃ e ∈ es, Region.binds .any e = true ∧ (e.on = i ∨ (bitsAt acc n e.on).testBit i = true)
  | [], s, h => .inl h
  | e :: es, s, h => by
    rw [orE] at h
    rcases orE_bit h with h | ⟨e', he, h1, h2⟩
    · cases hb : Region.binds .any e with
      | false => rw [hb, cond_false] at h; exact .inl h
      | true =>
        rw [hb, cond_true, Nat.testBit_or, Nat.testBit_or, Nat.testBit_two_pow, Bool.or_eq_true, Bool.or_eq_true, decide_eq_true_eq] at h
        rcases h with (h | h) | h
        · exact .inl h
        · exact .inr ⟨e, List.mem_cons_self, hb, .inl h⟩
        · exact .inr ⟨e, List.mem_cons_self, hb, .inr h⟩
    · exact .inr ⟨e', List.mem_cons_of_mem _ he, h1, h2⟩
theorem befR_cons (o : Oper) (prev : List Oper) : befR (o :: prev) = orE (befR prev) prev.length o.after.toList 0 :: befR prev := by
  rw [befR, forceL_eq, forceN_eq]
theorem bitsAt_cons {v n j : Nat} {acc : List Nat} : bitsAt (v :: acc) (n + 1) j = if j = n then v else bitsAt acc n j := by
  unfold bitsAt
  by_cases e : j = n
  · subst e
    rw [if_pos rfl, natLt_iff.2 (by omega), cond_true, show j + 1 - 1 - j = 0 by omega]; rfl
  · rw [if_neg e]
    by_cases h : j < n
    · rw [natLt_iff.2 h, natLt_iff.2 (by omega), cond_true, cond_true]
      obtain ⟨k, hk⟩ : ∃ k, n - j = k + 1 := ⟨n - j - 1, by omega⟩
      rw [show n + 1 - 1 - j = k + 1 by omega, show n - 1 - j = k by omega]; rfl
    · rw [natLt_false.2 (by omega), natLt_false.2 (by omega)]; rfl
theorem befR_bit {i : Nat} : ∀ {R : List Oper} {j : Nat}, (bitsAt (befR R) R.length j).testBit i = true →
    ∃ o, R[R.length - 1 - j]? = some o ∧ ∃ e ∈ o.after.toList, Region.binds .any e = true ∧ (e.on = i ∨ e.on < j ∧ (bitsAt (befR R) R.length e.on).testBit i = true)
  | [], j, h => by have := bitsAt_lt h; simp at this
  | o :: prev, j, h => by
    have hj := bitsAt_lt h
    rw [befR_cons] at h ⊢
    rw [List.length_cons] at h hj ⊢
    rw [bitsAt_cons] at h
    by_cases e : j = prev.length
    · rw [if_pos e] at h
      rcases orE_bit h with h | ⟨e', he, h1, h2⟩
      · simp at h
      · refine ⟨o, by rw [show prev.length + 1 - 1 - j = 0 by omega]; rfl, e', he, h1, ?_⟩
        rcases h2 with h2 | h2
        · exact .inl h2
        · have := bitsAt_lt h2
          exact .inr ⟨by omega, by rw [bitsAt_cons, if_neg (by omega)]; exact h2⟩
    · rw [if_neg e] at h
      obtain ⟨o', ho, e', he, h1, h2⟩ := befR_bit h
      have := bitsAt_lt h
      refine ⟨o', ?_, e', he, h1, ?_⟩
      · rw [← ho, show prev.length + 1 - 1 - j = (prev.length - 1 - j) + 1 by omega]; rfl
      · rcases h2 with h2 | ⟨h2, h3⟩
        · exact .inl h2
        · have := bitsAt_lt h3
          exact .inr ⟨h2, by rw [bitsAt_cons, if_neg (by omega)]; exact h3⟩
/-- All that j waits for has run. -/
def WaitsOK (ops : Array Oper) (E : Nat → Prop) (j : Nat) : Prop := ∀ o, ops[j]? = some o → ∀ e ∈ o.after.toList, Region.binds .any e = true → E e.on
theorem before_in {ops : Array Oper} {E : Nat → Prop} (hd : ∀ j, E j → WaitsOK ops E j) {i : Nat} : ∀ j, WaitsOK ops E j → bitAt (befR ops.toList.reverse) ops.size i j = true → E i := by
  intro j
  induction j using Nat.strongRecOn with
  | ind j ih =>
    intro hj hb
    have hl : ops.toList.reverse.length = ops.size := by simp
    unfold bitAt at hb
    rw [← hl] at hb
    obtain ⟨o, ho, e, he, h1, h2⟩ := befR_bit hb
    have hjl := bitsAt_lt hb
    rw [hl] at hjl ho
    have hget : ops[j]? = some o := by
      rw [List.getElem?_reverse (by simp; omega)] at ho
      simp only [Array.length_toList, Array.getElem?_toList] at ho
      rw [show ops.size - 1 - (ops.size - 1 - j) = j by omega] at ho
      exact ho
    have hon := hj o hget e he h1
    rcases h2 with h2 | ⟨h2, h3⟩
    · exact h2 ▸ hon
    · rw [hl] at h3
      exact ih e.on h2 (hd _ hon) h3

theorem mapAll_get {ρ : Operand → Option AV} : ∀ {xs : List Operand} {vs : List AV}, mapAll ρ xs = some vs → ∀ k : Nat, (xs[k]?).bind ρ = vs[k]?
  | [], vs, h, k => by cases h; simp
  | x :: xs, vs, h, k => by
    simp only [mapAll, ob_some, Option.some.injEq] at h
    obtain ⟨v, hv, vs', hvs, rfl⟩ := h
    cases k with
    | zero => simp [hv]
    | succ k => simpa using mapAll_get hvs k

/-- What a step leaves as it is. -/
structure StepF (C : Ctx) (o o' : Own) (ids : List Nat) : Prop where
  grow : o.n ≤ o'.n
  le : o'.le.map (·.1) = o.le.map (·.1)
  len : o'.os.length = o'.n
  same : (∀ id ∈ ids, id < C.lo + o.n) → ∀ i, i < C.lo + o.n → i ∉ ids → get C o' i = get C o i
theorem StepF.refl {C : Ctx} {o : Own} {ids : List Nat} (h : o.os.length = o.n) : StepF C o o ids := ⟨Nat.le_refl _, rfl, h, fun _ _ _ _ => rfl⟩
theorem StepF.push {C : Ctx} {o : Own} {x : AObj} {ids : List Nat} (h : o.os.length = o.n) : StepF C o (o.push x) ids :=
  ⟨by simp [Own.push], rfl, by simp [Own.push, h], fun _ i hi _ => by rw [get_push (by omega), if_neg (by omega)]⟩
theorem get_putO {C : Ctx} {o : Own} {x : AObj} {id j : Nat} (hl : o.os.length = o.n) (hi : id < C.lo + o.n) (hj : j < C.lo + o.n) (hn : j ≠ id) : get C (putO C o id x) j = get C o j := by
  unfold get getB putO
  cases hb : Nat.ble C.lo id with
  | true =>
    have h1 := ble_iff.1 hb
    simp only [cond_true]
    cases hc : Nat.ble C.lo j with
    | true =>
      have h2 := ble_iff.1 hc
      simp only [cond_true]
      rw [Own.at_put o x _ _ hl (by omega) (by omega), if_neg (by omega)]
    | false => rfl
  | false =>
    simp only [cond_false]
    cases hc : Nat.ble C.lo j with
    | true => rfl
    | false =>
      simp only [cond_false]
      rw [leAt_lePut, if_neg (fun h => hn h.1)]
theorem StepF.put {C : Ctx} {o : Own} {x : AObj} {id : Nat} {ids : List Nat} (h : o.os.length = o.n) (hm : id ∈ ids) : StepF C o (putO C o id x) ids :=
  ⟨Nat.le_of_eq put_n.symm, put_le, put_len h, fun hb i hi hn => get_putO h (hb id hm) hi (fun e => hn (e ▸ hm))⟩
theorem StepF.trans {C : Ctx} {o o1 o2 : Own} {ids : List Nat} (h : StepF C o o1 ids) (k : StepF C o1 o2 ids) : StepF C o o2 ids :=
  ⟨Nat.le_trans h.grow k.grow, k.le.trans h.le, k.len, fun hb i hi hn => by
    have := h.grow
    rw [k.same (fun id hm => by have := hb id hm; omega) i (by omega) hn, h.same hb i hi hn]⟩
theorem allLt_iff {n : Nat} : ∀ {l : List Nat}, allLt n l = true ↔ ∀ x ∈ l, x < n
  | [] => by simp [allLt]
  | x :: l => by simp [allLt, allLt_iff (l := l), natLt_iff]
theorem footLt_iff {n : Nat} {f : Foot} : footLt n f = true ↔ ∀ x ∈ footIds f, x < n := by
  cases f <;> simp [footLt, footIds, allLt_iff]
theorem writeA_foot {C : Ctx} {o o' : Own} {id off : Nat} {vs : List AV} {ids : List Nat} (h : writeA C o id off vs = some o') (hl : o.os.length = o.n) (hm : id ∈ ids) : StepF C o o' ids := by
  simp only [writeA, ob_some, Option.some.injEq] at h
  obtain ⟨x, _, x', _, rfl⟩ := h
  exact .put hl hm
theorem appendTo_foot {C : Ctx} {o : Own} {size n : Nat} {new : List AV} {s : AV} {r : AV × Own} {ids : List Nat} (h : appendTo C o size n new s = some r) (hl : o.os.length = o.n)
    (hm : ∀ id, nameOf s = some id → id ∈ ids) : StepF C o r.2 ids := by
  cases s <;> simp only [appendTo, reduceCtorEq, Option.some.injEq] at h
  case slice id off len c =>
    have h1 := hm id rfl
    cases c with
    | known c =>
      simp only [appendCap, appendKnown] at h
      cases hb : Nat.ble (len + n) c with
      | true =>
        simp only [hb, cond_true, ob_some, Option.some.injEq] at h
        obtain ⟨o', hw, rfl⟩ := h
        exact writeA_foot hw hl h1
      | false =>
        simp only [hb, cond_false, ob_some, Option.some.injEq] at h
        obtain ⟨old, hw, rfl⟩ := h
        exact .push hl
    | rest k =>
      simp only [appendCap, appendRest, ok_some, ob_some, Option.some.injEq] at h
      obtain ⟨_, x, _, cs, _, rfl⟩ := h
      exact (StepF.put hl h1).trans (.push (put_len hl))
  case nilslice => subst h; exact .push hl
end Go.Ev
