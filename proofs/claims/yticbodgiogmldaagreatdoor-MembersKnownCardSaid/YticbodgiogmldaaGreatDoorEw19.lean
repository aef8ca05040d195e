/- Plain laws of regions whose order is drawn: what goes before what; what an operation leaves as it is. What an operation leaves as it is; what it looks at. An operation looks at its operands, and at blocks by their names. An operation that writes nothing comes out the same wherever the blocks that it reads are the same. -/
import Derived.Test.YticbodgiogmldaaGreatDoorEw15
section
set_option linter.all false
namespace Go.Ev
open Go Go.RowKit

theorem forceN_eq {α : Type} (k : Nat → α) (n : Nat) : forceN k n = k n := by cases n <;> rfl
theorem forceL_eq {α : Type} (k : List Nat → α) (l : List Nat) : forceL k l = k l := by cases l <;> rfl
theorem bitsAt_lt {acc : List Nat} {n j i : Nat} (h : (bitsAt acc n j).testBit i = true) : j < n := by
  unfold bitsAt at h
  cases hb : natLt j n with
  | true => exact natLt_iff.1 hb
  | false => simp [hb] at h
theorem orE_bit {acc : List Nat} {n i : Nat} : ∀ {es : List Edge} {s : Nat}, (orE acc n es s).testBit i = true → s.testBit i = true ∨ ∃ e ∈ es, Region.binds .any e = true ∧ (e.on = i ∨ (bitsAt acc n e.on).testBit i = true)
  | [], s, h => .inl h
  | e :: es, s, h => by
    rw [orE] at h
    rcases orE_bit h with h | ⟨e', he, h1, h2⟩
    · cases hb : Region.binds .any e with
      | false => rw [hb, cond_false] at h; exact .inl h
      | true =>
        rw [hb, cond_true, Nat.testBit_or, Nat.testBit_or, Nat.testBit_two_pow, Bool.or_eq_true, Bool.or_eq_true, decide_eq_true_eq] at h
        rcases h with (h | h) | h
        · exact .inl h
        · exact .inr ⟨e, List.mem_cons_self, hb, .inl h⟩
        · exact .inr ⟨e, List.mem_cons_self, hb, .inr h⟩
    · exact .inr ⟨e', List.mem_cons_of_mem _ he, h1, h2⟩
theorem befR_cons (o : Oper) (prev : List Oper) : befR (o :: prev) = orE (befR prev) prev.length o.after.toList 0 :: befR prev := by
  rw [befR, forceL_eq, forceN_eq]
theorem bitsAt_cons {v n j : Nat} {acc : List Nat} : bitsAt (v :: acc) (n + 1) j = if j = n then v else bitsAt acc n j := by
  unfold bitsAt
  by_cases e : j = n
  · subst e
    rw [if_pos rfl, natLt_iff.2 (by omega), cond_true, show j + 1 - 1 - j = 0 by omega]; rfl
  · rw [if_neg e]
    by_cases h : j < n
    · rw [natLt_iff.2 h, natLt_iff.2 (by omega), cond_true, cond_true]
      obtain ⟨k, hk⟩ : ∃ k, n - j = k + 1 := ⟨n - j - 1, by omega⟩
      rw [show n + 1 - 1 - j = k + 1 by omega, show n - 1 - j = k by omega]; rfl
    · rw [natLt_false.2 (by omega), natLt_false.2 (by omega)]; rfl
theorem befR_bit {i : Nat} : ∀ {R : List Oper} {j : Nat}, (bitsAt (befR R) R.length j).testBit i = true →
    ∃ o, R[R.length - 1 - j]? = some o ∧ ∃ e ∈ o.after.toList, Region.binds .any e = true ∧ (e.on = i ∨ e.on < j ∧ (bitsAt (befR R) R.length e.on).testBit i = true)
  | [], j, h => by have := bitsAt_lt h; simp at this
  | o :: prev, j, h => by
    have hj := bitsAt_lt h
    rw [befR_cons] at h ⊢
    rw [List.length_cons] at h hj ⊢
    rw [bitsAt_cons] at h
    by_cases e : j = prev.length
    · rw [if_pos e] at h
      rcases orE_bit h with h | ⟨e', he, h1, h2⟩
      · simp at h
      · refine ⟨o, by rw [show prev.length + 1 - 1 - j = 0 by omega]; rfl, e', he, h1, ?_⟩
        rcases h2 with h2 | h2
        · exact .inl h2
        · have := bitsAt_lt h2
          exact .inr ⟨by omega, by rw [bitsAt_cons, if_neg (by omega)]; exact h2⟩
    · rw [if_neg e] at h
      obtain ⟨o', ho, e', he, h1, h2⟩ := befR_bit h
      have := bitsAt_lt h
      refine ⟨o', ?_, e', he, h1, ?_⟩
      · rw [← ho, show prev.length + 1 - 1 - j = (prev.length - 1 - j) + 1 by omega]; rfl
      · rcases h2 with h2 | ⟨h2, h3⟩
        · exact .inl h2
        · have := bitsAt_lt h3
          exact .inr ⟨h2, by rw [bitsAt_cons, if_neg (by omega)]; exact h3⟩
/-- All that j waits for has run. -/
def WaitsOK (ops : Array Oper) (E : Nat → Prop) (j : Nat) : Prop := ∀ o, ops[j]? = some o → ∀ e ∈ o.after.toList, Region.binds .any e = true → E e.on
theorem before_in {ops : Array Oper} {E : Nat → Prop} (hd : ∀ j, E j → WaitsOK ops E j) {i : Nat} : ∀ j, WaitsOK ops E j → bitAt (befR ops.toList.reverse) ops.size i j = true → E i := by
  intro j
  induction j using Nat.strongRecOn with
  | ind j ih =>
    intro hj hb
    have hl : ops.toList.reverse.length = ops.size := by simp
    unfold bitAt at hb
    rw [← hl] at hb
    obtain ⟨o, ho, e, he, h1, h2⟩ := befR_bit hb
    have hjl := bitsAt_lt hb
    rw [hl] at hjl ho
    have hget : ops[j]? = some o := by
      rw [List.getElem?_reverse (by simp; omega)] at ho
      simp only [Array.length_toList, Array.getElem?_toList] at ho
      rw [show ops.size - 1 - (ops.size - 1 - j) = j by omega] at ho
      exact ho
    have hon := hj o hget e he h1
    rcases h2 with h2 | ⟨h2, h3⟩
    · exact h2 ▸ hon
    · rw [hl] at h3
      exact ih e.on h2 (hd _ hon) h3

theorem mapAll_get {ρ : Operand → Option AV} : ∀ {xs : List Operand} {vs : List AV}, mapAll ρ xs = some vs → ∀ k : Nat, (xs[k]?).bind ρ = vs[k]?
  | [], vs, h, k => by cases h; simp
  | x :: xs, vs, h, k => by
    simp only [mapAll, ob_some, Option.some.injEq] at h
    obtain ⟨v, hv, vs', hvs, rfl⟩ := h
    cases k with
    | zero => simp [hv]
    | succ k => simpa using mapAll_get hvs k

/-- What a step leaves as it is. -/
structure StepF (C : Ctx) (o o' : Own) (ids : List Nat) : Prop where
  grow : o.n ≤ o'.n
  le : o'.le.map (·.1) = o.le.map (·.1)
  len : o'.os.length = o'.n
  same : (∀ id ∈ ids, id < C.lo + o.n) → ∀ i, i < C.lo + o.n → i ∉ ids → get C o' i = get C o i
theorem StepF.refl {C : Ctx} {o : Own} {ids : List Nat} (h : o.os.length = o.n) : StepF C o o ids := ⟨Nat.le_refl _, rfl, h, fun _ _ _ _ => rfl⟩
theorem StepF.push {C : Ctx} {o : Own} {x : AObj} {ids : List Nat} (h : o.os.length = o.n) : StepF C o (o.push x) ids :=
  ⟨by simp [Own.push], rfl, by simp [Own.push, h], fun _ i hi _ => by rw [get_push (by omega), if_neg (by omega)]⟩
theorem get_putO {C : Ctx} {o : Own} {x : AObj} {id j : Nat} (hl : o.os.length = o.n) (hi : id < C.lo + o.n) (hj : j < C.lo + o.n) (hn : j ≠ id) : get C (putO C o id x) j = get C o j := by
  unfold get getB putO
  cases hb : Nat.ble C.lo id with
  | true =>
    have h1 := ble_iff.1 hb
    simp only [cond_true]
    cases hc : Nat.ble C.lo j with
    | true =>
      have h2 := ble_iff.1 hc
      simp only [cond_true]
      rw [Own.at_put o x _ _ hl (by omega) (by omega), if_neg (by omega)]
    | false => rfl
  | false =>
    simp only [cond_false]
    cases hc : Nat.ble C.lo j with
    | true => rfl
    | false =>
      simp only [cond_false]
      rw [leAt_lePut, if_neg (fun h => hn h.1)]
theorem StepF.put {C : Ctx} {o : Own} {x : AObj} {id : Nat} {ids : List Nat} (h : o.os.length = o.n) (hm : id ∈ ids) : StepF C o (putO C o id x) ids :=
  ⟨Nat.le_of_eq put_n.symm, put_le, put_len h, fun hb i hi hn => get_putO h (hb id hm) hi (fun e => hn (e ▸ hm))⟩
theorem StepF.trans {C : Ctx} {o o1 o2 : Own} {ids : List Nat} (h : StepF C o o1 ids) (k : StepF C o1 o2 ids) : StepF C o o2 ids :=
  ⟨Nat.le_trans h.grow k.grow, k.le.trans h.le, k.len, fun hb i hi hn => by
    have := h.grow
    rw [k.same (fun id hm => by have := hb id hm; omega) i (by omega) hn, h.same hb i hi hn]⟩
theorem allLt_iff {n : Nat} : ∀ {l : List Nat}, allLt n l = true ↔ ∀ x ∈ l, x < n
  | [] => by simp [allLt]
  | x :: l => by simp [allLt, allLt_iff (l := l), natLt_iff]
theorem footLt_iff {n : Nat} {f : Foot} : footLt n f = true ↔ ∀ x ∈ footIds f, x < n := by
  cases f <;> simp [footLt, footIds, allLt_iff]
theorem writeA_foot {C : Ctx} {o o' : Own} {id off : Nat} {vs : List AV} {ids : List Nat} (h : writeA C o id off vs = some o') (hl : o.os.length = o.n) (hm : id ∈ ids) : StepF C o o' ids := by
  simp only [writeA, ob_some, Option.some.injEq] at h
  obtain ⟨x, _, x', _, rfl⟩ := h
  exact .put hl hm
theorem appendTo_foot {C : Ctx} {o : Own} {size n : Nat} {new : List AV} {s : AV} {r : AV × Own} {ids : List Nat} (h : appendTo C o size n new s = some r) (hl : o.os.length = o.n)
    (hm : ∀ id, nameOf s = some id → id ∈ ids) : StepF C o r.2 ids := by
  cases s <;> simp only [appendTo, reduceCtorEq, Option.some.injEq] at h
  case slice id off len c =>
    have h1 := hm id rfl
    cases c with
    | known c =>
      simp only [appendCap, appendKnown] at h
      cases hb : Nat.ble (len + n) c with
      | true =>
        simp only [hb, cond_true, ob_some, Option.some.injEq] at h
        obtain ⟨o', hw, rfl⟩ := h
        exact writeA_foot hw hl h1
      | false =>
        simp only [hb, cond_false, ob_some, Option.some.injEq] at h
        obtain ⟨old, hw, rfl⟩ := h
        exact .push hl
    | rest k =>
      simp only [appendCap, appendRest, ok_some, ob_some, Option.some.injEq] at h
      obtain ⟨_, x, _, cs, _, rfl⟩ := h
      exact (StepF.put hl h1).trans (.push (put_len hl))
  case nilslice => subst h; exact .push hl
end Go.Ev
end
section
set_option linter.all false
namespace Go.Ev
open Go Go.RowKit

def CallFoot (cfg : Cfg) (call : Ctx → FuncId → List AV → Own → Option (AV × Own)) : Prop :=
  ∀ C f args o r, call C f args o = some r → o.os.length = o.n → StepF C o r.2 (namesAt args (cfg.lend f))

theorem keep_foot {C : Ctx} {o : Own} {x : Option AV} {r : AV × Own} {ids : List Nat} (hl : o.os.length = o.n) (h : keep o x = some r) : StepF C o r.2 ids := by
  rw [(keep_some.1 h).2]; exact .refl hl
theorem bar1_ids {x : Option Nat} {id : Nat} (h : x = some id) : footIds (bar1 x) = [id] := by subst h; rfl
section
variable {T : Tab} {cfg : Cfg} {C : Ctx} {o : Own} {ρ : Operand → Option AV}
theorem opA_foot {op : Op} {r : AV × Own} (h : opA T C ρ o op = some r) (hl : o.os.length = o.n) : StepF C o r.2 (footIds (footA cfg ρ op)) := by
  unfold opA at h
  cases op <;> simp only [opSel] at h
  case move => exact keep_foot hl h
  case assign => exact keep_foot hl h
  case pick => exact keep_foot hl h
  case build => exact keep_foot hl h
  case load => exact keep_foot hl h
  case nilCheck => exact keep_foot hl h
  case binOp => exact keep_foot hl h
  case unOp => exact keep_foot hl h
  case makeInterface => exact keep_foot hl h
  case makeFunc => exact keep_foot hl h
  case slice => exact keep_foot hl h
  case fieldAddr => exact keep_foot hl h
  case field => exact keep_foot hl h
  case indexAddr => exact keep_foot hl h
  case index => exact keep_foot hl h
  case lookup => exact keep_foot hl h
  case extract => exact keep_foot hl h
  case alloc =>
    simp only [doAlloc, ob_some, allocV, ok_some, Option.some.injEq] at h
    obtain ⟨z, _, _, rfl⟩ := h; exact .push hl
  case box =>
    simp only [doBox, ob_some, allocV, ok_some, Option.some.injEq] at h
    obtain ⟨z, _, _, rfl⟩ := h; exact .push hl
  case buildSlice =>
    simp only [doBuildSlice, buildSliceA, ob_some, ok_some, Option.some.injEq] at h
    obtain ⟨_, _, _, _, _, _, _, _, _, _, _, _, rfl⟩ := h; exact .push hl
  case makeMap =>
    simp only [doMakeMap, ok_some, Option.some.injEq] at h
    obtain ⟨_, rfl⟩ := h; exact .push hl
  case makeSlice =>
    simp only [doMakeSlice, makeSliceA, ob_some, ok_some, Option.some.injEq] at h
    obtain ⟨_, _, _, _, _, _, _, _, _, _, _, _, _, _, _, rfl⟩ := h; exact .push hl
  case range =>
    simp only [doRange, ob_some] at h
    obtain ⟨v, _, h⟩ := h
    cases v <;> simp only [rangeA, reduceCtorEq, ok_some, Option.some.injEq] at h
    obtain ⟨_, rfl⟩ := h; exact .push hl
  case convert =>
    simp only [doConvert, ob_some] at h
    obtain ⟨v, _, h⟩ := h
    cases v <;> simp only [convertA, reduceCtorEq, ok_some] at h
    · exact keep_foot hl h.2
    · obtain ⟨_, h⟩ := h
      unfold convStr at h
      split at h
      · cases h; exact .refl hl
      · simp only [ok_some, Option.some.injEq] at h
        obtain ⟨_, rfl⟩ := h; exact .push hl
      · cases h
    · exact keep_foot hl h
  case store t a x =>
    simp only [doStore, ob_some, Option.some.injEq] at h
    obtain ⟨p, hp, v, hv, o', hs, rfl⟩ := h
    cases p <;> simp only [storeA, reduceCtorEq, ob_some, ok_some] at hs
    rename_i id off
    obtain ⟨_, _, _, hs⟩ := hs
    have e : footIds (footA cfg ρ (.store t a x)) = [id] := bar1_ids (by rw [hp]; rfl)
    rw [e]
    exact writeA_foot hs hl (by simp)
  case insert t m k x =>
    simp only [doMapUp, ob_some] at h
    obtain ⟨p, hp, kv, hk, v, hv, h⟩ := h
    simp only [mapUpA, ob_some, ok_some] at h
    obtain ⟨_, _, _, h⟩ := h
    cases p <;> simp only [insertA, reduceCtorEq, ob_some] at h
    rename_i id
    obtain ⟨_, _, es, _, fr, _, h⟩ := h
    have e : footIds (footA cfg ρ (.insert t m k x)) = [id] := bar1_ids (by rw [hp]; rfl)
    rw [e]
    cases fr <;> simp only [ob_some, Option.some.injEq] at h
    · subst h
      exact .put hl (by simp)
    · obtain ⟨_, _, rfl⟩ := h
      exact .put hl (by simp)
  case mapUpdate t m k x =>
    simp only [doMapUp, ob_some] at h
    obtain ⟨p, hp, kv, hk, v, hv, h⟩ := h
    simp only [mapUpA, ob_some, ok_some] at h
    obtain ⟨_, _, _, h⟩ := h
    cases p <;> simp only [insertA, reduceCtorEq, ob_some] at h
    rename_i id
    obtain ⟨_, _, es, _, fr, _, h⟩ := h
    have e : footIds (footA cfg ρ (.mapUpdate t m k x)) = [id] := bar1_ids (by rw [hp]; rfl)
    rw [e]
    cases fr <;> simp only [ob_some, Option.some.injEq] at h
    · subst h
      exact .put hl (by simp)
    · obtain ⟨_, _, rfl⟩ := h
      exact .put hl (by simp)
  case next it s =>
    simp only [doNext, ob_some, ok_some] at h
    obtain ⟨_, p, hp, h⟩ := h
    unfold nextA at h
    split at h
    · rename_i id
      simp only [ob_some] at h
      obtain ⟨x, _, h⟩ := h
      have e : footIds (footA cfg ρ (.next it s)) = [id] := bar1_ids (by rw [hp]; rfl)
      rw [e]
      cases x <;> simp only [nextObj, reduceCtorEq, Option.some.injEq] at h
      subst h
      unfold nextS
      cases natLt _ _ with
      | true => exact .put hl (by simp)
      | false => exact .refl hl
    · cases h
  all_goals cases h

theorem stepA_foot {call : Ctx → FuncId → List AV → Own → Option (AV × Own)} (hc : CallFoot cfg call) {op : Op} {r : AV × Own} (h : stepA T call rnd0 C ρ o op = some r) (hl : o.os.length = o.n) :
    StepF C o r.2 (footIds (footA cfg ρ op)) := by
  unfold stepA at h
  split at h
  · rename_i c
    unfold callC at h
    cases hcal : c.callee with
    | value f =>
      simp only [hcal, ob_some] at h
      obtain ⟨fv, hf, vs, hvs, h⟩ := h
      cases fv <;> simp only [callV, rnd0, reduceCtorEq] at h
      rename_i fid first captured
      have e : footIds (footA cfg ρ (.call c)) = namesAt (first ++ vs ++ captured) (cfg.lend fid) := by
        simp only [footA, hcal, footC, hf, hvs, footF]
        cases namesAt (first ++ vs ++ captured) (cfg.lend fid) <;> rfl
      rw [e]
      exact hc C fid _ o r h hl
    | builtin b =>
      simp only [hcal, ob_some] at h
      obtain ⟨vs, hvs, h⟩ := h
      have h0 := mapAll_get hvs 0
      have hn : ∀ x y, vs = [x, y] → ∀ id, nameOf x = some id → footIds (bar1 (ob c.args.toList[0]? fun x => ob (ρ x) nameOf)) = [id] := by
        rintro x y rfl id hid
        refine bar1_ids ?_
        simp only [List.getElem?_cons_zero] at h0
        cases hx : c.args.toList[0]? with
        | none => rw [hx] at h0; cases h0
        | some a => rw [hx] at h0; simp only [Option.bind_some] at h0; simp only [ob, h0, hid]
      unfold builtinA at h
      cases b <;> simp only [reduceCtorEq] at h
      case len => exact keep_foot hl h
      case cap => exact keep_foot hl h
      case min => exact keep_foot hl h
      case max => exact keep_foot hl h
      case append =>
        have e : footA cfg ρ (.call c) = bar1 (ob c.args.toList[0]? fun x => ob (ρ x) nameOf) := by simp only [footA, hcal, footC, footB]
        rw [e]
        simp only [ob_some] at h
        obtain ⟨t, _, u, _, h⟩ := h
        unfold two at h
        split at h
        · rename_i s x
          simp only [appendA, ob_some, ok_some] at h
          obtain ⟨_, _, _, _, _, _, _, n, _, _, _, h⟩ := h
          cases hz : Nat.beq n 0 with
          | true =>
            simp only [hz, cond_true, ok_some, Option.some.injEq] at h
            obtain ⟨_, rfl⟩ := h; exact .refl hl
          | false =>
            simp only [hz, cond_false, ob_some, ok_some] at h
            obtain ⟨_, _, _, _, h⟩ := h
            refine appendTo_foot h hl fun id hid => ?_
            rw [hn s x rfl id hid]
            simp
        · cases h
      case copy =>
        have e : footA cfg ρ (.call c) = bar1 (ob c.args.toList[0]? fun x => ob (ρ x) nameOf) := by simp only [footA, hcal, footC, footB]
        rw [e]
        simp only [ob_some] at h
        obtain ⟨t, _, h⟩ := h
        unfold two at h
        split at h
        · rename_i d s
          simp only [copyA, ob_some, ok_some] at h
          obtain ⟨_, _, _, _, _, _, _, _, _, _, _, h⟩ := h
          cases d with
          | slice id off len c' =>
            simp only [copyTo, ob_some, ok_some, Option.some.injEq] at h
            obtain ⟨_, o', hw, rfl⟩ := h
            rw [hn _ s rfl id rfl]
            exact writeA_foot hw hl (by simp)
          | nilslice =>
            simp only [copyTo, Option.some.injEq] at h
            subst h; exact .refl hl
          | _ => cases h
        · cases h
    | invoke x n => simp [hcal] at h
  · rename_i hne
    exact opA_foot h hl
end
end Go.Ev
end
section
set_option linter.all false
namespace Go.Ev
open Go Go.RowKit

theorem mapAll_congr {ρ ρ' : Operand → Option AV} : ∀ {xs : List Operand}, (∀ x ∈ xs, ρ x = ρ' x) → mapAll ρ xs = mapAll ρ' xs
  | [], _ => rfl
  | x :: xs, h => by
    simp only [mapAll]
    rw [h x List.mem_cons_self, mapAll_congr fun y hy => h y (List.mem_cons_of_mem _ hy)]
theorem partsA_congr {ρ ρ' : Operand → Option AV} : ∀ {xs : List (Nat × Operand)}, (∀ x ∈ xs.map (·.2), ρ x = ρ' x) → partsA ρ xs = partsA ρ' xs
  | [], _ => rfl
  | x :: xs, h => by
    simp only [partsA]
    rw [h x.2 (by simp), partsA_congr fun y hy => h y (by simp at hy ⊢; exact .inr hy)]
theorem optA_congr {ρ ρ' : Operand → Option AV} {x : Option Operand} (h : ∀ y ∈ x.toArray.toList, ρ y = ρ' y) : optA ρ x = optA ρ' x := by
  cases x with
  | none => rfl
  | some y => simp only [optA]; rw [h y (by simp)]
section
variable {T : Tab} {cfg : Cfg} {C : Ctx} {o : Own} {ρ ρ' : Operand → Option AV}
theorem opA_congr {op : Op} (h : ∀ x ∈ op.operands.toList, ρ x = ρ' x) : opA T C ρ o op = opA T C ρ' o op := by
  unfold opA
  cases op <;> simp only [opSel]
  case move => simp only [doMove]; rw [h _ (by simp [Op.operands])]
  case assign => simp only [doMove]; rw [h _ (by simp [Op.operands])]
  case pick c a b => simp only [doPick]; rw [h c (by simp [Op.operands]), h a (by simp [Op.operands]), h b (by simp [Op.operands])]
  case alloc => rfl
  case box => simp only [doBox]; rw [h _ (by simp [Op.operands])]
  case build t ps => simp only [doBuild, buildA]; rw [partsA_congr fun x hx => h x (by simpa [Op.operands] using hx)]
  case buildSlice t l ps => simp only [doBuildSlice, buildSliceA]; rw [partsA_congr fun x hx => h x (by simpa [Op.operands] using hx)]
  case load => simp only [doLoad]; rw [h _ (by simp [Op.operands])]
  case store t a x => simp only [doStore]; rw [h a (by simp [Op.operands]), h x (by simp [Op.operands])]
  case nilCheck => simp only [doNilCheck]; rw [h _ (by simp [Op.operands])]
  case binOp op t x y u => simp only [doBin]; rw [h x (by simp [Op.operands]), h y (by simp [Op.operands])]
  case unOp => simp only [doUn]; rw [h _ (by simp [Op.operands])]
  case convert => simp only [doConvert]; rw [h _ (by simp [Op.operands])]
  case makeInterface => simp only [doIface]; rw [h _ (by simp [Op.operands])]
  case makeFunc f a b =>
    simp only [doFunc]
    cases f with
    | func f => simp only [makeFuncA]; rw [mapAll_congr fun x hx => h x (by simp [Op.operands, hx]), mapAll_congr fun x hx => h x (by simp [Op.operands, hx])]
    | _ => rfl
  case makeMap => rfl
  case insert t m k x => simp only [doMapUp]; rw [h m (by simp [Op.operands]), h k (by simp [Op.operands]), h x (by simp [Op.operands])]
  case mapUpdate t m k x => simp only [doMapUp]; rw [h m (by simp [Op.operands]), h k (by simp [Op.operands]), h x (by simp [Op.operands])]
  case makeSlice t l c => simp only [doMakeSlice]; rw [h l (by simp [Op.operands]), h c (by simp [Op.operands])]
  case slice t x lo hi mx =>
    simp only [doSlice]
    rw [h x (by simp [Op.operands]), optA_congr (x := lo) fun y hy => h y (by simp at hy; simp [Op.operands, hy]), optA_congr (x := hi) fun y hy => h y (by simp at hy; simp [Op.operands, hy]), optA_congr (x := mx) fun y hy => h y (by simp at hy; simp [Op.operands, hy])]
  case fieldAddr => simp only [doFieldAddr]; rw [h _ (by simp [Op.operands])]
  case field => simp only [doField]; rw [h _ (by simp [Op.operands])]
  case indexAddr t x i => simp only [doIndexAddr]; rw [h x (by simp [Op.operands]), h i (by simp [Op.operands])]
  case index t x i => simp only [doIndex]; rw [h x (by simp [Op.operands]), h i (by simp [Op.operands])]
  case lookup t x i k => simp only [doLookup]; rw [h x (by simp [Op.operands]), h i (by simp [Op.operands])]
  case range => simp only [doRange]; rw [h _ (by simp [Op.operands])]
  case next => simp only [doNext]; rw [h _ (by simp [Op.operands])]
  case extract => simp only [doExtract]; rw [h _ (by simp [Op.operands])]
  all_goals rfl
theorem stepA_congr {call : Ctx → FuncId → List AV → Own → Option (AV × Own)} {op : Op} (h : ∀ x ∈ op.operands.toList, ρ x = ρ' x) : stepA T call rnd0 C ρ o op = stepA T call rnd0 C ρ' o op := by
  unfold stepA
  split
  · rename_i c
    unfold callC
    cases hcal : c.callee with
    | value f =>
      simp only
      rw [h f (by simp [Op.operands, Call.operands, hcal]), mapAll_congr fun x hx => h x (by simp [Op.operands, Call.operands, hcal, hx])]
    | builtin b =>
      simp only
      rw [mapAll_congr fun x hx => h x (by simp [Op.operands, Call.operands, hcal, hx])]
    | invoke x n => rfl
  · exact opA_congr h
theorem footA_congr {op : Op} (h : ∀ x ∈ op.operands.toList, ρ x = ρ' x) : footA cfg ρ op = footA cfg ρ' op := by
  cases op <;> simp only [footA, kindOp, footK]
  case load => rw [h _ (by simp [Op.operands])]
  case store t a x => rw [h a (by simp [Op.operands])]
  case insert t m k x => rw [h m (by simp [Op.operands])]
  case mapUpdate t m k x => rw [h m (by simp [Op.operands])]
  case next => rw [h _ (by simp [Op.operands])]
  case call c =>
    cases hcal : c.callee with
    | value f =>
      simp only [footC]
      rw [h f (by simp [Op.operands, Call.operands, hcal]), mapAll_congr fun x hx => h x (by simp [Op.operands, Call.operands, hcal, hx])]
    | builtin b =>
      have : (c.args.toList[0]?.elim none fun x => (ρ x).bind nameOf) = (c.args.toList[0]?.elim none fun x => (ρ' x).bind nameOf) := by
        cases hx : c.args.toList[0]? with
        | none => rfl
        | some a => simp only [Option.elim]; rw [h a (by have := List.mem_of_getElem? hx; simp at this; simp [Op.operands, Call.operands, hcal, this])]
      have : (ob c.args.toList[0]? fun x => ob (ρ x) nameOf) = (ob c.args.toList[0]? fun x => ob (ρ' x) nameOf) := by
        cases hx : c.args.toList[0]? with
        | none => rfl
        | some a => simp only [ob]; rw [h a (by have := List.mem_of_getElem? hx; simp at this; simp [Op.operands, Call.operands, hcal, this])]
      cases b <;> simp only [footC, footB, this]
    | invoke x n => rfl
end
end Go.Ev
end
section
set_option linter.all false
namespace Go.Ev
open Go Go.RowKit

def pushes (l : List AObj) (o : Own) : Own := ⟨o.n + l.length, l ++ o.os, o.le⟩
theorem pushes_nil (o : Own) : pushes [] o = o := rfl
theorem pushes_one (o : Own) (x : AObj) : pushes [x] o = o.push x := rfl
/-- The same outcome elsewhere. -/
def Same (o o' : Own) (r : AV × Own) (y : Option (AV × Own)) : Prop := ∃ l, r.2 = pushes l o ∧ y = some (r.1, pushes l o')
theorem keep_same {o o' : Own} {x y : Option AV} {r : AV × Own} (h : keep o x = some r) (e : y = x) : Same o o' r (keep o' y) := by
  obtain ⟨h1, h2⟩ := keep_some.1 h
  subst e
  exact ⟨[], h2, by rw [h1]; rfl⟩
theorem push_same {o o' : Own} {v : AV} {x : AObj} : Same o o' (v, o.push x) (some (v, o'.push x)) := ⟨[x], rfl, rfl⟩
theorem ok_true {α : Type} {b : Bool} {x : Option α} (h : b = true) : ok b x = x := by subst h; rfl
def quietK : Kind → Bool
  | .free | .alloc | .load | .look => true
  | _ => false
def readsK : Kind → Bool
  | .load | .look => true
  | _ => false
section
variable {T : Tab} {cfg : Cfg} {C C' : Ctx} {o o' : Own} {ρ : Operand → Option AV}
theorem allocV_same {v : AV} {r : AV × Own} (hn : C'.lo + o'.n = C.lo + o.n) (h : allocV C o v = some r) : Same o o' r (allocV C' o' v) := by
  simp only [allocV, ok_some, Option.some.injEq] at h
  obtain ⟨h1, rfl⟩ := h
  rw [allocV, ok_some.2 ⟨h1, rfl⟩, Own.next, Own.next, hn]
  exact push_same
theorem readA_same {id off n : Nat} (hg : get C' o' id = get C o id) : readA C' o' id off n = readA C o id off n := by
  simp only [readA, hg]
theorem opA_same {op : Op} {r : AV × Own} (hk : quietK (kindOp op) = true) (h : opA T C ρ o op = some r) (hn : C'.lo + o'.n = C.lo + o.n)
    (hg : readsK (kindOp op) = true → ∀ x ∈ op.operands.toList, ∀ v id, ρ x = some v → nameOf v = some id → get C' o' id = get C o id) : Same o o' r (opA T C' ρ o' op) := by
  unfold opA at h ⊢
  cases op <;> simp only [opSel] at h ⊢
  case move => exact keep_same h rfl
  case assign => exact keep_same h rfl
  case pick => exact keep_same h rfl
  case build => exact keep_same h rfl
  case nilCheck => exact keep_same h rfl
  case binOp => exact keep_same h rfl
  case unOp => exact keep_same h rfl
  case makeInterface => exact keep_same h rfl
  case makeFunc => exact keep_same h rfl
  case slice => exact keep_same h rfl
  case fieldAddr => exact keep_same h rfl
  case field => exact keep_same h rfl
  case indexAddr => exact keep_same h rfl
  case index => exact keep_same h rfl
  case extract => exact keep_same h rfl
  case load t a =>
    refine keep_same h ?_
    obtain ⟨h1, _⟩ := keep_some.1 h
    simp only [ob_some] at h1
    obtain ⟨v, hv, h1⟩ := h1
    rw [hv]
    cases v <;> simp only [loadA, reduceCtorEq] at h1
    simp only [ob, loadA]
    rw [hg rfl a (by simp [Op.operands]) _ _ hv rfl]
  case lookup t a k ok' =>
    refine keep_same h ?_
    obtain ⟨h1, _⟩ := keep_some.1 h
    simp only [ob_some] at h1
    obtain ⟨v, hv, kv, hkv, h1⟩ := h1
    rw [hv, hkv]
    simp only [lookA, ob_some, ok_some] at h1
    obtain ⟨_, _, _, h1⟩ := h1
    cases v <;> simp only [lookupA, reduceCtorEq] at h1
    simp only [ob, lookA, lookupA]
    rw [hg rfl a (by simp [Op.operands]) _ _ hv rfl]
  case alloc t =>
    simp only [doAlloc, ob_some] at h
    obtain ⟨z, hz, h⟩ := h
    simp only [doAlloc, hz, ob]
    exact allocV_same hn h
  case box t x =>
    simp only [doBox, ob_some] at h
    obtain ⟨z, hz, h⟩ := h
    simp only [doBox, hz, ob]
    exact allocV_same hn h
  case buildSlice t len ps =>
    simp only [doBuildSlice, buildSliceA, ob_some, ok_some, Option.some.injEq] at h
    obtain ⟨e, he, n, hsz, z, hz, ps', hps, h1, cs, hcs, h2, rfl⟩ := h
    simp only [doBuildSlice, buildSliceA, he, hsz, hz, hps, ob, ok_true h1, hcs, ok_true h2, Own.next, hn]
    exact push_same
  case convert s d x =>
    simp only [doConvert, ob_some] at h
    obtain ⟨v, hv, h⟩ := h
    simp only [doConvert, hv, ob]
    cases v <;> simp only [convertA, reduceCtorEq, ok_some] at h ⊢
    · rw [ok_true h.1]; exact keep_same h.2 rfl
    · obtain ⟨h1, h⟩ := h
      rw [ok_true h1]
      unfold convStr at h ⊢
      split at h
      · cases h; exact ⟨[], rfl, rfl⟩
      · simp only [ok_some, Option.some.injEq] at h
        obtain ⟨h2, rfl⟩ := h
        rw [ok_true h2, Own.next, Own.next, hn]
        exact push_same
      · cases h
    · rename_i id off len c
      refine keep_same h ?_
      have hgi := hg rfl x (by simp [Op.operands]) _ _ hv rfl
      simp only [convSlice, readA_same hgi]
  all_goals first | cases h | cases hk
theorem stepA_same {call call' : Ctx → FuncId → List AV → Own → Option (AV × Own)} {op : Op} {r : AV × Own} (hk : quietK (kindOp op) = true) (h : stepA T call rnd0 C ρ o op = some r) (hn : C'.lo + o'.n = C.lo + o.n)
    (hg : readsK (kindOp op) = true → ∀ x ∈ op.operands.toList, ∀ v id, ρ x = some v → nameOf v = some id → get C' o' id = get C o id) : Same o o' r (stepA T call' rnd0 C' ρ o' op) := by
  unfold stepA at h ⊢
  split at h
  · rename_i c
    unfold callC at h ⊢
    simp only [kindOp] at hk
    cases hcal : c.callee with
    | value f => rw [hcal] at hk; cases hk
    | invoke x n => rw [hcal] at hk; cases hk
    | builtin b =>
      simp only [hcal, ob_some] at h ⊢
      obtain ⟨vs, hvs, h⟩ := h
      rw [hvs]
      simp only [ob]
      rw [hcal] at hk
      unfold builtinA at h ⊢
      cases b <;> first | exact keep_same h rfl | cases hk
  · exact opA_same hk h hn hg
end
end Go.Ev
end
