/- What calls leave as it is. -/
import Derived.Test.YtafekjglclnegaaGreatDoorEw25
import Derived.LoopNIn
set_option linter.all false
namespace Go.Ev
open Go Go.RowKit

def grown (o1 o : Own) : Own := ⟨o1.n + o.n, o1.os ++ o.os, o.le⟩
theorem grown_old {C : Ctx} {o1 o : Own} {i : Nat} (hl : o1.os.length = o1.n) (hi : i < C.lo + o.n) : get C (grown o1 o) i = get C o i := by
  rw [get, getB, get, getB]
  by_cases hb : C.lo ≤ i
  · rw [ble_iff.2 hb, cond_true, cond_true]
    unfold grown Own.at
    simp only [List.getD_eq_getElem?_getD]
    rw [List.getElem?_append_right (by omega), show o1.n + o.n - 1 - (i - C.lo) - o1.os.length = o.n - 1 - (i - C.lo) by omega]
  · rw [bleF hb]; rfl
theorem grown_new {C : Ctx} {o1 o : Own} {i : Nat} (hl : o1.os.length = o1.n) (h1 : C.lo + o.n ≤ i) (h2 : i < C.lo + o.n + o1.n) : get C (grown o1 o) i = o1.at (i - (C.lo + o.n)) := by
  rw [get, getB, ble_iff.2 (by omega : C.lo ≤ i), cond_true]
  unfold grown Own.at
  simp only [List.getD_eq_getElem?_getD]
  rw [List.getElem?_append_left (by omega), show o1.n + o.n - 1 - (i - C.lo) = o1.n - 1 - (i - (C.lo + o.n)) by omega]
theorem StepF.grown {C : Ctx} {o1 o : Own} {ids : List Nat} (hl : o.os.length = o.n) (hl1 : o1.os.length = o1.n) : StepF C o (grown o1 o) ids :=
  ⟨by simp [Ev.grown], rfl, by simp [Ev.grown, hl, hl1], fun _ i hi _ => grown_old hl1 hi⟩
theorem backA_foot {C : Ctx} {ids : List Nat} : ∀ {l : List (Nat × AObj)} {o : Own}, o.os.length = o.n → (∀ p ∈ l, p.1 ∈ ids) → StepF C o (backA C o l) ids
  | [], o, hl, _ => .refl hl
  | p :: l, o, hl, h => by
    rw [backA]
    exact (StepF.put hl (h p List.mem_cons_self)).trans (backA_foot (put_len hl) fun q hq => h q (List.mem_cons_of_mem _ hq))
theorem lendA_ids {C : Ctx} {o : Own} : ∀ {ids : List Nat} {p : Nat × AObj}, p ∈ lendA C o ids → p.1 ∈ ids ∧ own? C o p.1 = some p.2
  | [], p, h => by cases h
  | id :: ids, p, h => by
    rw [lendA] at h
    have rec' : p ∈ lendA C o ids → p.1 ∈ id :: ids ∧ own? C o p.1 = some p.2 := fun h => ⟨List.mem_cons_of_mem _ (lendA_ids h).1, (lendA_ids h).2⟩
    cases hm : elemN id ids with
    | true => rw [hm, cond_true] at h; exact rec' h
    | false =>
      rw [hm, cond_false] at h
      cases hx : own? C o id with
      | none => rw [hx] at h; exact rec' h
      | some x =>
        rw [hx] at h
        rcases List.mem_cons.1 h with rfl | h
        · exact ⟨List.mem_cons_self, hx⟩
        · exact rec' h
theorem lendA_nodup {C : Ctx} {o : Own} : ∀ {ids : List Nat}, ((lendA C o ids).map (·.1)).Nodup
  | [] => by simp [lendA]
  | id :: ids => by
    rw [lendA]
    cases hm : elemN id ids with
    | true => rw [cond_true]; exact lendA_nodup
    | false =>
      rw [cond_false]
      cases hx : own? C o id with
      | none => exact lendA_nodup
      | some x =>
        simp only [List.map_cons, List.nodup_cons]
        refine ⟨fun hin => ?_, lendA_nodup⟩
        obtain ⟨p, hp, e⟩ := List.mem_map.1 hin
        have := (lendA_ids hp).1
        rw [e] at this
        rw [elemN_iff.2 this] at hm
        cases hm

/-- What a step leaves of its level. -/
def LL (o o' : Own) : Prop := o.os.length = o.n → o'.os.length = o'.n ∧ o'.le.map (·.1) = o.le.map (·.1)
theorem LL.refl (o : Own) : LL o o := fun h => ⟨h, rfl⟩
theorem LL.trans {o o1 o2 : Own} (h : LL o o1) (k : LL o1 o2) : LL o o2 := fun hl => ⟨(k (h hl).1).1, (k (h hl).1).2.trans (h hl).2⟩
theorem LL.put {C : Ctx} {o : Own} {id : Nat} {x : AObj} : LL o (putO C o id x) := fun h => ⟨put_len h, put_le⟩
theorem LL.push {o : Own} {x : AObj} : LL o (o.push x) := fun h => ⟨by simp [Own.push, h], rfl⟩
theorem LL.foot {C : Ctx} {o o' : Own} {ids : List Nat} (h : o.os.length = o.n → StepF C o o' ids) : LL o o' := fun hl => ⟨(h hl).len, (h hl).le⟩
def CodeLL (code : Ctx → Code → St → Option (AX × St)) : Prop := ∀ C c st r, code C c st = some r → LL st.o r.2.o ∧ r.2.ro = st.ro
def CallLL (call : Ctx → FuncId → List AV → Own → Option (AV × Own)) : Prop := ∀ C f args o r, call C f args o = some r → LL o r.2
def RndLL (rnd : Ctx → Nat → List AV → Own → Option (AV × Own)) : Prop := ∀ C id args o r, rnd C id args o = some r → LL o r.2
theorem marksA_ll {C : Ctx} : ∀ {ds : List Nat} {o o' : Own}, marksA C o ds = some o' → LL o o'
  | [], o, o', h => by cases h; exact .refl o
  | d :: ds, o, o', h => by
    unfold marksA at h
    split at h
    · exact LL.put.trans (marksA_ll h)
    · cases h
section
variable {T : Tab} {cfg : Cfg} {code : Ctx → Code → St → Option (AX × St)}
theorem enterA_some {C : Ctx} {fn : Func} {c : Code} {args : List AV} {o0 : Own} {r : AV × Own} (h : enterA T code C fn c args o0 = some r) :
    args.length ≤ 1000 ∧ ∃ x o vs, code C c (startA fn args o0) = some x ∧ (∀ id, x.1 ≠ .exit id) ∧ marksA C x.2.o x.2.ds = some o ∧ resA T C ⟨x.2.ts, x.2.tn, o, [], none⟩ fn.results.toList = some vs ∧ r = (oneOf vs, o) := by
  simp only [enterA, ok_some, ob_some, ble_iff] at h
  obtain ⟨h1, x, hx, h⟩ := h
  refine ⟨h1, ?_⟩
  unfold endA at h
  split at h
  · cases h
  · rename_i hne
    simp only [ob_some, Option.some.injEq] at h
    obtain ⟨o, ho, vs, hvs, rfl⟩ := h
    exact ⟨x, o, vs, hx, fun id e => hne id e, ho, hvs, rfl⟩
theorem enterA_ll (hll : CodeLL code) {C : Ctx} {fn : Func} {c : Code} {args : List AV} {o0 : Own} {r : AV × Own} (h : enterA T code C fn c args o0 = some r) : LL o0 r.2 := by
  obtain ⟨_, x, o, vs, hx, _, hm, _, rfl⟩ := enterA_some h
  exact (hll _ _ _ _ hx).1.trans (marksA_ll hm)
theorem callN_foot (hll : CodeLL code) {C : Ctx} {fn : Func} {c : Code} {args : List AV} {o : Own} {r : AV × Own} {ids : List Nat} (h : callN T code C fn c args o (lendA C o ids) = some r) (hl : o.os.length = o.n) : StepF C o r.2 ids := by
  simp only [callN, ob_some, Option.some.injEq] at h
  obtain ⟨r1, he, rfl⟩ := h
  obtain ⟨h1, h2⟩ := enterA_ll hll he rfl
  have hg : StepF C o (grown r1.2 o) ids := .grown hl h1
  unfold afterA
  split
  · cases belowA (C.lo + o.n) 20 r1.1 with
    | true => exact .refl hl
    | false => exact hg
  · refine hg.trans (backA_foot hg.len fun p hp => ?_)
    have : p.1 ∈ (lendA C o ids).map (·.1) := by
      have h2' : r1.2.le.map (·.1) = (lendA C o ids).map (·.1) := h2
      rw [← h2']; exact List.mem_map.2 ⟨p, hp, rfl⟩
    obtain ⟨q, hq, e⟩ := List.mem_map.1 this
    rw [← e]
    exact (lendA_ids hq).1
theorem callA_foot (horc : CallFoot cfg fun C f args o => cfg.orc f C args o) (hll : CodeLL code) : CallFoot cfg (callA T cfg false code) := by
  intro C f args o r h hl
  unfold callA at h
  cases ho : cfg.orc f C args o with
  | some r' =>
    rw [ho] at h
    cases h
    exact horc C f args o r ho hl
  | none =>
    rw [ho] at h
    simp only [callF, ob_some] at h
    obtain ⟨fc, _, h⟩ := h
    cases hb : (cfg.canon f && belowL cfg.root.n args) with
    | true =>
      simp only [hb, cond_true, ob_some, Option.some.injEq] at h
      obtain ⟨v, _, rfl⟩ := h
      exact .refl hl
    | false =>
      simp only [hb, cond_false, callL, Bool.false_and] at h
      exact callN_foot hll h hl
theorem callA_ll {inl : Bool} (horc : CallFoot cfg fun C f args o => cfg.orc f C args o) (hll : CodeLL code) : CallLL (callA T cfg inl code) := by
  intro C f args o r h
  unfold callA at h
  cases ho : cfg.orc f C args o with
  | some r' =>
    rw [ho] at h
    cases h
    exact .foot fun hl => horc C f args o r ho hl
  | none =>
    rw [ho] at h
    simp only [callF, ob_some] at h
    obtain ⟨fc, _, h⟩ := h
    cases hb : (cfg.canon f && belowL cfg.root.n args) with
    | true =>
      simp only [hb, cond_true, ob_some, Option.some.injEq] at h
      obtain ⟨v, _, rfl⟩ := h
      exact .refl _
    | false =>
      simp only [hb, cond_false, callL] at h
      cases hy : (inl && anyYL args) with
      | true => rw [hy, cond_true] at h; exact enterA_ll hll h
      | false => rw [hy, cond_false] at h; exact .foot fun hl => callN_foot hll h hl

theorem stepA_ll (cf : Cfg) {call : Ctx → FuncId → List AV → Own → Option (AV × Own)} (hc : CallLL call) {rnd : Ctx → Nat → List AV → Own → Option (AV × Own)} (hr : RndLL rnd) {C : Ctx} {ρ : Operand → Option AV} {o : Own} {op : Op} {r : AV × Own} (h : stepA T call rnd C ρ o op = some r) : LL o r.2 := by
  have other : stepA T (fun _ _ _ _ => none) rnd0 C ρ o op = some r → LL o r.2 := fun h' => .foot fun hl => stepA_foot (cfg := cf) (fun C f args o r h => by cases h) h' hl
  cases op with
  | call c =>
    unfold stepA callC at h
    unfold stepA callC at other
    cases hcal : c.callee with
    | value f =>
      simp only [hcal, ob_some] at h
      obtain ⟨fv, hf, vs, hvs, h⟩ := h
      cases fv <;> simp only [callV, reduceCtorEq] at h
      · exact hc _ _ _ _ _ h
      · exact hr _ _ _ _ _ h
    | builtin b => simp only [hcal] at h other; exact other h
    | invoke x n => simp only [hcal] at h other; exact other h
  | _ => exact other h
theorem opsA_ll {call : Ctx → FuncId → List AV → Own → Option (AV × Own)} (hc : CallLL call) {rnd : Ctx → Nat → List AV → Own → Option (AV × Own)} (hr : RndLL rnd) {C : Ctx} {ops : Array Oper} : ∀ {l : List Oper} {st st' : St}, opsA T cfg call rnd C ops l st = some st' → LL st.o st'.o ∧ st'.ro = st.ro
  | [], st, st', h => by cases h; exact ⟨.refl _, rfl⟩
  | oo :: rest, st, st', h => by
    simp only [opsA, ob_some] at h
    obtain ⟨st1, hs, h⟩ := h
    cases hw : wantedA ops st.ts oo.guard with
    | true =>
      simp only [hw, cond_true, ob_some] at hs
      obtain ⟨r, hr', hp⟩ := hs
      have hf := stepA_ll cfg hc hr hr'
      rw [← (putA_tn hp).2.1] at hf
      obtain ⟨a, b⟩ := opsA_ll hc hr h
      exact ⟨hf.trans a, b.trans (putA_ds hp).2⟩
    | false =>
      simp only [hw, cond_false] at hs
      have e := (putA_tn hs).2.1
      obtain ⟨a, b⟩ := opsA_ll hc hr h
      rw [e] at a
      exact ⟨a, b.trans (putA_ds hs).2⟩
theorem drawA_ll {call : Ctx → FuncId → List AV → Own → Option (AV × Own)} (hc : CallFoot cfg call) {C : Ctx} {ops : Array Oper} : ∀ {l : List Oper} {i : Nat} {st : St} {log : List (Nat × Foot)} {r : St × List (Nat × Foot)}, drawA T cfg call C ops i l st log = some r → LL st.o r.1.o ∧ r.1.ro = st.ro
  | [], i, st, log, r, h => by cases h; exact ⟨.refl _, rfl⟩
  | oo :: rest, i, st, log, r, h => by
    unfold drawA at h
    cases hw : wantedA ops st.ts oo.guard with
    | true =>
      simp only [hw, cond_true, ob_some, ok_some] at h
      obtain ⟨q, hr, st1, hp, _, h⟩ := h
      have hf : LL st.o q.2 := .foot fun hl => stepA_foot hc hr hl
      rw [← (putA_tn hp).2.1] at hf
      obtain ⟨a, b⟩ := drawA_ll hc h
      exact ⟨hf.trans a, b.trans (putA_ds hp).2⟩
    | false =>
      simp only [hw, cond_false, ob_some] at h
      obtain ⟨st1, hs, h⟩ := h
      have e := (putA_tn hs).2.1
      obtain ⟨a, b⟩ := drawA_ll hc h
      rw [e] at a
      exact ⟨a, b.trans (putA_ds hs).2⟩
theorem regionA_ll {call callI : Ctx → FuncId → List AV → Own → Option (AV × Own)} (hc : CallFoot cfg call) (hcI : CallLL callI) {rnd : Ctx → Nat → List AV → Own → Option (AV × Own)} (hr : RndLL rnd) {C : Ctx} {ops : Array Oper} {draw : Bool} {st st' : St} (h : regionA T cfg call rnd C callI ops draw st = some st') : LL st.o st'.o ∧ st'.ro = st.ro := by
  cases draw with
  | true =>
    simp only [regionA, cond_true, ob_some, ok_some, Option.some.injEq] at h
    obtain ⟨acc, hs, r, hd, hap, rfl⟩ := h
    exact drawA_ll hc hd
  | false => exact opsA_ll hcI hr h
theorem loopAt_some {C : Ctx} {o : Own} {id : Nat} {r : ALoop} (h : loopAt C o id = some r) : own? C o id = some (.loop r) := by
  unfold loopAt at h
  split at h
  · cases h; assumption
  · cases h
theorem roundA_ll (hll : CodeLL code) : RndLL (roundA code) := by
  intro C id args o r h
  simp only [roundA, ob_some] at h
  obtain ⟨q, _, ts, _, x, hx, h⟩ := h
  simp only [beginRoundA, ok_some, ob_some] at h
  obtain ⟨_, q1, _, _, x2, hx2, h⟩ := h
  simp only [endRoundA, ob_some, Option.some.injEq] at h
  obtain ⟨q2, _, rfl⟩ := h
  exact (((hll _ _ _ _ hx).1.trans LL.put).trans (hll _ _ _ _ hx2).1).trans LL.put
theorem then_ll {f : St → Option (AX × St)} {x r : AX × St} {st : St} (h : thenA f x = some r) (hx : LL st.o x.2.o ∧ x.2.ro = st.ro) (hf : ∀ st r, f st = some r → LL st.o r.2.o ∧ r.2.ro = st.ro) :
    LL st.o r.2.o ∧ r.2.ro = st.ro := by
  unfold thenA at h
  split at h
  · obtain ⟨a, b⟩ := hf _ _ h
    exact ⟨hx.1.trans a, b.trans hx.2⟩
  · cases h; exact hx
theorem code_ll (horc : CallFoot cfg fun C f args o => cfg.orc f C args o) : ∀ n, CodeLL (codeA T cfg n)
  | 0, C, c, st, r, h => by cases h
  | n + 1, C, c, st, r, h => by
    have ih := code_ll horc n
    unfold codeA at h
    cases c <;> simp only [codeSel] at h
    case skip => cases h; exact ⟨.refl _, rfl⟩
    case label => cases h; exact ⟨.refl _, rfl⟩
    case seq a b =>
      simp only [cSeq, ob_some] at h
      obtain ⟨x, hx, h⟩ := h
      exact then_ll h (ih _ _ _ _ hx) fun st r => ih _ _ st r
    case cond c a b =>
      simp only [cCond, ob_some] at h
      obtain ⟨v, hv, h⟩ := h
      unfold condA at h
      split at h
      · exact ih _ _ _ _ h
      · exact ih _ _ _ _ h
      · cases h
    case block id b =>
      simp only [cBlock, ob_some, Option.some.injEq] at h
      obtain ⟨x, hx, rfl⟩ := h
      have := ih _ _ _ _ hx
      unfold leaveA
      split
      · cases Nat.beq _ id <;> exact this
      · exact this
    case loop b =>
      simp only [cLoop, ob_some] at h
      obtain ⟨x, hx, h⟩ := h
      exact then_ll h (ih _ _ _ _ hx) fun st r => ih _ _ st r
    case scope b => exact ih _ _ _ _ h
    case exit => cases h; exact ⟨.refl _, rfl⟩
    case ret => cases h; exact ⟨.refl _, rfl⟩
    case region id ops draw =>
      simp only [cRegion, ob_some, Option.some.injEq] at h
      obtain ⟨st', hs, rfl⟩ := h
      exact regionA_ll (callA_foot horc ih) (callA_ll horc ih) (roundA_ll ih) hs
    case rangeFunc g ps assign body =>
      simp only [cRange, ob_some] at h
      obtain ⟨gv, _, e, he, x, hx, h⟩ := h
      simp only [endLoopA, ob_some, ok_some, Option.some.injEq] at h
      obtain ⟨q, _, _, ax, _, rfl⟩ := h
      have h1 : LL st.o e.2.1 := by
        unfold enterDefs at he
        split at he
        · cases he; exact LL.push
        · simp only [ob_some, Option.some.injEq] at he
          obtain ⟨_, _, rfl⟩ := he
          exact .refl _
      have h2 : LL (e.2.1.push (.loop ⟨.ready, none, st.ts, st.tn, ps, assign, body, e.1⟩)) x.2 := by
        cases gv <;> simp only [loopCall, reduceCtorEq] at hx
        rw [ob_some] at hx
        obtain ⟨fc, _, hx⟩ := hx
        exact enterA_ll ih hx
      exact ⟨((h1.trans LL.push).trans h2).trans LL.put, rfl⟩
    all_goals cases h
end
end Go.Ev
