/- Bodies hold of the machine, loops over functions among them. -/
import Derived.Test.YticbodgiogmldaaGreatDoorEw28
import Derived.Scope
set_option linter.all false
namespace Go.Ev
open Go Go.RowKit

section
variable {P : Program} {b : Frame} {a : Act} {k : List Item} {cs : List Frame} {w : World} {Q : Exit → Act → World → Prop}
theorem stepR_scope {c : Code} : step P (lone (b.atR a (.code (.scope c) :: k)) cs w) = .next (lone (b.atR a (.code c :: .inScope c :: k)) cs w) :=
  step_lone_go (by simp [stepG, stepG.exec, Frame.atR])
theorem stepR_inScope {c : Code} : step P (lone (b.atR a (.inScope c :: k)) cs w) = .next (lone (b.atR a k) cs w) :=
  step_lone_go (by simp [stepG, stepG.exec, Frame.atR])
theorem wpIn_scope_straight {x : Option Nat} {c : Code} (h : c.wpIn (FR x) 0 P (Exit.noGoto Q) a w) : (Code.scope c).wpIn (FR x) 0 P Q a w := by
  intro b k cs hro hb hr
  obtain ⟨e, a₁, w₁, hq, harr⟩ := h b (.inScope c :: k) cs hro hb hr
  have h0 : StepsIn (Machine.fenced P (FR x)) P (lone (b.atR a (.code (.scope c) :: k)) cs w) (lone (b.atR a (.code c :: .inScope c :: k)) cs w) := .one (fenced_calm (fr := b.atR a (.code (.scope c) :: k)) hb hr rfl) stepR_scope
  cases e with
  | normal => exact ⟨.normal, a₁, w₁, hq, h0.trans (StepsIn.trans harr (.one (fenced_calm (fr := b.atR a₁ (.inScope c :: k)) hb hr rfl) stepR_inScope))⟩
  | exit id =>
    exact ⟨.exit id, a₁, w₁, hq, fun k' hk => h0.trans (harr.1 k' (by simpa [exitTo] using hk)), fun hr' hk => let ⟨k₁, h1, h2⟩ := harr.2 hr' (by simpa [exitTo] using hk); ⟨k₁, h1, h0.trans h2⟩⟩
  | goto l => exact hq.elim
  | ret => exact ⟨_, a₁, w₁, hq, .of_steps h0 harr⟩
  | panic ch => exact ⟨_, a₁, w₁, hq, .of_steps h0 harr⟩
  | outgrown => exact ⟨_, a₁, w₁, hq, .of_steps h0 harr⟩
theorem run_enterLoop_inner {l : Nat} {r : Loop} (fn : FuncId) (tmps : Array Value) (ps : Array Tmp) (assign body : Code) (h : w.heap[l]? = some (.loop r)) :
    (Instr.enterLoop fn tmps ps assign body (some l)).run P w =
      .ok (w.heap.size, []) (w.alloc (.loop { state := .ready, pending := none, fn, tmps, params := ps, assign, body, defers := r.defers })) := by
  unfold Instr.enterLoop
  simp only [Sem.run_bind, run_getLoop h, run_newObj_alloc, Result.andThen, Sem.run_pure, World.size_alloc]
end

section
variable {P : Program} {T : Tab} (hT : TabOK P T) {cfg : Cfg} {code : Ctx → Code → St → Option (AX × St)} (hcode : CodeOK P cfg code) (hll : CodeLL code)
include hT hcode hll
/-- The loop's record is laid (and, at an outermost loop, the block for its rounds' deferred calls). -/
theorem enterDefs_ok {C : Ctx} {D : Nat → Prop} {m : Nat → Loc} {st : St} {a : Act} {w : World} (hi : Inv cfg D m C st.o w) (ht : TR D m st a) {e : Nat × Own × List Nat} (h : enterDefs C st = some e) (fn : FuncId) (ps : Array Tmp) (assign body : Code) :
    ∃ D1 m1 w1 mark, (Instr.enterLoop fn a.tmps ps assign body (roB m st.ro)).run P w = .ok ((m1 (e.2.1.next C)).blk, mark) w1 ∧ D1 (e.2.1.next C) ∧
      Ext cfg C D m st.o w D1 m1 (e.2.1.push (.loop ⟨.ready, none, st.ts, st.tn, ps, assign, body, e.1⟩)) w1 ∧ mark ++ a.defers = marksOf m1 e.2.2 ∧ ∀ d ∈ e.2.2, D1 d := by
  have lay : ∀ {D0 : Nat → Prop} {m0 : Nat → Loc} {o0 : Own} {w0 : World} {d : Nat}, Ext cfg C D m st.o w D0 m0 o0 w0 → D0 d →
      Ext cfg C D m st.o w (addD D0 (C.lo + o0.n)) (upd m0 (C.lo + o0.n) ⟨w0.heap.size, 0, 0⟩) (o0.push (.loop ⟨.ready, none, st.ts, st.tn, ps, assign, body, d⟩))
        (w0.alloc (.loop { state := .ready, pending := none, fn, tmps := a.tmps, params := ps, assign, body, defers := (m0 d).blk })) := by
    intro D0 m0 o0 w0 d hx hd
    refine hx.trans (Ext.alloc hx.inv (by simp) (fun k hk => Below.heap_alloc _ _ k hk) (Nat.le_refl _) ?_ rfl rfl rfl)
    have ht0 := ht.mono hx.sub hx.same
    exact ⟨fn, a.tmps, World.alloc_heap_new w0 _, ⟨ht0.size, ht0.at', ht0.okt, hd⟩⟩
  unfold enterDefs at h
  cases hro : st.ro with
  | none =>
    rw [hro] at h
    cases h
    have h1 : Ext cfg C D m st.o w (addD D (C.lo + st.o.n)) (upd m (C.lo + st.o.n) ⟨w.heap.size, 0, 0⟩) (st.o.push .defs) (w.alloc (.deferred (some []))) :=
      Ext.alloc hi (by simp) (fun k hk => Below.heap_alloc _ _ k hk) (Nat.le_refl _) (World.alloc_heap_new w _) rfl rfl rfl
    have hd1 : addD D (C.lo + st.o.n) (st.o.next C) := .inr rfl
    have h2 := lay h1 hd1
    have hblk : (upd m (C.lo + st.o.n) ⟨w.heap.size, 0, 0⟩ (st.o.next C)).blk = w.heap.size := by
      show (upd m (C.lo + st.o.n) ⟨w.heap.size, 0, 0⟩ (C.lo + st.o.n)).blk = _
      rw [upd_eq]
    rw [hblk] at h2
    have hrun := run_enterLoop_outer (P := P) (w := w) fn a.tmps ps assign body
    refine ⟨_, _, _, [{ target := .collected w.heap.size, args := #[] }], ?_, .inr rfl, h2, ?_, ?_⟩
    · show (Instr.enterLoop fn a.tmps ps assign body none).run P w = _
      rw [hrun]
      congr 2
      show w.heap.size + 1 = (upd _ (C.lo + (st.o.push .defs).n) _ (C.lo + (st.o.push .defs).n)).blk
      rw [upd_eq]; simp
    · rw [ht.defers]
      have hs : marksOf (upd (upd m (C.lo + st.o.n) ⟨w.heap.size, 0, 0⟩) (C.lo + (st.o.push .defs).n) ⟨(w.alloc (.deferred (some []))).heap.size, 0, 0⟩) st.ds = marksOf m st.ds := marksOf_same ht.dsD fun i hi' => by
        have := hi.lt i hi'
        rw [upd_ne (by simp only [Own.push]; omega), upd_ne (by omega)]
      show _ :: marksOf m st.ds = _ :: marksOf _ st.ds
      rw [hs]
      congr 2
      show Target.collected w.heap.size = .collected (upd (upd m (C.lo + st.o.n) _) (C.lo + (st.o.push .defs).n) _ (C.lo + st.o.n)).blk
      rw [upd_ne (by simp only [Own.push]; omega), upd_eq]
    · intro d hd
      rcases List.mem_cons.1 hd with rfl | hd
      · exact .inl (.inr rfl)
      · exact .inl (.inl (ht.dsD d hd))
  | some i =>
    rw [hro] at h
    simp only [ob_some, Option.some.injEq] at h
    obtain ⟨q, hq, rfl⟩ := h
    have hdi := ht.roD i hro
    obtain ⟨fn0, tmps0, hb, hrel⟩ : ∃ fn tmps, w.heap[(m i).blk]? = some (.loop (loopOf m q fn tmps)) ∧ LoopRel D m q fn tmps := by
      have := hi.obj i hdi
      rw [own_get (loopAt_some hq)] at this
      exact this
    have h2 := lay (Ext.refl hi) hrel.defs
    have hrun := run_enterLoop_inner (P := P) fn a.tmps ps assign body hb
    refine ⟨_, _, _, [], ?_, .inr rfl, h2, ?_, fun d hd => .inl (ht.dsD d hd)⟩
    · show (Instr.enterLoop fn a.tmps ps assign body (some (m i).blk)).run P w = _
      rw [hrun]
      congr 2
      show w.heap.size = (upd _ (C.lo + st.o.n) _ (C.lo + st.o.n)).blk
      rw [upd_eq]
    · rw [ht.defers]
      show marksOf m st.ds = marksOf _ st.ds
      exact (marksOf_same ht.dsD fun i hi' => by
        have := hi.lt i hi'
        exact upd_ne (by omega)).symm

theorem range_ok {C : Ctx} {D : Nat → Prop} {m : Nat → Loc} {st : St} {a : Act} {w : World} (hi : Inv cfg D m C st.o w) (ht : TR D m st a) {g : Operand} {ps : Array Tmp} {assign body : Code} {r : AX × St} (h : cRange g ps assign body T cfg code C st = some r)
    {Q : Exit → Act → World → Prop} (hq : ∀ D' m' a' w', TR D' m' r.2 a' → Ext cfg C D m st.o w D' m' r.2.o w' → Q (exitOf r.1) a' w') : (Code.rangeFunc g ps assign body).wpIn (FR (roB m st.ro)) 0 P Q a w := by
  simp only [cRange, ob_some] at h
  obtain ⟨gv, hgv, e, he, x, hx, h⟩ := h
  simp only [endLoopA, ob_some, ok_some, Option.some.injEq] at h
  obtain ⟨q, hq', hbusy, ax, hax, rfl⟩ := h
  obtain ⟨hev, hgok⟩ := evalA_conc hi ht hgv
  refine wpIn_rangeFunc fun fn _ => ?_
  obtain ⟨D1, m1, w1, mark, hrun, hl1, hx1, hmk, hds⟩ := enterDefs_ok (P := P) hT hcode hll hi ht he fn ps assign body
  cases gv <;> simp only [loopCall, reduceCtorEq] at hx
  rename_i f first captured
  rw [ob_some] at hx
  obtain ⟨fc, hfc, hx⟩ := hx
  have hok1 : okL D1 m1 (first ++ [.yield (e.2.1.next C)] ++ captured) := by
    have h1 : okL D m first ∧ okL D m captured := ⟨fun i hm => hgok i (by simp [idsA, hm]), fun i hm => hgok i (by simp [idsA, hm])⟩
    refine okL_append.2 ⟨okL_append.2 ⟨h1.1.mono hx1.sub hx1.same, okL_cons.2 ⟨fun i hm => ?_, okL_nil⟩⟩, h1.2.mono hx1.sub hx1.same⟩
    simp only [idsA, List.mem_singleton] at hm
    subst hm
    exact ⟨hl1, Nat.zero_le _⟩
  obtain ⟨fn', cc⟩ := fc
  obtain ⟨hent, hcalls⟩ := enter_ok (P := P) (cfg := cfg) (R := fun V w' => ∃ D' m', V = conc m' x.1 ∧ okV D' m' x.1 ∧ Ext cfg C D1 m1 (e.2.1.push (.loop ⟨.ready, none, st.ts, st.tn, ps, assign, body, e.1⟩)) w1 D' m' x.2 w') hT hcode hfc hx hx1.inv hok1
    fun D' m' w' hv hxx => ⟨D', m', rfl, hv, hxx⟩
  have hargs : (concL m1 first).toArray ++ #[Value.func (.yield (m1 (e.2.1.next C)).blk) #[] #[]] ++ (concL m1 captured).toArray = (concL m1 (first ++ [.yield (e.2.1.next C)] ++ captured)).toArray := by
    simp [concL_app, concL, conc]
  refine ⟨(m1 (e.2.1.next C)).blk, mark, w1, { target := .fn (.func f) (concL m1 captured).toArray, args := (concL m1 first).toArray ++ #[.func (.yield (m1 (e.2.1.next C)).blk) #[] #[]] }, w1, f, (concL m1 (first ++ [.yield (e.2.1.next C)] ++ captured)).toArray, w1, hrun, ?_, fun _ _ => trivial, ?_, fun hk => (by cases hk), ?_⟩
  · have e1 : concL m first = concL m1 first := (concL_same (fun i hm => hgok i (by simp [idsA, hm])) hx1.same).symm
    have e2 : concL m captured = concL m1 captured := (concL_same (fun i hm => hgok i (by simp [idsA, hm])) hx1.same).symm
    simp only [resolve, hev, conc, Deferred.ofValue, e1, e2]
    simp [go_sem]
  · simp only [invoke]
    rw [hargs]; exact hent
  · refine CallsIn.mono (callsFR hcalls) ?_
    rintro e' w3 ⟨v, rfl, D3, m3, rfl, hv3, hx3⟩
    have hl3 := hx3.sub _ hl1
    have hm3 := hx3.same _ hl1
    obtain ⟨fn3, tmps3, hb3, hrel3⟩ : ∃ fn tmps, w3.heap[(m3 (e.2.1.next C)).blk]? = some (.loop (loopOf m3 q fn tmps)) ∧ LoopRel D3 m3 q fn tmps := by
      have := hx3.inv.obj _ hl3
      rw [own_get (loopAt_some hq')] at this
      exact this
    have hlt3 := (Array.getElem?_eq_some_iff.1 hb3).1
    have hnb : (loopOf m3 q fn3 tmps3).state ≠ .busy := by
      show q.state ≠ .busy
      intro hs
      rw [hs] at hbusy; cases hbusy
    have hend := run_endLoop (P := P) hb3 hnb
    have he4 : Ext cfg C D3 m3 x.2 w3 D3 m3 (putO C x.2 (e.2.1.next C) (.loop ⟨.exhausted, q.pend, q.ts, q.tn, q.params, q.assign, q.body, q.defs⟩)) (w3.putObj (m3 (e.2.1.next C)).blk (.loop { loopOf m3 q fn3 tmps3 with state := .exhausted })) :=
      Ext.put hx3.inv hl3 (loopAt_some hq') rfl (by simp) (fun k hk => World.putObj_heap_other hk) ⟨fn3, tmps3, World.putObj_heap_same hlt3, ⟨hrel3.size, hrel3.at', hrel3.okt, hrel3.defs⟩⟩ rfl rfl rfl
    generalize w3.putObj (m3 (e.2.1.next C)).blk (.loop { loopOf m3 q fn3 tmps3 with state := .exhausted }) = w4 at hend he4
    have hall := hx1.trans (hx3.trans he4)
    have ht4 : TR D3 m3 ⟨st.ts, st.tn, putO C x.2 (e.2.1.next C) (.loop ⟨.exhausted, q.pend, q.ts, q.tn, q.params, q.assign, q.body, q.defs⟩), e.2.2, st.ro⟩ { a with defers := mark ++ a.defers } := by
      have h0 := (ht.mono hx1.sub hx1.same).mono hx3.sub hx3.same
      refine ⟨h0.size, h0.at', h0.okt, ?_, fun d hd => hx3.sub d (hds d hd), h0.roD⟩
      show mark ++ a.defers = marksOf m3 e.2.2
      rw [hmk, marksOf_same hds hx3.same]
    have hfin := hq D3 m3 _ _ ht4 hall
    show ∃ jump w₄, (Instr.endLoop (m1 (e.2.1.next C)).blk).run P w3 = .ok jump w₄ ∧ _
    rw [← hm3]
    refine ⟨_, _, hend, ?_⟩
    have hpend : (loopOf m3 q fn3 tmps3).pending = q.pend := rfl
    rw [hpend]
    unfold endJump at hax
    split at hax
    · rename_i hp; cases hax; rw [hp]; exact hfin
    · rename_i hp; cases hax; rw [hp]; exact wpIn_ret hfin
    · rename_i id hp; cases hax; rw [hp]; exact wpIn_exit hfin
    · cases hax
end

section
variable {P : Program} {T : Tab} (hT : TabOK P T) (hm : P.follows .mixedOrders = true) {cfg : Cfg} (hK : CfgOK cfg) (horc : CallOK P cfg True fun C f args o => cfg.orc f C args o) (hof : CallFoot cfg fun C f args o => cfg.orc f C args o)
include hT hm hK horc hof
theorem code_ok : ∀ n, CodeOK P cfg (codeA T cfg n) ∧ ∀ C b st r, codeA T cfg n C (.loop b) st = some r → ∀ D m a w, Inv cfg D m C st.o w → TR D m st a → ∀ Q : Exit → Act → World → Prop,
    (∀ D' m' a' w', TR D' m' r.2 a' → Ext cfg C D m st.o w D' m' r.2.o w' → Q (exitOf r.1) a' w') → Code.roundsIn (FR (roB m st.ro)) 0 P b Q n a w
  | 0 => ⟨fun C c st r h => (by cases h), fun C b st r h => (by cases h)⟩
  | n + 1 => by
    obtain ⟨ih, ihl⟩ := code_ok n
    have ill := code_ll (T := T) hof n
    have frame : ∀ {C : Ctx} {c : Code} {st : St} {x : AX × St} {D D' : Nat → Prop} {m m' : Nat → Loc} {a : Act} {w w' : World}, codeA T cfg n C c st = some x → TR D m st a → Ext cfg C D m st.o w D' m' x.2.o w' → roB m' x.2.ro = roB m st.ro := fun hx ht he => by
      rw [(ill _ _ _ _ hx).2, roB_same ht.roD he.same]
    have hloop : ∀ C b st r, codeA T cfg (n + 1) C (.loop b) st = some r → ∀ D m a w, Inv cfg D m C st.o w → TR D m st a → ∀ Q : Exit → Act → World → Prop,
        (∀ D' m' a' w', TR D' m' r.2 a' → Ext cfg C D m st.o w D' m' r.2.o w' → Q (exitOf r.1) a' w') → Code.roundsIn (FR (roB m st.ro)) 0 P b Q (n + 1) a w := by
      intro C b st r h D m a w hi ht Q hq
      rw [codeA, codeSel, cLoop] at h
      simp only [ob_some] at h
      obtain ⟨x, hx, h⟩ := h
      rw [roundsIn_succ]
      refine ih C b st x hx D m a w hi ht _ fun D' m' a' w' ht' he => ?_
      unfold thenA at h
      cases hxe : x.1 with
      | normal =>
        rw [hxe] at h
        have := ihl C b x.2 r h D' m' a' w' he.inv ht' Q fun D2 m2 a2 w2 ht2 he2 => hq D2 m2 a2 w2 ht2 (he.trans he2)
        rw [frame hx ht he] at this
        exact this
      | exit id => rw [hxe] at h; cases h; rw [hxe] at hq; exact hq D' m' a' w' ht' he
      | ret => rw [hxe] at h; cases h; rw [hxe] at hq; exact hq D' m' a' w' ht' he
    refine ⟨?_, hloop⟩
    intro C c st r h D m a w hi ht Q hq
    cases c with
    | loop b => exact wpIn_loop_rounds (n + 1) (hloop C b st r h D m a w hi ht Q hq)
    | skip => rw [codeA, codeSel] at h; cases h; exact wpIn_skip (hq D m a w ht (Ext.refl hi))
    | label l => rw [codeA, codeSel] at h; cases h; exact wpIn_label (hq D m a w ht (Ext.refl hi))
    | exit id => rw [codeA, codeSel] at h; cases h; exact wpIn_exit (hq D m a w ht (Ext.refl hi))
    | ret => rw [codeA, codeSel] at h; cases h; exact wpIn_ret (hq D m a w ht (Ext.refl hi))
    | seq c1 c2 =>
      rw [codeA, codeSel, cSeq] at h
      simp only [ob_some] at h
      obtain ⟨x, hx, h⟩ := h
      refine wpIn_seq (ih C c1 st x hx D m a w hi ht _ fun D' m' a' w' ht' he => ?_)
      unfold thenA at h
      cases hxe : x.1 with
      | normal =>
        rw [hxe] at h
        have := ih C c2 x.2 r h D' m' a' w' he.inv ht' Q fun D2 m2 a2 w2 ht2 he2 => hq D2 m2 a2 w2 ht2 (he.trans he2)
        rw [frame hx ht he] at this
        exact this
      | exit id => rw [hxe] at h; cases h; rw [hxe] at hq; exact hq D' m' a' w' ht' he
      | ret => rw [hxe] at h; cases h; rw [hxe] at hq; exact hq D' m' a' w' ht' he
    | cond c c1 c2 =>
      rw [codeA, codeSel, cCond] at h
      simp only [ob_some] at h
      obtain ⟨v, hv, h⟩ := h
      obtain ⟨h1, _⟩ := evalA_conc hi ht hv
      unfold condA at h
      split at h
      · exact wpIn_cond_true (by rw [h1]; simp [conc]) (ih C c1 st r h D m a w hi ht Q hq)
      · exact wpIn_cond_false (by rw [h1]; simp [conc]) (ih C c2 st r h D m a w hi ht Q hq)
      · cases h
    | block id b =>
      rw [codeA, codeSel, cBlock] at h
      simp only [ob_some, Option.some.injEq] at h
      obtain ⟨x, hx, rfl⟩ := h
      refine wpIn_block (ih C b st x hx D m a w hi ht _ fun D' m' a' w' ht' he => ?_)
      unfold leaveA at hq
      cases hxe : x.1 with
      | normal => rw [hxe] at hq; simp only at hq; rw [hxe] at hq; exact hq D' m' a' w' ht' he
      | ret => rw [hxe] at hq; simp only at hq; rw [hxe] at hq; exact hq D' m' a' w' ht' he
      | exit j =>
        rw [hxe] at hq
        simp only at hq
        by_cases e : j = id
        · rw [beqT e, cond_true] at hq
          have := hq D' m' a' w' ht' he
          simpa [Exit.inBlock, e, exitOf] using this
        · rw [beqF e, cond_false] at hq
          rw [hxe] at hq
          have := hq D' m' a' w' ht' he
          simpa [Exit.inBlock, e, exitOf] using this
    | scope b =>
      rw [codeA, codeSel, cScope] at h
      refine wpIn_scope_straight (ih C b st r h D m a w hi ht _ fun D' m' a' w' ht' he => ?_)
      have := hq D' m' a' w' ht' he
      cases hre : r.1 <;> rw [hre] at this <;> exact this
    | region id ops draw =>
      rw [codeA, codeSel, cRegion] at h
      simp only [ob_some, Option.some.injEq] at h
      obtain ⟨st', hs, rfl⟩ := h
      exact region_ok hT hm (callA_ok hT hK ih ill (fun h => by cases h) horc) (callA_foot hof ill) (callA_ok hT hK ih ill (fun _ h => h) horc) (roundA_ok ih ill) hi ht hs fun D' m' a' w' ht' he => hq D' m' a' w' ht' he
    | rangeFunc g ps assign body =>
      rw [codeA, codeSel] at h
      exact range_ok hT ih ill hi ht h hq
    | _ => cases h
/-- The reckoner is right. -/
theorem call_ok (n : Nat) : CallOK P cfg True (callA T cfg false (codeA T cfg n)) := callA_ok hT hK (code_ok hT hm hK horc hof n).1 (code_ll hof n) (fun h => by cases h) horc
end
end Go.Ev
