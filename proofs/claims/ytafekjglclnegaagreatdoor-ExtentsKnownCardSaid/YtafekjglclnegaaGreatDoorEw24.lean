/- A drawn region: any operation that may run next, run. -/
import Derived.Test.YtafekjglclnegaaGreatDoorEw23
import Derived.OrdersIn
set_option linter.all false
namespace Go.Ev
open Go Go.RowKit

theorem wanted_eq' {m : Nat → Loc} {ts : Ts} {a : Act} {ops : Array Oper} {oo : Oper} (h : ∀ t, guardT ops oo.guard = some t → a.tmps.getD t undef = conc m (ts.get t)) : Region.wanted oo (yielded ops a.tmps) = wantedA ops ts oo.guard := by
  unfold Region.wanted wantedA
  cases hgd : oo.guard with
  | none => rfl
  | some jw =>
    obtain ⟨j, want⟩ := jw
    simp only [yielded]
    cases hj : ops[j]? with
    | none => simp
    | some op =>
      cases hd : op.dst with
      | none => simp [hd, wantedT]
      | some t =>
        have hat := h t (by simp [hgd, guardT, hj, ob, hd])
        simp only [Option.bind_some, hd, wantedT]
        cases hg : a.tmps[t]? with
        | none =>
          have : a.tmps.getD t undef = undef := by
            rw [Array.getElem?_eq_none_iff] at hg
            simp only [Array.getD]
            rw [dif_neg (by omega)]
          rw [this] at hat
          cases hv : ts.get t <;> rw [hv] at hat <;> simp [conc, undef] at hat <;> rfl
        | some v =>
          have : a.tmps.getD t undef = v := by simp [hg]
          rw [this] at hat
          subst hat
          cases hv : ts.get t <;> simp [conc, isTrue, boolEq_beq]

theorem load_foot {T : Tab} {cfg : Cfg} {C : Ctx} {o : Own} {ρ : Operand → Option AV} {call : Ctx → FuncId → List AV → Own → Option (AV × Own)} {op : Op} {r : AV × Own} (hk : isLoad (kindOp op) = true) (h : stepA T call rnd0 C ρ o op = some r) :
    ∃ id, footA cfg ρ op = .reads id ∧ ∀ x ∈ op.operands.toList, ∀ v i, ρ x = some v → nameOf v = some i → i = id := by
  have main : ∀ t a, op = .load t a → ∃ id, footA cfg ρ op = .reads id ∧ ∀ x ∈ op.operands.toList, ∀ v i, ρ x = some v → nameOf v = some i → i = id := by
    rintro t a rfl
    change opA T C ρ o (.load t a) = some r at h
    simp only [opA, opSel, doLoad] at h
    obtain ⟨h1, _⟩ := keep_some.1 h
    simp only [ob_some] at h1
    obtain ⟨v, hv, h1⟩ := h1
    cases v <;> simp only [loadA, reduceCtorEq] at h1
    rename_i id off
    refine ⟨id, by simp only [footA, hv, ob, nameOf, reads1], fun x hx v i hxv hn => ?_⟩
    simp only [Op.operands, List.mem_singleton] at hx
    subst hx
    rw [hv] at hxv
    cases hxv
    cases hn; rfl
  cases op <;> first | exact main _ _ rfl | (cases hk; done) | skip
  rename_i c
  simp only [kindOp] at hk
  cases hcal : c.callee with
  | value f => rw [hcal] at hk; cases hk
  | invoke x n => rw [hcal] at hk; cases hk
  | builtin b => rw [hcal] at hk; cases b <;> cases hk

section
variable {P : Program} {T : Tab} (hT : TabOK P T) {cfg : Cfg} {call : Ctx → FuncId → List AV → Own → Option (AV × Own)} (hcall : CallOK P cfg True call) (hc : CallFoot cfg call) {C : Ctx} {ops : Array Oper} {S : Nat → St} (hR : Row T cfg call C ops S) (hA : Checks cfg ops S)
  {D0 : Nat → Prop} {m0 : Nat → Loc} {w0 : World} {E D : Nat → Prop} {m : Nat → Loc} {a : Act} {w : World} {e : Nat} (h : DI cfg C ops S D0 m0 w0 E D m a w)
  (hdown : ∀ j, E j → WaitsOK ops E j) (he : e < ops.size) (hE : ¬ E e) (hw : WaitsOK ops E e)
include hR hc h he
omit hc in
theorem inv_at (hc : CallFoot cfg call) (hall : ∀ i, CompB cfg ops S E i e) : Inv cfg (Bel C S D e) m C (S e).o w := by
  have h0 := hR.mono' hc (k := 0) (k' := e) (by omega) (by omega)
  refine ⟨fun i hi => h.obj i e (by omega) hi.1 hi.2 (hall i), fun i j hi hj hij hl hr => h.inj i j e (by omega) hi.1 hj.1 hi.2 hj.2 (hall i) (hall j) hij hl hr, fun i hi => hi.2, fun g hg => ?_, fun i hi => ?_, fun i hi => ?_, hR.lo, hR.len hc e (by omega)⟩
  · obtain ⟨g1, g2, g3⟩ := h.glob g hg
    have := hR.g0 g hg
    exact ⟨⟨g1, by omega⟩, g2, g3⟩
  · have := hR.lo
    exact ⟨⟨(h.root i hi).1, by omega⟩, by rw [hR.root hc e (by omega) hi]; exact (h.root i hi).2⟩
  · rw [hR.le hc e (by omega)] at hi; exact hR.le0 i hi
open Classical in
/-- The blocks as an operation finds them that is free to run now: those that others may have written or may yet write are left out. -/
noncomputable def hotF (cfg : Cfg) (C : Ctx) (ops : Array Oper) (S : Nat → St) (E : Nat → Prop) (e i : Nat) : AObj := if CompB cfg ops S E i e then get C (S e).o i else .dead
omit hc in
theorem hot_get' (hc : CallFoot cfg call) {l : List AObj} {id : Nat} (hid : id < C.lo + (S e).o.n) : get (hotC cfg (hotF cfg C ops S E e) (C.lo + (S e).o.n)) (pushes l cold) id = hotF cfg C ops S E e id := by
  rw [hot_get hid]
  by_cases hr : cfg.root.n ≤ id
  · rw [if_pos hr]
  · rw [if_neg hr]
    have hcb : CompB cfg ops S E id e := fun j hj hw => absurd hw.2 hr
    unfold hotF
    rw [if_pos hcb, hR.root hc e (by omega) (by omega)]
    exact ((h.root id (by omega)).2).symm
omit hc in
theorem inv_hot (hc : CallFoot cfg call) : Inv cfg (Bel C S D e) m (hotC cfg (hotF cfg C ops S E e) (C.lo + (S e).o.n)) cold w := by
  have h0 := hR.mono' hc (k := 0) (k' := e) (by omega) (by omega)
  have hg : ∀ i, i < C.lo + (S e).o.n → get (hotC cfg (hotF cfg C ops S E e) (C.lo + (S e).o.n)) cold i = hotF cfg C ops S E e i := fun i hi => hot_get' (l := []) hR h he hc hi
  have hlo := hR.lo
  refine ⟨fun i hi => ?_, fun i j hi hj hij hl hr => ?_, fun i hi => hi.2, fun g hgl => ?_, fun i hi => ?_, fun i hi => (by cases hi), (by simp only [hotC]; omega), rfl⟩
  · rw [hg i hi.2]
    unfold hotF
    split
    · rename_i hcb; exact h.obj i e (by omega) hi.1 hi.2 hcb
    · trivial
  · rw [hg i hi.2] at hl
    rw [hg j hj.2] at hr
    unfold hotF at hl hr
    split at hl
    · rename_i hci
      split at hr
      · rename_i hcj; exact h.inj i j e (by omega) hi.1 hj.1 hi.2 hj.2 hci hcj hij hl hr
      · cases hr
    · cases hl
  · obtain ⟨g1, g2, g3⟩ := h.glob g hgl
    have := hR.g0 g hgl
    exact ⟨⟨g1, by omega⟩, g2, g3⟩
  · have hin : i < C.lo + (S e).o.n := by omega
    refine ⟨⟨(h.root i hi).1, hin⟩, ?_⟩
    have hh := hot_get (cfg := cfg) (f := hotF cfg C ops S E e) (l := []) hin
    rw [if_neg (by omega)] at hh
    exact hh

include hT hcall hA hdown hE hw
open Classical in
theorem draw_step {Q : Exit → Act → World → Prop} {K : Act → World → Prop} (hK : ∀ D2 m2 a2 w2, DI cfg C ops S D0 m0 w0 (fun j => E j ∨ j = e) D2 m2 a2 w2 → K a2 w2) {x : Option Nat} : wpOpIn (FR x) 0 P ops Q e K a w := by
  obtain ⟨op, hop, hstep⟩ := hR.step e he
  have hdst : dstAt ops e = op.dst := by simp [dstAt, hop]
  have ho : ∀ j, j < ops.size → ∀ t, t ∈ tmpsOf ops op → dstAt ops j = some t → j ≠ e → (E j ↔ j < e) := fun j hj t ht hjt hne => ordB_iff hdown hE hw hne (.inl (hA.tmp e op hop t ht j hjt hne))
  have hod : ∀ d, dstAt ops e = some d → ∀ j, j < ops.size → dstAt ops j = some d → j ≠ e → (E j ↔ j < e) := fun d hd j hj hjd hne => ho j hj d (by rw [hdst] at hd; simp [tmpsOf, hd]) hjd hne
  have hct : ∀ t, t ∈ tmpsOf ops op → CompT ops E t e := fun t ht j hj hjt => by
    by_cases hne : j = e
    · subst hne; exact ⟨fun hh => absurd hh hE, fun hh => by omega⟩
    · exact ho j hj t ht hjt hne
  have hwanted := wanted_eq' (m := m) (ts := (S e).ts) (a := a) (ops := ops) (oo := op) fun t ht => (h.tmp t e (by omega) (hct t (by simp [tmpsOf, ht]))).1
  unfold wpOpIn
  simp only [hop]
  rw [hwanted]
  rcases hstep with ⟨hwt, r, hr, hp, hbnd⟩ | ⟨hwt, hp⟩
  · rw [hwt, if_pos rfl]
    obtain ⟨htn, hro, hdd⟩ := putA_tn hp
    have hd : ∀ d, dstAt ops e = some d → d < (S 0).tn := fun d hd => by rw [← hR.tn e (by omega)]; exact hdd d (by rw [← hdst]; exact hd)
    have hg : ∀ d, dstAt ops e = some d → (S (e + 1)).ts.get d = r.1 := fun d hd => by rw [putA_get hp, if_pos (by rw [← hdst]; exact hd)]
    have hfoot : footAt cfg ops S e = footA cfg (evalA cfg.G (S e).ts) op.op := by simp only [footAt, hop, hwt, cond_true]
    let ρ : Operand → Option AV := fun x => if x ∈ op.op.operands.toList then evalA cfg.G (S e).ts x else none
    have hρe : ∀ x ∈ op.op.operands.toList, evalA cfg.G (S e).ts x = ρ x := fun x hx => (if_pos hx).symm
    have hρ : RhoOK (Bel C S D e) m ρ a.eval := by
      intro x v hx
      have hxo : x ∈ op.op.operands.toList := Classical.byContradiction fun hn => by simp only [ρ, if_neg hn] at hx; cases hx
      simp only [ρ, if_pos hxo] at hx
      have h0 := hR.mono' hc (k := 0) (k' := e) (by omega) (by omega)
      cases x with
      | tmp t =>
        cases hx
        exact h.tmp t e (by omega) (hct t (by simp only [tmpsOf, List.mem_append, List.mem_filterMap]; exact .inr ⟨_, hxo, rfl⟩))
      | const c => obtain ⟨h1, h2⟩ := absV_conc (m := m) hx; exact ⟨h1.symm, okV_none h2⟩
      | global g =>
        simp only [evalA, ok_some, Option.some.injEq, natLt_iff] at hx
        obtain ⟨hgl, rfl⟩ := hx
        obtain ⟨a1, a2, a3⟩ := h.glob g hgl
        refine ⟨by simp [Act.eval, conc, a2, a3], fun i hi => ?_⟩
        simp only [idsA, List.mem_singleton] at hi
        subst hi
        have := hR.g0 g hgl
        exact ⟨⟨a1, by omega⟩, Nat.zero_le _⟩
      | func f => cases hx; exact ⟨by simp [Act.eval, conc, concL], fun i hi => by simp [idsA, idsL] at hi⟩
    rw [stepA_congr hρe] at hr
    rw [footA_congr hρe] at hfoot
    have hbarall : ∀ j i, j < ops.size → Wr cfg ops S j i → j ≠ e → isFree (kindOp op.op) = false → isLoad (kindOp op.op) = false → (E j ↔ j < e) := by
      intro j i hj hwr hne hnf hnl
      have : ∃ ids, footAt cfg ops S j = .bar ids := by
        have := hwr.1
        cases hf : footAt cfg ops S j with
        | bar ids => exact ⟨ids, rfl⟩
        | none => rw [hf] at this; cases this
        | reads id => rw [hf] at this; cases this
      obtain ⟨ids, hids⟩ := this
      rcases hA.bar j ids hj hids e op hop hne with h1 | h1 | ⟨h1, _⟩
      · rw [hnf] at h1; cases h1
      · exact ordB_iff hdown hE hw hne (.inl h1)
      · rw [hnl] at h1; cases h1
    have hself : ∀ i, CompB cfg ops S E i e ∨ True := fun _ => .inr trivial
    by_cases hq : quietK (kindOp op.op) = true
    · -- quiet
      have hfe : footIds (footAt cfg ops S e) = [] := by rw [hfoot]; exact foot_quiet hq
      have hnw : ∀ i, ¬ Wr cfg ops S e i := fun i hwr => by have := hwr.1; rw [hfe] at this; cases this
      have hi := inv_hot hR h he hc
      have hsame := stepA_same (C' := hotC cfg (hotF cfg C ops S E e) (C.lo + (S e).o.n)) (o' := cold) (call' := call) hq hr (by simp [hotC, cold]) fun hrd x hx v id hxv hn => by
        have hb : id < C.lo + (S e).o.n := (nameOf_ok (hρ x v hxv).2 hn).2
        have hcb : CompB cfg ops S E id e := fun j hj hwr => by
          by_cases hne : j = e
          · subst hne; exact absurd hwr (hnw id)
          · by_cases hld : isLoad (kindOp op.op) = true
            · obtain ⟨rid, hrid, hrall⟩ := load_foot (cfg := cfg) hld hr
              have hide := hrall x hx v id hxv hn
              have hf' : footAt cfg ops S e = .reads rid := by rw [hfoot]; exact hrid
              have : ∃ ids, footAt cfg ops S j = .bar ids := by
                have := hwr.1
                cases hf : footAt cfg ops S j with
                | bar ids => exact ⟨ids, rfl⟩
                | none => rw [hf] at this; cases this
                | reads id => rw [hf] at this; cases this
              obtain ⟨ids, hids⟩ := this
              rcases hA.bar j ids hj hids e op hop hne with h1 | h1 | ⟨_, h1⟩
              · rw [foot_free h1] at hrid; cases hrid
              · exact ordB_iff hdown hE hw hne (.inl h1)
              · have := h1 rid hf'
                have h2 := hwr.1
                rw [hids, hide] at h2
                exact absurd h2 this
            · refine hbarall j id hj hwr hne ?_ (by simpa using hld)
              cases hkk : kindOp op.op <;> rw [hkk] at hrd <;> first | rfl | cases hrd
        refine (hot_get' (l := []) hR h he hc hb).trans ?_
        unfold hotF
        rw [if_pos hcb]
      obtain ⟨l, hl, hr'⟩ := hsame
      have hon : (S (e + 1)).o = pushes l (S e).o := by rw [hro, hl]
      refine step_ok (r := (r.1, pushes l cold)) hT hi hρ hcall rnd0_ok hr' fun D' m' w' hv hx _ => ?_
      have hlt : ∀ i, D' i → i < C.lo + (S (e + 1)).o.n := fun i hi' => by
        have := hx.inv.lt i hi'
        rw [hon]
        simp only [hotC, pushes, cold] at this ⊢
        omega
      have hnew : ∀ i, D' i → Bel C S D e i ∨ C.lo + (S e).o.n ≤ i := fun i hi' => by
        have := hx.new i hi'
        simpa [hotC, cold] using this
      have hnown : ∀ i, Bel C S D e i → (own? (hotC cfg (hotF cfg C ops S E e) (C.lo + (S e).o.n)) cold i).isSome = true → False := fun i hi' hs => by
        unfold own? at hs
        simp only [hotC] at hs
        rw [bleF (by have := hi'.2; omega)] at hs
        simp [cold, leAt] at hs
      have hgn : ∀ i, D' i → ¬ Bel C S D e i → get (hotC cfg (hotF cfg C ops S E e) (C.lo + (S e).o.n)) (pushes l cold) i = get C (S (e + 1)).o i := fun i hi' hn => by
        rw [hon]
        refine pushes_get (by simp [hotC, cold]) ((hnew i hi').resolve_left hn) ?_
        have := hlt i hi'
        rw [hon] at this
        simp only [pushes] at this
        omega
      obtain ⟨D2, m2, hcv, hdi⟩ := DI.mute hR hc h he hE hnw hod hd hx.sub hx.same hnew hlt hv hg hx.os hx.tape hx.output hx.size
        ⟨fun k hk => hx.frame k hk fun i hi' hs => (hnown i hi' hs).elim, fun i hi' hn => (hx.fresh i hi' hn).resolve_right fun ⟨j, hj, hs, _⟩ => hnown j hj hs⟩
        (fun i hi' hn => by rw [← hgn i hi' hn]; exact hx.inv.obj i hi')
        (fun i j hi' hj' hni hnj hij hl' hr'' => by rw [← hgn i hi' hni] at hl'; rw [← hgn j hj' hnj] at hr''; exact hx.inv.inj i j hi' hj' hij hl' hr'')
      rw [hcv, hdst] at hdi
      exact hK D2 m2 _ _ hdi
    · have hq' : quietK (kindOp op.op) = false := by simpa using hq
      have hnf : isFree (kindOp op.op) = false := by cases hk : kindOp op.op <;> rw [hk] at hq' <;> first | rfl | cases hq'
      have hnl : isLoad (kindOp op.op) = false := by cases hk : kindOp op.op <;> rw [hk] at hq' <;> first | rfl | cases hq'
      have hall : ∀ i, CompB cfg ops S E i e := fun i j hj hwr => by
        by_cases hne : j = e
        · subst hne; exact ⟨fun hh => absurd hh hE, fun hh => by omega⟩
        · exact hbarall j i hj hwr hne hnf hnl
      have hi := inv_at hR h he hc hall
      cases hf : footAt cfg ops S e with
      | bar ids =>
        have hbd : ∀ i, D i → i < C.lo + (S e).o.n := fun i hi' => by
          rcases h.orig i hi' with h5 | ⟨e', he', hl', h6, h7⟩
          · have := hR.mono' hc (k := 0) (k' := e) (by omega) (by omega); omega
          · rcases Nat.lt_trichotomy e' e with hlt | heq | hgt
            · have := hR.mono' hc (k := e' + 1) (k' := e) (by omega) (by omega); omega
            · exact absurd (heq ▸ he') hE
            · obtain ⟨op', hop', hst'⟩ := hR.step e' hl'
              have hkeep : (isFree (kindOp op'.op) = true ∨ isLoad (kindOp op'.op) = true) → False := fun hk => by
                have : (S (e' + 1)).o = (S e').o := by
                  rcases hst' with ⟨_, r', hr', hp', _⟩ | ⟨_, hp'⟩
                  · rw [(putA_tn hp').2.1, stepA_keep hk hr']
                  · rw [(putA_tn hp').2.1]
                rw [this] at h7; omega
              rcases hA.bar e ids he hf e' op' hop' (by omega) with h1 | h1 | ⟨h1, _⟩
              · exact (hkeep (.inl h1)).elim
              · have := (ordB_iff hdown hE hw (j := e') (by omega) (.inr h1)).1 he'; omega
              · exact (hkeep (.inr h1)).elim
        have hBD : Bel C S D e = D := funext fun i => propext ⟨And.left, fun hh => ⟨hh, hbd i hh⟩⟩
        rw [hBD] at hi hρ
        refine step_ok hT hi hρ hcall rnd0_ok hr fun D' m' w' hv hx _ => ?_
        rw [← hro] at hx
        have := DI.bar hR hc h he hE hod hd hbd (fun j i hj hwr hne => hbarall j i hj hwr hne hnf hnl) (fun i hwr => foot_names hρ (by have := hwr.1; rw [hfoot] at this; exact this)) hv hg hx
        rw [hdst] at this
        exact hK D' m' _ _ this
      | none =>
        have hkc : kindOp op.op = .call := Classical.byContradiction fun hk => by
          obtain ⟨ids, hids⟩ := foot_bar (cfg := cfg) (ρ := ρ) hq' hk
          rw [hfoot, hids] at hf; cases hf
        have hfe : footIds (footA cfg ρ op.op) = [] := by rw [← hfoot, hf]; rfl
        have hnw : ∀ i, ¬ Wr cfg ops S e i := fun i hwr => by have := hwr.1; rw [hf] at this; cases this
        refine step_ok hT hi hρ hcall rnd0_ok hr fun D' m' w' hv hx hmu => ?_
        rw [← hro] at hx
        obtain ⟨D2, m2, hcv, hdi⟩ := DI.mute hR hc h he hE hnw hod hd hx.sub hx.same hx.new hx.inv.lt hv hg hx.os hx.tape hx.output hx.size (hmu trivial hkc hfe)
          (fun i hi' _ => hx.inv.obj i hi') (fun i j hi' hj' _ _ hij hl' hr'' => hx.inv.inj i j hi' hj' hij hl' hr'')
        rw [hcv, hdst] at hdi
        exact hK D2 m2 _ _ hdi
      | reads id =>
        have hkc : kindOp op.op = .call := Classical.byContradiction fun hk => by
          obtain ⟨ids, hids⟩ := foot_bar (cfg := cfg) (ρ := ρ) hq' hk
          rw [hfoot, hids] at hf; cases hf
        have hfe : footIds (footA cfg ρ op.op) = [] := by rw [← hfoot, hf]; rfl
        have hnw : ∀ i, ¬ Wr cfg ops S e i := fun i hwr => by have := hwr.1; rw [hf] at this; cases this
        refine step_ok hT hi hρ hcall rnd0_ok hr fun D' m' w' hv hx hmu => ?_
        rw [← hro] at hx
        obtain ⟨D2, m2, hcv, hdi⟩ := DI.mute hR hc h he hE hnw hod hd hx.sub hx.same hx.new hx.inv.lt hv hg hx.os hx.tape hx.output hx.size (hmu trivial hkc hfe)
          (fun i hi' _ => hx.inv.obj i hi') (fun i j hi' hj' _ _ hij hl' hr'' => hx.inv.inj i j hi' hj' hij hl' hr'')
        rw [hcv, hdst] at hdi
        exact hK D2 m2 _ _ hdi
  · rw [hwt, if_neg (by simp)]
    refine ⟨fun _ _ => trivial, ?_⟩
    obtain ⟨htn, hro, hdd⟩ := putA_tn hp
    have hd : ∀ d, dstAt ops e = some d → d < (S 0).tn := fun d hd => by rw [← hR.tn e (by omega)]; exact hdd d (by rw [← hdst]; exact hd)
    have hg : ∀ d, dstAt ops e = some d → (S (e + 1)).ts.get d = undefA := fun d hd => by rw [putA_get hp, if_pos (by rw [← hdst]; exact hd)]
    have hf : footAt cfg ops S e = .none := by simp only [footAt, hop, hwt, cond_false]
    have hnw : ∀ i, ¬ Wr cfg ops S e i := fun i hwr => by have := hwr.1; rw [hf] at this; cases this
    obtain ⟨D2, m2, hcv, hdi⟩ := DI.mute (D' := Bel C S D e) (m' := m) (w' := w) (v := undefA) hR hc h he hE hnw hod hd (fun _ hi => hi) (fun _ _ => rfl) (fun _ hi => .inl hi) (fun i hi => by rw [hro]; exact hi.2) okV_undef hg rfl rfl rfl (Nat.le_refl _)
      ⟨fun _ _ => rfl, fun i hi hn => absurd hi hn⟩ (fun i hi hn => absurd hi hn) (fun i j hi _ hn => absurd hi hn)
    rw [hcv, hdst, conc_undef] at hdi
    exact hK D2 m2 _ _ hdi
end
end Go.Ev
