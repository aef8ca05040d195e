/- A drawn region: any operation that may run next, run. A region: in text order, and in any order. -/
import Derived.Test.YticbodgiogmldaaGreatDoorEw23
import Derived.OrdersIn
section
set_option linter.all false
namespace Go.Ev
open Go Go.RowKit

theorem wanted_eq' {m : Nat → Loc} {ts : Ts} {a : Act} {ops : Array Oper} {oo : Oper} (h : ∀ t, guardT ops oo.guard = some t → a.tmps.getD t undef = conc m (ts.get t)) : Region.wanted oo (yielded ops a.tmps) = wantedA ops ts oo.guard := by
  unfold Region.wanted wantedA
  cases hgd : oo.guard with
  | none => rfl
  | some jw =>
    obtain ⟨j, want⟩ := jw
    simp only [yielded]
    cases hj : ops[j]? with
    | none => simp
    | some op =>
      cases hd : op.dst with
      | none => simp [hd, wantedT]
      | some t =>
        have hat := h t (by simp [hgd, guardT, hj, ob, hd])
        simp only [Option.bind_some, hd, wantedT]
        cases hg : a.tmps[t]? with
        | none =>
          have : a.tmps.getD t undef = undef := by
            rw [Array.getElem?_eq_none_iff] at hg
            simp only [Array.getD]
            rw [dif_neg (by omega)]
          rw [this] at hat
          cases hv : ts.get t <;> rw [hv] at hat <;> simp [conc, undef] at hat <;> first | rfl | (subst hat; rfl)
        | some v =>
          have : a.tmps.getD t undef = v := by simp [hg]
          rw [this] at hat
          subst hat
          cases hv : ts.get t with
          | any v => simp only [conc, isTrue]; cases v <;> simp [isTrueV, want_beq]
          | _ => simp [conc, isTrue, want_beq]

theorem load_foot {T : Tab} {cfg : Cfg} {C : Ctx} {o : Own} {ρ : Operand → Option AV} {call : Ctx → FuncId → List AV → Own → Option (AV × Own)} {op : Op} {r : AV × Own} (hk : isLoad (kindOp op) = true) (h : stepA T call rnd0 C ρ o op = some r) :
    ∃ id, footA cfg ρ op = .reads id ∧ ∀ x ∈ op.operands.toList, ∀ v i, ρ x = some v → nameOf v = some i → i = id := by
  have main : ∀ t a, op = .load t a → ∃ id, footA cfg ρ op = .reads id ∧ ∀ x ∈ op.operands.toList, ∀ v i, ρ x = some v → nameOf v = some i → i = id := by
    rintro t a rfl
    change opA T C ρ o (.load t a) = some r at h
    simp only [opA, opSel, doLoad] at h
    obtain ⟨h1, _⟩ := keep_some.1 h
    simp only [ob_some] at h1
    obtain ⟨v, hv, h1⟩ := h1
    cases v <;> simp only [loadA, reduceCtorEq] at h1
    rename_i id off
    refine ⟨id, by simp only [footA, hv, ob, nameOf, reads1], fun x hx v i hxv hn => ?_⟩
    simp only [Op.operands, List.mem_singleton] at hx
    subst hx
    rw [hv] at hxv
    cases hxv
    cases hn; rfl
  cases op <;> first | exact main _ _ rfl | (cases hk; done) | skip
  rename_i c
  simp only [kindOp] at hk
  cases hcal : c.callee with
  | value f => rw [hcal] at hk; cases hk
  | invoke x n => rw [hcal] at hk; cases hk
  | builtin b => rw [hcal] at hk; cases b <;> cases hk

section
variable {P : Program} {T : Tab} (hT : TabOK P T) {cfg : Cfg} {call : Ctx → FuncId → List AV → Own → Option (AV × Own)} (hcall : CallOK P cfg True call) (hc : CallFoot cfg call) {C : Ctx} {ops : Array Oper} {S : Nat → St} (hR : Row T cfg call C ops S) (hA : Checks cfg ops S)
  {D0 : Nat → Prop} {m0 : Nat → Loc} {w0 : World} {E D : Nat → Prop} {m : Nat → Loc} {a : Act} {w : World} {e : Nat} (h : DI cfg C ops S D0 m0 w0 E D m a w)
  (hdown : ∀ j, E j → WaitsOK ops E j) (he : e < ops.size) (hE : ¬ E e) (hw : WaitsOK ops E e)
include hR hc h he
omit hc in
theorem inv_at (hc : CallFoot cfg call) (hall : ∀ i, CompB cfg ops S E i e) : Inv cfg (Bel C S D e) m C (S e).o w := by
  have h0 := hR.mono' hc (k := 0) (k' := e) (by omega) (by omega)
  refine ⟨fun i hi => h.obj i e (by omega) hi.1 hi.2 (hall i), fun i j hi hj hij hl hr => h.inj i j e (by omega) hi.1 hj.1 hi.2 hj.2 (hall i) (hall j) hij hl hr, fun i hi => hi.2, fun g hg => ?_, fun i hi => ?_, fun i hi => ?_, hR.lo, hR.len hc e (by omega)⟩
  · obtain ⟨g1, g2, g3⟩ := h.glob g hg
    have := hR.g0 g hg
    exact ⟨⟨g1, by omega⟩, g2, g3⟩
  · have := hR.lo
    exact ⟨⟨(h.root i hi).1, by omega⟩, by rw [hR.root hc e (by omega) hi]; exact (h.root i hi).2⟩
  · rw [hR.le hc e (by omega)] at hi; exact hR.le0 i hi
open Classical in
/-- The blocks as an operation finds them that is free to run now: those that others may have written or may yet write are left out. -/
noncomputable def hotF (cfg : Cfg) (C : Ctx) (ops : Array Oper) (S : Nat → St) (E : Nat → Prop) (e i : Nat) : AObj := if CompB cfg ops S E i e then get C (S e).o i else .dead
omit hc in
theorem hot_get' (hc : CallFoot cfg call) {l : List AObj} {id : Nat} (hid : id < C.lo + (S e).o.n) : get (hotC cfg (hotF cfg C ops S E e) (C.lo + (S e).o.n)) (pushes l cold) id = hotF cfg C ops S E e id := by
  rw [hot_get hid]
  by_cases hr : cfg.root.n ≤ id
  · rw [if_pos hr]
  · rw [if_neg hr]
    have hcb : CompB cfg ops S E id e := fun j hj hw => absurd hw.2 hr
    unfold hotF
    rw [if_pos hcb, hR.root hc e (by omega) (by omega)]
    exact ((h.root id (by omega)).2).symm
omit hc in
theorem inv_hot (hc : CallFoot cfg call) : Inv cfg (Bel C S D e) m (hotC cfg (hotF cfg C ops S E e) (C.lo + (S e).o.n)) cold w := by
  have h0 := hR.mono' hc (k := 0) (k' := e) (by omega) (by omega)
  have hg : ∀ i, i < C.lo + (S e).o.n → get (hotC cfg (hotF cfg C ops S E e) (C.lo + (S e).o.n)) cold i = hotF cfg C ops S E e i := fun i hi => hot_get' (l := []) hR h he hc hi
  have hlo := hR.lo
  refine ⟨fun i hi => ?_, fun i j hi hj hij hl hr => ?_, fun i hi => hi.2, fun g hgl => ?_, fun i hi => ?_, fun i hi => (by cases hi), (by simp only [hotC]; omega), rfl⟩
  · rw [hg i hi.2]
    unfold hotF
    split
    · rename_i hcb; exact h.obj i e (by omega) hi.1 hi.2 hcb
    · trivial
  · rw [hg i hi.2] at hl
    rw [hg j hj.2] at hr
    unfold hotF at hl hr
    split at hl
    · rename_i hci
      split at hr
      · rename_i hcj; exact h.inj i j e (by omega) hi.1 hj.1 hi.2 hj.2 hci hcj hij hl hr
      · cases hr
    · cases hl
  · obtain ⟨g1, g2, g3⟩ := h.glob g hgl
    have := hR.g0 g hgl
    exact ⟨⟨g1, by omega⟩, g2, g3⟩
  · have hin : i < C.lo + (S e).o.n := by omega
    refine ⟨⟨(h.root i hi).1, hin⟩, ?_⟩
    have hh := hot_get (cfg := cfg) (f := hotF cfg C ops S E e) (l := []) hin
    rw [if_neg (by omega)] at hh
    exact hh

include hT hcall hA hdown hE hw
open Classical in
theorem draw_step {Q : Exit → Act → World → Prop} {K : Act → World → Prop} (hK : ∀ D2 m2 a2 w2, DI cfg C ops S D0 m0 w0 (fun j => E j ∨ j = e) D2 m2 a2 w2 → K a2 w2) {x : Option Nat} : wpOpIn (FR x) 0 P ops Q e K a w := by
  obtain ⟨op, hop, hstep⟩ := hR.step e he
  have hdst : dstAt ops e = op.dst := by simp [dstAt, hop]
  have ho : ∀ j, j < ops.size → ∀ t, t ∈ tmpsOf ops op → dstAt ops j = some t → j ≠ e → (E j ↔ j < e) := fun j hj t ht hjt hne => ordB_iff hdown hE hw hne (.inl (hA.tmp e op hop t ht j hjt hne))
  have hod : ∀ d, dstAt ops e = some d → ∀ j, j < ops.size → dstAt ops j = some d → j ≠ e → (E j ↔ j < e) := fun d hd j hj hjd hne => ho j hj d (by rw [hdst] at hd; simp [tmpsOf, hd]) hjd hne
  have hct : ∀ t, t ∈ tmpsOf ops op → CompT ops E t e := fun t ht j hj hjt => by
    by_cases hne : j = e
    · subst hne; exact ⟨fun hh => absurd hh hE, fun hh => by omega⟩
    · exact ho j hj t ht hjt hne
  have hwanted := wanted_eq' (m := m) (ts := (S e).ts) (a := a) (ops := ops) (oo := op) fun t ht => (h.tmp t e (by omega) (hct t (by simp [tmpsOf, ht]))).1
  unfold wpOpIn
  simp only [hop]
  rw [hwanted]
  rcases hstep with ⟨hwt, r, hr, hp, hbnd⟩ | ⟨hwt, hp⟩
  · rw [hwt, if_pos rfl]
    obtain ⟨htn, hro, hdd⟩ := putA_tn hp
    have hd : ∀ d, dstAt ops e = some d → d < (S 0).tn := fun d hd => by rw [← hR.tn e (by omega)]; exact hdd d (by rw [← hdst]; exact hd)
    have hg : ∀ d, dstAt ops e = some d → (S (e + 1)).ts.get d = r.1 := fun d hd => by rw [putA_get hp, if_pos (by rw [← hdst]; exact hd)]
    have hfoot : footAt cfg ops S e = footA cfg (evalA cfg.G (S e).ts) op.op := by simp only [footAt, hop, hwt, cond_true]
    let ρ : Operand → Option AV := fun x => if x ∈ op.op.operands.toList then evalA cfg.G (S e).ts x else none
    have hρe : ∀ x ∈ op.op.operands.toList, evalA cfg.G (S e).ts x = ρ x := fun x hx => (if_pos hx).symm
    have hρ : RhoOK (Bel C S D e) m ρ a.eval := by
      intro x v hx
      have hxo : x ∈ op.op.operands.toList := Classical.byContradiction fun hn => by simp only [ρ, if_neg hn] at hx; cases hx
      simp only [ρ, if_pos hxo] at hx
      have h0 := hR.mono' hc (k := 0) (k' := e) (by omega) (by omega)
      cases x with
      | tmp t =>
        cases hx
        exact h.tmp t e (by omega) (hct t (by simp only [tmpsOf, List.mem_append, List.mem_filterMap]; exact .inr ⟨_, hxo, rfl⟩))
      | const c => obtain ⟨h1, h2⟩ := absV_conc (m := m) hx; exact ⟨h1.symm, okV_none h2⟩
      | global g =>
        simp only [evalA, ok_some, Option.some.injEq, natLt_iff] at hx
        obtain ⟨hgl, rfl⟩ := hx
        obtain ⟨a1, a2, a3⟩ := h.glob g hgl
        refine ⟨by simp [Act.eval, conc, a2, a3], fun i hi => ?_⟩
        simp only [idsA, List.mem_singleton] at hi
        subst hi
        have := hR.g0 g hgl
        exact ⟨⟨a1, by omega⟩, Nat.zero_le _⟩
      | func f => cases hx; exact ⟨by simp [Act.eval, conc, concL], fun i hi => by simp [idsA, idsL] at hi⟩
    rw [stepA_congr hρe] at hr
    rw [footA_congr hρe] at hfoot
    have hbarall : ∀ j i, j < ops.size → Wr cfg ops S j i → j ≠ e → isFree (kindOp op.op) = false → isLoad (kindOp op.op) = false → (E j ↔ j < e) := by
      intro j i hj hwr hne hnf hnl
      have : ∃ ids, footAt cfg ops S j = .bar ids := by
        have := hwr.1
        cases hf : footAt cfg ops S j with
        | bar ids => exact ⟨ids, rfl⟩
        | none => rw [hf] at this; cases this
        | reads id => rw [hf] at this; cases this
      obtain ⟨ids, hids⟩ := this
      rcases hA.bar j ids hj hids e op hop hne with h1 | h1 | ⟨h1, _⟩
      · rw [hnf] at h1; cases h1
      · exact ordB_iff hdown hE hw hne (.inl h1)
      · rw [hnl] at h1; cases h1
    have hself : ∀ i, CompB cfg ops S E i e ∨ True := fun _ => .inr trivial
    by_cases hq : quietK (kindOp op.op) = true
    · -- quiet
      have hfe : footIds (footAt cfg ops S e) = [] := by rw [hfoot]; exact foot_quiet hq
      have hnw : ∀ i, ¬ Wr cfg ops S e i := fun i hwr => by have := hwr.1; rw [hfe] at this; cases this
      have hi := inv_hot hR h he hc
      have hsame := stepA_same (C' := hotC cfg (hotF cfg C ops S E e) (C.lo + (S e).o.n)) (o' := cold) (call' := call) hq hr (by simp [hotC, cold]) fun hrd x hx v id hxv hn => by
        have hb : id < C.lo + (S e).o.n := (nameOf_ok (hρ x v hxv).2 hn).2
        have hcb : CompB cfg ops S E id e := fun j hj hwr => by
          by_cases hne : j = e
          · subst hne; exact absurd hwr (hnw id)
          · by_cases hld : isLoad (kindOp op.op) = true
            · obtain ⟨rid, hrid, hrall⟩ := load_foot (cfg := cfg) hld hr
              have hide := hrall x hx v id hxv hn
              have hf' : footAt cfg ops S e = .reads rid := by rw [hfoot]; exact hrid
              have : ∃ ids, footAt cfg ops S j = .bar ids := by
                have := hwr.1
                cases hf : footAt cfg ops S j with
                | bar ids => exact ⟨ids, rfl⟩
                | none => rw [hf] at this; cases this
                | reads id => rw [hf] at this; cases this
              obtain ⟨ids, hids⟩ := this
              rcases hA.bar j ids hj hids e op hop hne with h1 | h1 | ⟨_, h1⟩
              · rw [foot_free h1] at hrid; cases hrid
              · exact ordB_iff hdown hE hw hne (.inl h1)
              · have := h1 rid hf'
                have h2 := hwr.1
                rw [hids, hide] at h2
                exact absurd h2 this
            · refine hbarall j id hj hwr hne ?_ (by simpa using hld)
              cases hkk : kindOp op.op <;> rw [hkk] at hrd <;> first | rfl | cases hrd
        refine (hot_get' (l := []) hR h he hc hb).trans ?_
        unfold hotF
        rw [if_pos hcb]
      obtain ⟨l, hl, hr'⟩ := hsame
      have hon : (S (e + 1)).o = pushes l (S e).o := by rw [hro, hl]
      refine step_ok (r := (r.1, pushes l cold)) hT hi hρ hcall rnd0_ok hr' fun D' m' w' hv hx _ => ?_
      have hlt : ∀ i, D' i → i < C.lo + (S (e + 1)).o.n := fun i hi' => by
        have := hx.inv.lt i hi'
        rw [hon]
        simp only [hotC, pushes, cold] at this ⊢
        omega
      have hnew : ∀ i, D' i → Bel C S D e i ∨ C.lo + (S e).o.n ≤ i := fun i hi' => by
        have := hx.new i hi'
        simpa [hotC, cold] using this
      have hnown : ∀ i, Bel C S D e i → (own? (hotC cfg (hotF cfg C ops S E e) (C.lo + (S e).o.n)) cold i).isSome = true → False := fun i hi' hs => by
        unfold own? at hs
        simp only [hotC] at hs
        rw [bleF (by have := hi'.2; omega)] at hs
        simp [cold, leAt] at hs
      have hgn : ∀ i, D' i → ¬ Bel C S D e i → get (hotC cfg (hotF cfg C ops S E e) (C.lo + (S e).o.n)) (pushes l cold) i = get C (S (e + 1)).o i := fun i hi' hn => by
        rw [hon]
        refine pushes_get (by simp [hotC, cold]) ((hnew i hi').resolve_left hn) ?_
        have := hlt i hi'
        rw [hon] at this
        simp only [pushes] at this
        omega
      obtain ⟨D2, m2, hcv, hdi⟩ := DI.mute hR hc h he hE hnw hod hd hx.sub hx.same hnew hlt hv hg hx.os hx.tape hx.output hx.size
        ⟨fun k hk => hx.frame k hk fun i hi' hs => (hnown i hi' hs).elim, fun i hi' hn => (hx.fresh i hi' hn).resolve_right fun ⟨j, hj, hs, _⟩ => hnown j hj hs⟩
        (fun i hi' hn => by rw [← hgn i hi' hn]; exact hx.inv.obj i hi')
        (fun i j hi' hj' hni hnj hij hl' hr'' => by rw [← hgn i hi' hni] at hl'; rw [← hgn j hj' hnj] at hr''; exact hx.inv.inj i j hi' hj' hij hl' hr'')
      rw [hcv, hdst] at hdi
      exact hK D2 m2 _ _ hdi
    · have hq' : quietK (kindOp op.op) = false := by simpa using hq
      have hnf : isFree (kindOp op.op) = false := by cases hk : kindOp op.op <;> rw [hk] at hq' <;> first | rfl | cases hq'
      have hnl : isLoad (kindOp op.op) = false := by cases hk : kindOp op.op <;> rw [hk] at hq' <;> first | rfl | cases hq'
      have hall : ∀ i, CompB cfg ops S E i e := fun i j hj hwr => by
        by_cases hne : j = e
        · subst hne; exact ⟨fun hh => absurd hh hE, fun hh => by omega⟩
        · exact hbarall j i hj hwr hne hnf hnl
      have hi := inv_at hR h he hc hall
      cases hf : footAt cfg ops S e with
      | bar ids =>
        have hbd : ∀ i, D i → i < C.lo + (S e).o.n := fun i hi' => by
          rcases h.orig i hi' with h5 | ⟨e', he', hl', h6, h7⟩
          · have := hR.mono' hc (k := 0) (k' := e) (by omega) (by omega); omega
          · rcases Nat.lt_trichotomy e' e with hlt | heq | hgt
            · have := hR.mono' hc (k := e' + 1) (k' := e) (by omega) (by omega); omega
            · exact absurd (heq ▸ he') hE
            · obtain ⟨op', hop', hst'⟩ := hR.step e' hl'
              have hkeep : (isFree (kindOp op'.op) = true ∨ isLoad (kindOp op'.op) = true) → False := fun hk => by
                have : (S (e' + 1)).o = (S e').o := by
                  rcases hst' with ⟨_, r', hr', hp', _⟩ | ⟨_, hp'⟩
                  · rw [(putA_tn hp').2.1, stepA_keep hk hr']
                  · rw [(putA_tn hp').2.1]
                rw [this] at h7; omega
              rcases hA.bar e ids he hf e' op' hop' (by omega) with h1 | h1 | ⟨h1, _⟩
              · exact (hkeep (.inl h1)).elim
              · have := (ordB_iff hdown hE hw (j := e') (by omega) (.inr h1)).1 he'; omega
              · exact (hkeep (.inr h1)).elim
        have hBD : Bel C S D e = D := funext fun i => propext ⟨And.left, fun hh => ⟨hh, hbd i hh⟩⟩
        rw [hBD] at hi hρ
        refine step_ok hT hi hρ hcall rnd0_ok hr fun D' m' w' hv hx _ => ?_
        rw [← hro] at hx
        have := DI.bar hR hc h he hE hod hd hbd (fun j i hj hwr hne => hbarall j i hj hwr hne hnf hnl) (fun i hwr => foot_names hρ (by have := hwr.1; rw [hfoot] at this; exact this)) hv hg hx
        rw [hdst] at this
        exact hK D' m' _ _ this
      | none =>
        have hkc : kindOp op.op = .call := Classical.byContradiction fun hk => by
          obtain ⟨ids, hids⟩ := foot_bar (cfg := cfg) (ρ := ρ) hq' hk
          rw [hfoot, hids] at hf; cases hf
        have hfe : footIds (footA cfg ρ op.op) = [] := by rw [← hfoot, hf]; rfl
        have hnw : ∀ i, ¬ Wr cfg ops S e i := fun i hwr => by have := hwr.1; rw [hf] at this; cases this
        refine step_ok hT hi hρ hcall rnd0_ok hr fun D' m' w' hv hx hmu => ?_
        rw [← hro] at hx
        obtain ⟨D2, m2, hcv, hdi⟩ := DI.mute hR hc h he hE hnw hod hd hx.sub hx.same hx.new hx.inv.lt hv hg hx.os hx.tape hx.output hx.size (hmu trivial hkc hfe)
          (fun i hi' _ => hx.inv.obj i hi') (fun i j hi' hj' _ _ hij hl' hr'' => hx.inv.inj i j hi' hj' hij hl' hr'')
        rw [hcv, hdst] at hdi
        exact hK D2 m2 _ _ hdi
      | reads id =>
        have hkc : kindOp op.op = .call := Classical.byContradiction fun hk => by
          obtain ⟨ids, hids⟩ := foot_bar (cfg := cfg) (ρ := ρ) hq' hk
          rw [hfoot, hids] at hf; cases hf
        have hfe : footIds (footA cfg ρ op.op) = [] := by rw [← hfoot, hf]; rfl
        have hnw : ∀ i, ¬ Wr cfg ops S e i := fun i hwr => by have := hwr.1; rw [hf] at this; cases this
        refine step_ok hT hi hρ hcall rnd0_ok hr fun D' m' w' hv hx hmu => ?_
        rw [← hro] at hx
        obtain ⟨D2, m2, hcv, hdi⟩ := DI.mute hR hc h he hE hnw hod hd hx.sub hx.same hx.new hx.inv.lt hv hg hx.os hx.tape hx.output hx.size (hmu trivial hkc hfe)
          (fun i hi' _ => hx.inv.obj i hi') (fun i j hi' hj' _ _ hij hl' hr'' => hx.inv.inj i j hi' hj' hij hl' hr'')
        rw [hcv, hdst] at hdi
        exact hK D2 m2 _ _ hdi
  · rw [hwt, if_neg (by simp)]
    refine ⟨fun _ _ => trivial, ?_⟩
    obtain ⟨htn, hro, hdd⟩ := putA_tn hp
    have hd : ∀ d, dstAt ops e = some d → d < (S 0).tn := fun d hd => by rw [← hR.tn e (by omega)]; exact hdd d (by rw [← hdst]; exact hd)
    have hg : ∀ d, dstAt ops e = some d → (S (e + 1)).ts.get d = undefA := fun d hd => by rw [putA_get hp, if_pos (by rw [← hdst]; exact hd)]
    have hf : footAt cfg ops S e = .none := by simp only [footAt, hop, hwt, cond_false]
    have hnw : ∀ i, ¬ Wr cfg ops S e i := fun i hwr => by have := hwr.1; rw [hf] at this; cases this
    obtain ⟨D2, m2, hcv, hdi⟩ := DI.mute (D' := Bel C S D e) (m' := m) (w' := w) (v := undefA) hR hc h he hE hnw hod hd (fun _ hi => hi) (fun _ _ => rfl) (fun _ hi => .inl hi) (fun i hi => by rw [hro]; exact hi.2) okV_undef hg rfl rfl rfl (Nat.le_refl _)
      ⟨fun _ _ => rfl, fun i hi hn => absurd hi hn⟩ (fun i hi hn => absurd hi hn) (fun i j hi _ hn => absurd hi hn)
    rw [hcv, hdst, conc_undef] at hdi
    exact hK D2 m2 _ _ hdi
end
end Go.Ev
end
section
set_option linter.all false
namespace Go.Ev
open Go Go.RowKit

theorem countP_le {p q : Nat → Bool} (h : ∀ i, q i = true → p i = true) : ∀ l : List Nat, l.countP q ≤ l.countP p
  | [] => by simp
  | x :: l => by
    have := countP_le h l
    rw [List.countP_cons, List.countP_cons]
    cases hq : q x with
    | true => rw [h x hq]; simp; exact this
    | false => simp only [Bool.false_eq_true, if_false]; omega
theorem countP_lt {p q : Nat → Bool} (h : ∀ i, q i = true → p i = true) {e : Nat} (hp : p e = true) (hq : q e = false) : ∀ {l : List Nat}, e ∈ l → l.countP q < l.countP p
  | [], he => by cases he
  | x :: l, he => by
    rw [List.countP_cons, List.countP_cons]
    rcases List.mem_cons.1 he with rfl | he
    · have := countP_le h l
      rw [hp, hq]; simp; omega
    · have := countP_lt h hp hq he
      cases hx : q x with
      | true => rw [h x hx]; simp; exact this
      | false => simp only [Bool.false_eq_true, if_false]; omega

def Lst (listed : Array Bool) (j : Nat) : Prop := listed.getD j false = true
theorem getD_tf (listed : Array Bool) {i : Nat} (h : i < listed.size) : listed.getD i true = listed.getD i false := by simp [Array.getD, h]
theorem lst_set {listed : Array Bool} {i : Nat} (h : i < listed.size) (j : Nat) : Lst (listed.setIfInBounds i true) j ↔ Lst listed j ∨ j = i := by
  unfold Lst
  by_cases e : j = i
  · subst e; simp [Array.getD, h]
  · simp only [e, or_false, Array.getD, Array.size_setIfInBounds]
    split
    · rw [Array.getInternal_eq_getElem, Array.getInternal_eq_getElem, Array.getElem_setIfInBounds_ne (h := fun e' => e e'.symm)]
    · rfl
theorem ready_iff {ops : Array Oper} {listed : Array Bool} (hs : listed.size = ops.size) {i : Nat} : i ∈ Region.ready .any ops listed ↔ i < ops.size ∧ ¬ Lst listed i ∧ WaitsOK ops (Lst listed) i := by
  unfold Region.ready
  rw [List.mem_filter, List.mem_range]
  constructor
  · rintro ⟨hi, h⟩
    rw [getD_tf listed (by omega)] at h
    have hop : ops[i]? = some ops[i] := by simp [hi]
    simp only [hop, Option.map_some, Option.getD_some, Bool.and_eq_true, Bool.not_eq_true'] at h
    refine ⟨hi, by unfold Lst; simp [h.1], fun o ho e he hb => ?_⟩
    rw [hop] at ho
    cases ho
    have := h.2
    rw [← Array.all_toList, List.all_eq_true] at this
    have := this e he
    simpa [hb, Lst] using this
  · rintro ⟨hi, h1, h2⟩
    refine ⟨hi, ?_⟩
    have hop : ops[i]? = some ops[i] := by simp [hi]
    rw [getD_tf listed (by omega)]
    simp only [hop, Option.map_some, Option.getD_some, Bool.and_eq_true, Bool.not_eq_true']
    refine ⟨by unfold Lst at h1; simpa using h1, ?_⟩
    rw [← Array.all_toList, List.all_eq_true]
    intro e he
    cases hb : Region.binds .any e with
    | false => simp
    | true => have := h2 _ hop e he hb; simpa [Lst] using this

section
variable {P : Program} {T : Tab} (hT : TabOK P T) {cfg : Cfg} {call : Ctx → FuncId → List AV → Own → Option (AV × Own)} (hcall : CallOK P cfg True call) (hc : CallFoot cfg call) {C : Ctx} {ops : Array Oper} {S : Nat → St} (hR : Row T cfg call C ops S) (hA : Checks cfg ops S)
  {D0 : Nat → Prop} {m0 : Nat → Loc} {w0 : World}
include hT hcall hc hR hA
theorem any_ok {x : Option Nat} {Q : Exit → Act → World → Prop} (hq : ∀ D m a w, DI cfg C ops S D0 m0 w0 (fun j => j < ops.size) D m a w → Q .normal a w) : ∀ (fuel : Nat) (listed : Array Bool), listed.size = ops.size → ((List.range ops.size).countP fun i => !listed.getD i true) ≤ fuel →
    (∀ j, Lst listed j → WaitsOK ops (Lst listed) j) → ∀ {D : Nat → Prop} {m : Nat → Loc} {a : Act} {w : World}, DI cfg C ops S D0 m0 w0 (Lst listed) D m a w → wpAnyIn (FR x) 0 P .any ops Q fuel listed a w := by
  have fin : ∀ (listed : Array Bool), listed.size = ops.size → Region.ready .any ops listed = [] → ∀ {D : Nat → Prop} {m : Nat → Loc} {a : Act} {w : World}, DI cfg C ops S D0 m0 w0 (Lst listed) D m a w → Q .normal a w := by
    intro listed hs hr D m a w h
    have hall : ∀ j, j < ops.size → Lst listed j := by
      intro j
      induction j using Nat.strongRecOn with
      | ind j ih =>
        intro hj
        refine Classical.byContradiction fun hn => ?_
        have : j ∈ Region.ready .any ops listed := (ready_iff hs).2 ⟨hj, hn, fun o ho e he hb => by
          have := hA.edge j o ho e he hb
          exact ih e.on this (by omega)⟩
        rw [hr] at this; cases this
    have heq : Lst listed = fun j => j < ops.size := funext fun j => propext ⟨fun hh => (by
      refine Classical.byContradiction fun hn => ?_
      unfold Lst at hh
      simp only [Array.getD] at hh
      rw [dif_neg (by omega)] at hh
      cases hh), hall j⟩
    rw [heq] at h
    exact hq D m a w h
  intro fuel
  induction fuel with
  | zero =>
    intro listed hs hcnt hd D m a w h
    have hr : Region.ready .any ops listed = [] := by
      rw [List.eq_nil_iff_forall_not_mem]
      intro i hi
      obtain ⟨h1, h2, _⟩ := (ready_iff hs).1 hi
      have : 0 < (List.range ops.size).countP fun i => !listed.getD i true := List.countP_pos_iff.2 ⟨i, List.mem_range.2 h1, by rw [getD_tf listed (by omega)]; unfold Lst at h2; simpa using h2⟩
      omega
    exact ⟨hr, fin listed hs hr h⟩
  | succ fuel ih =>
    intro listed hs hcnt hd D m a w h
    refine ⟨fun hr => fin listed hs hr h, fun i hi => ?_⟩
    obtain ⟨h1, h2, h3⟩ := (ready_iff hs).1 hi
    have hset : Lst (listed.setIfInBounds i true) = fun j => Lst listed j ∨ j = i := funext fun j => propext (lst_set (by omega) j)
    refine draw_step hT hcall hc hR hA h hd h1 h2 h3 fun D2 m2 a2 w2 h' => ?_
    refine ih (listed.setIfInBounds i true) (by simp [hs]) ?_ ?_ (by rw [hset]; exact h')
    · have hlt : (List.range ops.size).countP (fun j => !(listed.setIfInBounds i true).getD j true) < (List.range ops.size).countP (fun j => !listed.getD j true) := by
        refine countP_lt (e := i) (fun j hj => ?_) ?_ ?_ (List.mem_range.2 h1)
        · by_cases hjs : j < listed.size
          · rw [getD_tf _ (by simpa using hjs)] at hj
            rw [getD_tf _ hjs]
            have : ¬ Lst (listed.setIfInBounds i true) j := by unfold Lst; simpa using hj
            rw [lst_set (by omega)] at this
            have : ¬ Lst listed j := fun hh => this (.inl hh)
            unfold Lst at this; simpa using this
          · simp [Array.getD, hjs] at hj
        · rw [getD_tf _ (by omega)]; unfold Lst at h2; simpa using h2
        · rw [getD_tf _ (by simp; omega)]
          have : Lst (listed.setIfInBounds i true) i := (lst_set (by omega) i).2 (.inr rfl)
          unfold Lst at this; simp [this]
      omega
    · intro j hj o ho e he hb
      rw [hset] at hj ⊢
      rcases hj with hj | rfl
      · exact .inl (hd j hj o ho e he hb)
      · exact .inl (h3 o ho e he hb)
end

section
variable {P : Program} {T : Tab} (hT : TabOK P T) (hm : P.follows .mixedOrders = true) {cfg : Cfg} {C : Ctx} {call : Ctx → FuncId → List AV → Own → Option (AV × Own)} (hcall : CallOK P cfg True call) (hc : CallFoot cfg call)
include hT hm hcall hc
theorem draw_ok {x : Option Nat} {rnd : Ctx → Nat → List AV → Own → Option (AV × Own)} {callI : Ctx → FuncId → List AV → Own → Option (AV × Own)} {ops : Array Oper} {id : Nat} {Q : Exit → Act → World → Prop} {D : Nat → Prop} {m : Nat → Loc} {st st' : St} {a : Act} {w : World} (hi : Inv cfg D m C st.o w) (ht : TR D m st a) (h : regionA T cfg call rnd C callI ops true st = some st')
    (hq : ∀ D' m' a' w', TR D' m' st' a' → Ext cfg C D m st.o w D' m' st'.o w' → Q .normal a' w') : (Code.region id ops true).wpIn (FR x) 0 P Q a w := by
  simp only [regionA, cond_true, ob_some, ok_some, Option.some.injEq] at h
  obtain ⟨acc, hs, r, hd, hap, rfl⟩ := h
  obtain ⟨S, h0, hn, hst, _⟩ := drawA_row (by simp) hd
  rw [Nat.zero_add] at hn
  have hlen : ops.toList.length = ops.size := by simp
  rw [hlen] at hn
  have hst' : ∀ k, k < ops.size → StepR T cfg call C ops S k ∧ (k, footAt cfg ops S k) ∈ r.2 := fun k hk => hst k (Nat.zero_le _) (by rw [hlen]; omega)
  have hR : Row T cfg call C ops S := ⟨fun k hk => (hst' k hk).1, by rw [h0]; exact hi.len, by rw [h0]; exact hi.le, hi.lo, fun g hg => by rw [h0]; exact hi.lt g (hi.glob g hg).1⟩
  have hA : Checks cfg ops S := checks_of hs (fun k hk => (hst' k hk).2) hap
  refine wpIn_region_any hm (any_ok hT hcall hc hR hA (D0 := D) (m0 := m) (w0 := w) (fun D' m' a' w' hdi => ?_) ops.size _ (by simp) ?_ ?_ (D := D) (m := m) ?_)
  · have hbd : ∀ i, D' i → i < C.lo + (S ops.size).o.n := fun i hi' => by
      rcases hdi.orig i hi' with h5 | ⟨e, _, he, _, h7⟩
      · have := hR.mono' hc (k := 0) (k' := ops.size) (by omega) (by omega); omega
      · have := hR.mono' hc (k := e + 1) (k' := ops.size) (by omega) (by omega); omega
    have hall : ∀ i, CompB cfg ops S (fun j => j < ops.size) i ops.size := fun i j hj _ => ⟨fun _ => hj, fun _ => hj⟩
    have hallt : ∀ t, CompT ops (fun j => j < ops.size) t ops.size := fun i j hj _ => ⟨fun _ => hj, fun _ => hj⟩
    have htr : TR D' m' (S ops.size) a' := ⟨by rw [hdi.sz, hR.tn _ (Nat.le_refl _)], fun t => (hdi.tmp t _ (Nat.le_refl _) (hallt t)).1, fun t => (hdi.tmp t _ (Nat.le_refl _) (hallt t)).2.mono (fun i hi' => hi'.1) fun _ _ => rfl, by rw [hdi.defers, (hR.ds _ (Nat.le_refl _)).1, marksOf_same (D := D) (by rw [h0]; exact ht.dsD) hdi.mv.same], fun d hd => hdi.mv.sub d (by rw [(hR.ds _ (Nat.le_refl _)).1, h0] at hd; exact ht.dsD d hd), fun i hi' => hdi.mv.sub i (by rw [(hR.ds _ (Nat.le_refl _)).2, h0] at hi'; exact ht.roD i hi')⟩
    have hinv : Inv cfg D' m' C (S ops.size).o w' := by
      refine ⟨fun i hi' => (hdi.obj i _ (Nat.le_refl _) hi' (hbd i hi') (hall i)).mono (fun j hj => hj.1) fun _ _ => rfl, fun i j hi' hj' hij hl hr => hdi.inj i j _ (Nat.le_refl _) hi' hj' (hbd i hi') (hbd j hj') (hall i) (hall j) hij hl hr, hbd, hdi.glob, fun i hi' => ?_, fun i hi' => ?_, hR.lo, hR.len hc _ (Nat.le_refl _)⟩
      · exact ⟨(hdi.root i hi').1, by rw [hR.root hc _ (Nat.le_refl _) hi']; exact (hdi.root i hi').2⟩
      · rw [hR.le hc _ (Nat.le_refl _)] at hi'; exact hR.le0 i hi'
    rw [hn] at htr hinv
    have hmv := hdi.mv
    rw [h0] at hmv
    have hgrow := hR.mono' hc (k := 0) (k' := ops.size) (by omega) (by omega)
    have hle := hR.le hc ops.size (Nat.le_refl _)
    rw [h0, hn] at hgrow hle
    exact hq D' m' a' w' htr ⟨hinv, hmv.sub, hmv.same, hmv.new, hgrow, hmv.os, hmv.tape, hmv.output, hmv.size, hmv.frame, hle, hmv.fresh⟩
  · refine Nat.le_trans List.countP_le_length (by simp)
  · intro j hj
    unfold Lst at hj
    simp only [Array.getD] at hj
    split at hj
    · simp at hj
    · cases hj
  · have hno : ∀ j, ¬ Lst (Array.replicate ops.size false) j := fun j hj => by
      unfold Lst at hj
      simp only [Array.getD] at hj
      split at hj
      · simp at hj
      · cases hj
    have cT : ∀ t k, k ≤ ops.size → CompT ops (Lst (Array.replicate ops.size false)) t k → (S k).ts.get t = st.ts.get t := fun t k hk hct => by
      rw [← h0]
      exact hR.ts' (by omega) hk fun j _ hj hjt => hno j ((hct j (by omega) hjt).2 hj)
    have cB : ∀ i k, k ≤ ops.size → D i → CompB cfg ops S (Lst (Array.replicate ops.size false)) i k → get C (S k).o i = get C st.o i := fun i k hk hdi hcb => by
      have := hi.lt i hdi
      have := hR.same' hc (k := 0) (k' := k) (i := i) (by omega) hk (by rw [h0]; exact this) fun j _ hj hw => hno j ((hcb j (by omega) hw).2 hj)
      rw [this, h0]
    have bel : ∀ k, k ≤ ops.size → ∀ i, D i → Bel C S D k i := fun k hk i hdi => ⟨hdi, by
      have := hi.lt i hdi
      have h1 := hR.mono' hc (k := 0) (k' := k) (by omega) hk
      rw [h0] at h1
      omega⟩
    refine { sz := by rw [h0]; exact ht.size, defers := by rw [h0]; exact ht.defers, tmp := fun t k hk hct => ?_, obj := fun i k hk hdi _ hcb => ?_, inj := fun i j k hk hdi hdj _ _ hci hcj hij hl hr => ?_, orig := fun i hdi => .inl (by rw [h0]; exact hi.lt i hdi), wr := fun j i hj => absurd hj (hno j), glob := hi.glob, root := fun i hid => by rw [h0]; exact hi.root i hid, mv := ?_ }
    · rw [cT t k hk hct]
      exact ⟨ht.at' t, (ht.okt t).mono (bel k hk) fun _ _ => rfl⟩
    · rw [cB i k hk hdi hcb]
      exact (hi.obj i hdi).mono (bel k hk) fun _ _ => rfl
    · rw [cB i k hk hdi hci] at hl
      rw [cB j k hk hdj hcj] at hr
      exact hi.inj i j hdi hdj hij hl hr
    · exact ⟨fun _ hh => hh, fun _ _ => rfl, fun _ hh => .inl hh, rfl, rfl, rfl, Nat.le_refl _, fun _ _ _ => rfl, fun i hh hn => absurd hh hn⟩

theorem region_ok {x : Option Nat} {rnd : Ctx → Nat → List AV → Own → Option (AV × Own)} {callI : Ctx → FuncId → List AV → Own → Option (AV × Own)} (hcI : CallOK P cfg False callI) (hrI : RndOK P cfg False rnd) {ops : Array Oper} {id : Nat} {draw : Bool} {Q : Exit → Act → World → Prop} {D : Nat → Prop} {m : Nat → Loc} {st st' : St} {a : Act} {w : World} (hi : Inv cfg D m C st.o w) (ht : TR D m st a) (h : regionA T cfg call rnd C callI ops draw st = some st')
    (hq : ∀ D' m' a' w', TR D' m' st' a' → Ext cfg C D m st.o w D' m' st'.o w' → Q .normal a' w') : (Code.region id ops draw).wpIn (FR x) 0 P Q a w := by
  cases draw with
  | true => exact draw_ok hT hm hcall hc hi ht h hq
  | false =>
    simp only [regionA, cond_false] at h
    refine wpIn_region ?_
    have := ops_ok hT hcI hrI (Q := Q) (x := x) ops.toList 0 (by simp) hi ht h hq
    simpa [List.range_eq_range'] using this
end
end Go.Ev
end
