/- Calls and bodies hold of the machine. -/
import Derived.Test.YticbodgiogmldaaGreatDoorEw27
set_option linter.all false
namespace Go.Ev
open Go Go.RowKit

section
variable {P : Program} {T : Tab} (hT : TabOK P T) {cfg : Cfg} (hK : CfgOK cfg) {code : Ctx → Code → St → Option (AX × St)} (hcode : CodeOK P cfg code) (hll : CodeLL code)
include hT hK hcode hll
theorem callP_ok {f : FuncId} {fn : Func} {c : Code} (hb : bodyOf T f = some (fn, c)) {C : Ctx} {D : Nat → Prop} {m : Nat → Loc} {args : List AV} {o : Own} {w : World} {v : AV} (hbl : belowL cfg.root.n args = true) (h : callP T cfg code fn c args = some v)
    (hi : Inv cfg D m C o w) (hok : okL D m args) : CallS P f (concL m args).toArray w fun V w' => V = conc m v ∧ okV D m v ∧ Ext cfg C D m o w D m o w' ∧ Mute D w D m w' := by
  simp only [callP, ob_some, ok_some, Option.some.injEq] at h
  obtain ⟨r, he, hbe, rfl⟩ := h
  have hg : ∀ id, id < cfg.root.n → get ⟨[(0, cfg.root)], cfg.root.n⟩ ⟨0, [], []⟩ id = cfg.root.at id := fun id hid => by
    rw [get, getB, bleF (by omega : ¬ cfg.root.n ≤ id)]
    simp only [cond_false, leAt, getB]
    rw [ble_iff.2 (Nat.zero_le _), cond_true, Nat.sub_zero]
  have hi0 : Inv cfg (fun id => D id ∧ id < cfg.root.n) m ⟨[(0, cfg.root)], cfg.root.n⟩ ⟨0, [], []⟩ w := by
    refine ⟨fun id hd => ?_, fun i j hdi hdj hij hl hr => ?_, fun id hd => hd.2, fun g hg' => ?_, fun id hid => ?_, fun id hid => (by cases hid), Nat.le_refl _, rfl⟩
    · rw [hg id hd.2, ← (hi.root id hd.2).2]
      refine (hi.obj id hd.1).narrow (by rw [(hi.root id hd.2).2]; exact hK.loops id hd.2) fun i hm hD => ⟨hD, ?_⟩
      rw [(hi.root id hd.2).2] at hm
      exact hK.root id hd.2 i hm
    · rw [hg i hdi.2, ← (hi.root i hdi.2).2] at hl
      rw [hg j hdj.2, ← (hi.root j hdj.2).2] at hr
      exact hi.inj i j hdi.1 hdj.1 hij hl hr
    · obtain ⟨a1, a2, a3⟩ := hi.glob g hg'
      exact ⟨⟨a1, Nat.lt_of_lt_of_le hg' hK.G⟩, a2, a3⟩
    · exact ⟨⟨(hi.root id hid).1, hid⟩, hg id hid⟩
  refine .inl (enter_ok hT hcode hb he hi0 (fun i hm => ⟨⟨(hok i hm).1, belowL_ok hbl i hm⟩, (hok i hm).2⟩) fun D' m' w' hv hx => ?_)
  refine quiet_back hi hx (fun i hd => hd.1) (fun i hd hs => ?_) hv fun i hm hd' => ?_
  · unfold own? at hs
    rw [bleF (by have := hd.2; simp only; omega)] at hs
    simp [leAt] at hs
  · rcases hx.new i.1 hd' with hd | hge
    · exact hd
    · have := belowA_ok 20 hbe i hm
      simp only at hge
      omega

theorem callN_ok {f : FuncId} {fn : Func} {c : Code} (hb : bodyOf T f = some (fn, c)) {C : Ctx} {D : Nat → Prop} {m : Nat → Loc} {args : List AV} {o : Own} {w : World} {ids : List Nat} (hids : ∀ i ∈ ids, D i) {r : AV × Own} (h : callN T code C fn c args o (lendA C o ids) = some r)
    (hi : Inv cfg D m C o w) (hok : okL D m args) :
    CallS P f (concL m args).toArray w fun V w' => ∃ D' m', V = conc m' r.1 ∧ okV D' m' r.1 ∧ Ext cfg C D m o w D' m' r.2 w' ∧ (ids = [] → Mute D w D' m' w') := by
  simp only [callN, ob_some, Option.some.injEq] at h
  obtain ⟨r1, he, rfl⟩ := h
  have hlo := hi.lo
  have hleD : ∀ p ∈ lendA C o ids, D p.1 ∧ own? C o p.1 = some p.2 := fun p hp => ⟨hids _ (lendA_ids hp).1, (lendA_ids hp).2⟩
  have hleg : ∀ (le : List (Nat × AObj)) id x, leAt le id = some x → ∃ p ∈ le, p = (id, x) := by
    intro le
    induction le with
    | nil => intro id x h; cases h
    | cons p le ih =>
      intro id x h
      rw [leAt] at h
      by_cases e : p.1 = id
      · rw [beqT e, cond_true, Option.some.injEq] at h
        exact ⟨p, List.mem_cons_self, by rw [← e, ← h]⟩
      · rw [beqF e, cond_false] at h
        obtain ⟨q, hq, e'⟩ := ih id x h
        exact ⟨q, List.mem_cons_of_mem _ hq, e'⟩
  have hC1 : ∀ (o1 : Own) id, id < C.lo + o.n → get ⟨(C.lo, o) :: C.B, C.lo + o.n⟩ o1 id = (match leAt o1.le id with
      | some x => x
      | none => get C o id) := fun o1 id hid => by
    rw [get, getB, bleF (by simp only; omega)]
    rfl
  have hg : ∀ id, id < C.lo + o.n → get ⟨(C.lo, o) :: C.B, C.lo + o.n⟩ ⟨0, [], lendA C o ids⟩ id = get C o id := fun id hid => by
    rw [hC1 _ id hid]
    simp only
    cases hx : leAt (lendA C o ids) id with
    | none => rfl
    | some x =>
      obtain ⟨p, hp, e⟩ := hleg _ _ _ hx
      have := (hleD p hp).2
      rw [e] at this
      exact (own_get this).symm
  have hown : ∀ id, D id → (own? ⟨(C.lo, o) :: C.B, C.lo + o.n⟩ ⟨0, [], lendA C o ids⟩ id).isSome = true → id ∈ ids ∧ (own? C o id).isSome = true := fun id hd hs => by
    unfold own? at hs
    rw [bleF (by have := hi.lt id hd; simp only; omega)] at hs
    simp only [cond_false] at hs
    obtain ⟨p, hp, e⟩ := List.mem_map.1 (leAt_isSome.1 hs)
    rw [← e]
    exact ⟨(lendA_ids hp).1, by rw [(hleD p hp).2]; rfl⟩
  have hi1 : Inv cfg D m ⟨(C.lo, o) :: C.B, C.lo + o.n⟩ ⟨0, [], lendA C o ids⟩ w := by
    refine ⟨fun id hd => ?_, fun i j hdi hdj hij hl hr => ?_, fun id hd => hi.lt id hd, hi.glob, fun id hid => ?_, fun id hid => ?_, by simp only; omega, rfl⟩
    · rw [hg id (hi.lt id hd)]; exact hi.obj id hd
    · rw [hg i (hi.lt i hdi)] at hl
      rw [hg j (hi.lt j hdj)] at hr
      exact hi.inj i j hdi hdj hij hl hr
    · rw [hg id (hi.lt id (hi.root id hid).1)]; exact hi.root id hid
    · obtain ⟨p, hp, e⟩ := List.mem_map.1 hid
      obtain ⟨hd, ho⟩ := hleD p hp
      rw [← e]
      refine ⟨?_, hi.lt p.1 hd⟩
      unfold own? at ho
      by_cases hb' : C.lo ≤ p.1
      · omega
      · rw [bleF hb', cond_false] at ho
        exact (hi.le p.1 (leAt_isSome.1 (by rw [ho]; rfl))).1
  refine .inl (enter_ok hT hcode hb he hi1 hok fun D' m' w' hv hx => ?_)
  obtain ⟨hl1, hl2⟩ := enterA_ll hll he rfl
  simp only at hl2
  -- the blocks of the level that has ended, taken over
  have take : ∀ o2 : Own, o2.n = r1.2.n + o.n → o2.le.map (·.1) = o.le.map (·.1) → o2.os.length = o2.n → (∀ id, D' id → get C o2 id = get ⟨(C.lo, o) :: C.B, C.lo + o.n⟩ r1.2 id) →
      Ext cfg C D m o w D' m' o2 w' := by
    intro o2 hn hle hlen hget
    have hi2 : Inv cfg D' m' C o2 w' := by
      refine ⟨fun id hd => by rw [hget id hd]; exact hx.inv.obj id hd, fun i j hdi hdj hij hl hr => ?_, fun id hd => ?_, hx.inv.glob, fun id hid => ?_, fun id hid => ?_, hi.lo, hlen⟩
      · rw [hget i hdi] at hl
        rw [hget j hdj] at hr
        exact hx.inv.inj i j hdi hdj hij hl hr
      · have := hx.inv.lt id hd
        simp only at this
        omega
      · rw [hget id (hx.inv.root id hid).1]; exact hx.inv.root id hid
      · rw [hle] at hid; exact hi.le id hid
    refine ⟨hi2, hx.sub, hx.same, fun i hd => ?_, by omega, hx.os, hx.tape, hx.output, hx.size, fun k hk hn => hx.frame k hk fun i hd hs => hn i hd (hown i hd hs).2, hle, fun i hd hnd => ?_⟩
    · have := hx.new i hd
      simpa using this
    · rcases hx.fresh i hd hnd with hf | ⟨j, hj, hoj, e⟩
      · exact .inl hf
      · exact .inr ⟨j, hj, (hown j hj hoj).2, e⟩
  have mute : ids = [] → Mute D w D' m' w' := fun e => by
    have hno : ∀ i, D i → (own? ⟨(C.lo, o) :: C.B, C.lo + o.n⟩ ⟨0, [], lendA C o ids⟩ i).isSome = true → False := fun i hd hs => by
      have := (hown i hd hs).1
      rw [e] at this; cases this
    exact ⟨fun k hk => hx.frame k hk fun i hd hs => (hno i hd hs).elim, fun i hd hnd => (hx.fresh i hd hnd).resolve_right fun ⟨j, hj, hoj, _⟩ => hno j hj hoj⟩
  have hgrown : ∀ id, D' id → leAt r1.2.le id = none → get C (grown r1.2 o) id = get ⟨(C.lo, o) :: C.B, C.lo + o.n⟩ r1.2 id := fun id hd hle => by
    by_cases hid : id < C.lo + o.n
    · rw [grown_old hl1 hid, hC1 _ id hid, hle]
    · have hlt := hx.inv.lt id hd
      simp only at hlt
      rw [grown_new hl1 (by omega) (by omega), get, getB, ble_iff.2 (by simp only; omega), cond_true]
  unfold afterA
  cases hle : lendA C o ids with
  | nil =>
    rw [hle] at hl2
    have hle2 : r1.2.le = [] := by simpa using hl2
    simp only
    cases hbe : belowA (C.lo + o.n) 20 r1.1 with
    | true =>
      simp only [cond_true]
      obtain ⟨h1, h2, h3, h4⟩ := quiet_back hi hx (fun i hd => hd) (fun i hd hs => by
        unfold own? at hs
        rw [bleF (by have := hi.lt i hd; simp only; omega), hle] at hs
        simp [leAt] at hs) hv fun i hm hd' => by
          rcases hx.new i.1 hd' with hd | hge
          · exact hd
          · have := belowA_ok 20 hbe i hm
            simp only at hge
            omega
      exact ⟨D, m, h1, h2, h3, fun _ => h4⟩
    | false =>
      simp only [cond_false]
      refine ⟨D', m', rfl, hv, take _ rfl rfl (by simp [hl1, hi.len]) fun id hd => ?_, mute⟩
      exact hgrown id hd (by rw [hle2]; rfl)
  | cons p ps =>
    simp only
    obtain ⟨b1, b2, b3⟩ := backA_n (C := C) (l := r1.2.le) (o := grown r1.2 o)
    have hgl : (grown r1.2 o).os.length = (grown r1.2 o).n := by simp [grown, hl1, hi.len]
    refine ⟨D', m', rfl, hv, take _ b1 b2 (b3 hgl) fun id hd => ?_, mute⟩
    have hlt := hx.inv.lt id hd
    simp only at hlt
    have hnd : (r1.2.le.map (·.1)).Nodup := by rw [hl2]; exact lendA_nodup
    have hpp : ∀ q ∈ r1.2.le, q.1 < C.lo + (grown r1.2 o).n ∧ (own? C (grown r1.2 o) q.1).isSome = true := fun q hq => by
      have : q.1 ∈ (lendA C o ids).map (·.1) := by rw [← hl2]; exact List.mem_map.2 ⟨q, hq, rfl⟩
      obtain ⟨q', hq', e⟩ := List.mem_map.1 this
      obtain ⟨hd', ho'⟩ := hleD q' hq'
      have hlt' := hi.lt q'.1 hd'
      rw [← e]
      refine ⟨by simp only [grown]; omega, ?_⟩
      rw [show (own? C (grown r1.2 o) q'.1).isSome = (own? C o q'.1).isSome from own_isSome (o := o) (o' := grown r1.2 o) rfl q'.1, ho']; rfl
    have := backA_get (i := id) hgl hnd hpp (by simp only [grown]; omega)
    rw [show (⟨r1.2.n + o.n, r1.2.os ++ o.os, o.le⟩ : Own) = grown r1.2 o from rfl, this]
    cases hx' : leAt r1.2.le id with
    | none => exact hgrown id hd hx'
    | some y =>
      simp only
      have hid : id < C.lo + o.n := by
        have : id ∈ r1.2.le.map (·.1) := leAt_isSome.1 (by rw [hx']; rfl)
        rw [hl2] at this
        obtain ⟨q', hq', e⟩ := List.mem_map.1 this
        rw [← e]
        exact hi.lt q'.1 (hleD q' hq').1
      rw [hC1 _ id hid, hx']

theorem callA_ok {inl : Bool} {mu : Prop} (hmu : inl = true → ¬ mu) (horc : CallOK P cfg True fun C f args o => cfg.orc f C args o) : CallOK P cfg mu (callA T cfg inl code) := by
  intro C f args o r h D m w hi hok
  unfold callA at h
  cases ho : cfg.orc f C args o with
  | some r' =>
    rw [ho] at h
    cases h
    exact (horc C f args o r ho D m w hi hok).mono fun V w' ⟨D', m', h1, h2, h3, h4⟩ => ⟨D', m', h1, h2, h3, fun _ => h4 trivial⟩
  | none =>
    rw [ho] at h
    simp only [callF, ob_some] at h
    obtain ⟨⟨fn, c⟩, hb, h⟩ := h
    cases hc : (cfg.canon f && belowL cfg.root.n args) with
    | true =>
      simp only [hc, cond_true, ob_some, Option.some.injEq] at h
      obtain ⟨v, hv, rfl⟩ := h
      rw [Bool.and_eq_true] at hc
      exact (callP_ok hT hK hcode hll hb hc.2 hv hi hok).mono fun V w' ⟨h1, h2, h3, h4⟩ => ⟨D, m, h1, h2, h3, fun _ _ => h4⟩
    | false =>
      simp only [hc, cond_false, callL] at h
      cases hy : (inl && anyYL args) with
      | true =>
        rw [hy, cond_true] at h
        rw [Bool.and_eq_true] at hy
        exact .inl (enter_ok hT hcode hb h hi hok fun D' m' w' hv hx => ⟨D', m', rfl, hv, hx, fun hm => (hmu hy.1 hm).elim⟩)
      | false =>
        rw [hy, cond_false] at h
        exact (callN_ok hT hK hcode hll hb (fun i hm => namesAt_ok hok hm) h hi hok).mono fun V w' ⟨D', m', h1, h2, h3, h4⟩ => ⟨D', m', h1, h2, h3, fun _ => h4⟩
end

theorem setPs_ok {D : Nat → Prop} {m : Nat → Loc} {tn : Nat} : ∀ {ps : List Tmp} {vs : List AV} {tmps : Array Value} {ts ts' : Ts}, setPs tn ts ps vs = some ts' → tmps.size = tn → (∀ t, tmps.getD t undef = conc m (ts.get t)) → (∀ t, okV D m (ts.get t)) → okL D m vs →
    (((ps.zip (concL m vs)).foldl (fun tmps (p : Tmp × Value) => tmps.setIfInBounds p.1 p.2) tmps).size = tn ∧ (∀ t, ((ps.zip (concL m vs)).foldl (fun tmps (p : Tmp × Value) => tmps.setIfInBounds p.1 p.2) tmps).getD t undef = conc m (ts'.get t)) ∧ ∀ t, okV D m (ts'.get t)) ∧ ps.length = vs.length
  | [], [], tmps, ts, ts', h, h1, h2, h3, _ => by cases h; exact ⟨⟨by simpa [concL] using h1, fun t => by simpa [concL] using h2 t, h3⟩, rfl⟩
  | p :: ps, v :: vs, tmps, ts, ts', h, h1, h2, h3, h4 => by
    simp only [setPs, ok_some, Bool.and_eq_true, natLt_iff] at h
    obtain ⟨⟨hp1, hp2⟩, h⟩ := h
    obtain ⟨hv, hvs⟩ := okL_cons.1 h4
    have hd : p < 2 ^ 20 - 1 := Nat.lt_of_lt_of_le hp2 (by decide)
    obtain ⟨a, b⟩ := setPs_ok (tmps := tmps.setIfInBounds p (conc m v)) h (by simp [h1]) (fun t => by
      rw [Ts.get_set 20 _ _ _ _ hd]
      have := h2 t
      by_cases e : t = p
      · subst e
        rw [if_pos rfl]
        simp [Array.getD, h1, hp1]
      · rw [if_neg e, ← this]
        simp only [Array.getD, Array.size_setIfInBounds]
        split
        · rw [Array.getInternal_eq_getElem, Array.getInternal_eq_getElem, Array.getElem_setIfInBounds_ne (h := fun e' => e e'.symm)]
        · rfl) (fun t => by
      rw [Ts.get_set 20 _ _ _ _ hd]
      split
      · exact hv
      · exact h3 t) hvs
    refine ⟨?_, by simp [b]⟩
    simpa [concL] using a
  | [], _ :: _, _, _, _, h, _, _, _, _ => by cases h
  | _ :: _, [], _, _, _, h, _, _, _, _ => by cases h

theorem foldl_zip {α β γ : Type} (f : γ → α → β → γ) (xs : Array α) (ys : List β) (z : γ) : (xs.zip ys.toArray).foldl (fun c (x, y) => f c x y) z = (xs.toList.zip ys).foldl (fun c p => f c p.1 p.2) z := by
  rw [← Array.foldl_toList]
  simp

section
variable {P : Program} {cfg : Cfg} {code : Ctx → Code → St → Option (AX × St)} (hcode : CodeOK P cfg code) (hll : CodeLL code)
include hcode hll
theorem roundA_ok : RndOK P cfg False (roundA code) := by
  intro C id args o r h
  refine ⟨fun hf => hf, fun D m w hi hd hok => ?_⟩
  simp only [roundA, ob_some] at h
  obtain ⟨q, hq, ts, hts, x, hx, h⟩ := h
  simp only [beginRoundA, ok_some, ob_some] at h
  obtain ⟨hn, q1, hq1, hrd, x2, hx2, h⟩ := h
  simp only [endRoundA, ob_some, Option.some.injEq] at h
  obtain ⟨q2, hq2, rfl⟩ := h
  have hown := loopAt_some hq
  obtain ⟨fn, tmps, hb, hrel⟩ : ∃ fn tmps, w.heap[(m id).blk]? = some (.loop (loopOf m q fn tmps)) ∧ LoopRel D m q fn tmps := by
    have := hi.obj id hd
    rw [own_get hown] at this
    exact this
  obtain ⟨⟨s1, s2, s3⟩, s4⟩ := setPs_ok hts hrel.size hrel.at' hrel.okt hok
  have hsz : (concL m args).toArray.size = (loopOf m q fn tmps).params.size := by
    have : (concL m args).length = args.length := concL_len
    simp only [List.size_toArray, this, loopOf, ← s4, Array.length_toList]
  refine ⟨_, _, _, _, run_yield hb hsz, ?_⟩
  refine roundIn_of_wpIn (F := Fence.wide) trivial ?_
  have hT0 : TR D m ⟨ts, q.tn, o, [], some id⟩ { tmps := ((loopOf m q fn tmps).params.zip (concL m args).toArray).foldl (fun tmps (t, a) => tmps.setIfInBounds t a) (loopOf m q fn tmps).tmps, defers := [] } := by
    have e := foldl_zip (fun (c : Array Value) (t : Tmp) (a : Value) => c.setIfInBounds t a) (loopOf m q fn tmps).params (concL m args) (loopOf m q fn tmps).tmps
    refine ⟨?_, fun t => ?_, s3, rfl, fun d hd => (by cases hd), fun i hi => (by cases hi; exact hd)⟩
    · rw [e]; exact s1
    · rw [e]; exact s2 t
  refine hcode C q.assign ⟨ts, q.tn, o, [], some id⟩ x hx D m _ w hi hT0 _ fun D1 m1 a1 w1 ht1 he1 => ?_
  have hx1 : x.1 = .normal := by cases hxe : x.1 <;> rw [hxe] at hn <;> first | rfl | cases hn
  rw [hx1]
  have hd1 := he1.sub id hd
  have hm1 := he1.same id hd
  have hown1 := loopAt_some hq1
  obtain ⟨fn1, tmps1, hb1, hrel1⟩ : ∃ fn tmps, w1.heap[(m1 id).blk]? = some (.loop (loopOf m1 q1 fn tmps)) ∧ LoopRel D1 m1 q1 fn tmps := by
    have := he1.inv.obj id hd1
    rw [own_get hown1] at this
    exact this
  have hlt1 := (Array.getElem?_eq_some_iff.1 hb1).1
  have hst : (loopOf m1 q1 fn1 tmps1).state = .ready := by
    show q1.state = .ready
    cases hs : q1.state <;> rw [hs] at hrd <;> first | rfl | cases hrd
  have hbr := run_beginRound (P := P) hb1 hst
  have he2 : Ext cfg C D1 m1 x.2.o w1 D1 m1 (putO C x.2.o id (.loop ⟨.busy, q1.pend, q1.ts, q1.tn, q1.params, q1.assign, q1.body, q1.defs⟩)) (w1.putObj (m1 id).blk (.loop { loopOf m1 q1 fn1 tmps1 with state := .busy })) :=
    Ext.put he1.inv hd1 hown1 rfl (by simp) (fun k hk => World.putObj_heap_other hk) ⟨fn1, tmps1, World.putObj_heap_same hlt1, ⟨hrel1.size, hrel1.at', hrel1.okt, hrel1.defs⟩⟩ rfl rfl rfl
  show ∃ w₂, (Instr.beginRound (m id).blk).run P w1 = .ok () w₂ ∧ _
  rw [← hm1]
  refine ⟨_, hbr, ?_⟩
  have hro : roB m1 x.2.ro = some (m1 id).blk := by rw [(hll _ _ _ _ hx).2]; rfl
  have hbody := hcode C q.body ⟨x.2.ts, x.2.tn, putO C x.2.o id (.loop ⟨.busy, q1.pend, q1.ts, q1.tn, q1.params, q1.assign, q1.body, q1.defs⟩), x.2.ds, x.2.ro⟩ x2 hx2 D1 m1 a1 _ he2.inv ⟨ht1.size, ht1.at', ht1.okt, ht1.defers, ht1.dsD, ht1.roD⟩
    (roundPost P (m1 id).blk fun e w' => ∃ v, e = .returned v ∧ ∃ D' m', v = conc m' (.bool (isNorm x2.1)) ∧ okV D' m' (.bool (isNorm x2.1)) ∧ Ext cfg C D m o w D' m' (putO C x2.2.o id (.loop ⟨endState x2.1, jumpOf x2.1, q2.ts, q2.tn, q2.params, q2.assign, q2.body, q2.defs⟩)) w')
  rw [hro] at hbody
  refine hbody fun D3 m3 a3 w3 ht3 he3 => ?_
  have hd3 := he3.sub id hd1
  have hm3 := he3.same id hd1
  have hown3 := loopAt_some hq2
  obtain ⟨fn3, tmps3, hb3, hrel3⟩ : ∃ fn tmps, w3.heap[(m3 id).blk]? = some (.loop (loopOf m3 q2 fn tmps)) ∧ LoopRel D3 m3 q2 fn tmps := by
    have := he3.inv.obj id hd3
    rw [own_get hown3] at this
    exact this
  have hlt3 := (Array.getElem?_eq_some_iff.1 hb3).1
  have he4 : Ext cfg C D3 m3 x2.2.o w3 D3 m3 (putO C x2.2.o id (.loop ⟨endState x2.1, jumpOf x2.1, q2.ts, q2.tn, q2.params, q2.assign, q2.body, q2.defs⟩)) (w3.putObj (m3 id).blk (.loop { loopOf m3 q2 fn3 tmps3 with state := endState x2.1, pending := jumpOf x2.1 })) :=
    Ext.put he3.inv hd3 hown3 rfl (by simp) (fun k hk => World.putObj_heap_other hk) ⟨fn3, tmps3, World.putObj_heap_same hlt3, ⟨hrel3.size, hrel3.at', hrel3.okt, hrel3.defs⟩⟩ rfl rfl rfl
  have hall := he1.trans (he2.trans (he3.trans he4))
  rw [← hm3]
  have hend : ∀ j : Option Code, j = jumpOf x2.1 → ∃ v w', (Instr.endRound (m3 id).blk j).run P w3 = .ok v w' ∧ ∃ v', Ending.returned v = .returned v' ∧ ∃ D' m', v' = conc m' (.bool (isNorm x2.1)) ∧ okV D' m' (.bool (isNorm x2.1)) ∧ Ext cfg C D m o w D' m' (putO C x2.2.o id (.loop ⟨endState x2.1, jumpOf x2.1, q2.ts, q2.tn, q2.params, q2.assign, q2.body, q2.defs⟩)) w' := by
    rintro j rfl
    have hbool : (jumpOf x2.1).isNone = isNorm x2.1 := by cases x2.1 <;> rfl
    have hstate : (if (jumpOf x2.1).isNone then LoopState.ready else LoopState.done) = endState x2.1 := by cases x2.1 <;> rfl
    have hr := run_endRound (P := P) (jumpOf x2.1) hb3
    rw [hbool] at hr
    rw [hbool] at hstate
    rw [hstate] at hr
    exact ⟨_, _, hr, _, rfl, D3, m3, by simp [conc], okV_none (by simp [idsA]), hall⟩
  cases hxe : x2.1 with
  | normal => rw [hxe] at hend; exact hend none rfl
  | ret => rw [hxe] at hend; exact hend (some .ret) rfl
  | exit j => rw [hxe] at hend; exact hend (some (.exit j)) rfl
end
end Go.Ev
