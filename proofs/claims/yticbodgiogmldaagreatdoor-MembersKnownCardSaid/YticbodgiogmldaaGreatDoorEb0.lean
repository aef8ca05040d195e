/- A function with loops, from its tree to what its callers see. -/
import Derived.Test.YticbodgiogmldaaGreatDoorEs4
import Derived.Test.YticbodgiogmldaaGreatDoorEa0
set_option linter.all false
namespace Go.Ev
open Go Go.Proofs
noncomputable def fnOf (f : Nat) : Func := match bodyOf tab f with
  | some p => p.1
  | none => default
noncomputable def codeOf (f : Nat) : Code := match bodyOf tab f with
  | some p => p.2
  | none => .skip
noncomputable def lb (f i : Nat) : Code := ((loopsOf (codeOf f)).getD i (0, .skip)).2
abbrev VQ : Type := AX × List AV × Own
abbrev EQ : Type := AV × Own
def noL : Loops := fun _ => none
def addL (L : Loops) (id : Nat) (e : St → Tr (AX × St)) : Loops := fun j => bif Nat.beq j id then some e else L j
abbrev own0 : Own := ⟨0, [], []⟩
noncomputable def endK (ws : List AObj) (f : Nat) (x : AX × St) : Tr EQ := liftK (endA tab (Cw cfg ws) (fnOf f) x) .ret
/-- A round of the i-th loop. -/
noncomputable def rT (S : Sums) (L : Loops) (ws : List AObj) (f i tn : Nat) (rel : List Nat) (vals : List AV) (J : Nat → Value) (o : Own) : Tr VQ := semT tab (cfgS cfg S) (orcS S) L 1000 (Cw cfg ws) (lb f i) (stN tn rel vals J o) (viewK tn rel .ret)
/-- A body. -/
noncomputable def bT (S : Sums) (L : Loops) (ws : List AObj) (f : Nat) (args : List AV) : Tr EQ := semT tab (cfgS cfg S) (orcS S) L 1000 (Cw cfg ws) (codeOf f) (startA (fnOf f) args own0) (endK ws f)
def leNil : List (Nat × AObj) → Bool
  | [] => true
  | _ => false
/-- The end of a function of a plain value. -/
noncomputable def endP (f : Nat) (x : AX × St) : Tr AV := liftK (endA tab (Cw cfg []) (fnOf f) x) fun r => bif leNil r.2.le && (mvA 14 [] 20 r.1).isSome then .ret r.1 else .fail
/-- A body of plain values. -/
noncomputable def pT (S : Sums) (L : Loops) (f : Nat) (args : List AV) : Tr AV := semT tab (cfgS cfg S) (orcS S) L 1000 (Cw cfg []) (codeOf f) (startA (fnOf f) args own0) (endP f)
theorem ro0 : ∀ id, id < cfg.root.n → rwO (cfg.root.at id) = false := by decide
/-- What is left at a function's end. -/
def EndW (ws : List AObj) (v : AV) (news : List AObj) (r : EQ) : Prop := Wk cfg (Cw cfg ws) 0 ⟨.node r.1 .nil .nil, 1, r.2, [], none⟩ fun s => s.o = ⟨news.length, news, []⟩ ∧ s.ts.get 0 = v
theorem EndW.refl {ws : List AObj} {v : AV} {news : List AObj} : EndW ws v news (v, ⟨news.length, news, []⟩) := Wk.refl ⟨rfl, rfl⟩
theorem EndW.of {ws : List AObj} {v v' : AV} {o : Own} {news : List AObj} (h1 : v' = v) (h2 : o = ⟨news.length, news, []⟩) : EndW ws v news (v', o) := by subst h1 h2; exact EndW.refl
theorem lowC0 : LowC (Cw cfg []) := fun id hid => by
  have h14 : id < cfg.root.n := hid
  have : getB (Cw cfg []).B id = cfg.root.at id := by
    simp only [Cw, getB]
    rw [bleF (by omega)]
    simp only [cond_false, leAt]
    rw [ble_iff.2 (Nat.zero_le _), cond_true, Nat.sub_zero]
  rw [this]
  exact ⟨good0.lv.loops id h14, fun i hi => good0.lv.root id h14 i hi⟩
theorem mvA_plain {b : Nat} {ρ : List (Nat × Nat)} : ∀ {d : Nat} {v v' : AV}, mvA b ρ d v = some v' → idsA v = [] → v' = v := by
  intro d
  induction d with
  | zero => intro v v' h; cases h
  | succ d ih =>
    have ihl : ∀ {vs vs' : List AV}, mvL (mvA b ρ d) vs = some vs' → idsL vs = [] → vs' = vs := by
      intro vs
      induction vs with
      | nil => intro vs' h _; cases h; rfl
      | cons v vs ihv =>
        intro vs' h hi
        simp only [mvL, ob_some, Option.some.injEq] at h
        obtain ⟨v1, h1, vs1, h2, rfl⟩ := h
        simp only [idsL, List.append_eq_nil_iff] at hi
        rw [ih h1 hi.1, ihv h2 hi.2]
    intro v v' h hi
    unfold mvA at h
    cases v <;> simp only [ob_some, Option.some.injEq] at h <;> simp only [idsA, List.append_eq_nil_iff, reduceCtorEq, List.cons_ne_self] at hi
    case func f a c => obtain ⟨a', ha, c', hc, rfl⟩ := h; rw [ihl ha hi.1, ihl hc hi.2]
    case iface t u => obtain ⟨u', hu, rfl⟩ := h; rw [ih hu hi]
    case agg cs => obtain ⟨a', ha, rfl⟩ := h; rw [ihl ha hi]
    case tuple cs => obtain ⟨a', ha, rfl⟩ := h; rw [ihl ha hi]
    all_goals exact h.symm
/-- A plain value: all blocks are left. -/
theorem EndW.plain {v v' : AV} {o : Own} (h1 : v' = v) (hi : idsA v = []) (hm : (mvA 14 [] 20 v).isSome = true) (hle : o.le = []) : EndW [] v [] (v', o) := by
  subst h1
  obtain ⟨u, hu⟩ := Option.isSome_iff_exists.1 hm
  have e := mvA_plain hu hi
  subst e
  refine (wk_move good0.lv (C := Cw cfg []) (st := ⟨.node u .nil .nil, 1, o, [], none⟩) (kb := 0) (sel := []) (ts' := .node u .nil .nil) (o' := own0) lowC0 (Nat.zero_le _) (fun s hs => by cases hs) List.nodup_nil (fun p hp => by rw [show (⟨.node u .nil .nil, 1, o, [], none⟩ : St).o = o from rfl, hle] at hp; cases hp) hle.symm rfl rfl (fun i hi => absurd hi (Nat.not_lt_zero i)) (fun t ht => absurd ht (Nat.not_lt_zero t)) ?_ (fun d hd => by cases hd) (fun i hi => by cases hi)).mono fun s hs => ?_
  · have hu' : mvA ((Cw cfg []).lo + 0) (pairs (Cw cfg []).lo 0 []) 20 u = some u := hu
    simp only [mvT, hu', ob]
  · rw [hs]; exact ⟨rfl, rfl⟩
section
variable {S : Sums} (hS : SumsOK Tryz.prog cfg S) {L : Loops} {ws : List AObj}
include hS
theorem lvOK {f i tn : Nat} {rel : List Nat} (htn : natLt tn 1000000 = true) (hrel : allLt tn rel = true) (hL : LOK Tryz.prog (cfgS cfg S) (Cw cfg ws) L (lb f i)) {ι : Type} (vals : ι → List AV) (own : ι → Own) (μ : ι → Nat) (kb : Nat) (hkb : ∀ x, kb ≤ (own x).n) {Q : VQ → Prop}
    (hr : ∀ x J, (rT S L ws f i tn rel (vals x) J (own x)).wp fun q => match q.1 with
      | .normal => ∃ y, μ y < μ x ∧ VW cfg (Cw cfg ws) kb tn rel q.2.1 q.2.2 (vals y) (own y)
      | ax => ∃ vs2 o2, VW cfg (Cw cfg ws) kb tn rel q.2.1 q.2.2 vs2 o2 ∧ Q (ax, vs2, o2)) {vs : List AV} {o : Own} (hk : o.n ≤ kb) (h0 : ∀ J, Wk cfg (Cw cfg ws) kb (stN tn rel vs J o) fun s => ∃ x J', s = stN tn rel (vals x) J' (own x)) (J : Nat → Value) :
    Sem Tryz.prog (cfgS cfg S) (Cw cfg ws) (.loop (lb f i)) (stN tn rel vs J o) fun r => ∃ ax vs' o' J', Q (ax, vs', o') ∧ r = (ax, stN tn rel vs' J' o') := by
  have hW : ∀ {k : Nat} {st : St} {A : St → Prop}, Wk cfg (Cw cfg ws) k st A → Wk (cfgS cfg S) (Cw cfg ws) k st A := fun h D m a w hi ht => by
    obtain ⟨s, D', m', hA, h1, h2, h3, h4, h5⟩ := h D m a w (Inv.to (cfg := cfgS cfg S) (cfg' := cfg) rfl rfl hi) ht
    exact ⟨s, D', m', hA, h1, h2, h3, Inv.to (cfg := cfg) (cfg' := cfgS cfg S) rfl rfl h4, fun D0 m0 o0 w0 ho hl he => Ext.to (cfg := cfg) (cfg' := cfgS cfg S) rfl rfl (h5 D0 m0 o0 w0 ho hl (Ext.to (cfg := cfgS cfg S) (cfg' := cfg) rfl rfl he))⟩
  refine loop_view (base0.good hS) (orcS_ok cfg S) (kb := kb) (n := 1000) (natLt_iff.1 htn) hrel hL vals own μ hkb (fun x J => ?_) hk (fun J => hW (h0 J)) J
  refine Tr.wp_mono (fun q hq => ?_) (hr x J)
  revert hq
  cases q.1 with
  | normal => exact fun ⟨y, hy, hv⟩ => ⟨y, hy, fun J => hW (hv J)⟩
  | exit id => exact fun ⟨vs2, o2, hv, h⟩ => ⟨vs2, o2, fun J => hW (hv J), h⟩
  | ret => exact fun ⟨vs2, o2, hv, h⟩ => ⟨vs2, o2, fun J => hW (hv J), h⟩
/-- A known function, from its body's tree. -/
theorem fwOK {f : Nat} {args : List AV} {v : AV} {news : List AObj} (hb : bodyOf tab f = some (fnOf f, codeOf f)) (hlen : args.length ≤ 1000) (hL : LOK Tryz.prog (cfgS cfg S) (Cw cfg ws) L (codeOf f))
    (h : (bT S L ws f args).wp (EndW ws v news)) : FactW Tryz.prog cfg f args ws v news := by
  refine base0.wsem hS hb hlen ((semT_ok (base0.good hS) (orcS_ok cfg S) hL h).mono fun x hx => ?_)
  have hx : (endK ws f x).wp (EndW ws v news) := hx
  unfold endK at hx
  cases he : endA tab (Cw cfg ws) (fnOf f) x with
  | none => rw [he] at hx; exact hx.elim
  | some r => rw [he] at hx; exact ⟨r, rfl, hx⟩
end
/-- A known function of plain values, from its body's tree. -/
theorem fpOK {S : Sums} (hS : SumsOK Tryz.prog cfg S) {L : Loops} {f : Nat} {args : List AV} {v : AV} (hb : bodyOf tab f = some (fnOf f, codeOf f)) (hlen : args.length ≤ 1000) (hL : LOK Tryz.prog (cfgS cfg S) (Cw cfg []) L (codeOf f))
    (h : (pT S L f args).wp (· = v)) (hi : idsA v = []) : FactW Tryz.prog cfg f args [] v [] := by
  refine base0.wsem hS hb hlen ((semT_ok (base0.good hS) (orcS_ok cfg S) hL h).mono fun x hx => ?_)
  have hx : (endP f x).wp (· = v) := hx
  unfold endP at hx
  cases he : endA tab (Cw cfg []) (fnOf f) x with
  | none => rw [he] at hx; exact hx.elim
  | some r =>
    rw [he] at hx
    have hx : (bif leNil r.2.le && (mvA 14 [] 20 r.1).isSome then Tr.ret r.1 else .fail).wp (· = v) := hx
    cases hb : (leNil r.2.le && (mvA 14 [] 20 r.1).isSome) with
    | false => rw [hb] at hx; exact hx.elim
    | true =>
      rw [hb, cond_true] at hx
      have hx : r.1 = v := hx
      rw [Bool.and_eq_true] at hb
      have hle : r.2.le = [] := by
        have := hb.1
        cases hr : r.2.le with
        | nil => rfl
        | cons a b => rw [hr] at this; cases this
      exact ⟨r, rfl, EndW.plain hx hi (by rw [← hx]; exact hb.2) hle⟩
theorem asrt_wp {R : Type} {b : Bool} {t : Tr R} {Q : R → Prop} (h : (asrt b t).wp Q) : b = true ∧ t.wp Q := by
  cases b with
  | true => exact ⟨rfl, h⟩
  | false => exact h.elim
/-- Values for what is forgotten. -/
def jv (l : List Value) (j : Nat) : Value := l.getD j undef
def asrts {R : Type} : List Bool → Tr R → Tr R
  | [], t => t
  | c :: cs, t => asrt c (asrts cs t)
theorem asrts_wp {R : Type} {c : Bool} {cs : List Bool} {t : Tr R} {Q : R → Prop} (h : (asrts (c :: cs) t).wp Q) : c = true ∧ (asrts cs t).wp Q := asrt_wp h
theorem asrts_run {R : Type} {c : Bool} {cs : List Bool} {t : Tr R} {s : R} (h : (asrts (c :: cs) t).run = some s) : c = true ∧ (asrts cs t).run = some s := asrt_run h
theorem wp_gen {R : Type} {t : Tr R} {Q : R → Prop} (h : ∀ Q' : R → Prop, (∀ q, Q q → Q' q) → t.wp Q') : t.wp Q := h Q fun _ h => h
theorem lok_none {P : Program} {C : Ctx} {cfg' : Cfg} {c : Code} : LOK P cfg' C noL c := lok_of fun p _ e he => by cases he
/-- Loops by their places. -/
theorem lok_at {P : Program} {C : Ctx} {cfg' : Cfg} {L : Loops} {c : Code} {ids : List Nat} (hids : (loopsOf c).map (·.1) = ids) (h : ∀ i, i < ids.length → ∀ e, L (ids.getD i 0) = some e → ∀ st Q, (e st).wp Q → Sem P cfg' C (.loop ((loopsOf c).getD i (0, .skip)).2) st Q) : LOK P cfg' C L c := by
  refine lok_of fun p hp e he st Q hw => ?_
  obtain ⟨i, hi⟩ := List.getElem?_of_mem hp
  have hlen : i < (loopsOf c).length := (List.getElem?_eq_some_iff.1 hi).1
  have hid : ids.getD i 0 = p.1 := by
    rw [← hids, List.getD_eq_getElem?_getD, List.getElem?_map, hi]; rfl
  have := h i (by rw [← hids]; simpa using hlen) e (by rw [hid]; exact he) st Q hw
  rw [List.getD_eq_getElem?_getD, hi] at this
  exact this
/- strings -/
theorem take_snoc {s : List UInt8} {i : Nat} (h : i < s.length) : s.take (i + 1) = s.take i ++ [s.getD i 0] := by
  rw [List.take_add_one, List.getElem?_eq_getElem h, List.getD_eq_getElem?_getD, List.getElem?_eq_getElem h]; rfl
theorem take_len {α : Type} (s : List α) : s.take s.length = s := List.take_length
/-- A known function of plain values, as one that makes nothing. -/
def plainW (e : Sum) : WSum := fun args ws => match ws with
  | [] => ob (e args) fun t => some (t.bind fun v => .ret (v, []))
  | _ => none
theorem plainW_ok {P : Program} {f : Nat} {e : Sum} (h : ∀ args t v, e args = some t → t.run = some v → FactW P cfg f args [] v []) : GSumOK P cfg f (winS cfg.root.n [] (plainW e)) := by
  refine win_ok good0.lv ro0 fun args ws t r ht hr => ?_
  unfold plainW at ht
  split at ht
  · rw [ob_some] at ht
    obtain ⟨t0, h0, ht⟩ := ht
    cases ht
    obtain ⟨v, hv, h2⟩ := Tr.run_bind hr
    cases h2
    exact ⟨h args t0 v h0 hv, fun x hx => by cases hx⟩
  · cases ht
def addP (S : Sums) (f : Nat) (e : Sum) : Sums := addG S f (winS 14 [] (plainW e))
theorem sums_addP {S : Sums} {f : Nat} {e : Sum} (h : SumsOK Tryz.prog cfg S) (he : ∀ args t v, e args = some t → t.run = some v → FactW Tryz.prog cfg f args [] v []) : SumsOK Tryz.prog cfg (addP S f e) := sums_addG h (plainW_ok he)
end Go.Ev
