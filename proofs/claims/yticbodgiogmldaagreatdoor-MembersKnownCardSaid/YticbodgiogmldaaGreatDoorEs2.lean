/- Pieces of a body, one behind the other: what each comes to, said of the reckoner's states; loops by their rounds. A state said in another way: temporaries that no one wants are forgotten; blocks that no one wants are left, and the names of the others told anew. -/
import Derived.Test.YticbodgiogmldaaGreatDoorEw31
import Derived.LoopNIn
section
set_option linter.all false
namespace Go.Ev
open Go Go.RowKit

/-- Whatever the machine comes to, some r of Q stands for it. -/
def Sem (P : Program) (cfg : Cfg) (C : Ctx) (c : Code) (st : St) (Q : AX × St → Prop) : Prop :=
  ∀ D m a w, Inv cfg D m C st.o w → TR D m st a → ∀ K : Exit → Act → World → Prop,
    (∀ r, Q r → r.2.ro = st.ro → ∀ D' m' a' w', TR D' m' r.2 a' → Ext cfg C D m st.o w D' m' r.2.o w' → K (exitOf r.1) a' w') → c.wpIn (FR (roB m st.ro)) 0 P K a w
def thenQ (F : St → Prop) (Q : AX × St → Prop) (r : AX × St) : Prop := match r.1 with
  | .normal => F r.2
  | _ => Q r

section
variable {P : Program} {cfg : Cfg} {C : Ctx} {st : St} {Q : AX × St → Prop}
theorem Sem.mono {c : Code} {Q' : AX × St → Prop} (h : Sem P cfg C c st Q) (hq : ∀ r, Q r → Q' r) : Sem P cfg C c st Q' := fun D m a w hi ht K hK => h D m a w hi ht K fun r hr => hK r (hq r hr)
theorem sem_code {T : Tab} (g : Good P T cfg) {n : Nat} {c : Code} {r : AX × St} (h : codeA T cfg n C c st = some r) (hq : Q r) : Sem P cfg C c st Q := fun D m a w hi ht K hK =>
  (code_ok g.tab g.mixed g.lv g.orc g.foot n).1 C c st r h D m a w hi ht K fun D' m' a' w' ht' he => hK r hq (code_ll g.foot n C c st r h).2 D' m' a' w' ht' he
theorem sem_seq {c1 c2 : Code} (h : Sem P cfg C c1 st (thenQ (fun st' => Sem P cfg C c2 st' Q) Q)) : Sem P cfg C (.seq c1 c2) st Q := by
  intro D m a w hi ht K hK
  refine wpIn_seq (h D m a w hi ht _ fun r hr hro D' m' a' w' ht' he => ?_)
  have fr : roB m' r.2.ro = roB m st.ro := by rw [hro, roB_same ht.roD he.same]
  unfold thenQ at hr
  cases hx : r.1 with
  | normal =>
    rw [hx] at hr
    have := hr D' m' a' w' he.inv ht' K fun r2 hr2 hro2 D2 m2 a2 w2 ht2 he2 => hK r2 hr2 (hro2.trans hro) D2 m2 a2 w2 ht2 (he.trans he2)
    rw [fr] at this
    exact this
  | exit id => rw [hx] at hr; have := hK r hr hro D' m' a' w' ht' he; rw [hx] at this; exact this
  | ret => rw [hx] at hr; have := hK r hr hro D' m' a' w' ht' he; rw [hx] at this; exact this
theorem sem_block {id : Nat} {b : Code} (h : Sem P cfg C b st fun r => Q (leaveA id r)) : Sem P cfg C (.block id b) st Q := by
  intro D m a w hi ht K hK
  refine wpIn_block (h D m a w hi ht _ fun r hr hro D' m' a' w' ht' he => ?_)
  have hr : Q (leaveA id r) := hr
  unfold leaveA at hr
  cases hx : r.1 with
  | normal => rw [hx] at hr; have := hK r hr hro D' m' a' w' ht' he; rw [hx] at this; exact this
  | ret => rw [hx] at hr; have := hK r hr hro D' m' a' w' ht' he; rw [hx] at this; exact this
  | exit j =>
    rw [hx] at hr
    simp only at hr
    by_cases e : j = id
    · rw [beqT e, cond_true] at hr
      have := hK _ hr hro D' m' a' w' ht' he
      simpa [Exit.inBlock, e, exitOf] using this
    · rw [beqF e, cond_false] at hr
      have := hK _ hr hro D' m' a' w' ht' he
      rw [hx] at this
      simpa [Exit.inBlock, e, exitOf] using this
theorem sem_scope {b : Code} (h : Sem P cfg C b st Q) : Sem P cfg C (.scope b) st Q := by
  intro D m a w hi ht K hK
  refine wpIn_scope_straight (h D m a w hi ht _ fun r hr hro D' m' a' w' ht' he => ?_)
  have := hK r hr hro D' m' a' w' ht' he
  cases hre : r.1 <;> rw [hre] at this <;> exact this
theorem sem_skip (h : Q (.normal, st)) : Sem P cfg C .skip st Q := fun D m a w hi ht K hK => wpIn_skip (hK _ h rfl D m a w ht (Ext.refl hi))
theorem sem_label {l : Nat} (h : Q (.normal, st)) : Sem P cfg C (.label l) st Q := fun D m a w hi ht K hK => wpIn_label (hK _ h rfl D m a w ht (Ext.refl hi))
theorem sem_exit {id : Nat} (h : Q (.exit id, st)) : Sem P cfg C (.exit id) st Q := fun D m a w hi ht K hK => wpIn_exit (hK _ h rfl D m a w ht (Ext.refl hi))
theorem sem_ret (h : Q (.ret, st)) : Sem P cfg C .ret st Q := fun D m a w hi ht K hK => wpIn_ret (hK _ h rfl D m a w ht (Ext.refl hi))
theorem sem_cond {x : Operand} {b : Bool} {c1 c2 : Code} (hv : evalA cfg.G st.ts x = some (.bool b)) (h1 : b = true → Sem P cfg C c1 st Q) (h2 : b = false → Sem P cfg C c2 st Q) : Sem P cfg C (.cond x c1 c2) st Q := by
  intro D m a w hi ht K hK
  obtain ⟨e, _⟩ := evalA_conc hi ht hv
  cases b with
  | true => exact wpIn_cond_true (by rw [e]; simp [conc]) (h1 rfl D m a w hi ht K hK)
  | false => exact wpIn_cond_false (by rw [e]; simp [conc]) (h2 rfl D m a w hi ht K hK)

/-- A state is said in another way: what stands for it still does, also for what has been since a state of at most k blocks. -/
def Wk (cfg : Cfg) (C : Ctx) (k : Nat) (st : St) (A : St → Prop) : Prop :=
  ∀ D m a w, Inv cfg D m C st.o w → TR D m st a → ∃ st' D' m', A st' ∧ TR D' m' st' a ∧ st'.ro = st.ro ∧ roB m' st'.ro = roB m st.ro ∧ Inv cfg D' m' C st'.o w ∧
    ∀ D0 m0 o0 w0, o0.n ≤ k → (∀ i, D0 i → i < C.lo + o0.n) → Ext cfg C D0 m0 o0 w0 D m st.o w → Ext cfg C D0 m0 o0 w0 D' m' st'.o w
theorem Wk.mono {k : Nat} {A B : St → Prop} (h : Wk cfg C k st A) (hab : ∀ s, A s → B s) : Wk cfg C k st B := fun D m a w hi ht => by
  obtain ⟨s, D', m', hA, h1⟩ := h D m a w hi ht
  exact ⟨s, D', m', hab s hA, h1⟩
theorem Wk.refl {k : Nat} {A : St → Prop} (h : A st) : Wk cfg C k st A := fun D m a w hi ht => ⟨st, D, m, h, ht, rfl, rfl, hi, fun _ _ _ _ _ _ h => h⟩
theorem Wk.trans {k : Nat} {A B : St → Prop} (h : Wk cfg C k st A) (hb : ∀ s, A s → Wk cfg C k s B) : Wk cfg C k st B := fun D m a w hi ht => by
  obtain ⟨s, D1, m1, hA, h1, h2, h3, h4, h5⟩ := h D m a w hi ht
  obtain ⟨t, D2, m2, hB, k1, k2, k3, k4, k5⟩ := hb s hA D1 m1 a w h4 h1
  exact ⟨t, D2, m2, hB, k1, k2.trans h2, k3.trans h3, k4, fun D0 m0 o0 w0 ho hl he => k5 _ _ _ _ ho hl (h5 _ _ _ _ ho hl he)⟩
theorem sem_pre {k : Nat} {A : St → Prop} {c : Code} (h : Wk cfg C k st A) (hk : st.o.n ≤ k) (hs : ∀ s, A s → Sem P cfg C c s Q) : Sem P cfg C c st Q := by
  intro D m a w hi ht K hK
  obtain ⟨s, D1, m1, hA, h1, h2, h3, h4, h5⟩ := h D m a w hi ht
  have := hs s hA D1 m1 a w h4 h1 K fun r hr hro D' m' a' w' ht' he => hK r hr (hro.trans h2) D' m' a' w' ht' ((h5 _ _ _ _ hk hi.lt (Ext.refl hi)).trans he)
  rw [h3] at this
  exact this
theorem sem_post {k : Nat} {c : Code} {Q' : AX × St → Prop} (h : Sem P cfg C c st Q') (hk : st.o.n ≤ k) (hw : ∀ r, Q' r → Wk cfg C k r.2 fun s => Q (r.1, s)) : Sem P cfg C c st Q := by
  intro D m a w hi ht K hK
  refine h D m a w hi ht K fun r hr hro D' m' a' w' ht' he => ?_
  obtain ⟨s, D1, m1, hA, h1, h2, h3, h4, h5⟩ := hw r hr D' m' a' w' he.inv ht'
  exact hK (r.1, s) hA (h2.trans hro) D1 m1 a' w' h1 (h5 _ _ _ _ hk hi.lt he)
/-- A loop: its rounds lead from states of S to such, and come to an end. -/
theorem sem_loop {ι : Type} (μ : ι → Nat) (S : ι → St → Prop) {k : Nat} {b : Code} (h0 : Wk cfg C k st fun s => ∃ x, S x s) (hk : st.o.n ≤ k)
    (hr : ∀ x s, S x s → Sem P cfg C b s (thenQ (fun s' => Wk cfg C k s' fun s2 => ∃ y, μ y < μ x ∧ S y s2) Q)) : Sem P cfg C (.loop b) st Q := by
  intro D m a w hi ht K hK
  have key : ∀ n x s D1 m1 a1 w1, S x s → μ x < n → TR D1 m1 s a1 → Ext cfg C D m st.o w D1 m1 s.o w1 → s.ro = st.ro → roB m1 s.ro = roB m st.ro → Code.roundsIn (FR (roB m st.ro)) 0 P b K n a1 w1 := by
    intro n
    induction n with
    | zero => intro x s D1 m1 a1 w1 _ h; omega
    | succ n ih =>
      intro x s D1 m1 a1 w1 hs hμ ht1 he1 hro1 hf1
      rw [roundsIn_succ, ← hf1]
      refine hr x s hs D1 m1 a1 w1 he1.inv ht1 _ fun r hq hro D2 m2 a2 w2 ht2 he2 => ?_
      rw [hf1]
      have he := he1.trans he2
      have fr : roB m2 r.2.ro = roB m st.ro := by rw [hro, roB_same ht1.roD he2.same, hf1]
      unfold thenQ at hq
      cases hx : r.1 with
      | normal =>
        rw [hx] at hq
        obtain ⟨s2, D3, m3, ⟨y, hy, hS⟩, h1, h2, h3, h4, h5⟩ := hq D2 m2 a2 w2 he2.inv ht2
        exact ih y s2 D3 m3 a2 w2 hS (by omega) h1 (h5 _ _ _ _ hk hi.lt he) (h2.trans (hro.trans hro1)) (h3.trans fr)
      | exit id => rw [hx] at hq; have := hK r hq (hro.trans hro1) D2 m2 a2 w2 ht2 he; rw [hx] at this; exact this
      | ret => rw [hx] at hq; have := hK r hq (hro.trans hro1) D2 m2 a2 w2 ht2 he; rw [hx] at this; exact this
  obtain ⟨s, D1, m1, ⟨x, hS⟩, h1, h2, h3, h4, h5⟩ := h0 D m a w hi ht
  exact wpIn_loop_rounds (μ x + 1) (key _ x s D1 m1 a w hS (Nat.lt_succ_self _) h1 (h5 _ _ _ _ hk hi.lt (Ext.refl hi)) h2 h3)
end

section
variable {P : Program} {T : Tab} (hT : TabOK P T) {cfg : Cfg}
include hT
/-- A function's body, entered. -/
theorem sem_enter {f : FuncId} {fn : Func} {c : Code} (hb : bodyOf T f = some (fn, c)) {C : Ctx} {D : Nat → Prop} {m : Nat → Loc} {args : List AV} {o0 : Own} {w : World} (hlen : args.length ≤ 1000) {R : AV × Own → Prop}
    (h : Sem P cfg C c (startA fn args o0) fun x => ∃ r, endA T C fn x = some r ∧ R r)
    (hi : Inv cfg D m C o0 w) (hok : okL D m args) {RR : Value → World → Prop} (hR : ∀ r D' m' w', R r → okV D' m' r.1 → Ext cfg C D m o0 w D' m' r.2 w' → RR (conc m' r.1) w') :
    (callFunc f (concL m args).toArray).run P w = .ok (.enter f (concL m args).toArray) w ∧ Calls P f (concL m args).toArray w fun e w' => ∃ v, e = .returned v ∧ RR v w' := by
  simp only [bodyOf, ob_some, Option.some.injEq, Prod.mk.injEq] at hb
  obtain ⟨fn', hfn, c', hbody, rfl, rfl⟩ := hb
  obtain ⟨hf, hname⟩ := hT.fn f fn' hfn
  refine ⟨by simp [callFunc, hf, hname, hbody], callsIn_wide.1 (callsIn_of_wp_marks (n := 0) hf hbody trivial ?_)⟩
  refine h D m _ w hi (start_TR hT hlen hok) _ fun x hx hro D' m' a' w' ht he => ?_
  obtain ⟨r, hend, hRr⟩ := hx
  have this : LeavesInM Fence.wide 0 P fn' a'.tmps (fun e w'' => ∃ v, e = .returned v ∧ RR v w'') a'.defers .returning w' ∧ ∀ id, x.1 ≠ .exit id := by
    unfold endA at hend
    split at hend
    · cases hend
    · rename_i hne
      simp only [ob_some, Option.some.injEq] at hend
      obtain ⟨o, hmk, vs, hres, rfl⟩ := hend
      refine ⟨?_, fun id e => hne id e⟩
      rw [ht.defers]
      refine leaves_ok hmk he.inv ht.dsD fun w2 he2 => ?_
      have ht2 : TR D' m' ⟨x.2.ts, x.2.tn, o, [], none⟩ ⟨a'.tmps, []⟩ := ⟨ht.size, ht.at', ht.okt, rfl, fun d hd => (by cases hd), fun i hi => (by cases hi)⟩
      obtain ⟨h1, h2⟩ := results_ok hT he2.inv ht2 hres
      exact ⟨_, h1, _, rfl, hR _ D' m' w2 hRr h2 (he.trans he2)⟩
  cases hxe : x.1 with
  | normal => exact this.1
  | ret => exact this.1
  | exit id => exact absurd hxe (this.2 id)
end
end Go.Ev
end
section
set_option linter.all false
namespace Go.Ev
open Go Go.RowKit

def forgetT (J : Nat → Value) : List Nat → Ts → Ts
  | [], t => t
  | k :: ks, t => forgetT J ks (Ts.set 20 t k (.any (J k)))
def forgetS (J : Nat → Value) (ks : List Nat) (st : St) : St := ⟨forgetT J ks st.ts, st.tn, st.o, st.ds, st.ro⟩
theorem forget_get {J : Nat → Value} : ∀ {ks : List Nat} {t : Ts} {i : Nat}, (∀ k ∈ ks, k < 1000000) → (forgetT J ks t).get i = if i ∈ ks then .any (J i) else t.get i
  | [], t, i, _ => by simp [forgetT]
  | k :: ks, t, i, h => by
    have hk : k < 2 ^ 20 - 1 := Nat.lt_of_lt_of_le (h k List.mem_cons_self) (by decide)
    rw [forgetT, forget_get (fun j hj => h j (List.mem_cons_of_mem _ hj)), Ts.get_set 20 _ _ _ _ hk]
    by_cases h1 : i ∈ ks
    · rw [if_pos h1, if_pos (List.mem_cons_of_mem _ h1)]
    · rw [if_neg h1]
      by_cases e : i = k
      · subst e; rw [if_pos rfl, if_pos List.mem_cons_self]
      · rw [if_neg e, if_neg (by simp [e, h1])]
section
variable {cfg : Cfg} {C : Ctx} {st : St}
theorem wk_forget {k : Nat} (ks : List Nat) (h : allLt 1000000 ks = true) : Wk cfg C k st fun s => ∃ J, s = forgetS J ks st := by
  have hks : ∀ k ∈ ks, k < 1000000 := by
    clear k
    induction ks with
    | nil => intro k hk; cases hk
    | cons x xs ih =>
      rw [allLt, Bool.and_eq_true, natLt_iff] at h
      intro k hk
      rcases List.mem_cons.1 hk with rfl | hk
      · exact h.1
      · exact ih h.2 k hk
  intro D m a w hi ht
  refine ⟨forgetS (fun t => conc m (st.ts.get t)) ks st, D, m, ⟨_, rfl⟩, ⟨ht.size, fun t => ?_, fun t => ?_, ht.defers, ht.dsD, ht.roD⟩, rfl, rfl, hi, fun _ _ _ _ _ _ h => h⟩
  · simp only [forgetS, forget_get hks]
    split
    · simp only [conc]; exact ht.at' t
    · exact ht.at' t
  · simp only [forgetS, forget_get hks]
    split
    · exact okV_none (by simp [idsA])
    · exact ht.okt t

/- names told anew -/
def lookR : List (Nat × Nat) → Nat → Option Nat
  | [], _ => none
  | p :: ps, i => bif Nat.beq p.1 i then some p.2 else lookR ps i
def mvN (b : Nat) (ρ : List (Nat × Nat)) (i : Nat) : Option Nat := bif natLt i b then some i else lookR ρ i
def mvL (f : AV → Option AV) : List AV → Option (List AV)
  | [] => some []
  | v :: vs => ob (f v) fun v' => ob (mvL f vs) fun vs' => some (v' :: vs')
def mvA (b : Nat) (ρ : List (Nat × Nat)) : Nat → AV → Option AV
  | 0, _ => none
  | d + 1, v => match v with
    | .ptr id off => ob (mvN b ρ id) fun i => some (.ptr i off)
    | .slice id off len c => ob (mvN b ρ id) fun i => some (.slice i off len c)
    | .map id => ob (mvN b ρ id) fun i => some (.map i)
    | .yield id => ob (mvN b ρ id) fun i => some (.yield i)
    | .func f x y => ob (mvL (mvA b ρ d) x) fun x' => ob (mvL (mvA b ρ d) y) fun y' => some (.func f x' y')
    | .iface t v => ob (mvA b ρ d v) fun v' => some (.iface t v')
    | .agg cs => ob (mvL (mvA b ρ d) cs) fun cs' => some (.agg cs')
    | .tuple cs => ob (mvL (mvA b ρ d) cs) fun cs' => some (.tuple cs')
    | v => some v
def mvT (f : AV → Option AV) : Ts → Option Ts
  | .nil => some .nil
  | .node v l r => ob (f v) fun v' => ob (mvT f l) fun l' => ob (mvT f r) fun r' => some (.node v' l' r')
/-- How names go over. -/
structure MvOK (b : Nat) (ρ : List (Nat × Nat)) (D D' : Nat → Prop) (m m' : Nat → Loc) : Prop where
  low : ∀ i, D i → i < b → D' i ∧ m' i = m i
  mv : ∀ i j, lookR ρ i = some j → D i → D' j ∧ m' j = m i
theorem mvN_ok {b : Nat} {ρ : List (Nat × Nat)} {D D' : Nat → Prop} {m m' : Nat → Loc} (h : MvOK b ρ D D' m m') {i j : Nat} (hm : mvN b ρ i = some j) (hd : D i) : D' j ∧ m' j = m i := by
  unfold mvN at hm
  cases hb : natLt i b with
  | true =>
    rw [hb, cond_true, Option.some.injEq] at hm
    subst hm
    exact h.low i hd (natLt_iff.1 hb)
  | false => rw [hb, cond_false] at hm; exact h.mv i j hm hd
section
variable {b : Nat} {ρ : List (Nat × Nat)} {D D' : Nat → Prop} {m m' : Nat → Loc} (h : MvOK b ρ D D' m m')
include h
theorem mvL_ok' {f : AV → Option AV} (hf : ∀ v v', f v = some v' → okV D m v → conc m' v' = conc m v ∧ okV D' m' v') : ∀ {vs vs' : List AV}, mvL f vs = some vs' → okL D m vs → concL m' vs' = concL m vs ∧ okL D' m' vs'
  | [], vs', hm, _ => by cases hm; exact ⟨by simp [concL], okL_nil⟩
  | v :: vs, vs', hm, hok => by
    simp only [mvL, ob_some, Option.some.injEq] at hm
    obtain ⟨v1, h1, vs1, h2, rfl⟩ := hm
    obtain ⟨a1, a2⟩ := okL_cons.1 hok
    obtain ⟨b1, b2⟩ := hf v v1 h1 a1
    obtain ⟨c1, c2⟩ := mvL_ok' hf h2 a2
    exact ⟨by simp [concL, b1, c1], okL_cons.2 ⟨b2, c2⟩⟩
theorem mvA_ok : ∀ {d : Nat} {v v' : AV}, mvA b ρ d v = some v' → okV D m v → conc m' v' = conc m v ∧ okV D' m' v'
  | 0, v, v', hm, _ => by cases hm
  | d + 1, v, v', hm, hok => by
    have ih : ∀ {vs vs' : List AV}, mvL (mvA b ρ d) vs = some vs' → okL D m vs → concL m' vs' = concL m vs ∧ okL D' m' vs' := fun h1 h2 => mvL_ok' h (fun v v' h1 h2 => mvA_ok h1 h2) h1 h2
    have one : ∀ {id j n : Nat}, mvN b ρ id = some j → (D id ∧ n ≤ (m id).cap) → m' j = m id ∧ (D' j ∧ n ≤ (m' j).cap) := fun h1 h2 => by
      obtain ⟨x, y⟩ := mvN_ok h h1 h2.1
      exact ⟨y, x, by rw [y]; exact h2.2⟩
    unfold mvA at hm
    cases v <;> simp only [ob_some, Option.some.injEq] at hm
    case ptr id off =>
      obtain ⟨j, hj, rfl⟩ := hm
      obtain ⟨e, hd⟩ := one hj (hok (id, 0) (by simp [idsA]))
      exact ⟨by simp [conc, e], fun i hi => by simp only [idsA, List.mem_singleton] at hi; subst hi; exact hd⟩
    case slice id off len c =>
      obtain ⟨j, hj, rfl⟩ := hm
      obtain ⟨e, hd⟩ := one hj (hok (id, needC len c) (by simp [idsA]))
      exact ⟨by simp [conc, e], fun i hi => by simp only [idsA, List.mem_singleton] at hi; subst hi; exact hd⟩
    case map id =>
      obtain ⟨j, hj, rfl⟩ := hm
      obtain ⟨e, hd⟩ := one hj (hok (id, 0) (by simp [idsA]))
      exact ⟨by simp [conc, e], fun i hi => by simp only [idsA, List.mem_singleton] at hi; subst hi; exact hd⟩
    case yield id =>
      obtain ⟨j, hj, rfl⟩ := hm
      obtain ⟨e, hd⟩ := one hj (hok (id, 0) (by simp [idsA]))
      exact ⟨by simp [conc, e], fun i hi => by simp only [idsA, List.mem_singleton] at hi; subst hi; exact hd⟩
    case func f x y =>
      obtain ⟨x', hx, y', hy, rfl⟩ := hm
      obtain ⟨a1, a2⟩ := ih hx (fun i hi => hok i (by simp [idsA, hi]))
      obtain ⟨b1, b2⟩ := ih hy (fun i hi => hok i (by simp [idsA, hi]))
      refine ⟨by simp [conc, a1, b1], fun i hi => ?_⟩
      simp only [idsA, List.mem_append] at hi
      exact hi.elim (a2 i) (b2 i)
    case iface t u =>
      obtain ⟨u', hu, rfl⟩ := hm
      obtain ⟨a1, a2⟩ := mvA_ok hu (fun i hi => hok i (by simpa [idsA] using hi))
      exact ⟨by simp [conc, a1], fun i hi => a2 i (by simpa [idsA] using hi)⟩
    case agg cs =>
      obtain ⟨x', hx, rfl⟩ := hm
      obtain ⟨a1, a2⟩ := ih hx (okV_agg.1 hok)
      exact ⟨by simp [conc, a1], okV_agg.2 a2⟩
    case tuple cs =>
      obtain ⟨x', hx, rfl⟩ := hm
      obtain ⟨a1, a2⟩ := ih hx (okV_tuple.1 hok)
      exact ⟨by simp [conc, a1], okV_tuple.2 a2⟩
    all_goals subst hm; exact ⟨by simp [conc], okV_none (by simp [idsA])⟩
theorem mvL_ok {d : Nat} {vs vs' : List AV} (h1 : mvL (mvA b ρ d) vs = some vs') (h2 : okL D m vs) : concL m' vs' = concL m vs ∧ okL D' m' vs' := mvL_ok' h (fun v v' h1 h2 => mvA_ok h h1 h2) h1 h2
end
theorem mvT_get {f : AV → Option AV} (hu : f undefA = some undefA) : ∀ {t t' : Ts} (i : Nat), mvT f t = some t' → f (t.get i) = some (t'.get i)
  | .nil, t', i, h => by cases h; rw [Ts.get_nil]; exact hu
  | .node v l r, t', i, h => by
    simp only [mvT, ob_some, Option.some.injEq] at h
    obtain ⟨v', hv, l', hl, r', hr, rfl⟩ := h
    by_cases h0 : i = 0
    · subst h0; exact hv
    · rcases Nat.mod_two_eq_zero_or_one i with h2 | h2
      · rw [Ts.get_even _ i h0 h2, Ts.get_even _ i h0 h2]; exact mvT_get hu _ hr
      · rw [Ts.get_odd _ i h0 h2, Ts.get_odd _ i h0 h2]; exact mvT_get hu _ hl

/-- All names in a block are below b. -/
def LowO (b : Nat) (x : AObj) : Prop := noLoop x = true ∧ ∀ i ∈ idsO x, i.1 < b
/-- A block, its names told anew. -/
def MvO (b : Nat) (ρ : List (Nat × Nat)) (x x' : AObj) : Prop := (x' = x ∧ LowO b x) ∨ ∃ cs cs' rw g, x = .cells cs rw g ∧ mvL (mvA b ρ 20) cs = some cs' ∧ x' = .cells cs' rw g
theorem low_rel {b : Nat} {ρ : List (Nat × Nat)} {D D' : Nat → Prop} {m m' : Nat → Loc} (h : MvOK b ρ D D' m m') {l : Loc} {x : AObj} {o : Option Obj} (hr : ObjRel D m l x o) (hx : LowO b x) : ObjRel D' m' l x o := by
  have lv : ∀ v, okV D m v → (∀ i ∈ idsA v, i.1 < b) → conc m' v = conc m v ∧ okV D' m' v := fun v hv hb => by
    have hs : ∀ i ∈ idsA v, D' i.1 ∧ m' i.1 = m i.1 := fun i hi => h.low i.1 (hv i hi).1 (hb i hi)
    exact ⟨conc_congr v fun i hi => (hs i hi).2, fun i hi => ⟨(hs i hi).1, by rw [(hs i hi).2]; exact (hv i hi).2⟩⟩
  cases x with
  | dead => trivial
  | cells cs rw g =>
    obtain ⟨c, e, fz, hb, hc⟩ := hr
    have hv : ∀ v ∈ cs, conc m' v = conc m v ∧ okV D' m' v := fun v hv => lv v (okL_iff.1 hc.okc v hv) fun i hi => hx.2 i (mem_idsL.2 ⟨v, hv, hi⟩)
    exact ⟨c, e, fz, hb, ⟨fun i v hi => by rw [hc.at' i v hi, (hv v (List.mem_of_getElem? hi)).1], okL_iff.2 fun v hm => (hv v hm).2, hc.free, hc.grow⟩⟩
  | map es =>
    obtain ⟨en, ck, hb, he, ho⟩ := hr
    have hv : ∀ e ∈ es, (conc m' e.1 = conc m e.1 ∧ okV D' m' e.1) ∧ (conc m' e.2 = conc m e.2 ∧ okV D' m' e.2) := fun e hm =>
      ⟨lv e.1 (ho e hm).1 fun i hi => hx.2 i (List.mem_append.2 (.inl (mem_idsL.2 ⟨e.1, List.mem_map.2 ⟨e, hm, rfl⟩, hi⟩))), lv e.2 (ho e hm).2 fun i hi => hx.2 i (List.mem_append.2 (.inr (mem_idsL.2 ⟨e.2, List.mem_map.2 ⟨e, hm, rfl⟩, hi⟩)))⟩
    exact ⟨en, ck, hb, he.trans (List.map_congr_left fun e hm => by rw [(hv e hm).1.1, (hv e hm).2.1]), fun e hm => ⟨(hv e hm).1.2, (hv e hm).2.2⟩⟩
  | siter s p => exact hr
  | loop r => exact absurd hx.1 (by simp [noLoop])
  | defs => exact hr
theorem mvO_rel {b : Nat} {ρ : List (Nat × Nat)} {D D' : Nat → Prop} {m m' : Nat → Loc} (h : MvOK b ρ D D' m m') {l : Loc} {x x' : AObj} {o : Option Obj} (hr : ObjRel D m l x o) (hx : MvO b ρ x x') : ObjRel D' m' l x' o := by
  rcases hx with ⟨rfl, hl⟩ | ⟨cs, cs', rw', g, rfl, hm, rfl⟩
  · exact low_rel h hr hl
  · obtain ⟨c, e, fz, hb, hc⟩ := hr
    obtain ⟨h1, h2⟩ := mvL_ok h hm hc.okc
    refine ⟨c, e, fz, hb, ⟨fun i v hi => ?_, h2, hc.free, hc.grow⟩⟩
    have e2 : (concL m cs)[i]? = some (conc m' v) := by rw [← h1, concL_map, List.getElem?_map, hi]; rfl
    rw [concL_map, List.getElem?_map] at e2
    obtain ⟨u, hu, e3⟩ := Option.map_eq_some_iff.1 e2
    rw [hc.at' i u hu, e3]
theorem mvO_live {b : Nat} {ρ : List (Nat × Nat)} {x x' : AObj} (hx : MvO b ρ x x') : live x' = live x ∧ rwO x' = rwO x := by
  rcases hx with ⟨rfl, _⟩ | ⟨cs, cs', rw', g, rfl, _, rfl⟩
  · exact ⟨rfl, rfl⟩
  · exact ⟨rfl, rfl⟩

/-- Levels below name nothing of this one. -/
def LowC (C : Ctx) : Prop := ∀ id, id < C.lo → LowO C.lo (getB C.B id)
/-- The pairs of old and new names: of the blocks chosen. -/
def pairs (lo : Nat) : Nat → List Nat → List (Nat × Nat)
  | _, [] => []
  | j, s :: ss => (lo + s, lo + j) :: pairs lo (j + 1) ss
theorem pairs_look {lo : Nat} : ∀ {ss : List Nat} {j i k : Nat}, lookR (pairs lo j ss) i = some k → ∃ t, t < ss.length ∧ i = lo + ss.getD t 0 ∧ k = lo + (j + t)
  | [], j, i, k, h => by cases h
  | s :: ss, j, i, k, h => by
    rw [pairs, lookR] at h
    by_cases e : lo + s = i
    · rw [beqT e, cond_true, Option.some.injEq] at h
      exact ⟨0, by simp, by simp [e], by simp [← h]⟩
    · rw [beqF e, cond_false] at h
      obtain ⟨t, h1, h2, h3⟩ := pairs_look h
      exact ⟨t + 1, by simpa using h1, by simpa using h2, by omega⟩
/-- Of the blocks from kb on those of sel are kept, told anew; o' is the new level. -/
theorem wk_move (hK : CfgOK cfg) {kb : Nat} {sel : List Nat} {ts' : Ts} {o' : Own} (hlow : LowC C) (hkb : kb ≤ st.o.n)
    (hsel : ∀ s ∈ sel, kb ≤ s ∧ s < st.o.n) (hnd : sel.Nodup)
    (hle : ∀ p ∈ st.o.le, LowO (C.lo + kb) p.2) (hle' : o'.le = st.o.le) (hn : o'.n = kb + sel.length) (hlen : o'.os.length = o'.n)
    (hold : ∀ i, i < kb → o'.at i = st.o.at i ∧ LowO (C.lo + kb) (st.o.at i))
    (hnew : ∀ t, t < sel.length → MvO (C.lo + kb) (pairs C.lo kb sel) (st.o.at (sel.getD t 0)) (o'.at (kb + t)))
    (hts : mvT (mvA (C.lo + kb) (pairs C.lo kb sel) 20) st.ts = some ts') (hds : ∀ d ∈ st.ds, d < C.lo + kb) (hro : ∀ i, st.ro = some i → i < C.lo + kb) :
    Wk cfg C kb st fun s => s = ⟨ts', st.tn, o', st.ds, st.ro⟩ := by
  intro D m a w hi ht
  obtain ⟨D', hD'⟩ : ∃ D' : Nat → Prop, D' = fun id => (id < C.lo + kb ∧ D id) ∨ ∃ t, t < sel.length ∧ id = C.lo + kb + t ∧ D (C.lo + sel.getD t 0) := ⟨_, rfl⟩
  obtain ⟨m', hm'⟩ : ∃ m' : Nat → Loc, m' = fun id => if id < C.lo + kb then m id else m (C.lo + sel.getD (id - (C.lo + kb)) 0) := ⟨_, rfl⟩
  have mlow : ∀ i, i < C.lo + kb → m' i = m i := fun i h => by rw [hm']; simp [h]
  have mnew : ∀ t, m' (C.lo + kb + t) = m (C.lo + sel.getD t 0) := fun t => by
    rw [hm']
    simp only [if_neg (by omega : ¬ C.lo + kb + t < C.lo + kb)]
    rw [show C.lo + kb + t - (C.lo + kb) = t by omega]
  have ok : MvOK (C.lo + kb) (pairs C.lo kb sel) D D' m m' := by
    refine ⟨fun i hd hlt => ⟨by rw [hD']; exact .inl ⟨hlt, hd⟩, mlow i hlt⟩, fun i j hl hd => ?_⟩
    obtain ⟨t, h1, rfl, rfl⟩ := pairs_look hl
    rw [show C.lo + (kb + t) = C.lo + kb + t by omega]
    exact ⟨by rw [hD']; exact .inr ⟨t, h1, rfl, hd⟩, mnew t⟩
  have hselt : ∀ t, t < sel.length → kb ≤ sel.getD t 0 ∧ sel.getD t 0 < st.o.n := fun t h => hsel _ (by simp [List.getD_eq_getElem?_getD, h])
  have glow : ∀ i, i < C.lo + kb → get C o' i = get C st.o i ∧ LowO (C.lo + kb) (get C st.o i) := fun i h => by
    unfold get getB
    by_cases hc : C.lo ≤ i
    · rw [ble_iff.2 hc, cond_true, cond_true]
      exact hold (i - C.lo) (by omega)
    · rw [bleF hc, cond_false, cond_false, hle']
      refine ⟨rfl, ?_⟩
      simp only
      have lw : LowO (C.lo + kb) (getB C.B i) := ⟨(hlow i (by omega)).1, fun j hj => by have := (hlow i (by omega)).2 j hj; omega⟩
      cases hx : leAt st.o.le i with
      | none => exact lw
      | some x =>
        have : ∀ le : List (Nat × AObj), leAt le i = some x → ∃ p ∈ le, p.2 = x := by
          intro le
          induction le with
          | nil => intro h; cases h
          | cons p le ih =>
            intro h
            rw [leAt] at h
            by_cases e : p.1 = i
            · rw [beqT e, cond_true, Option.some.injEq] at h; exact ⟨p, List.mem_cons_self, h⟩
            · rw [beqF e, cond_false] at h
              obtain ⟨q, hq, e'⟩ := ih h
              exact ⟨q, List.mem_cons_of_mem _ hq, e'⟩
        obtain ⟨p, hp, e⟩ := this _ hx
        rw [← e]; exact hle p hp
  have gnew : ∀ t, t < sel.length → MvO (C.lo + kb) (pairs C.lo kb sel) (get C st.o (C.lo + sel.getD t 0)) (get C o' (C.lo + kb + t)) := fun t h => by
    unfold get getB
    rw [ble_iff.2 (by omega : C.lo ≤ C.lo + sel.getD t 0), ble_iff.2 (by omega : C.lo ≤ C.lo + kb + t), cond_true, cond_true, show C.lo + sel.getD t 0 - C.lo = sel.getD t 0 by omega, show C.lo + kb + t - C.lo = kb + t by omega]
    exact hnew t h
  have inj : ∀ t u, t < sel.length → u < sel.length → sel.getD t 0 = sel.getD u 0 → t = u := fun t u h1 h2 e => by
    have hp := List.pairwise_iff_getElem.1 hnd
    have e' : sel[t] = sel[u] := by simpa [List.getD_eq_getElem?_getD, h1, h2] using e
    rcases Nat.lt_trichotomy t u with h | h | h
    · exact absurd e' (hp t u h1 h2 h)
    · exact h
    · exact absurd e'.symm (hp u t h2 h1 h)
  -- each new name's old one
  have src : ∀ i, D' i → ∃ j, D j ∧ m' i = m j ∧ live (get C o' i) = live (get C st.o j) ∧ rwO (get C o' i) = rwO (get C st.o j) ∧ ((i < C.lo + kb ∧ j = i) ∨ ∃ t, t < sel.length ∧ i = C.lo + kb + t ∧ j = C.lo + sel.getD t 0) := fun i h => by
    rw [hD'] at h
    rcases h with ⟨h1, h2⟩ | ⟨t, h1, rfl, h2⟩
    · exact ⟨i, h2, mlow i h1, by rw [(glow i h1).1], by rw [(glow i h1).1], .inl ⟨h1, rfl⟩⟩
    · have := mvO_live (gnew t h1)
      exact ⟨_, h2, mnew t, this.1, this.2, .inr ⟨t, h1, rfl, rfl⟩⟩
  have hinv : Inv cfg D' m' C o' w := by
    refine ⟨fun i hd => ?_, fun i j hdi hdj hij hl hr => ?_, fun i hd => ?_, fun g hg => ?_, fun i hid => ?_, fun i hid => hi.le i (by rw [hle'] at hid; exact hid), hi.lo, hlen⟩
    · rw [hD'] at hd
      rcases hd with ⟨h1, h2⟩ | ⟨t, h1, rfl, h2⟩
      · rw [mlow i h1, (glow i h1).1]; exact low_rel ok (hi.obj i h2) (glow i h1).2
      · rw [mnew t]; exact mvO_rel ok (hi.obj _ h2) (gnew t h1)
    · obtain ⟨i', di, ei, li, ri, ci⟩ := src i hdi
      obtain ⟨j', dj, ej, lj, rj, cj⟩ := src j hdj
      rw [ei, ej]
      refine hi.inj i' j' di dj (fun e => hij ?_) (by rw [← li]; exact hl) (by rw [← rj]; exact hr)
      rcases ci with ⟨c1, rfl⟩ | ⟨t, c1, rfl, rfl⟩ <;> rcases cj with ⟨d1, rfl⟩ | ⟨u, d1, rfl, rfl⟩
      · exact e
      · have := hselt u d1; omega
      · have := hselt t c1; omega
      · have := inj t u c1 d1 (by omega); omega
    · rw [hD'] at hd
      rcases hd with ⟨h1, h2⟩ | ⟨t, h1, rfl, h2⟩ <;> omega
    · obtain ⟨a1, a2, a3⟩ := hi.glob g hg
      have hlt : g < C.lo + kb := by have := hK.G; have := hi.lo; omega
      exact ⟨by rw [hD']; exact .inl ⟨hlt, a1⟩, by rw [mlow g hlt]; exact a2, by rw [mlow g hlt]; exact a3⟩
    · obtain ⟨a1, a2⟩ := hi.root i hid
      have hlt : i < C.lo + kb := by have := hi.lo; omega
      exact ⟨by rw [hD']; exact .inl ⟨hlt, a1⟩, by rw [(glow i hlt).1]; exact a2⟩
  refine ⟨_, D', m', rfl, ⟨ht.size, fun t => ?_, fun t => ?_, ?_, fun d hd => by rw [hD']; exact .inl ⟨hds d hd, ht.dsD d hd⟩, fun i h => by rw [hD']; exact .inl ⟨hro i h, ht.roD i h⟩⟩, rfl, ?_, hinv, fun D0 m0 o0 w0 ho hl he => ?_⟩
  · have := mvT_get (f := mvA (C.lo + kb) (pairs C.lo kb sel) 20) rfl t hts
    rw [ht.at' t]; exact (mvA_ok ok this (ht.okt t)).1.symm
  · have := mvT_get (f := mvA (C.lo + kb) (pairs C.lo kb sel) 20) rfl t hts
    exact (mvA_ok ok this (ht.okt t)).2
  · rw [ht.defers]
    exact List.map_congr_left fun d hd => by rw [mlow d (hds d hd)]
  · cases hr : st.ro with
    | none => rfl
    | some i => simp only [roB, Option.map_some, mlow i (hro i hr)]
  · have low0 : ∀ i, D0 i → i < C.lo + kb := fun i h => by have := hl i h; omega
    refine ⟨hinv, fun i h => by rw [hD']; exact .inl ⟨low0 i h, he.sub i h⟩, fun i h => by rw [mlow i (low0 i h)]; exact he.same i h, fun i h => ?_, by simp only; omega, he.os, he.tape, he.output, he.size, he.frame, by simp only [hle']; exact he.leIds, fun i h hn => ?_⟩
    · rw [hD'] at h
      rcases h with ⟨h1, h2⟩ | ⟨t, h1, rfl, h2⟩
      · exact he.new i h2
      · exact .inr (by omega)
    · rw [hD'] at h
      rcases h with ⟨h1, h2⟩ | ⟨t, h1, rfl, h2⟩
      · rw [mlow i h1]; exact he.fresh i h2 hn
      · rw [mnew t]
        have := hselt t h1
        exact he.fresh _ h2 fun h0 => by have := hl _ h0; omega
end
end Go.Ev
end
