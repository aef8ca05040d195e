/- The builtins, as the machine calls them. One operation, calls among them; a row of operations. -/
import Derived.Test.YticbodgiogmldaaGreatDoorEw13
import Derived.RangeFuncIn
import Derived.RangeFuncSeq
section
set_option linter.all false
namespace Go.Ev
open Go Go.RowKit

section
variable {P : Program} {T : Tab} (hT : TabOK P T) {cfg : Cfg} {C : Ctx} {D : Nat → Prop} {m : Nat → Loc} {o : Own} {w : World} (hi : Inv cfg D m C o w)
include hT hi
theorem copy_ok {ts : Array TypeId} {ty t : TypeId} {d s : AV} {r : AV × Own} (hts : ts[0]? = some t) (hd : okV D m d) (hs : okV D m s) (h : copyA T C o t d s = some r) :
    ∃ D' m' w', (Builtin.copy_ ts ty #[conc m d, conc m s]).run P w = .ok (conc m' r.1) w' ∧ okV D' m' r.1 ∧ Ext cfg C D m o w D' m' r.2 w' := by
  simp only [copyA, ob_some, ok_some] at h
  obtain ⟨elem, he, hsl, size, hsz, dl, hdl, sl, hsl', cs, hcs, h⟩ := h
  obtain ⟨hfr, hfo⟩ := run_firstA (P := P) hi hs hcs
  have hmin : minN sl dl = Nat.min sl dl := by
    unfold minN
    by_cases hle : sl ≤ dl
    · rw [ble_iff.2 hle, cond_true]; exact (Nat.min_eq_left hle).symm
    · rw [bleF hle, cond_false]; exact (Nat.min_eq_right (by omega)).symm
  have ha1 : ∀ x y : Value, (#[x, y] : Array Value)[1]? = some y := fun _ _ => rfl
  have ha0 : ∀ x y : Value, (#[x, y] : Array Value)[0]? = some x := fun _ _ => rfl
  rcases sliceA_lenA hdl hsl with ⟨rfl, rfl⟩ | ⟨id, off, c, rfl⟩
  · simp only [copyTo, Option.some.injEq] at h
    subst h
    refine ⟨D, m, w, ?_, by rw [goInt_eq]; exact okV_int, Ext.refl hi⟩
    rw [hmin] at hfr ⊢
    simp only [Builtin.copy_, hts, ha0, ha1, Sem.run_bind, run_und hT (und_elem he) w, Result.andThen_ok, conc, run_lenA hsl', run_sz hT hsz w, hfr, Sem.run_pure, goInt_eq, Go.goInt]
  · have hdd : D id := (hd (id, needC dl c) (by simp [idsA])).1
    simp only [copyTo, ok_some, ob_some, Option.some.injEq] at h
    obtain ⟨hone, o', hw, rfl⟩ := h
    obtain ⟨w', hw1, hw2⟩ := run_writeA (P := P) hi hdd hfo hone hw
    refine ⟨D, m, w', ?_, by rw [goInt_eq]; exact okV_int, hw2⟩
    rw [hmin] at hfr ⊢
    simp only [Builtin.copy_, hts, ha0, ha1, Sem.run_bind, run_und hT (und_elem he) w, Result.andThen_ok, conc, run_lenA hsl', run_sz hT hsz w, hfr, hw1, Sem.run_pure, goInt_eq, Go.goInt]
omit hi in
theorem len_ok {ts : Array TypeId} {ty t : TypeId} {x v : AV} (hts : ts[0]? = some t) (h : lenD x (T.und t) = some v) : (Builtin.len_ ts ty #[conc m x]).run P w = .ok (conc m v) w ∧ idsA v = [] := by
  have ha0 : ∀ x : Value, (#[x] : Array Value)[0]? = some x := fun _ => rfl
  cases hu : T.und t with
  | none => simp [hu, lenD] at h
  | some d =>
    cases d <;> simp only [hu, lenD, reduceCtorEq] at h
    · cases x <;> simp only [reduceCtorEq, Option.some.injEq] at h
      subst h
      rw [goInt_eq]
      refine ⟨?_, by simp [idsA]⟩
      simp only [Builtin.len_, hts, ha0, Sem.run_bind, run_und hT hu w, Result.andThen_ok, conc, Sem.run_pure, Go.goInt]; rfl
    · cases x <;> simp only [reduceCtorEq, Option.some.injEq] at h <;> subst h <;> rw [goInt_eq] <;> refine ⟨?_, by simp [idsA]⟩ <;>
        simp only [Builtin.len_, hts, ha0, Sem.run_bind, run_und hT hu w, Result.andThen_ok, conc, Sem.run_pure, Go.goInt] <;> rfl
    · simp only [Option.some.injEq] at h
      subst h
      rw [goInt_eq]
      refine ⟨?_, by simp [idsA]⟩
      simp only [Builtin.len_, hts, ha0, Sem.run_bind, run_und hT hu w, Result.andThen_ok, conc, Sem.run_pure, Go.goInt]
omit hi in
theorem cap_ok {ts : Array TypeId} {ty t : TypeId} {x v : AV} (hts : ts[0]? = some t) (h : capD x (T.und t) = some v) : (Builtin.cap_ ts ty #[conc m x]).run P w = .ok (conc m v) w ∧ idsA v = [] := by
  have ha0 : ∀ x : Value, (#[x] : Array Value)[0]? = some x := fun _ => rfl
  cases hu : T.und t with
  | none => simp [hu, capD] at h
  | some d =>
    rw [hu] at h
    cases d <;> simp only [capD, reduceCtorEq] at h
    cases x <;> (try simp only [reduceCtorEq, Option.some.injEq] at h)
    · rename_i id off len c
      cases c <;> simp only [reduceCtorEq, Option.some.injEq] at h
      subst h
      rw [goInt_eq]
      refine ⟨?_, by simp [idsA]⟩
      simp only [Builtin.cap_, hts, ha0, Sem.run_bind, run_und hT hu w, Result.andThen_ok, conc, Sem.run_pure, Go.goInt, capC]
    · subst h
      rw [goInt_eq]
      refine ⟨?_, by simp [idsA]⟩
      simp only [Builtin.cap_, hts, ha0, Sem.run_bind, run_und hT hu w, Result.andThen_ok, conc, Sem.run_pure, Go.goInt]
omit hT hi in
theorem min_fold {k : IntKind} : ∀ {vs : List AV} {acc : Int} {v : AV}, foldInt minI k acc vs = some v → ((concL m vs).foldlM Builtin.min2 (.int k acc)).run P w = .ok (conc m v) w ∧ idsA v = []
  | [], acc, v, h => by cases h; simp [concL, conc, idsA]
  | x :: vs, acc, v, h => by
    cases x <;> simp only [foldInt, reduceCtorEq] at h
    rename_i k' y
    obtain ⟨h1, h2⟩ := min_fold h
    refine ⟨?_, h2⟩
    have e : minI acc y = if y < acc then y else acc := by
      unfold minI
      rw [intLe_dec]
      by_cases hle : acc ≤ y
      · rw [decide_eq_true hle, cond_true, if_neg (by omega)]
      · rw [decide_eq_false hle, cond_false, if_pos (by omega)]
    rw [e] at h1
    simpa [concL, conc, Builtin.min2] using h1
omit hT hi in
theorem max_fold {k : IntKind} : ∀ {vs : List AV} {acc : Int} {v : AV}, foldInt maxI k acc vs = some v → ((concL m vs).foldlM Builtin.max2 (.int k acc)).run P w = .ok (conc m v) w ∧ idsA v = []
  | [], acc, v, h => by cases h; simp [concL, conc, idsA]
  | x :: vs, acc, v, h => by
    cases x <;> simp only [foldInt, reduceCtorEq] at h
    rename_i k' y
    obtain ⟨h1, h2⟩ := max_fold h
    refine ⟨?_, h2⟩
    have e : maxI acc y = if y > acc then y else acc := by
      unfold maxI
      rw [intLe_dec]
      by_cases hle : y ≤ acc
      · rw [decide_eq_true hle, cond_true, if_neg (by omega)]
      · rw [decide_eq_false hle, cond_false, if_pos (by omega)]
    rw [e] at h1
    simpa [concL, conc, Builtin.max2] using h1

/-- A builtin's call. -/
theorem builtin_ok {b : Builtin} {ts : Array TypeId} {ty : TypeId} {consts : Array Bool} {vs : List AV} {r : AV × Own} (hv : okL D m vs) (h : builtinA T C o b ts.toList vs = some r) : OpOK P cfg C D m o w (Go.builtin b ts ty consts (concL m vs).toArray) r := by
  have ht : ∀ i, ts.toList[i]? = ts[i]? := fun i => Array.getElem?_toList
  unfold builtinA at h
  cases b <;> (try simp only [reduceCtorEq] at h)
  case append =>
    simp only [ob_some, ht] at h
    obtain ⟨t, h0, u, h1, h⟩ := h
    match vs, h, hv with
    | [s, x], h, hv =>
      have hs := (okL_cons.1 hv).1
      have hx := (okL_cons.1 (okL_cons.1 hv).2).1
      obtain ⟨D', m', w', hr, ho, he⟩ := append_ok (ty := ty) hT hi h0 h1 hs hx h
      exact ⟨D', m', w', _, by simp only [Go.builtin, Sem.run_bind, concL]; rw [hr]; rfl, .inl rfl, ho, he⟩
    | [], h, _ => cases h
    | [_], h, _ => cases h
    | _ :: _ :: _ :: _, h, _ => cases h
  case cap =>
    simp only [keep_some, ob_some, ht] at h
    obtain ⟨⟨t, h0, h⟩, ho⟩ := h
    match vs, h with
    | [x], h =>
      obtain ⟨h1, h2⟩ := cap_ok (P := P) (m := m) (w := w) (ty := ty) hT h0 h
      exact OpOK.pure hi ho (by simp only [Go.builtin, Sem.run_bind, concL]; rw [h1]; rfl) (okV_none h2)
    | [], h => cases h
    | _ :: _ :: _, h => cases h
  case copy =>
    simp only [ob_some, ht] at h
    obtain ⟨t, h0, h⟩ := h
    match vs, h, hv with
    | [s, x], h, hv =>
      have hs := (okL_cons.1 hv).1
      have hx := (okL_cons.1 (okL_cons.1 hv).2).1
      obtain ⟨D', m', w', hr, ho, he⟩ := copy_ok (ty := ty) hT hi h0 hs hx h
      exact ⟨D', m', w', _, by simp only [Go.builtin, Sem.run_bind, concL]; rw [hr]; rfl, .inl rfl, ho, he⟩
    | [], h, _ => cases h
    | [_], h, _ => cases h
    | _ :: _ :: _ :: _, h, _ => cases h
  case len =>
    simp only [keep_some, ob_some, ht] at h
    obtain ⟨⟨t, h0, h⟩, ho⟩ := h
    match vs, h with
    | [x], h =>
      obtain ⟨h1, h2⟩ := len_ok (P := P) (m := m) (w := w) (ty := ty) hT h0 h
      exact OpOK.pure hi ho (by simp only [Go.builtin, Sem.run_bind, concL]; rw [h1]; rfl) (okV_none h2)
    | [], h => cases h
    | _ :: _ :: _, h => cases h
  case max =>
    simp only [keep_some] at h
    obtain ⟨h, ho⟩ := h
    match vs, h with
    | .int k x :: rest, h =>
      obtain ⟨h1, h2⟩ := max_fold (P := P) (m := m) (w := w) h
      refine OpOK.pure hi ho ?_ (okV_none h2)
      simp only [Go.builtin, Builtin.max_, Sem.run_bind, concL, conc]
      rw [h1]; rfl
    | [], h => cases h
    | .bool _ :: _, h => cases h
    | .str _ :: _, h => cases h
    | .ptr .. :: _, h => cases h
    | .nilptr :: _, h => cases h
    | .slice .. :: _, h => cases h
    | .nilslice :: _, h => cases h
    | .func .. :: _, h => cases h
    | .nilfunc :: _, h => cases h
    | .iface .. :: _, h => cases h
    | .niliface :: _, h => cases h
    | .agg _ :: _, h => cases h
    | .tuple _ :: _, h => cases h
    | .map _ :: _, h => cases h
    | .nilmap :: _, h => cases h
  case min =>
    simp only [keep_some] at h
    obtain ⟨h, ho⟩ := h
    match vs, h with
    | .int k x :: rest, h =>
      obtain ⟨h1, h2⟩ := min_fold (P := P) (m := m) (w := w) h
      refine OpOK.pure hi ho ?_ (okV_none h2)
      simp only [Go.builtin, Builtin.min_, Sem.run_bind, concL, conc]
      rw [h1]; rfl
    | [], h => cases h
    | .bool _ :: _, h => cases h
    | .str _ :: _, h => cases h
    | .ptr .. :: _, h => cases h
    | .nilptr :: _, h => cases h
    | .slice .. :: _, h => cases h
    | .nilslice :: _, h => cases h
    | .func .. :: _, h => cases h
    | .nilfunc :: _, h => cases h
    | .iface .. :: _, h => cases h
    | .niliface :: _, h => cases h
    | .agg _ :: _, h => cases h
    | .tuple _ :: _, h => cases h
    | .map _ :: _, h => cases h
    | .nilmap :: _, h => cases h
end
end Go.Ev
end
section
set_option linter.all false
namespace Go.Ev
open Go Go.RowKit

def footIds : Foot → List Nat
  | .bar ids => ids
  | _ => []
/-- What a call of a function comes to: it is entered and returns, or the machine answers it at once. -/
def CallS (P : Program) (f : FuncId) (args : Array Value) (w : World) (R : Value → World → Prop) : Prop :=
  ((callFunc f args).run P w = .ok (.enter f args) w ∧ Calls P f args w fun e w' => ∃ v, e = .returned v ∧ R v w') ∨ ∃ v w', (callFunc f args).run P w = .ok (.value v) w' ∧ R v w'
theorem CallS.mono {P : Program} {f : FuncId} {args : Array Value} {w : World} {R R' : Value → World → Prop} (h : CallS P f args w R) (hr : ∀ v w', R v w' → R' v w') : CallS P f args w R' :=
  h.elim (fun ⟨a, b⟩ => .inl ⟨a, b.mono fun _ _ ⟨v, e, r⟩ => ⟨v, e, hr _ _ r⟩⟩) fun ⟨v, w', a, b⟩ => .inr ⟨v, w', a, hr _ _ b⟩

/-- All machines; in a round of a loop over a function, or in none. -/
def FR (x : Option Nat) : Fence := { Fence.wide with round := x }
theorem callsFR {x : Option Nat} {n : Nat} {P : Program} {f : FuncId} {args : Array Value} {w : World} {R : Ending → World → Prop} (h : Calls P f args w R) : CallsIn (FR x) n P f args w R :=
  (callsIn_wide.2 h : CallsIn Fence.wide n P f args w R)
/-- What a call of yield comes to. -/
def RoundS (P : Program) (l : Nat) (args : Array Value) (w : World) (R : Value → World → Prop) : Prop :=
  ∃ fn tmps assign body, (Instr.yield l args).run P w = .ok (.round l fn tmps assign body) w ∧ RoundIn Fence.wide 0 P l fn tmps assign body w fun e w' => ∃ v, e = .returned v ∧ R v w'
/-- No block that was there is turned, and what gets a name is new. -/
def Mute (D : Nat → Prop) (w : World) (D' : Nat → Prop) (m' : Nat → Loc) (w' : World) : Prop :=
  (∀ k, k < w.heap.size → w'.heap[k]? = w.heap[k]?) ∧ ∀ i, D' i → ¬ D i → w.heap.size ≤ (m' i).blk
/-- The reckoner's calls hold of the machine. -/
def CallOK (P : Program) (cfg : Cfg) (mu : Prop) (call : Ctx → FuncId → List AV → Own → Option (AV × Own)) : Prop :=
  ∀ C f args o r, call C f args o = some r → ∀ D m w, Inv cfg D m C o w → okL D m args →
    CallS P f (concL m args).toArray w fun V w' => ∃ D' m', V = conc m' r.1 ∧ okV D' m' r.1 ∧ Ext cfg C D m o w D' m' r.2 w' ∧ (mu → namesAt args (cfg.lend f) = [] → Mute D w D' m' w')
def RndOK (P : Program) (cfg : Cfg) (mu : Prop) (rnd : Ctx → Nat → List AV → Own → Option (AV × Own)) : Prop :=
  ∀ C id args o r, rnd C id args o = some r → (mu → False) ∧ ∀ D m w, Inv cfg D m C o w → D id → okL D m args →
    RoundS P (m id).blk (concL m args).toArray w fun V w' => ∃ D' m', V = conc m' r.1 ∧ okV D' m' r.1 ∧ Ext cfg C D m o w D' m' r.2 w'
theorem rnd0_ok {P : Program} {cfg : Cfg} {mu : Prop} : RndOK P cfg mu rnd0 := fun C id args o r h => by cases h

section
variable {P : Program} {T : Tab} (hT : TabOK P T) {cfg : Cfg} {C : Ctx} {D : Nat → Prop} {m : Nat → Loc} {o : Own} {w : World} (hi : Inv cfg D m C o w) {ρ : Operand → Option AV}
include hT hi
theorem opA_ok {ev : Operand → Value} (hρ : RhoOK D m ρ ev) {oo : Oper} {r : AV × Own} (h : opA T C ρ o oo.op = some r) : OpS P cfg C D m o w ev oo r := by
  unfold opA at h
  cases ho : oo.op <;> rw [ho] at h <;> simp only [opSel] at h
  case move => exact do_move hi hρ (.inl ho) h
  case assign => exact do_move hi hρ (.inr ho) h
  case pick => exact do_pick hi hρ ho h
  case alloc => exact do_alloc hT hi hρ ho h
  case box => exact do_box hi hρ ho h
  case build => exact do_build hT hi hρ ho h
  case buildSlice => exact do_buildSlice hT hi hρ ho h
  case insert => exact do_mapUp hT hi hρ (.inl ho) h
  case load => exact do_load hT hi hρ ho h
  case store => exact do_store hT hi hρ ho h
  case nilCheck => exact do_nilCheck hi hρ ho h
  case binOp => exact do_bin hT hi hρ ho h
  case unOp => exact do_un hi hρ ho h
  case convert => exact do_convert hT hi hρ ho h
  case makeInterface => exact do_iface hT hi hρ ho h
  case makeFunc => exact do_func hi hρ ho h
  case makeMap => exact do_makeMap hi hρ ho h
  case makeSlice => exact do_makeSlice hT hi hρ ho h
  case slice => exact do_slice hT hi hρ ho h
  case fieldAddr => exact do_fieldAddr hT hi hρ ho h
  case field => exact do_field hT hi hρ ho h
  case indexAddr => exact do_indexAddr hT hi hρ ho h
  case index => exact do_index hT hi hρ ho h
  case lookup => exact do_lookup hT hi hρ ho h
  case mapUpdate => exact do_mapUp hT hi hρ (.inr ho) h
  case range => exact do_range hT hi hρ ho h
  case next => exact do_next hi hρ ho h
  case extract => exact do_extract hi hρ ho h
  all_goals cases h

theorem step_ok {mu : Prop} {x : Option Nat} {a : Act} (hρ : RhoOK D m ρ a.eval) {call : Ctx → FuncId → List AV → Own → Option (AV × Own)} {rnd : Ctx → Nat → List AV → Own → Option (AV × Own)} (hc : CallOK P cfg mu call) (hrd : RndOK P cfg mu rnd)
    {oo : Oper} {r : AV × Own} (h : stepA T call rnd C ρ o oo.op = some r)
    {next : Act → World → Prop} {Q : Exit → Act → World → Prop} (hn : ∀ D' m' w', okV D' m' r.1 → Ext cfg C D m o w D' m' r.2 w' → (mu → kindOp oo.op = .call → footIds (footA cfg ρ oo.op) = [] → Mute D w D' m' w') → next (a.put oo.dst (conc m' r.1)) w') : oo.wpIn (FR x) 0 P a w next Q := by
  have hnd : ∀ c, oo.op ≠ .defer c := fun c e => by rw [e] at h; cases h
  have hsem : oo.semAt (FR x).round a.eval = execOp a.eval oo := Oper.semAt_eq _ _ _ hnd
  have hdep : ∀ k : Nat, (FR x).depth.isSome = true → 1 ≤ k := fun k hk => by cases hk
  unfold Oper.wpIn
  refine ⟨fun _ _ => trivial, ?_⟩
  rw [hsem]
  have fin : kindOp oo.op ≠ .call → OpOK P cfg C D m o w (execOp a.eval oo) r → oo.uponIn (FR x) 0 P a next Q ((execOp a.eval oo).run P w) := by
    rintro hk ⟨D', m', w', nx, hr, hx, hv, he⟩
    rw [hr]
    rcases hx with rfl | ⟨rfl, hu⟩
    · exact hn D' m' w' hv he fun _ e => absurd e hk
    · have := hn D' m' w' hv he fun _ e => absurd e hk
      rw [hu, conc_undef] at this
      exact this
  unfold stepA at h
  split at h
  · rename_i c hoc
    unfold callC at h
    cases hcal : c.callee with
    | value f =>
      simp only [hcal, ob_some] at h
      obtain ⟨fv, hf, vs, hvs, h⟩ := h
      obtain ⟨h1, h2⟩ := hρ f _ hf
      obtain ⟨h3, h4⟩ := mapAll_arr hρ hvs
      cases fv <;> simp only [callV, reduceCtorEq] at h
      · rename_i fid first captured
        have hok : okL D m (first ++ vs ++ captured) := by
          have : okL D m first ∧ okL D m captured := ⟨fun i hm => h2 i (by simp [idsA, hm]), fun i hm => h2 i (by simp [idsA, hm])⟩
          exact okL_append.2 ⟨okL_append.2 ⟨this.1, h4⟩, this.2⟩
        have hcs := hc C fid _ o r h D m w hi hok
        have hargs : (concL m first).toArray ++ (concL m vs).toArray ++ (concL m captured).toArray = (concL m (first ++ vs ++ captured)).toArray := by
          simp [concL_app]
        have hex : ∀ nx w', (callFunc fid (concL m (first ++ vs ++ captured)).toArray).run P w = .ok nx w' → (execOp a.eval oo).run P w = .ok nx w' := by
          intro nx w' hrun
          simp only [execOp, hoc, resolve, hcal, h1, conc, Deferred.ofValue, h3, Sem.run_bind, Sem.run_pure, Result.andThen_ok, invoke]
          rw [hargs]; exact hrun
        have hmu : ∀ D' m' w', (mu → namesAt (first ++ vs ++ captured) (cfg.lend fid) = [] → Mute D w D' m' w') → mu → kindOp oo.op = .call → footIds (footA cfg ρ oo.op) = [] → Mute D w D' m' w' := by
          intro D' m' w' hm hmu _ hf'
          refine hm hmu ?_
          simp only [hoc, footA, hcal, footC, hf, hvs, footF] at hf'
          cases hna : namesAt (first ++ vs ++ captured) (cfg.lend fid) with
          | nil => rfl
          | cons x xs => rw [hna] at hf'; cases hf'
        rcases hcs with ⟨hent, hcalls⟩ | ⟨v, w', hval, D', m', rfl, hv, he, hm⟩
        · rw [hex _ _ hent, Oper.uponIn_enter]
          refine ⟨hdep _, CallsIn.mono (callsFR hcalls) ?_⟩
          rintro e w' ⟨v, rfl, D', m', rfl, hv, he, hm⟩
          exact hn D' m' w' hv he (hmu D' m' w' hm)
        · rw [hex _ _ hval, Oper.uponIn_value]
          exact hn D' m' w' hv he (hmu D' m' w' hm)
      · rename_i id
        obtain ⟨hmf, hrr⟩ := hrd C id vs o r h
        obtain ⟨fn, tmps, assign, body, hy, hR⟩ := hrr D m w hi (h2 _ (by simp [idsA]; rfl)).1 h4
        have hex : ∀ nx w', (Instr.yield (m id).blk (concL m vs).toArray).run P w = .ok nx w' → (execOp a.eval oo).run P w = .ok nx w' := by
          intro nx w' hrun
          simp only [execOp, hoc, resolve, hcal, h1, conc, Deferred.ofValue, h3, Sem.run_bind, Sem.run_pure, Result.andThen_ok, invoke]
          simpa using hrun
        rw [hex _ _ hy, Oper.uponIn_round]
        refine ⟨hdep _, RoundIn.mono (F := FR x) hR ?_⟩
        rintro e w' ⟨v, rfl, D', m', rfl, hv, he⟩
        exact hn D' m' w' hv he fun hm => (hmf hm).elim
    | builtin b =>
      simp only [hcal, ob_some] at h
      obtain ⟨vs, hvs, h⟩ := h
      obtain ⟨h3, h4⟩ := mapAll_arr hρ hvs
      refine fin (by rw [hoc]; simp only [kindOp, hcal, kindC]; cases b <;> simp [kindB]) ?_
      obtain ⟨D', m', w', nx, hr, hx⟩ := builtin_ok (ty := oo.type) (consts := c.args.map fun | .const _ => true | _ => false) hT hi h4 h
      refine ⟨D', m', w', nx, ?_, hx⟩
      simp only [execOp, hoc, resolve, hcal, h3, Sem.run_bind, Sem.run_pure, Result.andThen_ok, invoke]
      exact hr
    | invoke x n => simp [hcal] at h
  · rename_i hne
    refine fin (fun e => ?_) (opA_ok hT hi hρ h)
    cases hop : oo.op <;> rw [hop] at e <;> simp only [kindOp, reduceCtorEq] at e
    exact hne _ hop
end

/-- Whether a guarded operation runs. -/
theorem wanted_eq {D : Nat → Prop} {m : Nat → Loc} {st : St} {a : Act} (ht : TR D m st a) {ops : Array Oper} {oo : Oper} : Region.wanted oo (yielded ops a.tmps) = wantedA ops st.ts oo.guard := by
  unfold Region.wanted wantedA
  cases oo.guard with
  | none => rfl
  | some jw =>
    obtain ⟨j, want⟩ := jw
    simp only [yielded]
    cases hj : ops[j]? with
    | none => simp
    | some op =>
      cases hd : op.dst with
      | none => simp [hd, wantedT]
      | some t =>
        have hat := ht.at' t
        simp only [Option.bind_some, hd, wantedT]
        cases hg : a.tmps[t]? with
        | none =>
          have : a.tmps.getD t undef = undef := by
            rw [Array.getElem?_eq_none_iff] at hg
            simp only [Array.getD]
            rw [dif_neg (by omega)]
          rw [this] at hat
          cases hv : st.ts.get t <;> rw [hv] at hat <;> simp [conc, undef] at hat <;> first | rfl | (subst hat; rfl)
        | some v =>
          have : a.tmps.getD t undef = v := by simp [hg]
          rw [this] at hat
          subst hat
          cases hv : st.ts.get t with
          | any v => simp only [conc, isTrue]; cases v <;> simp [isTrueV, want_beq]
          | _ => simp [conc, isTrue, want_beq]
theorem rho_of_TR {cfg : Cfg} {D : Nat → Prop} {m : Nat → Loc} {C : Ctx} {st : St} {a : Act} {w : World} (hi : Inv cfg D m C st.o w) (ht : TR D m st a) : RhoOK D m (evalA cfg.G st.ts) a.eval := fun _ _ h => evalA_conc hi ht h

section
variable {P : Program} {T : Tab} (hT : TabOK P T) {cfg : Cfg} {C : Ctx} {mu : Prop} {call : Ctx → FuncId → List AV → Own → Option (AV × Own)} {rnd : Ctx → Nat → List AV → Own → Option (AV × Own)} (hc : CallOK P cfg mu call) (hrd : RndOK P cfg mu rnd)
include hT hc hrd
/-- A row of operations, one behind the other. -/
theorem ops_ok {ops : Array Oper} {Q : Exit → Act → World → Prop} {x : Option Nat} : ∀ (l : List Oper) (k : Nat), ops.toList.drop k = l → ∀ {D : Nat → Prop} {m : Nat → Loc} {st st' : St} {a : Act} {w : World}, Inv cfg D m C st.o w → TR D m st a → opsA T cfg call rnd C ops l st = some st' →
    (∀ D' m' a' w', TR D' m' st' a' → Ext cfg C D m st.o w D' m' st'.o w' → Q .normal a' w') → wpOpsIn (FR x) 0 P ops Q (List.range' k l.length) a w
  | [], k, hl, D, m, st, st', a, w, hi, ht, h, hq => by
    cases h
    exact hq D m a w ht (Ext.refl hi)
  | oo :: rest, k, hl, D, m, st, st', a, w, hi, ht, h, hq => by
    have hk : ops[k]? = some oo := by
      have : (ops.toList.drop k)[0]? = some oo := by rw [hl]; rfl
      rw [List.getElem?_drop] at this
      simpa using this
    have hrest : ops.toList.drop (k + 1) = rest := by
      rw [← List.drop_drop, hl]; rfl
    simp only [opsA, ob_some] at h
    obtain ⟨st1, hs, h⟩ := h
    simp only [List.length_cons, List.range'_succ, wpOpsIn, hk]
    rw [wanted_eq ht]
    cases hw : wantedA ops st.ts oo.guard with
    | true =>
      rw [hw, cond_true, ob_some] at hs
      obtain ⟨r, hr, hp⟩ := hs
      rw [if_pos rfl]
      refine step_ok hT hi (rho_of_TR hi ht) hc hrd hr fun D' m' w' hv he _ => ?_
      obtain ⟨ht', ho, _⟩ := (ht.mono he.sub he.same).put hp hv
      have hi' : Inv cfg D' m' C st1.o w' := by rw [ho]; exact he.inv
      refine ops_ok rest (k + 1) hrest hi' ht' h fun D2 m2 a2 w2 ht2 he2 => hq D2 m2 a2 w2 ht2 ?_
      rw [ho] at he2
      exact he.trans he2
    | false =>
      rw [hw, cond_false] at hs
      rw [if_neg (by simp)]
      refine ⟨fun _ _ => trivial, ?_⟩
      obtain ⟨ht', ho, _⟩ := ht.put hs okV_undef
      rw [conc_undef] at ht'
      have hi' : Inv cfg D m C st1.o w := by rw [ho]; exact hi
      refine ops_ok rest (k + 1) hrest hi' ht' h fun D2 m2 a2 w2 ht2 he2 => hq D2 m2 a2 w2 ht2 ?_
      rw [ho] at he2; exact he2
end
end Go.Ev
end
