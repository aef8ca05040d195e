/- The builtins, as the machine calls them. -/
import Derived.Test.YtafekjglclnegaaGreatDoorEw13
set_option linter.all false
namespace Go.Ev
open Go Go.RowKit

section
variable {P : Program} {T : Tab} (hT : TabOK P T) {cfg : Cfg} {C : Ctx} {D : Nat → Prop} {m : Nat → Loc} {o : Own} {w : World} (hi : Inv cfg D m C o w)
include hT hi
theorem copy_ok {ts : Array TypeId} {ty t : TypeId} {d s : AV} {r : AV × Own} (hts : ts[0]? = some t) (hd : okV D m d) (hs : okV D m s) (h : copyA T C o t d s = some r) :
    ∃ D' m' w', (Builtin.copy_ ts ty #[conc m d, conc m s]).run P w = .ok (conc m' r.1) w' ∧ okV D' m' r.1 ∧ Ext cfg C D m o w D' m' r.2 w' := by
  simp only [copyA, ob_some, ok_some] at h
  obtain ⟨elem, he, hsl, size, hsz, dl, hdl, sl, hsl', cs, hcs, h⟩ := h
  obtain ⟨hfr, hfo⟩ := run_firstA (P := P) hi hs hcs
  have hmin : minN sl dl = Nat.min sl dl := by
    unfold minN
    by_cases hle : sl ≤ dl
    · rw [ble_iff.2 hle, cond_true]; exact (Nat.min_eq_left hle).symm
    · rw [bleF hle, cond_false]; exact (Nat.min_eq_right (by omega)).symm
  have ha1 : ∀ x y : Value, (#[x, y] : Array Value)[1]? = some y := fun _ _ => rfl
  have ha0 : ∀ x y : Value, (#[x, y] : Array Value)[0]? = some x := fun _ _ => rfl
  rcases sliceA_lenA hdl hsl with ⟨rfl, rfl⟩ | ⟨id, off, c, rfl⟩
  · simp only [copyTo, Option.some.injEq] at h
    subst h
    refine ⟨D, m, w, ?_, by rw [goInt_eq]; exact okV_int, Ext.refl hi⟩
    rw [hmin] at hfr ⊢
    simp only [Builtin.copy_, hts, ha0, ha1, Sem.run_bind, run_und hT (und_elem he) w, Result.andThen_ok, conc, run_lenA hsl', run_sz hT hsz w, hfr, Sem.run_pure, goInt_eq, Go.goInt]
  · have hdd : D id := (hd (id, needC dl c) (by simp [idsA])).1
    simp only [copyTo, ok_some, ob_some, Option.some.injEq] at h
    obtain ⟨hone, o', hw, rfl⟩ := h
    obtain ⟨w', hw1, hw2⟩ := run_writeA (P := P) hi hdd hfo hone hw
    refine ⟨D, m, w', ?_, by rw [goInt_eq]; exact okV_int, hw2⟩
    rw [hmin] at hfr ⊢
    simp only [Builtin.copy_, hts, ha0, ha1, Sem.run_bind, run_und hT (und_elem he) w, Result.andThen_ok, conc, run_lenA hsl', run_sz hT hsz w, hfr, hw1, Sem.run_pure, goInt_eq, Go.goInt]
omit hi in
theorem len_ok {ts : Array TypeId} {ty t : TypeId} {x v : AV} (hts : ts[0]? = some t) (h : lenD x (T.und t) = some v) : (Builtin.len_ ts ty #[conc m x]).run P w = .ok (conc m v) w ∧ idsA v = [] := by
  have ha0 : ∀ x : Value, (#[x] : Array Value)[0]? = some x := fun _ => rfl
  cases hu : T.und t with
  | none => simp [hu, lenD] at h
  | some d =>
    cases d <;> simp only [hu, lenD, reduceCtorEq] at h
    · cases x <;> simp only [reduceCtorEq, Option.some.injEq] at h
      subst h
      rw [goInt_eq]
      refine ⟨?_, by simp [idsA]⟩
      simp only [Builtin.len_, hts, ha0, Sem.run_bind, run_und hT hu w, Result.andThen_ok, conc, Sem.run_pure, Go.goInt]; rfl
    · cases x <;> simp only [reduceCtorEq, Option.some.injEq] at h <;> subst h <;> rw [goInt_eq] <;> refine ⟨?_, by simp [idsA]⟩ <;>
        simp only [Builtin.len_, hts, ha0, Sem.run_bind, run_und hT hu w, Result.andThen_ok, conc, Sem.run_pure, Go.goInt] <;> rfl
    · simp only [Option.some.injEq] at h
      subst h
      rw [goInt_eq]
      refine ⟨?_, by simp [idsA]⟩
      simp only [Builtin.len_, hts, ha0, Sem.run_bind, run_und hT hu w, Result.andThen_ok, conc, Sem.run_pure, Go.goInt]
omit hi in
theorem cap_ok {ts : Array TypeId} {ty t : TypeId} {x v : AV} (hts : ts[0]? = some t) (h : capD x (T.und t) = some v) : (Builtin.cap_ ts ty #[conc m x]).run P w = .ok (conc m v) w ∧ idsA v = [] := by
  have ha0 : ∀ x : Value, (#[x] : Array Value)[0]? = some x := fun _ => rfl
  cases hu : T.und t with
  | none => simp [hu, capD] at h
  | some d =>
    rw [hu] at h
    cases d <;> simp only [capD, reduceCtorEq] at h
    cases x <;> (try simp only [reduceCtorEq, Option.some.injEq] at h)
    · rename_i id off len c
      cases c <;> simp only [reduceCtorEq, Option.some.injEq] at h
      subst h
      rw [goInt_eq]
      refine ⟨?_, by simp [idsA]⟩
      simp only [Builtin.cap_, hts, ha0, Sem.run_bind, run_und hT hu w, Result.andThen_ok, conc, Sem.run_pure, Go.goInt, capC]
    · subst h
      rw [goInt_eq]
      refine ⟨?_, by simp [idsA]⟩
      simp only [Builtin.cap_, hts, ha0, Sem.run_bind, run_und hT hu w, Result.andThen_ok, conc, Sem.run_pure, Go.goInt]
omit hT hi in
theorem min_fold {k : IntKind} : ∀ {vs : List AV} {acc : Int} {v : AV}, foldInt minI k acc vs = some v → ((concL m vs).foldlM Builtin.min2 (.int k acc)).run P w = .ok (conc m v) w ∧ idsA v = []
  | [], acc, v, h => by cases h; simp [concL, conc, idsA]
  | x :: vs, acc, v, h => by
    cases x <;> simp only [foldInt, reduceCtorEq] at h
    rename_i k' y
    obtain ⟨h1, h2⟩ := min_fold h
    refine ⟨?_, h2⟩
    have e : minI acc y = if y < acc then y else acc := by
      unfold minI
      rw [intLe_dec]
      by_cases hle : acc ≤ y
      · rw [decide_eq_true hle, cond_true, if_neg (by omega)]
      · rw [decide_eq_false hle, cond_false, if_pos (by omega)]
    rw [e] at h1
    simpa [concL, conc, Builtin.min2] using h1
omit hT hi in
theorem max_fold {k : IntKind} : ∀ {vs : List AV} {acc : Int} {v : AV}, foldInt maxI k acc vs = some v → ((concL m vs).foldlM Builtin.max2 (.int k acc)).run P w = .ok (conc m v) w ∧ idsA v = []
  | [], acc, v, h => by cases h; simp [concL, conc, idsA]
  | x :: vs, acc, v, h => by
    cases x <;> simp only [foldInt, reduceCtorEq] at h
    rename_i k' y
    obtain ⟨h1, h2⟩ := max_fold h
    refine ⟨?_, h2⟩
    have e : maxI acc y = if y > acc then y else acc := by
      unfold maxI
      rw [intLe_dec]
      by_cases hle : y ≤ acc
      · rw [decide_eq_true hle, cond_true, if_neg (by omega)]
      · rw [decide_eq_false hle, cond_false, if_pos (by omega)]
    rw [e] at h1
    simpa [concL, conc, Builtin.max2] using h1

/-- A builtin's call. -/
theorem builtin_ok {b : Builtin} {ts : Array TypeId} {ty : TypeId} {consts : Array Bool} {vs : List AV} {r : AV × Own} (hv : okL D m vs) (h : builtinA T C o b ts.toList vs = some r) : OpOK P cfg C D m o w (Go.builtin b ts ty consts (concL m vs).toArray) r := by
  have ht : ∀ i, ts.toList[i]? = ts[i]? := fun i => Array.getElem?_toList
  unfold builtinA at h
  cases b <;> (try simp only [reduceCtorEq] at h)
  case append =>
    simp only [ob_some, ht] at h
    obtain ⟨t, h0, u, h1, h⟩ := h
    match vs, h, hv with
    | [s, x], h, hv =>
      have hs := (okL_cons.1 hv).1
      have hx := (okL_cons.1 (okL_cons.1 hv).2).1
      obtain ⟨D', m', w', hr, ho, he⟩ := append_ok (ty := ty) hT hi h0 h1 hs hx h
      exact ⟨D', m', w', _, by simp only [Go.builtin, Sem.run_bind, concL]; rw [hr]; rfl, .inl rfl, ho, he⟩
    | [], h, _ => cases h
    | [_], h, _ => cases h
    | _ :: _ :: _ :: _, h, _ => cases h
  case cap =>
    simp only [keep_some, ob_some, ht] at h
    obtain ⟨⟨t, h0, h⟩, ho⟩ := h
    match vs, h with
    | [x], h =>
      obtain ⟨h1, h2⟩ := cap_ok (P := P) (m := m) (w := w) (ty := ty) hT h0 h
      exact OpOK.pure hi ho (by simp only [Go.builtin, Sem.run_bind, concL]; rw [h1]; rfl) (okV_none h2)
    | [], h => cases h
    | _ :: _ :: _, h => cases h
  case copy =>
    simp only [ob_some, ht] at h
    obtain ⟨t, h0, h⟩ := h
    match vs, h, hv with
    | [s, x], h, hv =>
      have hs := (okL_cons.1 hv).1
      have hx := (okL_cons.1 (okL_cons.1 hv).2).1
      obtain ⟨D', m', w', hr, ho, he⟩ := copy_ok (ty := ty) hT hi h0 hs hx h
      exact ⟨D', m', w', _, by simp only [Go.builtin, Sem.run_bind, concL]; rw [hr]; rfl, .inl rfl, ho, he⟩
    | [], h, _ => cases h
    | [_], h, _ => cases h
    | _ :: _ :: _ :: _, h, _ => cases h
  case len =>
    simp only [keep_some, ob_some, ht] at h
    obtain ⟨⟨t, h0, h⟩, ho⟩ := h
    match vs, h with
    | [x], h =>
      obtain ⟨h1, h2⟩ := len_ok (P := P) (m := m) (w := w) (ty := ty) hT h0 h
      exact OpOK.pure hi ho (by simp only [Go.builtin, Sem.run_bind, concL]; rw [h1]; rfl) (okV_none h2)
    | [], h => cases h
    | _ :: _ :: _, h => cases h
  case max =>
    simp only [keep_some] at h
    obtain ⟨h, ho⟩ := h
    match vs, h with
    | .int k x :: rest, h =>
      obtain ⟨h1, h2⟩ := max_fold (P := P) (m := m) (w := w) h
      refine OpOK.pure hi ho ?_ (okV_none h2)
      simp only [Go.builtin, Builtin.max_, Sem.run_bind, concL, conc]
      rw [h1]; rfl
    | [], h => cases h
    | .bool _ :: _, h => cases h
    | .str _ :: _, h => cases h
    | .ptr .. :: _, h => cases h
    | .nilptr :: _, h => cases h
    | .slice .. :: _, h => cases h
    | .nilslice :: _, h => cases h
    | .func .. :: _, h => cases h
    | .nilfunc :: _, h => cases h
    | .iface .. :: _, h => cases h
    | .niliface :: _, h => cases h
    | .agg _ :: _, h => cases h
    | .tuple _ :: _, h => cases h
    | .map _ :: _, h => cases h
    | .nilmap :: _, h => cases h
  case min =>
    simp only [keep_some] at h
    obtain ⟨h, ho⟩ := h
    match vs, h with
    | .int k x :: rest, h =>
      obtain ⟨h1, h2⟩ := min_fold (P := P) (m := m) (w := w) h
      refine OpOK.pure hi ho ?_ (okV_none h2)
      simp only [Go.builtin, Builtin.min_, Sem.run_bind, concL, conc]
      rw [h1]; rfl
    | [], h => cases h
    | .bool _ :: _, h => cases h
    | .str _ :: _, h => cases h
    | .ptr .. :: _, h => cases h
    | .nilptr :: _, h => cases h
    | .slice .. :: _, h => cases h
    | .nilslice :: _, h => cases h
    | .func .. :: _, h => cases h
    | .nilfunc :: _, h => cases h
    | .iface .. :: _, h => cases h
    | .niliface :: _, h => cases h
    | .agg _ :: _, h => cases h
    | .tuple _ :: _, h => cases h
    | .map _ :: _, h => cases h
    | .nilmap :: _, h => cases h
end
end Go.Ev
