/- Operations that only reckon: parts, slices of slices, indexes, conversions. -/
import Derived.Test.YtafekjglclnegaaGreatDoorEw7
import Derived.Laws.Slices
set_option linter.all false
namespace Go.Ev
open Go Go.RowKit

theorem natA_some {hi n : Nat} {v : AV} (h : natA hi v = some n) : ∃ k, v = .int k (.ofNat n) ∧ n ≤ hi := by
  unfold natA at h
  split at h
  · simp only [ok_some, Option.some.injEq, ble_iff] at h
    obtain ⟨h1, rfl⟩ := h
    exact ⟨_, rfl, h1⟩
  · cases h
theorem run_bound {P : Program} {m : Nat → Loc} {most n : Nat} {v : AV} {y : Nat} {code : BoundsCode} (h : natA most v = some n) (hy : most ≤ y) (w : World) : (Instr.sliceBound (conc m v) y code).run P w = .ok n w := by
  obtain ⟨k, rfl, hn⟩ := natA_some h
  simp only [conc]
  rw [run_sliceBound w k _ y code (by simp) (by simp; omega)]
  simp
/-- The bounds of 's[lo:hi:mx]': what the reckoner takes for the capacity is no more than it is. -/
theorem run_bounds {P : Program} {m : Nat → Loc} {b : Bool} {len cap c0 mm h l : Nat} {lo hi mx : Option AV} (hc : mx = none → mm = cap) (hc' : ∀ v, mx = some v → natA c0 v = some mm ∧ c0 ≤ cap)
    (hm : mx = none ∨ hi.isSome = true) (hh : ∃ t, boundA t len hi = some h ∧ t ≤ mm) (hl : boundA h 0 lo = some l) (w : World) :
    (Instr.sliceBounds b len cap (lo.map (conc m)) (hi.map (conc m)) (mx.map (conc m))).run P w = .ok (l, h, mm) w := by
  obtain ⟨t, hh, ht⟩ := hh
  unfold Instr.sliceBounds
  cases mx with
  | none =>
    obtain rfl := hc rfl
    cases hi with
    | none =>
      simp only [boundA, Option.some.injEq] at hh
      subst hh
      cases lo with
      | none => simp only [boundA, Option.some.injEq] at hl; subst hl; simp
      | some lv => simp only [boundA] at hl; simp [run_bound hl (Nat.le_refl _) w]
    | some hv =>
      simp only [boundA] at hh
      cases lo with
      | none => simp only [boundA, Option.some.injEq] at hl; subst hl; simp [run_bound hh ht w]
      | some lv => simp only [boundA] at hl; simp [run_bound hh ht w, run_bound hl (Nat.le_refl _) w]
  | some mv =>
    obtain ⟨h1, h2⟩ := hc' mv rfl
    cases hi with
    | none => simp at hm
    | some hv =>
      simp only [boundA] at hh
      cases lo with
      | none => simp only [boundA, Option.some.injEq] at hl; subst hl; simp [run_bound h1 h2 w, run_bound hh ht w]
      | some lv => simp only [boundA] at hl; simp [run_bound h1 h2 w, run_bound hh ht w, run_bound hl (Nat.le_refl _) w]
theorem boundA_le {t d h : Nat} {v : Option AV} (hb : boundA t d v = some h) (hd : d ≤ t) : h ≤ t := by
  cases v with
  | none => cases hb; exact hd
  | some v => obtain ⟨_, _, h⟩ := natA_some hb; exact h

theorem conc_capSlice {m : Nat → Loc} (id off size mm h l : Nat) :
    conc m (capSlice id off size mm h l) = .slice (if mm = l then some ⟨(m id).blk, (m id).base + off, none⟩ else some ((⟨(m id).blk, (m id).base + off, none⟩ : Addr).add (l * size))) (h - l) (mm - l) := by
  unfold capSlice
  by_cases e : mm = l
  · rw [beqT e, cond_true, if_pos e]; simp [conc, capC]
  · rw [beqF e, cond_false, if_neg e, add_none]; simp [conc, capC, Nat.add_assoc]
theorem ok_capSlice {D : Nat → Prop} {m : Nat → Loc} {id off size mm h l : Nat} (hd : D id) : okV D m (capSlice id off size mm h l) := by
  unfold capSlice
  cases Nat.beq mm l <;> (intro i hi; simp only [cond_true, cond_false, idsA, List.mem_singleton, needC] at hi; subst hi; exact ⟨hd, Nat.zero_le _⟩)

theorem und_arr {T : Tab} {t n e : Nat} (h : arrT T t = some (n, e)) : T.und t = some (.array n e) := by
  unfold arrT at h
  cases hu : T.und t with
  | none => simp [hu, arrD] at h
  | some d => cases d <;> simp [hu, arrD] at h; simp [h]
theorem und_elem {T : Tab} {t e : Nat} (h : elemT T t = some e) : T.und t = some (.slice e) := by
  unfold elemT at h
  cases hu : T.und t with
  | none => simp [hu, elemD] at h
  | some d => cases d <;> simp [hu, elemD] at h; simp [h]
theorem und_str {T : Tab} {t : Nat} (h : strT T t = true) : T.und t = some .string := by
  unfold strT at h
  cases hu : T.und t with
  | none => simp [hu, strD] at h
  | some d => cases d <;> simp [hu, strD] at h; rfl
theorem und_struct {T : Tab} {t : Nat} {fs : Array Field} (h : structT T t = some fs) : T.und t = some (.struct fs) := by
  unfold structT at h
  cases hu : T.und t with
  | none => simp [hu, structD] at h
  | some d => cases d <;> simp [hu, structD] at h; simp [h]

section
variable {P : Program} {T : Tab} (hT : TabOK P T)
include hT
theorem run_sliceOf {D : Nat → Prop} {m : Nat → Loc} {t : TypeId} {x v : AV} {lo hi mx : Option AV} (hx : okV D m x) (h : sliceOf T t lo hi mx x = some v) (w : World) :
    (Instr.sliceAt t (conc m x) (lo.map (conc m)) (hi.map (conc m)) (mx.map (conc m))).run P w = .ok (conc m v) w ∧ okV D m v := by
  cases x <;> simp only [sliceOf, reduceCtorEq, ob_some, ok_some] at h
  case ptr id off =>
    have hd : D id := (hx (id, 0) (by simp [idsA])).1
    obtain ⟨⟨n, e⟩, ha, size, hs, h⟩ := h
    simp only [sliceKnown, ok_some, ob_some, Option.some.injEq, Bool.or_eq_true, Option.isNone_iff_eq_none] at h
    obtain ⟨hm, mm, h1, hh, h2, l, h3, rfl⟩ := h
    refine ⟨?_, ok_capSlice hd⟩
    have hb := run_bounds (P := P) (m := m) (b := false) (len := n) (cap := n) (c0 := n) (mm := mm) (lo := lo) (hi := hi) (mx := mx) (fun e => by subst e; cases h1; rfl) (fun v e => by subst e; exact ⟨h1, Nat.le_refl _⟩) hm ⟨mm, h2, Nat.le_refl _⟩ h3 w
    simp only [Instr.sliceAt, Sem.run_bind, run_und hT (und_arr ha) w, Result.andThen_ok, conc, Instr.sureAddr, Sem.run_pure, hb, run_sz hT hs w, conc_capSlice]
    split <;> rfl
  case str s =>
    obtain ⟨hst, h⟩ := h
    simp only [Bool.and_eq_true, Option.isNone_iff_eq_none] at hst
    obtain ⟨hst, rfl⟩ := hst
    simp only [sliceStr, ob_some, Option.some.injEq] at h
    obtain ⟨hh, h2, l, h3, rfl⟩ := h
    refine ⟨?_, okV_none (by simp [idsA])⟩
    have hsz : (ByteArray.mk ⟨s⟩).size = s.length := rfl
    have hb := run_bounds (P := P) (m := m) (b := false) (len := s.length) (cap := s.length) (c0 := 0) (mm := s.length) (lo := lo) (hi := hi) (mx := none) (fun _ => rfl) (fun v e => by cases e) (.inl rfl) ⟨s.length, h2, Nat.le_refl _⟩ h3 w
    simp only [Option.map_none] at hb
    simp only [Instr.sliceAt, Sem.run_bind, run_und hT (und_str hst) w, Result.andThen_ok, conc, Instr.slice, Option.map_none, hsz, hb, Option.isSome_none, Bool.false_eq_true, if_false, Sem.run_pure]
    congr 2
    apply ByteArray.ext
    apply Array.toList_inj.1
    simp [ByteArray.data_extract, List.drop_take]
  case nilslice =>
    obtain ⟨e, he, sz, hs, h⟩ := h
    simp only [sliceNil, ok_some, ob_some, Option.some.injEq, Bool.or_eq_true, Option.isNone_iff_eq_none] at h
    obtain ⟨hm, mm, h1, hh, h2, l, h3, rfl⟩ := h
    refine ⟨?_, okV_none (by simp [idsA])⟩
    have hm0 : mm = 0 := Nat.le_zero.1 (boundA_le h1 (Nat.le_refl _))
    have hh0 : hh = 0 := Nat.le_zero.1 (boundA_le h2 (Nat.le_refl _))
    subst hm0 hh0
    have hl0 : l = 0 := Nat.le_zero.1 (boundA_le h3 (Nat.le_refl _))
    subst hl0
    have hb := run_bounds (P := P) (m := m) (b := true) (len := 0) (cap := 0) (c0 := 0) (mm := 0) (lo := lo) (hi := hi) (mx := mx) (fun _ => rfl) (fun v e => by subst e; exact ⟨h1, Nat.le_refl _⟩) hm ⟨0, h2, Nat.le_refl _⟩ h3 w
    simp only [Instr.sliceAt, Sem.run_bind, run_und hT (und_elem he) w, Result.andThen_ok, conc, Instr.slice, hb, run_sz hT hs w, Sem.run_pure, if_true, Nat.sub_zero]
  case slice id off len c =>
    have hd : D id := (hx (id, needC len c) (by simp [idsA])).1
    have hneed := (hx (id, needC len c) (by simp [idsA])).2
    obtain ⟨e, he, size, hs, h⟩ := h
    cases c with
    | known c =>
      simp only [sliceCap, sliceKnown, ok_some, ob_some, Option.some.injEq, Bool.or_eq_true, Option.isNone_iff_eq_none] at h
      obtain ⟨hm, mm, h1, hh, h2, l, h3, rfl⟩ := h
      refine ⟨?_, ok_capSlice hd⟩
      have hb := run_bounds (P := P) (m := m) (b := true) (len := len) (cap := c) (c0 := c) (mm := mm) (lo := lo) (hi := hi) (mx := mx) (fun e => by subst e; cases h1; rfl) (fun v e => by subst e; exact ⟨h1, Nat.le_refl _⟩) hm ⟨mm, h2, Nat.le_refl _⟩ h3 w
      simp only [Instr.sliceAt, Sem.run_bind, run_und hT (und_elem he) w, Result.andThen_ok, conc, capC, Instr.slice, hb, run_sz hT hs w, Sem.run_pure, conc_capSlice]
      split <;> rfl
    | rest k =>
      simp only [needC] at hneed
      cases mx with
      | none =>
        simp only [sliceCap, sliceRest, ob_some] at h
        obtain ⟨hh, h2, l, h3, h⟩ := h
        have hhl : hh ≤ len := boundA_le h2 (Nat.le_refl _)
        have hll : l ≤ hh := boundA_le h3 (Nat.zero_le _)
        have hb := run_bounds (P := P) (m := m) (b := true) (len := len) (cap := (m id).cap - k) (c0 := 0) (mm := (m id).cap - k) (lo := lo) (hi := hi) (mx := none) (fun _ => rfl) (fun v e => by cases e) (.inl rfl) ⟨len, h2, by omega⟩ h3 w
        simp only [Option.map_none] at hb
        simp only [restSlice] at h
        by_cases hl0 : l = 0
        · rw [beqT hl0, cond_true, Option.some.injEq] at h
          subst h hl0
          refine ⟨?_, fun i hi => ?_⟩
          · simp only [Instr.sliceAt, Sem.run_bind, run_und hT (und_elem he) w, Result.andThen_ok, conc, capC, Instr.slice, hb, run_sz hT hs w, Sem.run_pure, Nat.zero_mul, Option.map_none, Option.map_some, add_none, Nat.add_zero, ite_self, Nat.sub_zero]
          · simp only [idsA, List.mem_singleton, needC] at hi; subst hi; exact ⟨hd, by simp only; omega⟩
        · rw [beqF hl0, cond_false, ok_some, natLt_iff, Option.some.injEq] at h
          obtain ⟨hlt, rfl⟩ := h
          refine ⟨?_, fun i hi => ?_⟩
          · have hne : ¬ ((m id).cap - k = l) := by omega
            simp only [Instr.sliceAt, Sem.run_bind, run_und hT (und_elem he) w, Result.andThen_ok, conc, capC, Instr.slice, hb, run_sz hT hs w, Sem.run_pure, Option.map_none, Option.map_some, add_none, if_neg hne]
            rw [Nat.sub_sub, Nat.add_assoc]
          · simp only [idsA, List.mem_singleton, needC] at hi; subst hi; exact ⟨hd, by simp only; omega⟩
      | some mv =>
        simp only [sliceCap, sliceRestMax, ok_some, ob_some, Option.some.injEq] at h
        obtain ⟨hm, mm, h1, hh, h2, l, h3, rfl⟩ := h
        refine ⟨?_, ok_capSlice hd⟩
        have hb := run_bounds (P := P) (m := m) (b := true) (len := len) (cap := (m id).cap - k) (c0 := len) (mm := mm) (lo := lo) (hi := hi) (mx := some mv) (fun e => by cases e) (fun v e => by cases e; exact ⟨h1, by omega⟩) (.inr hm) ⟨mm, h2, Nat.le_refl _⟩ h3 w
        simp only [Instr.sliceAt, Sem.run_bind, run_und hT (und_elem he) w, Result.andThen_ok, conc, capC, Instr.slice, hb, run_sz hT hs w, Sem.run_pure, conc_capSlice]
        split <;> rfl
theorem run_fieldAddr {D : Nat → Prop} {m : Nat → Loc} {s : TypeId} {f : Nat} {x v : AV} (hx : okV D m x) (h : fieldAddrA T s f x = some v) (w : World) : (Instr.fieldAt s (conc m x) f).run P w = .ok (conc m v) w ∧ okV D m v := by
  simp only [fieldAddrA, fieldPlaceA, ob_some, ok_some, Option.some.injEq, natLt_iff] at h
  obtain ⟨fs, hs, q, ⟨fd, hf, n, hn, rfl⟩, hp, h⟩ := h
  cases x <;> simp only [ptrAdd, reduceCtorEq, Option.some.injEq] at h
  rename_i id off
  subst h
  have hd : D id := (hx (id, 0) (by simp [idsA])).1
  have hne : ¬ n = 0 := by simp only at hp; omega
  refine ⟨?_, fun i hi => by simp only [idsA, List.mem_singleton] at hi; subst hi; exact ⟨hd, Nat.zero_le _⟩⟩
  simp [Instr.fieldAt, run_und hT (und_struct hs) w, hf, conc, Instr.sureAddr, fieldPlace, run_sz hT hn w, hne, add_none, Nat.add_assoc]
theorem run_field {D : Nat → Prop} {m : Nat → Loc} {s : TypeId} {f : Nat} {x v : AV} (hx : okV D m x) (h : fieldA T s f x = some v) (w : World) : (Instr.field s (conc m x) f).run P w = .ok (conc m v) w ∧ okV D m v := by
  cases x <;> simp only [fieldA, reduceCtorEq, ob_some] at h
  obtain ⟨fs, hs, fd, hf, h⟩ := h
  refine ⟨?_, partA_ok hT h (okV_agg.1 hx)⟩
  simp [Instr.field, run_und hT (und_struct hs) w, hf, conc, asAgg, run_partA hT h w]
theorem run_indexAddr {D : Nat → Prop} {m : Nat → Loc} {t : TypeId} {i : Nat} {k : IntKind} {x v : AV} (hx : okV D m x) (h : indexAddrA T t i x = some v) (w : World) : (Instr.indexAt t (conc m x) (.int k i)).run P w = .ok (conc m v) w ∧ okV D m v := by
  cases x <;> simp only [indexAddrA, reduceCtorEq, ob_some, ok_some, Option.some.injEq, natLt_iff] at h
  · rename_i id off
    obtain ⟨⟨n, e⟩, ha, hi, sz, hs, rfl⟩ := h
    have hd : D id := (hx (id, 0) (by simp [idsA])).1
    refine ⟨?_, fun j hj => by simp only [idsA, List.mem_singleton] at hj; subst hj; exact ⟨hd, Nat.zero_le _⟩⟩
    have hi' : i < n := hi
    simp [Instr.indexAt, asIntOf, run_und hT (und_arr ha) w, conc, Instr.sureAddr, run_sz hT hs w, add_none, Nat.add_assoc, hi']
  · rename_i id off len c
    obtain ⟨e, ha, hi, sz, hs, rfl⟩ := h
    have hd : D id := (hx (id, needC len c) (by simp [idsA])).1
    refine ⟨?_, fun j hj => by simp only [idsA, List.mem_singleton] at hj; subst hj; exact ⟨hd, Nat.zero_le _⟩⟩
    simp [Instr.indexAt, asIntOf, run_und hT (und_elem ha) w, conc, run_sz hT hs w, add_none, Nat.add_assoc, hi]
theorem run_index {D : Nat → Prop} {m : Nat → Loc} {t : TypeId} {i : Nat} {k : IntKind} {x v : AV} (hx : okV D m x) (h : indexA T t i x = some v) (w : World) : (Instr.index t (conc m x) (.int k i)).run P w = .ok (conc m v) w ∧ okV D m v := by
  cases x <;> simp only [indexA, reduceCtorEq, ob_some, ok_some, Option.some.injEq, natLt_iff] at h
  · rename_i s
    obtain ⟨ht, b, hb, rfl⟩ := h
    refine ⟨?_, okV_none (by simp [byteA, idsA])⟩
    have hlt := (List.getElem?_eq_some_iff.1 hb).1
    have hs : (ByteArray.mk ⟨s⟩)[i]? = some b := by
      rw [ByteArray.getElem?_lt' _ _ (by exact hlt)]
      exact congrArg some (List.getElem?_eq_some_iff.1 hb).2
    simp [Instr.index, asIntOf, run_und hT (und_str ht) w, conc, byteA, hs]
  · rename_i cs
    obtain ⟨⟨n, e⟩, ha, hi, sz, hs, h⟩ := h
    refine ⟨?_, partA_ok hT h (okV_agg.1 hx)⟩
    try simp only at hi h hs
    simp [Instr.index, asIntOf, run_und hT (und_arr ha) w, conc, run_sz hT hs w, hi, run_partA hT h w]
end
end Go.Ev
