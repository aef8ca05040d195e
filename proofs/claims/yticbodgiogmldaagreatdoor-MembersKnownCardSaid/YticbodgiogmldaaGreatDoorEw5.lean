/- Numbers, strings, equality: the operations on two values. -/
import Derived.Test.YticbodgiogmldaaGreatDoorEw4
import Derived.Laws.StructEq
set_option linter.all false
namespace Go.Ev
open Go Go.RowKit

theorem sameK_iff {a b : IntKind} : sameK a b = true ↔ a = b := by
  rw [sameK, beq_iff]
  cases a <;> cases b <;> simp [ctorK]
theorem intLe_iff {a b : Int} : intLe a b = true ↔ a ≤ b := by
  cases a <;> cases b <;> simp only [intLe]
  · rw [ble_iff]; exact Int.ofNat_le.symm
  · simp only [Bool.false_eq_true, false_iff, Int.negSucc_eq, Int.ofNat_eq_natCast]; omega
  · simp only [true_iff, Int.negSucc_eq, Int.ofNat_eq_natCast]; omega
  · simp only [ble_iff, Int.negSucc_eq]; omega
theorem intEq_iff {a b : Int} : intEq a b = true ↔ a = b := by
  cases a <;> cases b <;> simp only [intEq]
  · rw [beq_iff]; exact Int.ofNat_inj.symm
  · simp
  · simp
  · rw [beq_iff]; exact Int.negSucc_inj.symm
theorem intEq_beq (a b : Int) : intEq a b = (a == b) := by
  rw [Bool.eq_iff_iff, intEq_iff, beq_iff_eq]
theorem intLe_dec (a b : Int) : intLe a b = decide (a ≤ b) := by
  rw [Bool.eq_iff_iff, intLe_iff, decide_eq_true_iff]
theorem outI_eq (k : IntKind) (n : Int) : outI k n = .int k n := by
  cases n with
  | ofNat n => cases n <;> rfl
  | negSucc n => cases n <;> rfl
theorem goInt_eq (n : Nat) : goInt n = .int .i64 n := by cases n <;> rfl
theorem outN_eq (k : IntKind) (n : Nat) : outN k .ofNat n = .int k n := by cases n <;> rfl
theorem wrap_id (k : IntKind) (n : Int) (h1 : loK k ≤ n) (h2 : n ≤ hiK k) : k.wrap n = n := by
  cases k <;> simp only [loK, hiK] at h1 h2 <;> simp [IntKind.wrap, IntKind.bits, IntKind.signed] <;> omega
theorem wrapA_eq (k : IntKind) (n : Int) : wrapA k n = k.wrap n := by
  unfold wrapA
  cases h : intLe (loK k) n && intLe n (hiK k) with
  | true =>
    rw [Bool.and_eq_true, intLe_iff, intLe_iff] at h
    exact (wrap_id k n h.1 h.2).symm
  | false => rfl
theorem mkInt_eq (k : IntKind) (n : Int) : mkInt k n = some (.int k (k.wrap n)) := by rw [mkInt, outI_eq, wrapA_eq]
theorem okV_int {D : Nat → Prop} {m : Nat → Loc} {k : IntKind} {n : Int} : okV D m (.int k n) := fun i hi => by simp [idsA] at hi
theorem okV_bool {D : Nat → Prop} {m : Nat → Loc} {b : Bool} : okV D m (.bool b) := fun i hi => by simp [idsA] at hi
theorem okV_str {D : Nat → Prop} {m : Nat → Loc} {s : List UInt8} : okV D m (.str s) := fun i hi => by simp [idsA] at hi
theorem boolEq_beq (a b : Bool) : boolEq a b = (a == b) := by cases a <;> cases b <;> rfl

theorem bytesEq_beq : ∀ a b : List UInt8, bytesEq a b = (a == b)
  | [], [] => rfl
  | [], _ :: _ => rfl
  | _ :: _, [] => rfl
  | a :: x, b :: y => by
    rw [bytesEq, bytesEq_beq x y, List.cons_beq_cons]
    congr 1
    rw [Bool.eq_iff_iff, beq_iff, beq_iff_eq]
    exact UInt8.toNat_inj
theorem bytesLt_eq : ∀ a b : List UInt8, bytesLt a b = Op.bytesLess a b
  | [], [] => rfl
  | [], _ :: _ => rfl
  | _ :: _, [] => rfl
  | a :: x, b :: y => by
    rw [bytesLt, bytesLt_eq x y, Op.bytesLess]
    have e1 : natLt a.toNat b.toNat = decide (a < b) := by rw [Bool.eq_iff_iff, natLt_iff, decide_eq_true_iff]; exact Iff.rfl
    have e2 : Nat.beq a.toNat b.toNat = (a == b) := by rw [Bool.eq_iff_iff, beq_iff, beq_iff_eq]; exact UInt8.toNat_inj
    rw [e1, e2]
theorem toList_mk' (s : List UInt8) : (ByteArray.mk ⟨s⟩).toList = s := ByteArray.toList_mk s

section
variable {P : Program} {T : Tab} (hT : TabOK P T)
include hT
theorem run_eqFieldsA {n : Nat} {m : Nat → Loc} (cmp : TypeId → AV → AV → Option Bool) (hc : ∀ t x y b, cmp t x y = some b → ∀ w, (Op.equalIn n t (conc m x) (conc m y)).run P w = .ok b w) (xs ys : List AV) :
    ∀ (fs : List Field) (b : Bool), eqFieldsA T cmp xs ys fs = some b → ∀ w, (Op.eqFields n (concL m xs).toArray (concL m ys).toArray fs).run P w = .ok b w
  | [], b, h, w => by cases h; simp [Op.eqFields]
  | f :: fs, b, h, w => by
    simp only [eqFieldsA, ok_some, ob_some, Bool.not_eq_true'] at h
    obtain ⟨h1, x, hx, y, hy, r, hr, h⟩ := h
    have hne : f.name ≠ "_" := by simpa using h1
    simp only [Op.eqFields, if_pos hne, Sem.run_bind, run_partA hT hx w, run_partA hT hy w, Result.andThen_ok, hc _ _ _ _ hr w]
    cases r with
    | true =>
      simp only [cond_true] at h
      simpa using run_eqFieldsA cmp hc xs ys fs b h w
    | false =>
      simp only [cond_false, Option.some.injEq] at h
      subst h
      simp
theorem run_eqElemsA {n sz : Nat} {m : Nat → Loc} (elem : TypeId) (cmp : AV → AV → Option Bool) (hc : ∀ x y b, cmp x y = some b → ∀ w, (Op.equalIn n elem (conc m x) (conc m y)).run P w = .ok b w) (xs ys : List AV) :
    ∀ (len i : Nat) (b : Bool), eqElemsA T cmp elem sz xs ys i len = some b → ∀ w,
      (forIn (List.range' i len) ((none, ()) : Option Bool × PUnit) (fun j _ => do
        let a ← part elem (concL m xs).toArray (j * sz)
        let c ← part elem (concL m ys).toArray (j * sz)
        let r ← Op.equalIn n elem a c
        if (!r) = true then pure (ForInStep.done (some false, ())) else pure (ForInStep.yield (none, ())) : Nat → Option Bool × PUnit → Sem (ForInStep (Option Bool × PUnit)))).run P w =
      .ok (if b then none else some false, ()) w
  | 0, i, b, h, w => by cases h; simp
  | len + 1, i, b, h, w => by
    simp only [eqElemsA, ob_some] at h
    obtain ⟨x, hx, y, hy, r, hr, h⟩ := h
    simp only [List.range'_succ, List.forIn_cons, Sem.run_bind, run_partA hT hx w, run_partA hT hy w, Result.andThen_ok, hc _ _ _ hr w]
    cases r with
    | true =>
      simp only [cond_true] at h
      simpa using run_eqElemsA elem cmp hc xs ys len (i + 1) b h w
    | false =>
      simp only [cond_false, Option.some.injEq] at h
      subst h
      simp
theorem run_eqArray {n len sz : Nat} {t elem : TypeId} {m : Nat → Loc} (ht : T.und t = some (.array len elem)) (hs : szOf T elem = some sz) (cmp : AV → AV → Option Bool) (hc : ∀ x y b, cmp x y = some b → ∀ w, (Op.equalIn n elem (conc m x) (conc m y)).run P w = .ok b w)
    (xs ys : List AV) (b : Bool) (h : eqElemsA T cmp elem sz xs ys 0 len = some b) (w : World) : (Op.equalIn (n + 1) t (.agg (concL m xs).toArray) (.agg (concL m ys).toArray)).run P w = .ok b w := by
  simp only [Op.equalIn, Sem.run_bind, run_und hT ht w, Result.andThen_ok, run_sz hT hs w]
  have := run_eqElemsA hT elem cmp hc xs ys len 0 b h w
  rw [Std.Legacy.Range.forIn_eq_forIn_range']
  simp only [Std.Legacy.Range.size, Nat.sub_zero, Nat.add_sub_cancel, Nat.div_one]
  rw [this]
  cases b <;> simp
theorem run_eqStruct {n : Nat} {t : TypeId} {fs : Array Field} {m : Nat → Loc} (ht : T.und t = some (.struct fs)) (hs : P.stoodInHeld t = false) (cmp : TypeId → AV → AV → Option Bool) (hc : ∀ t x y b, cmp t x y = some b → ∀ w, (Op.equalIn n t (conc m x) (conc m y)).run P w = .ok b w)
    (xs ys : List AV) (b : Bool) (h : eqFieldsA T cmp xs ys fs.toList = some b) (w : World) : (Op.equalIn (n + 1) t (.agg (concL m xs).toArray) (.agg (concL m ys).toArray)).run P w = .ok b w := by
  have hu := und_some hT ht
  have hf : P.fieldsOf t = fs := by simp [Program.fieldsOf, hu]
  rw [run_equalIn_struct w n t _ _ (by rw [hf]; exact hu) hs, hf]
  exact run_eqFieldsA hT cmp hc xs ys fs.toList b h w
theorem run_eqNil {n : Nat} {t : TypeId} {x y : AV} {b : Bool} {m : Nat → Loc} (h : eqNil (T.und t) x y = some b) (w : World) : (Op.equalIn (n + 1) t (conc m x) (conc m y)).run P w = .ok b w := by
  simp only [eqNil, ok_some, Option.some.injEq, Bool.and_eq_true, beq_iff] at h
  obtain ⟨⟨⟨h1, h2⟩, h3⟩, rfl⟩ := h
  cases hd : T.und t with
  | none => rw [hd] at h1 h2; cases x <;> simp [kindA, kindD] at h1
  | some d =>
    rw [hd] at h1 h2
    have hr := run_und hT hd w
    cases d <;> simp only [kindD] at h1 h2 <;> cases x <;> simp only [kindA] at h1 <;> (first | (exfalso; revert h1; decide) | skip) <;>
      cases y <;> simp only [kindA] at h2 <;> (first | (exfalso; revert h2; decide) | skip) <;> (first | (simp [isNilA] at h3; done) | simp [Op.equalIn, hr, conc, isNilA])
theorem run_eqH {n : Nat} {m : Nat → Loc} (cmp : TypeId → AV → AV → Option Bool) (hc : ∀ t x y b, cmp t x y = some b → ∀ w, (Op.equalIn n t (conc m x) (conc m y)).run P w = .ok b w) (t : TypeId) (x y : AV) (b : Bool)
    (h : eqH T cmp t x y = some b) (w : World) : (Op.equalIn (n + 1) t (conc m x) (conc m y)).run P w = .ok b w := by
  cases x with
  | bool a =>
    cases y <;> simp only [eqH, eqBoolA, ok_some, Option.some.injEq, reduceCtorEq] at h
    obtain ⟨h1, rfl⟩ := h
    cases hd : T.und t with
    | none => simp [hd, boolD] at h1
    | some d => cases d <;> simp [hd, boolD] at h1; simp [Op.equalIn, run_und hT hd w, conc, boolEq_beq]
  | int k a =>
    cases y <;> simp only [eqH, eqIntA, ok_some, Option.some.injEq, reduceCtorEq, Bool.and_eq_true, sameK_iff] at h
    obtain ⟨⟨h1, rfl⟩, rfl⟩ := h
    cases hd : T.und t with
    | none => simp [intT, hd, intD] at h1
    | some d => cases d <;> simp [intT, hd, intD] at h1; simp [Op.equalIn, run_und hT hd w, conc, intEq_beq]
  | str a =>
    cases y <;> simp only [eqH, eqStrA, ok_some, Option.some.injEq, reduceCtorEq] at h
    obtain ⟨h1, rfl⟩ := h
    cases hd : T.und t with
    | none => simp [strT, hd, strD] at h1
    | some d =>
      cases d <;> simp [strT, hd, strD] at h1
      simp only [Op.equalIn, Sem.run_bind, run_und hT hd w, conc, bytesEq_beq, Result.andThen_ok, beq_toListBytes, toList_mk', Sem.run_pure]
  | agg xs =>
    cases y <;> simp only [eqH, eqAggA, reduceCtorEq] at h
    rename_i ys
    cases hd : T.und t with
    | none => simp [hd, eqAggD] at h
    | some d =>
      cases d <;> simp only [hd, eqAggD, reduceCtorEq, ob_some] at h
      · obtain ⟨sz, hs, h⟩ := h
        simp only [conc]
        exact run_eqArray hT hd hs _ (fun x y b h w => hc _ x y b h w) xs ys b h w
      · rename_i fields
        obtain ⟨e, he, h⟩ := h
        simp only [ok_some, Bool.not_eq_true'] at h
        have hst := (hT.ty t e he).2.2.2
        have heu : e.u = .struct fields := by
          have := hd
          simp only [Tab.und, he, ob, Option.some.injEq] at this
          exact this
        simp only [conc]
        exact run_eqStruct hT hd (by rw [hst (by rw [heu]; rfl)]; exact h.1) cmp hc xs ys b h.2 w
  | iface a u =>
    cases y with
    | iface c v =>
      simp only [eqH, eqIfaceA, ok_some] at h
      obtain ⟨h1, h⟩ := h
      cases hd : T.und t with
      | none => simp [hd, ifaceD] at h1
      | some d =>
        cases d <;> simp [hd, ifaceD] at h1
        by_cases e : a = c
        · subst e
          rw [beqT rfl, cond_true] at h
          simp only [ob_some, ok_some] at h
          obtain ⟨i, hi, hcm, h⟩ := h
          simp [Op.equalIn, run_und hT hd w, conc, run_inf hT hi w, hcm, hc _ _ _ _ h w]
        · rw [beqF e, cond_false, Option.some.injEq] at h
          subst h
          simp [Op.equalIn, run_und hT hd w, conc, e]
    | _ => exact run_eqNil hT (by simpa only [eqH, eqIfaceA] using h) w
  | _ => exact run_eqNil hT (by simpa only [eqH] using h) w
theorem run_eqA {m : Nat → Loc} : ∀ (d : Nat) (t : TypeId) (x y : AV) (b : Bool), eqA T d t x y = some b → ∀ n, d ≤ n → ∀ w, (Op.equalIn n t (conc m x) (conc m y)).run P w = .ok b w
  | 0, _, _, _, _, h, _, _, _ => by cases h
  | d + 1, t, x, y, b, h, n, hn, w => by
    obtain ⟨n, rfl⟩ : ∃ k, n = k + 1 := ⟨n - 1, by omega⟩
    exact run_eqH hT (eqA T d) (fun t x y b h w => run_eqA d t x y b h n (by omega) w) t x y b h w
end
end Go.Ev
