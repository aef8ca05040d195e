/- Operations on two values and on one. -/
import Derived.Test.YtafekjglclnegaaGreatDoorEw5
set_option linter.all false
namespace Go.Ev
open Go Go.RowKit

section
variable {P : Program} {T : Tab} (hT : TabOK P T)

theorem ltd (a b : Int) : decide (a < b) = !decide (b ≤ a) := by rw [← decide_not, decide_eq_decide]; omega
theorem run_binI {op : BinOp} {t : TypeId} {k : IntKind} {a : Int} {y v : AV} {m : Nat → Loc} (h : binI op k a y = some v) (w : World) :
    (binOp op t (.int k a) (conc m y)).run P w = .ok (conc m v) w ∧ idsA v = [] := by
  cases y <;> simp only [binI, reduceCtorEq] at h
  rename_i k' b
  cases hs : isShift op with
  | true =>
    simp only [hs, cond_true, shiftA, ok_some, intLe_iff] at h
    obtain ⟨h0, h⟩ := h
    have hb : ¬ b < 0 := by omega
    cases op <;> simp [isShift] at hs
    · simp only [mkInt_eq, Option.some.injEq] at h
      subst h
      simp [conc, binOp, Op.shift, hb, shiftN, idsA]
    · simp only [outI_eq, Option.some.injEq] at h
      subst h
      simp [conc, binOp, Op.shift, hb, shiftN, idsA]
  | false =>
    simp only [hs, cond_false, ok_some, sameK_iff] at h
    obtain ⟨rfl, h⟩ := h
    cases op <;> simp [isShift] at hs
    all_goals simp only [binSel, bAdd, bSub, bMul, bQuo, bRem, bAnd, bOr, bXor, bAndNot, bEql, bNeq, bLss, bLeq, bGtr, bGeq, bNone, mkInt_eq, outI_eq, ok_some, Option.some.injEq, Bool.not_eq_true', intEq_beq, intLe_dec, reduceCtorEq] at h
    all_goals first
      | (obtain ⟨h0, h⟩ := h; subst h; have h0' : ¬ b = 0 := by simpa using h0
         simp [conc, binOp, Op.intDiv, h0', idsA]; done)
      | (subst h; simp [conc, binOp, Op.intArith, Op.intBits, Op.intCmp, idsA]; done)
      | (subst h; simp [conc, binOp, Op.intArith, Op.intBits, Op.intCmp, idsA]; rfl)
      | (subst h; simp [conc, binOp, Op.intCmp, idsA]; exact ltd _ _)
theorem run_binS {op : BinOp} {t : TypeId} {a : List UInt8} {y v : AV} {m : Nat → Loc} (h : binS op a y = some v) (w : World) :
    (binOp op t (.string ⟨⟨a⟩⟩) (conc m y)).run P w = .ok (conc m v) w ∧ idsA v = [] := by
  cases y <;> simp only [binS, reduceCtorEq] at h
  rename_i b
  cases op <;> simp only [cmpA, ok_some, Option.some.injEq, reduceCtorEq, ble_iff] at h
  case add =>
    obtain ⟨hl, rfl⟩ := h
    have hn : ¬ (((ByteArray.mk ⟨a⟩).size + (ByteArray.mk ⟨b⟩).size : Nat) : Int) > IntKind.i64.max := by
      simp only [ByteArray.size, List.size_toArray, IntKind.max, IntKind.bits, IntKind.signed, if_true]; omega
    refine ⟨?_, by simp [idsA]⟩
    simp only [conc, binOp, Op.stringOp]
    rw [if_neg hn]
    have : (ByteArray.mk ⟨a⟩) ++ (ByteArray.mk ⟨b⟩) = ByteArray.mk ⟨a ++ b⟩ := by
      apply ByteArray.ext
      rw [ByteArray.data_append]
      simp
    simp [this]
  all_goals
    subst h
    refine ⟨?_, by simp [idsA]⟩
    simp only [conc, binOp, Op.stringOp, toList_mk', bytesEq_beq, bytesLt_eq]
    simp
/-- A value that '==' goes into by its type. -/
def byType : AV → Bool
  | .int _ _ | .str _ => false
  | _ => true
theorem binOp_eqlA {t : TypeId} {x y : AV} {m : Nat → Loc} (h : byType x = true) : binOp .eql t (conc m x) (conc m y) = (do pure (.bool (← Op.equal t (conc m x) (conc m y)))) := by
  cases x <;> simp [byType] at h <;> cases y <;> rfl
theorem binOp_neqA {t : TypeId} {x y : AV} {m : Nat → Loc} (h : byType x = true) : binOp .neq t (conc m x) (conc m y) = (do pure (.bool (!(← Op.equal t (conc m x) (conc m y))))) := by
  cases x <;> simp [byType] at h <;> cases y <;> rfl
theorem guard_other {op : BinOp} {t : TypeId} {xo yo : Operand} {X Y : Value} (h1 : ¬ (X = .nilIface ∧ Y = .nilIface)) (h2 : ¬ (∃ a b, X = .agg a ∧ Y = .agg b)) (w : World) : (eqGuard op t xo yo X Y).run P w = .ok () w := by
  unfold eqGuard
  cases X <;> cases Y <;> first | (exact absurd ⟨rfl, rfl⟩ h1) | (exact absurd ⟨_, _, rfl, rfl⟩ h2) | (cases op <;> simp)
include hT
theorem run_guard {op : BinOp} {t : TypeId} {xo yo : Operand} {x y : AV} {m : Nat → Loc} (h : guardA T t xo yo x y = true) (w : World) : (eqGuard op t xo yo (conc m x) (conc m y)).run P w = .ok () w := by
  cases x with
  | agg xs =>
    cases y with
    | agg ys =>
      simp only [guardA] at h
      cases he : T.ty.get t with
      | none => simp [he, ob] at h
      | some e =>
        simp only [he, ob, Option.getD_some, Bool.and_eq_true, Bool.not_eq_true'] at h
        have := (hT.ty t e he).2.2.1 h.1
        simp only [conc]
        exact run_eqGuard_agg w op t xo yo _ _ (this.trans h.2)
    | _ => exact guard_other (by simp [conc]) (by simp [conc]) w
  | niliface =>
    cases y with
    | niliface =>
      simp only [guardA, Bool.or_eq_true] at h
      simp only [conc]
      rcases h with h | h
      · cases xo <;> simp [isConstO] at h
        cases op <;> simp [eqGuard]
      · cases yo <;> simp [isConstO] at h
        cases xo <;> cases op <;> simp [eqGuard]
    | _ => exact guard_other (by simp [conc]) (by simp [conc]) w
  | _ => exact guard_other (by simp [conc]) (by simp [conc]) w
theorem run_binA {op : BinOp} {t : TypeId} {xo yo : Operand} {x y v : AV} {m : Nat → Loc} (h : binA T op t xo yo x y = some v) (w : World) :
    (do eqGuard op t xo yo (conc m x) (conc m y); binOp op t (conc m x) (conc m y) : Sem Value).run P w = .ok (conc m v) w ∧ idsA v = [] := by
  have key : byType x = true → eqlA op (ok (guardA T t xo yo x y) (eqA T 100 t x y)) = some v → (do eqGuard op t xo yo (conc m x) (conc m y); binOp op t (conc m x) (conc m y) : Sem Value).run P w = .ok (conc m v) w ∧ idsA v = [] := by
    intro hb h
    cases op <;> simp only [eqlA, ob_some, ok_some, Option.some.injEq, reduceCtorEq] at h
    · obtain ⟨b, ⟨hg, he⟩, rfl⟩ := h
      refine ⟨?_, by simp [idsA]⟩
      rw [Sem.run_bind, run_guard hT hg w, Result.andThen_ok, binOp_eqlA hb]
      simp [Op.equal, Op.maxDepth, run_eqA hT 100 t x y b he 10000 (by omega) w, conc]
    · obtain ⟨b, ⟨hg, he⟩, rfl⟩ := h
      refine ⟨?_, by simp [idsA]⟩
      rw [Sem.run_bind, run_guard hT hg w, Result.andThen_ok, binOp_neqA hb]
      simp [Op.equal, Op.maxDepth, run_eqA hT 100 t x y b he 10000 (by omega) w, conc]
  cases x with
  | int k a =>
    obtain ⟨h1, h2⟩ := run_binI (P := P) (t := t) (m := m) h w
    refine ⟨?_, h2⟩
    rw [Sem.run_bind, guard_other (by simp [conc]) (by simp [conc]) w]
    simpa [conc] using h1
  | str a =>
    obtain ⟨h1, h2⟩ := run_binS (P := P) (t := t) (m := m) h w
    refine ⟨?_, h2⟩
    rw [Sem.run_bind, guard_other (by simp [conc]) (by simp [conc]) w]
    simpa [conc] using h1
  | _ => exact key rfl h
omit hT in
theorem run_unA {op : UnOp} {x v : AV} {m : Nat → Loc} (h : unA op x = some v) (w : World) : (Op.unary op (conc m x)).run P w = .ok (conc m v) w ∧ idsA v = [] := by
  cases x <;> simp only [unA, reduceCtorEq] at h
  · cases op <;> simp at h
    subst h
    simp [conc, Op.unary, idsA]
  · cases op <;> simp only [mkInt_eq, bXor, Option.some.injEq, reduceCtorEq] at h
    · subst h
      simp [conc, Op.unary, Op.intArith, idsA]
      exact congrArg _ (Int.zero_sub _).symm
    · subst h
      simp [conc, Op.unary, Op.intBits, idsA]
end
end Go.Ev
