/- The functions that are known, as the machine has them. -/
import Derived.Test.YtafekjglclnegaaGreatDoorEw30
import Derived.Laws.Externs
import Derived.Test.YtafekjglclnegaaGreatDoorEw41
import Derived.Test.YtafekjglclnegaaGreatDoorEw42
set_option linter.all false
namespace Go.Ev
open Go Go.Proofs

/-- New memory only: all that has a name stands. -/
theorem below_ext {cfg : Cfg} {C : Ctx} {D : Nat → Prop} {m : Nat → Loc} {o : Own} {w w' : World} (hi : Inv cfg D m C o w) (h : RowKit.Below w.heap.size w w') : Ext cfg C D m o w D m o w' ∧ Mute D w D m w' := by
  refine ⟨⟨hi.world fun j hj hl => h.block _ ((hi.obj j hj).in_heap hl), fun _ h => h, fun _ _ => rfl, fun _ h => .inl h, Nat.le_refl _, h.os, h.tape, h.output, h.size, fun k hk _ => h.block k hk, rfl, fun i h1 h2 => absurd h1 h2⟩, h.block, fun i h1 h2 => absurd h1 h2⟩

theorem idxByte_spec (c : Nat) : ∀ (s : List UInt8) (k : Nat), idxByte (.ofNat c) s k = (match (List.range' k s.length).find? (fun i => decide ((s.getD (i - k) 0).toNat = c)) with
    | some i => .ofNat i
    | none => -1)
  | [], k => by simp [idxByte]
  | b :: s, k => by
    rw [idxByte]
    simp only [List.length_cons, List.range'_succ, List.find?_cons, Nat.sub_self, List.getD_cons_zero]
    by_cases e : b.toNat = c
    · simp [intEq, e]
    · have : intEq (.ofNat b.toNat) (.ofNat c) = false := beqF e
      rw [this, cond_false, idxByte_spec c s (k + 1)]
      simp only [e, decide_false]
      have hf : ∀ l : List Nat, (∀ i ∈ l, k + 1 ≤ i) → l.find? (fun i => decide ((s.getD (i - (k + 1)) 0).toNat = c)) = l.find? (fun i => decide (((b :: s).getD (i - k) 0).toNat = c)) := by
        intro l hl
        induction l with
        | nil => rfl
        | cons x l ih =>
          have hx := hl x List.mem_cons_self
          rw [List.find?_cons, List.find?_cons, ih fun i hi => hl i (List.mem_cons_of_mem _ hi), show x - k = (x - (k + 1)) + 1 by omega, List.getD_cons_succ]
      rw [hf _ fun i hi => (List.mem_range'_1.1 hi).1]
theorem ixb_run (s : List UInt8) (c : Nat) (hc : c < 256) (w : World) : (callFunc 323 #[.string ⟨⟨s⟩⟩, .int .u8 (.ofNat c)]).run Tryz.prog w = .ok (.value (.int .i64 (idxByte (.ofNat c) s 0))) w := by
  have h1 : Extern.findNext Tryz.f323 = none := by kernel_rfl
  have h2 : Extern.find Tryz.f323 = some Extern.BytealgIndexByte.indexByte := by kernel_rfl
  have h3 : Tryz.f323.body.isNone = true := by kernel_rfl
  have h4 : (Tryz.f323.name == "runtime.NumGoroutine") = false := by kernel_rfl
  rw [run_callFunc_extern Tryz.func323 h4 h3 h1 h2]
  have hb : (Extern.Bytes.asByte (.int .u8 (.ofNat c))).run Tryz.prog w = .ok c.toUInt8 w := rfl
  have hx : ∀ x y, Extern.BytealgIndexByte.indexByte #[x, y] = (do
      let b ← Extern.Bytes.bytesOf x
      let c ← Extern.Bytes.asByte y
      match (List.range b.size).find? (fun i => b[i]! == c) with
      | some i => pure (Go.goInt i)
      | none => pure (Go.goInt (-1))) := fun _ _ => rfl
  rw [hx]
  simp only [Extern.Bytes.bytesOf, Sem.run_bind, Sem.run_pure, Result.andThen_ok, hb]
  rw [idxByte_spec]
  have hf : (List.range (ByteArray.mk ⟨s⟩).size).find? (fun i => (ByteArray.mk ⟨s⟩)[i]! == c.toUInt8) = (List.range' 0 s.length).find? (fun i => decide ((s.getD (i - 0) 0).toNat = c)) := by
    rw [← List.range_eq_range']
    show (List.range s.length).find? _ = _
    have key : ∀ l : List Nat, (∀ i ∈ l, i < s.length) → l.find? (fun i => (ByteArray.mk ⟨s⟩)[i]! == c.toUInt8) = l.find? (fun i => decide ((s.getD (i - 0) 0).toNat = c)) := by
      intro l hl
      induction l with
      | nil => rfl
      | cons x l ih =>
        have hxl := hl x List.mem_cons_self
        have e : ((ByteArray.mk ⟨s⟩)[x]! == c.toUInt8) = decide ((s.getD (x - 0) 0).toNat = c) := by
          have h1 : (ByteArray.mk ⟨s⟩)[x]! = s.getD (x - 0) 0 := by
            have : x < (ByteArray.mk ⟨s⟩).size := hxl
            rw [getElem!_pos (ByteArray.mk ⟨s⟩) x this]
            show s[x] = _
            simp [List.getD_eq_getElem?_getD, hxl]
          rw [h1, Bool.eq_iff_iff, beq_iff_eq, decide_eq_true_eq]
          constructor
          · intro h; rw [h]; simp; omega
          · intro h; rw [← h]; simp
        rw [List.find?_cons, List.find?_cons, e, ih fun i hi => hl i (List.mem_cons_of_mem _ hi)]
    exact key _ fun i hi => List.mem_range.1 hi
  rw [hf]
  cases (List.range' 0 s.length).find? (fun i => decide ((s.getD (i - 0) 0).toNat = c)) with
  | none => rfl
  | some i => simp [Go.goInt]
/-- A known function whose answer leads nowhere, and which lays new memory only. -/
theorem below_call {f : FuncId} {args : List AV} {v : AV} {C : Ctx} {D : Nat → Prop} {m : Nat → Loc} {o : Own} {w : World} (hi : Inv cfg D m C o w) (hv : idsA v = []) (hr : (callFunc f (concL m args).toArray).run Tryz.prog w = .ok (.enter f (concL m args).toArray) w)
    (h : Calls Tryz.prog f (concL m args).toArray w fun e w' => e = .returned (conc m v) ∧ RowKit.Below w.heap.size w w') :
    CallS Tryz.prog f (concL m args).toArray w fun V w' => ∃ D' m', V = conc m' v ∧ okV D' m' v ∧ Ext cfg C D m o w D' m' o w' ∧ (namesAt args (cfg.lend f) = [] → Mute D w D' m' w') :=
  .inl ⟨hr, h.mono fun e w' ⟨he, hb⟩ => ⟨_, he, D, m, rfl, okV_none hv, (below_ext hi hb).1, fun _ => (below_ext hi hb).2⟩⟩
theorem add_ok {C : Ctx} {args : List AV} {o : Own} {r : AV × Own} (h : add args o = some r) {D : Nat → Prop} {m : Nat → Loc} {w : World} (hi : Inv cfg D m C o w) :
    CallS Tryz.prog 295 (concL m args).toArray w fun V w' => ∃ D' m', V = conc m' r.1 ∧ okV D' m' r.1 ∧ Ext cfg C D m o w D' m' r.2 w' ∧ (namesAt args (cfg.lend 295) = [] → Mute D w D' m' w') := by
  unfold add at h
  split at h
  · rename_i k a l b
    simp only [ok_some, Bool.and_eq_true, sameK_iff, addO, Option.some.injEq, outI_eq] at h
    obtain ⟨⟨rfl, rfl⟩, ⟨h1, h2⟩, rfl⟩ := h
    have e1 : -9223372036854775808 ≤ a + b := by simpa [intLe_dec] using h1
    have e2 : a + b ≤ 9223372036854775807 := by simpa [intLe_dec] using h2
    refine below_call hi (by simp [idsA, idsL, i64]) ?_ ?_
    · have h4 : (Tryz.f295.name == "runtime.NumGoroutine") = false := by kernel_rfl
      have h5 : Tryz.f295.body.isNone = false := by kernel_rfl
      have h6 : ¬ Tryz.f295.name = "runtime.NumGoroutine" := by simpa using h4
      have h7 : ¬ Tryz.f295.body = none := fun e => by rw [e] at h5; cases h5
      simp [callFunc, Tryz.func295, h6, h7]
    · have := Go.Proofs.YtafekjglclnegaaGreatDoor.ints_Add a b w e1 e2
      simpa [concL, conc, i64] using this
  · cases h
theorem cln_ok {C : Ctx} {args : List AV} {o : Own} {r : AV × Own} (h : cln args o = some r) {D : Nat → Prop} {m : Nat → Loc} {w : World} (hi : Inv cfg D m C o w) :
    CallS Tryz.prog 338 (concL m args).toArray w fun V w' => ∃ D' m', V = conc m' r.1 ∧ okV D' m' r.1 ∧ Ext cfg C D m o w D' m' r.2 w' ∧ (namesAt args (cfg.lend 338) = [] → Mute D w D' m' w') := by
  unfold cln at h
  split at h
  · rename_i s
    simp only [ok_some, Option.some.injEq, ble_iff] at h
    obtain ⟨hl, rfl⟩ := h
    refine below_call hi (by simp [idsA]) ?_ ?_
    · have h4 : (Tryz.f338.name == "runtime.NumGoroutine") = false := by kernel_rfl
      have h5 : Tryz.f338.body.isNone = false := by kernel_rfl
      have h6 : ¬ Tryz.f338.name = "runtime.NumGoroutine" := by simpa using h4
      have h7 : ¬ Tryz.f338.body = none := fun e => by rw [e] at h5; cases h5
      simp [callFunc, Tryz.func338, h6, h7]
    · have := Tryz.stringslite_Clone ⟨⟨s⟩⟩ w (by show s.length ≤ _; omega)
      simpa [concL, conc] using this
  · cases h
theorem ixb_ok {C : Ctx} {args : List AV} {o : Own} {r : AV × Own} (h : ixb args o = some r) {D : Nat → Prop} {m : Nat → Loc} {w : World} (hi : Inv cfg D m C o w) :
    CallS Tryz.prog 323 (concL m args).toArray w fun V w' => ∃ D' m', V = conc m' r.1 ∧ okV D' m' r.1 ∧ Ext cfg C D m o w D' m' r.2 w' ∧ (namesAt args (cfg.lend 323) = [] → Mute D w D' m' w') := by
  unfold ixb at h
  split at h
  · rename_i s k c
    simp only [ok_some, Bool.and_eq_true, sameK_iff, natLt_iff, Option.some.injEq, outI_eq] at h
    obtain ⟨⟨rfl, hc⟩, rfl⟩ := h
    have hrun := ixb_run s c hc w
    refine .inr ⟨.int .i64 (idxByte (.ofNat c) s 0), w, by simpa [concL, conc] using hrun, D, m, by simp [conc], okV_none (by simp [idsA]), Ext.refl hi, fun _ => ⟨fun _ _ => rfl, fun i h1 h2 => absurd h1 h2⟩⟩
  · cases h
end Go.Ev
