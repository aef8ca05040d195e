/- ints.Add, walked: its deferred function looks at memory that it was handed. stringslite.Clone, out of the kit's shelf (laid by the kit's tool). The functions that are known, as the machine has them. -/
import Derived.Test.YticbodgiogmldaaGreatDoorProg
import Derived.WalkKit
import Derived.WalkSpells
import Derived.WalkLawsBesides
import Derived.Deep.QuietTactic
import Derived.BigQuiet
import Derived.Deep.RegionHeld3
import Derived.Deep.DrawnRows
import Derived.Lib.Hide
import Derived.WalkSmall
import Derived.KernelRfl
import Derived.Laws.IdiomStrings
import Derived.Defers
import Derived.Recover
import Derived.Shelf.Strconv.Clone
import Derived.Shelf.LaysM
import Derived.Test.YticbodgiogmldaaGreatDoorEw30
import Derived.Laws.Externs
section
set_option linter.all false
namespace Go.Proofs.YticbodgiogmldaaGreatDoor
open Go.RowKit
theorem bnext {a w w' : World} (h : Below a.heap.size a w) (k : Below w.heap.size w w') : Below a.heap.size a w' := h.trans (k.mono h.size)
theorem balloc {a w : World} (h : Below a.heap.size a w) (o : Obj) : Below a.heap.size a (w.alloc o) := h.alloc h.size o
theorem bdrewN {a w : World} (h : Below a.heap.size a w) (n : Nat) : Below a.heap.size a (w.drewN n) := ⟨h.os, h.tape, h.output, h.size, h.block⟩
theorem bset {a w : World} {p : Addr} (h : Below a.heap.size a w) (hp : a.heap.size ≤ p.block) (u : Value) : Below a.heap.size a (w.setCell p u) := h.setCell hp u
theorem ints_Add1 (a b n : Int) (pa pb pn pe : Nat) (w : World) (u : FrameMode) (hn : decide (a < n) = decide (0 < b))
    (ca : w.cell? ⟨pa, 0, none⟩ = some (.int .i64 a)) (cb : w.cell? ⟨pb, 0, none⟩ = some (.int .i64 b)) (cn : w.cell? ⟨pn, 0, none⟩ = some (.int .i64 n)) :
    CallsD Tryz.prog 250 #[.pointer (some ⟨pn, 0, none⟩), .pointer (some ⟨pa, 0, none⟩), .pointer (some ⟨pb, 0, none⟩), .pointer (some ⟨pe, 0, none⟩)] u w fun e u' w' => u' = u ∧ (e = .returned (.tuple #[]) ∧ w' = w) := by
  have hd : (!decide (a < n) == decide (0 < b)) = false := by rw [hn]; cases decide (0 < b) <;> rfl
  go_enter_d Tryz.func250, Tryz.ntmps250
  go_wp2
  go_end0
  simp
theorem ints_Add (a b : Int) (w : World) (h1 : -9223372036854775808 ≤ a + b) (h2 : a + b ≤ 9223372036854775807) :
    Calls Tryz.prog 190 #[.int .i64 a, .int .i64 b] w fun e w' => e = .returned (.tuple #[.int .i64 (a + b), .int .i64 0]) ∧ Below w.heap.size w w' := by
  have hmf : ∀ (fn : Fn) (first cap : Array Value) (w : World), (Instr.makeFunc fn first cap).run Tryz.prog w = .ok (.func fn first cap) w := fun _ _ _ _ => rfl
  go_enter_defers Tryz.func190, Tryz.ntmps190
  go_wp2
  · have hb : b = 0 := by simpa using ‹(b == 0) = true›
    refine leaves_cons (f := 250) (args := #[.pointer (some ⟨w.heap.size + 2, 0, none⟩), .pointer (some ⟨w.heap.size, 0, none⟩), .pointer (some ⟨w.heap.size + 1, 0, none⟩), .pointer (some ⟨w.heap.size + 3, 0, none⟩)]) (by simp) (by simp [go_sem]) ?_
    refine (ints_Add1 a b a (w.heap.size) (w.heap.size + 1) (w.heap.size + 2) (w.heap.size + 3) _ .returning (by rw [hb]; simp) ?_ ?_ ?_).mono ?_
    · go_simp
    · go_simp
    · go_simp
    rintro e u' w'' ⟨rfl, rfl, rfl⟩
    exact ⟨.tuple #[.int .i64 (a + b), .int .i64 0], by simp [results, Tryz.results190, go_sem, hb], rfl, by (repeat (first | exact Below.refl _ _ | assumption | refine balloc ?_ _ | refine Below.drew ?_ | refine bdrewN ?_ _ | (refine bset ?_ (by first | exact Nat.le_refl _ | (simp; done) | (simp; omega)) _) | refine bnext ?_ (by assumption)))⟩
  · refine leaves_cons (f := 250) (args := #[.pointer (some ⟨w.heap.size + 2, 0, none⟩), .pointer (some ⟨w.heap.size, 0, none⟩), .pointer (some ⟨w.heap.size + 1, 0, none⟩), .pointer (some ⟨w.heap.size + 3, 0, none⟩)]) (by simp) (by simp [go_sem]) ?_
    refine (ints_Add1 a b (a + b) (w.heap.size) (w.heap.size + 1) (w.heap.size + 2) (w.heap.size + 3) _ .returning (by congr 1; apply propext; constructor <;> intro h <;> omega) ?_ ?_ ?_).mono ?_
    · go_simp
    · go_simp
    · go_simp
    rintro e u' w'' ⟨rfl, rfl, rfl⟩
    exact ⟨.tuple #[.int .i64 (a + b), .int .i64 0], by simp [results, Tryz.results190, go_sem], rfl, by (repeat (first | exact Below.refl _ _ | assumption | refine balloc ?_ _ | refine Below.drew ?_ | refine bdrewN ?_ _ | (refine bset ?_ (by first | exact Nat.le_refl _ | (simp; done) | (simp; omega)) _) | refine bnext ?_ (by assumption)))⟩
end Go.Proofs.YticbodgiogmldaaGreatDoor
end
section
set_option linter.all false
namespace Go.Proofs
open Go.Shelf
set_option maxRecDepth 100000
def Tryz.ewLaysM316_ren : Go.Shelf.Ren := ⟨fun | 316 => 256 | n => n, fun | 9 => 9 | 3 => 3 | 4 => 4 | 37 => 202 | 0 => 0 | 127 => 318 | 5 => 5 | n => n, fun | n => n⟩
theorem Tryz.ewLaysM316 : Go.Proofs.LaysM.n316 Tryz.prog Tryz.ewLaysM316_ren := {
  mixed := by kernel_rfl
  f316 := Tryz.func256.trans (congrArg some (by kernel_rfl))
  t0 := Tryz.underlying0
  a0 := Tryz.isAgg0
  z0 := Tryz.sizeOf0
  v0 := Tryz.zeroValue0
  t3 := Tryz.underlying3
  a3 := Tryz.isAgg3
  z3 := Tryz.sizeOf3
  v3 := Tryz.zeroValue3
  t4 := Tryz.underlying4
  a4 := Tryz.isAgg4
  z4 := Tryz.sizeOf4
  v4 := Tryz.zeroValue4
  t9 := Tryz.underlying9
  a9 := Tryz.isAgg9
  z9 := Tryz.sizeOf9
  v9 := Tryz.zeroValue9
  t37 := Tryz.underlying202
  a37 := Tryz.isAgg202
  z37 := Tryz.sizeOf202
  v37 := Tryz.zeroValue202
  t127 := Tryz.underlying318
  a127 := Tryz.isAgg318
  z127 := Tryz.sizeOf318
  v127 := Tryz.zeroValue318
  t5 := Tryz.underlying5
  a5 := Tryz.isAgg5
  z5 := Tryz.sizeOf5
  v5 := Tryz.zeroValue5
  i0 := by kernel_rfl
  i3 := by kernel_rfl
  i4 := by kernel_rfl
  i5 := by kernel_rfl
  i9 := by kernel_rfl
  i37 := by kernel_rfl
  i127 := by kernel_rfl }
open Go.RowKit in
theorem Tryz.ewClone (s : ByteArray) (w : World) (hlim : s.size ≤ 281474976710656) :
    Calls Tryz.prog 256 #[.string s] w fun e w' => e = .returned (.string s) ∧ Below w.heap.size w w' := Any.stringslite_Clone Tryz.ewLaysM316 s w hlim
end Go.Proofs
end
section
set_option linter.all false
namespace Go.Ev
open Go Go.Proofs

/-- New memory only: all that has a name stands. -/
theorem below_ext {cfg : Cfg} {C : Ctx} {D : Nat → Prop} {m : Nat → Loc} {o : Own} {w w' : World} (hi : Inv cfg D m C o w) (h : RowKit.Below w.heap.size w w') : Ext cfg C D m o w D m o w' ∧ Mute D w D m w' := by
  refine ⟨⟨hi.world fun j hj hl => h.block _ ((hi.obj j hj).in_heap hl), fun _ h => h, fun _ _ => rfl, fun _ h => .inl h, Nat.le_refl _, h.os, h.tape, h.output, h.size, fun k hk _ => h.block k hk, rfl, fun i h1 h2 => absurd h1 h2⟩, h.block, fun i h1 h2 => absurd h1 h2⟩

theorem idxByte_spec (c : Nat) : ∀ (s : List UInt8) (k : Nat), idxByte (.ofNat c) s k = (match (List.range' k s.length).find? (fun i => decide ((s.getD (i - k) 0).toNat = c)) with
    | some i => .ofNat i
    | none => -1)
  | [], k => by simp [idxByte]
  | b :: s, k => by
    rw [idxByte]
    simp only [List.length_cons, List.range'_succ, List.find?_cons, Nat.sub_self, List.getD_cons_zero]
    by_cases e : b.toNat = c
    · simp [intEq, e]
    · have : intEq (.ofNat b.toNat) (.ofNat c) = false := beqF e
      rw [this, cond_false, idxByte_spec c s (k + 1)]
      simp only [e, decide_false]
      have hf : ∀ l : List Nat, (∀ i ∈ l, k + 1 ≤ i) → l.find? (fun i => decide ((s.getD (i - (k + 1)) 0).toNat = c)) = l.find? (fun i => decide (((b :: s).getD (i - k) 0).toNat = c)) := by
        intro l hl
        induction l with
        | nil => rfl
        | cons x l ih =>
          have hx := hl x List.mem_cons_self
          rw [List.find?_cons, List.find?_cons, ih fun i hi => hl i (List.mem_cons_of_mem _ hi), show x - k = (x - (k + 1)) + 1 by omega, List.getD_cons_succ]
      rw [hf _ fun i hi => (List.mem_range'_1.1 hi).1]
theorem ixb_run (s : List UInt8) (c : Nat) (hc : c < 256) (w : World) : (callFunc 251 #[.string ⟨⟨s⟩⟩, .int .u8 (.ofNat c)]).run Tryz.prog w = .ok (.value (.int .i64 (idxByte (.ofNat c) s 0))) w := by
  have h1 : Extern.findNext Tryz.f251 = none := by kernel_rfl
  have h2 : Extern.find Tryz.f251 = some Extern.BytealgIndexByte.indexByte := by kernel_rfl
  have h3 : Tryz.f251.body.isNone = true := by kernel_rfl
  have h4 : (Tryz.f251.name == "runtime.NumGoroutine") = false := by kernel_rfl
  rw [run_callFunc_extern Tryz.func251 h4 h3 h1 h2]
  have hb : (Extern.Bytes.asByte (.int .u8 (.ofNat c))).run Tryz.prog w = .ok c.toUInt8 w := rfl
  have hx : ∀ x y, Extern.BytealgIndexByte.indexByte #[x, y] = (do
      let b ← Extern.Bytes.bytesOf x
      let c ← Extern.Bytes.asByte y
      match (List.range b.size).find? (fun i => b[i]! == c) with
      | some i => pure (Go.goInt i)
      | none => pure (Go.goInt (-1))) := fun _ _ => rfl
  rw [hx]
  simp only [Extern.Bytes.bytesOf, Sem.run_bind, Sem.run_pure, Result.andThen_ok, hb]
  rw [idxByte_spec]
  have hf : (List.range (ByteArray.mk ⟨s⟩).size).find? (fun i => (ByteArray.mk ⟨s⟩)[i]! == c.toUInt8) = (List.range' 0 s.length).find? (fun i => decide ((s.getD (i - 0) 0).toNat = c)) := by
    rw [← List.range_eq_range']
    show (List.range s.length).find? _ = _
    have key : ∀ l : List Nat, (∀ i ∈ l, i < s.length) → l.find? (fun i => (ByteArray.mk ⟨s⟩)[i]! == c.toUInt8) = l.find? (fun i => decide ((s.getD (i - 0) 0).toNat = c)) := by
      intro l hl
      induction l with
      | nil => rfl
      | cons x l ih =>
        have hxl := hl x List.mem_cons_self
        have e : ((ByteArray.mk ⟨s⟩)[x]! == c.toUInt8) = decide ((s.getD (x - 0) 0).toNat = c) := by
          have h1 : (ByteArray.mk ⟨s⟩)[x]! = s.getD (x - 0) 0 := by
            have : x < (ByteArray.mk ⟨s⟩).size := hxl
            rw [getElem!_pos (ByteArray.mk ⟨s⟩) x this]
            show s[x] = _
            simp [List.getD_eq_getElem?_getD, hxl]
          rw [h1, Bool.eq_iff_iff, beq_iff_eq, decide_eq_true_eq]
          constructor
          · intro h; rw [h]; simp; omega
          · intro h; rw [← h]; simp
        rw [List.find?_cons, List.find?_cons, e, ih fun i hi => hl i (List.mem_cons_of_mem _ hi)]
    exact key _ fun i hi => List.mem_range.1 hi
  rw [hf]
  cases (List.range' 0 s.length).find? (fun i => decide ((s.getD (i - 0) 0).toNat = c)) with
  | none => rfl
  | some i => simp [Go.goInt]
/-- A known function whose answer leads nowhere, and which lays new memory only. -/
theorem below_call {f : FuncId} {args : List AV} {v : AV} {C : Ctx} {D : Nat → Prop} {m : Nat → Loc} {o : Own} {w : World} (hi : Inv cfg D m C o w) (hv : idsA v = []) (hr : (callFunc f (concL m args).toArray).run Tryz.prog w = .ok (.enter f (concL m args).toArray) w)
    (h : Calls Tryz.prog f (concL m args).toArray w fun e w' => e = .returned (conc m v) ∧ RowKit.Below w.heap.size w w') :
    CallS Tryz.prog f (concL m args).toArray w fun V w' => ∃ D' m', V = conc m' v ∧ okV D' m' v ∧ Ext cfg C D m o w D' m' o w' ∧ (namesAt args (cfg.lend f) = [] → Mute D w D' m' w') :=
  .inl ⟨hr, h.mono fun e w' ⟨he, hb⟩ => ⟨_, he, D, m, rfl, okV_none hv, (below_ext hi hb).1, fun _ => (below_ext hi hb).2⟩⟩
theorem add_ok {C : Ctx} {args : List AV} {o : Own} {r : AV × Own} (h : add args o = some r) {D : Nat → Prop} {m : Nat → Loc} {w : World} (hi : Inv cfg D m C o w) :
    CallS Tryz.prog 190 (concL m args).toArray w fun V w' => ∃ D' m', V = conc m' r.1 ∧ okV D' m' r.1 ∧ Ext cfg C D m o w D' m' r.2 w' ∧ (namesAt args (cfg.lend 190) = [] → Mute D w D' m' w') := by
  unfold add at h
  split at h
  · rename_i k a l b
    simp only [ok_some, Bool.and_eq_true, sameK_iff, addO, Option.some.injEq, outI_eq] at h
    obtain ⟨⟨rfl, rfl⟩, ⟨h1, h2⟩, rfl⟩ := h
    have e1 : -9223372036854775808 ≤ a + b := by simpa [intLe_dec] using h1
    have e2 : a + b ≤ 9223372036854775807 := by simpa [intLe_dec] using h2
    refine below_call hi (by simp [idsA, idsL, i64]) ?_ ?_
    · have h4 : (Tryz.f190.name == "runtime.NumGoroutine") = false := by kernel_rfl
      have h5 : Tryz.f190.body.isNone = false := by kernel_rfl
      have h6 : ¬ Tryz.f190.name = "runtime.NumGoroutine" := by simpa using h4
      have h7 : ¬ Tryz.f190.body = none := fun e => by rw [e] at h5; cases h5
      simp [callFunc, Tryz.func190, h6, h7]
    · have := Go.Proofs.YticbodgiogmldaaGreatDoor.ints_Add a b w e1 e2
      simpa [concL, conc, i64] using this
  · cases h
theorem cln_ok {C : Ctx} {args : List AV} {o : Own} {r : AV × Own} (h : cln args o = some r) {D : Nat → Prop} {m : Nat → Loc} {w : World} (hi : Inv cfg D m C o w) :
    CallS Tryz.prog 256 (concL m args).toArray w fun V w' => ∃ D' m', V = conc m' r.1 ∧ okV D' m' r.1 ∧ Ext cfg C D m o w D' m' r.2 w' ∧ (namesAt args (cfg.lend 256) = [] → Mute D w D' m' w') := by
  unfold cln at h
  split at h
  · rename_i s
    simp only [ok_some, Option.some.injEq, ble_iff] at h
    obtain ⟨hl, rfl⟩ := h
    refine below_call hi (by simp [idsA]) ?_ ?_
    · have h4 : (Tryz.f256.name == "runtime.NumGoroutine") = false := by kernel_rfl
      have h5 : Tryz.f256.body.isNone = false := by kernel_rfl
      have h6 : ¬ Tryz.f256.name = "runtime.NumGoroutine" := by simpa using h4
      have h7 : ¬ Tryz.f256.body = none := fun e => by rw [e] at h5; cases h5
      simp [callFunc, Tryz.func256, h6, h7]
    · have := Tryz.ewClone ⟨⟨s⟩⟩ w (by show s.length ≤ _; omega)
      simpa [concL, conc] using this
  · cases h
theorem ixb_ok {C : Ctx} {args : List AV} {o : Own} {r : AV × Own} (h : ixb args o = some r) {D : Nat → Prop} {m : Nat → Loc} {w : World} (hi : Inv cfg D m C o w) :
    CallS Tryz.prog 251 (concL m args).toArray w fun V w' => ∃ D' m', V = conc m' r.1 ∧ okV D' m' r.1 ∧ Ext cfg C D m o w D' m' r.2 w' ∧ (namesAt args (cfg.lend 251) = [] → Mute D w D' m' w') := by
  unfold ixb at h
  split at h
  · rename_i s k c
    simp only [ok_some, Bool.and_eq_true, sameK_iff, natLt_iff, Option.some.injEq, outI_eq] at h
    obtain ⟨⟨rfl, hc⟩, rfl⟩ := h
    have hrun := ixb_run s c hc w
    refine .inr ⟨.int .i64 (idxByte (.ofNat c) s 0), w, by simpa [concL, conc] using hrun, D, m, by simp [conc], okV_none (by simp [idsA]), Ext.refl hi, fun _ => ⟨fun _ _ => rfl, fun i h1 h2 => absurd h1 h2⟩⟩
  · cases h
end Go.Ev
end
