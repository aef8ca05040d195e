/- ints.Add where the sum does not fit; functions that lay new memory only. -/
import Derived.Test.YticbodgiogmldaaGreatDoorEt6
import Derived.Test.YticbodgiogmldaaGreatDoorEw46
set_option linter.all false
namespace Go.Proofs.YticbodgiogmldaaGreatDoor
open Go.RowKit
theorem ints_Add1_ovf (a b n ev : Int) (pa pb pn pe : Nat) (w : World) (u : FrameMode) (hn : decide (a < n) ≠ decide (0 < b))
    (ca : w.cell? ⟨pa, 0, none⟩ = some (.int .i64 a)) (cb : w.cell? ⟨pb, 0, none⟩ = some (.int .i64 b)) (cn : w.cell? ⟨pn, 0, none⟩ = some (.int .i64 n)) (ce : w.cell? ⟨pe, 0, none⟩ = some (.int .i64 ev))
    (fn : w.frozen? ⟨pn, 0, none⟩ = false) (fe : w.frozen? ⟨pe, 0, none⟩ = false) (hne : pn ≠ pe) :
    CallsD Tryz.prog 250 #[.pointer (some ⟨pn, 0, none⟩), .pointer (some ⟨pa, 0, none⟩), .pointer (some ⟨pb, 0, none⟩), .pointer (some ⟨pe, 0, none⟩)] u w fun e u' w' => u' = u ∧ (e = .returned (.tuple #[]) ∧ w' = (w.setCell ⟨pn, 0, none⟩ (.int .i64 0)).setCell ⟨pe, 0, none⟩ (.int .i64 15)) := by
  have hd : (!decide (a < n) == decide (0 < b)) = true := by
    cases h1 : decide (a < n) <;> cases h2 : decide (0 < b) <;> simp [h1, h2] at hn ⊢
  go_enter_d Tryz.func250, Tryz.ntmps250
  go_wp2
  go_end0
  simp
theorem ints_Add_max (w : World) :
    Calls Tryz.prog 190 #[.int .i64 9223372036854775807, .int .i64 1] w fun e w' => e = .returned (.tuple #[.int .i64 0, .int .i64 15]) ∧ Below w.heap.size w w' := by
  have hmf : ∀ (fn : Fn) (first cap : Array Value) (w : World), (Instr.makeFunc fn first cap).run Tryz.prog w = .ok (.func fn first cap) w := fun _ _ _ _ => rfl
  go_enter_defers Tryz.func190, Tryz.ntmps190
  go_wp2
  refine leaves_cons (f := 250) (args := #[.pointer (some ⟨w.heap.size + 2, 0, none⟩), .pointer (some ⟨w.heap.size, 0, none⟩), .pointer (some ⟨w.heap.size + 1, 0, none⟩), .pointer (some ⟨w.heap.size + 3, 0, none⟩)]) (by simp) (by simp [go_sem]) ?_
  refine (ints_Add1_ovf 9223372036854775807 1 (-9223372036854775808) 0 (w.heap.size) (w.heap.size + 1) (w.heap.size + 2) (w.heap.size + 3) _ .returning (by decide) ?_ ?_ ?_ ?_ ?_ ?_ (by omega)).mono ?_
  · go_simp
  · go_simp
  · go_simp; unfold wrap64; omega
  · go_simp
  · go_simp
  · go_simp
  rintro e u' w'' ⟨rfl, rfl, rfl⟩
  exact ⟨.tuple #[.int .i64 0, .int .i64 15], by simp [results, Tryz.results190, go_sem], rfl, by (repeat (first | exact Below.refl _ _ | assumption | refine balloc ?_ _ | refine Below.drew ?_ | refine bdrewN ?_ _ | (refine bset ?_ (by first | exact Nat.le_refl _ | (simp; done) | (simp; omega)) _) | refine bnext ?_ (by assumption)))⟩
end Go.Proofs.YticbodgiogmldaaGreatDoor
namespace Go.Ev
open Go Go.Proofs
theorem base0 : Base Tryz.prog tab cfg := ⟨good0.tab, good0.mixed, good0.lv⟩
/-- A known function whose answer leads nowhere, and which lays new memory only. -/
theorem Fact.below {f : FuncId} {args : List AV} {v : AV} (hv : idsA v = []) (hr : ∀ (m : Nat → Loc) (w : World), (callFunc f (concL m args).toArray).run Tryz.prog w = .ok (.enter f (concL m args).toArray) w)
    (h : ∀ (m : Nat → Loc) (w : World), Calls Tryz.prog f (concL m args).toArray w fun e w' => e = .returned (conc m v) ∧ RowKit.Below w.heap.size w w') : Fact Tryz.prog cfg f args v := fun C D m o w hi hok =>
  .inl ⟨hr m w, (h m w).mono fun e w' ⟨he, hb⟩ => ⟨_, he, rfl, okV_none hv, (below_ext hi hb).1, (below_ext hi hb).2⟩⟩
/-- ints.Add: the sum, or 0 and the error. -/
def sAdd : Sum := fun args => match args with
  | [.int .i64 a, .int .i64 b] => some (.test (inR .i64 (Int.add a b)) fun d => bif d then .ret (.tuple [.int .i64 (Int.add a b), .int .i64 0]) else asrt (intEq a 9223372036854775807) (asrt (intEq b 1) (.ret (.tuple [.int .i64 0, .int .i64 15]))))
  | _ => none
theorem sAdd_ok : SumOK Tryz.prog cfg 190 sAdd := by
  intro args t v he hv
  unfold sAdd at he
  split at he
  · rename_i a b
    cases he
    have hr : ∀ (m : Nat → Loc) (w : World), (callFunc 190 (concL m [.int .i64 a, .int .i64 b]).toArray).run Tryz.prog w = .ok (.enter 190 (concL m [.int .i64 a, .int .i64 b]).toArray) w := fun m w => by
      have h4 : (Tryz.f190.name == "runtime.NumGoroutine") = false := by kernel_rfl
      have h5 : Tryz.f190.body.isNone = false := by kernel_rfl
      have h6 : ¬ Tryz.f190.name = "runtime.NumGoroutine" := by simpa using h4
      have h7 : ¬ Tryz.f190.body = none := fun e => by rw [e] at h5; cases h5
      simp [callFunc, Tryz.func190, h6, h7]
    simp only [Tr.run] at hv
    cases hd : inR .i64 (Int.add a b) with
    | true =>
      rw [hd] at hv
      cases hv
      rw [q_inR_t] at hd
      refine Fact.below (by simp [idsA, idsL]) hr fun m w => ?_
      have := Go.Proofs.YticbodgiogmldaaGreatDoor.ints_Add a b w hd.1 hd.2
      simpa [concL, conc, q_add] using this
    | false =>
      rw [hd] at hv
      obtain ⟨h1, hv⟩ := asrt_run hv
      obtain ⟨h2, hv⟩ := asrt_run hv
      cases hv
      rw [q_eq_t] at h1 h2
      subst h1 h2
      refine Fact.below (by simp [idsA, idsL]) hr fun m w => ?_
      have := Go.Proofs.YticbodgiogmldaaGreatDoor.ints_Add_max w
      simpa [concL, conc] using this
  · cases he
end Go.Ev
