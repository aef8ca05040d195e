/- ints.Add, walked: its deferred function looks at memory that it was handed. -/
import Derived.Test.YtafekjglclnegaaGreatDoorProg
import Derived.WalkKit
import Derived.WalkSpells
import Derived.WalkLawsBesides
import Derived.Deep.QuietTactic
import Derived.BigQuiet
import Derived.Deep.RegionHeld3
import Derived.Deep.DrawnRows
import Derived.Lib.Hide
import Derived.WalkSmall
import Derived.KernelRfl
import Derived.Laws.IdiomStrings
import Derived.Defers
import Derived.Recover
set_option linter.all false
namespace Go.Proofs.YtafekjglclnegaaGreatDoor
open Go.RowKit
theorem bnext {a w w' : World} (h : Below a.heap.size a w) (k : Below w.heap.size w w') : Below a.heap.size a w' := h.trans (k.mono h.size)
theorem balloc {a w : World} (h : Below a.heap.size a w) (o : Obj) : Below a.heap.size a (w.alloc o) := h.alloc h.size o
theorem bdrewN {a w : World} (h : Below a.heap.size a w) (n : Nat) : Below a.heap.size a (w.drewN n) := ⟨h.os, h.tape, h.output, h.size, h.block⟩
theorem bset {a w : World} {p : Addr} (h : Below a.heap.size a w) (hp : a.heap.size ≤ p.block) (u : Value) : Below a.heap.size a (w.setCell p u) := h.setCell hp u
theorem ints_Add1 (a b n : Int) (pa pb pn pe : Nat) (w : World) (u : FrameMode) (hn : decide (a < n) = decide (0 < b))
    (ca : w.cell? ⟨pa, 0, none⟩ = some (.int .i64 a)) (cb : w.cell? ⟨pb, 0, none⟩ = some (.int .i64 b)) (cn : w.cell? ⟨pn, 0, none⟩ = some (.int .i64 n)) :
    CallsD Tryz.prog 330 #[.pointer (some ⟨pn, 0, none⟩), .pointer (some ⟨pa, 0, none⟩), .pointer (some ⟨pb, 0, none⟩), .pointer (some ⟨pe, 0, none⟩)] u w fun e u' w' => u' = u ∧ (e = .returned (.tuple #[]) ∧ w' = w) := by
  have hd : (!decide (a < n) == decide (0 < b)) = false := by rw [hn]; cases decide (0 < b) <;> rfl
  go_enter_d Tryz.func330, Tryz.ntmps330
  go_wp2
  go_end0
  simp
theorem ints_Add (a b : Int) (w : World) (h1 : -9223372036854775808 ≤ a + b) (h2 : a + b ≤ 9223372036854775807) :
    Calls Tryz.prog 295 #[.int .i64 a, .int .i64 b] w fun e w' => e = .returned (.tuple #[.int .i64 (a + b), .int .i64 0]) ∧ Below w.heap.size w w' := by
  have hmf : ∀ (fn : Fn) (first cap : Array Value) (w : World), (Instr.makeFunc fn first cap).run Tryz.prog w = .ok (.func fn first cap) w := fun _ _ _ _ => rfl
  go_enter_defers Tryz.func295, Tryz.ntmps295
  go_wp2
  · have hb : b = 0 := by simpa using ‹(b == 0) = true›
    refine leaves_cons (f := 330) (args := #[.pointer (some ⟨w.heap.size + 2, 0, none⟩), .pointer (some ⟨w.heap.size, 0, none⟩), .pointer (some ⟨w.heap.size + 1, 0, none⟩), .pointer (some ⟨w.heap.size + 3, 0, none⟩)]) (by simp) (by simp [go_sem]) ?_
    refine (ints_Add1 a b a (w.heap.size) (w.heap.size + 1) (w.heap.size + 2) (w.heap.size + 3) _ .returning (by rw [hb]; simp) ?_ ?_ ?_).mono ?_
    · go_simp
    · go_simp
    · go_simp
    rintro e u' w'' ⟨rfl, rfl, rfl⟩
    exact ⟨.tuple #[.int .i64 (a + b), .int .i64 0], by simp [results, Tryz.results295, go_sem, hb], rfl, by (repeat (first | exact Below.refl _ _ | assumption | refine balloc ?_ _ | refine Below.drew ?_ | refine bdrewN ?_ _ | (refine bset ?_ (by first | exact Nat.le_refl _ | (simp; done) | (simp; omega)) _) | refine bnext ?_ (by assumption)))⟩
  · refine leaves_cons (f := 330) (args := #[.pointer (some ⟨w.heap.size + 2, 0, none⟩), .pointer (some ⟨w.heap.size, 0, none⟩), .pointer (some ⟨w.heap.size + 1, 0, none⟩), .pointer (some ⟨w.heap.size + 3, 0, none⟩)]) (by simp) (by simp [go_sem]) ?_
    refine (ints_Add1 a b (a + b) (w.heap.size) (w.heap.size + 1) (w.heap.size + 2) (w.heap.size + 3) _ .returning (by congr 1; apply propext; constructor <;> intro h <;> omega) ?_ ?_ ?_).mono ?_
    · go_simp
    · go_simp
    · go_simp
    rintro e u' w'' ⟨rfl, rfl, rfl⟩
    exact ⟨.tuple #[.int .i64 (a + b), .int .i64 0], by simp [results, Tryz.results295, go_sem], rfl, by (repeat (first | exact Below.refl _ _ | assumption | refine balloc ?_ _ | refine Below.drew ?_ | refine bdrewN ?_ _ | (refine bset ?_ (by first | exact Nat.le_refl _ | (simp; done) | (simp; omega)) _) | refine bnext ?_ (by assumption)))⟩
end Go.Proofs.YtafekjglclnegaaGreatDoor
