/- circalaw26.MembersKnown: the call. -/
import Derived.Test.YticbodgiogmldaaGreatDoorEw79
import Derived.Test.YticbodgiogmldaaGreatDoorEw45
set_option linter.all false
namespace Go.Ev
open Go Go.Proofs

theorem calls3 (w : World) (hL : laidMetH Tryz.prog laidL w) : Calls Tryz.prog 3 #[] w fun e w' => e = .returned (.bool true) ∧ RowKit.Below w.heap.size w w' := by
  obtain ⟨m, hi⟩ := root_inv (rootW_of hL)
  have g9 := good9 (good8 (good7 (good6 (good5 (good4 (good3 (good2 (good1 goodB))))))))
  have hf : Fact Tryz.prog cfg9 3 [] (.bool true) := g9.fact 10000 k10_0
  have hi9 : Inv cfg9 (fun id => id < 14) m C0 ⟨0, [], []⟩ w := Inv.to (cfg := cfg) (cfg' := cfg9) rfl rfl hi
  rcases hf C0 _ m ⟨0, [], []⟩ w hi9 okL_nil with ⟨_, h⟩ | ⟨v, w', hv, _⟩
  · refine h.mono ?_
    rintro e w' ⟨v, rfl, rfl, _, he, hm⟩
    exact ⟨rfl, he.os, he.tape, he.output, he.size, hm.1⟩
  · exfalso
    have h4 : (Tryz.f3.name == "runtime.NumGoroutine") = false := by kernel_rfl
    have h5 : Tryz.f3.body.isNone = false := by kernel_rfl
    have h6 : ¬ Tryz.f3.name = "runtime.NumGoroutine" := by simpa using h4
    have h7 : ¬ Tryz.f3.body = none := fun e => by rw [e] at h5; cases h5
    simp [callFunc, Tryz.func3, h6, h7] at hv
end Go.Ev
