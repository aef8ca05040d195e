/- Known calls, layer 7. Printed by layers.py. -/
import Derived.Test.YtafekjglclnegaaGreatDoorEw38
set_option linter.all false
namespace Go.Ev
open Go Go.Proofs
set_option maxRecDepth 100000
theorem k7_0 : chk tab cfg6 10000 3 [] (.bool true) = true := by kernel_rfl
noncomputable def memo7 : Memo := (.node none (.node none (.node (some [([], .bool true)]) .nil .nil) .nil) .nil)
noncomputable def cfg7 : Cfg := cfgM cfg6 memo7
theorem memo7_ok (g : Good Tryz.prog tab cfg6) : TbAll (fun f l => ∀ e ∈ l, Fact Tryz.prog cfg6 f e.1 e.2) (fun i => i) memo7 := ⟨none_all, ⟨none_all, ⟨(some_all (fact_cons (g.fact 10000 k7_0) fact_nil)), trivial, trivial⟩, trivial⟩, trivial⟩
theorem good7 (g : Good Tryz.prog tab cfg6) : Good Tryz.prog tab cfg7 := g.memo fun f l h => (memo7_ok g).get f l h
end Go.Ev
