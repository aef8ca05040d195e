/- Known calls, layer 10. Printed by layers.py. -/
import Derived.Test.YticbodgiogmldaaGreatDoorEw78
set_option linter.all false
namespace Go.Ev
open Go Go.Proofs
set_option maxRecDepth 100000
def e10_0 : List AV × AV := ([], .bool true)
theorem k10_0 : chk tab cfg9 10000 3 e10_0.1 e10_0.2 = true := by kernel_rfl
noncomputable def memo10 : Memo := (.node none (.node none (.node (some [e10_0]) .nil .nil) .nil) .nil)
noncomputable def cfg10 : Cfg := cfgM cfg9 memo10
theorem memo10_ok (g : Good Tryz.prog tab cfg9) : TbAll (fun f l => ∀ e ∈ l, Fact Tryz.prog cfg9 f e.1 e.2) (fun i => i) memo10 := ⟨none_all, ⟨none_all, ⟨(some_all (fact_cons (g.fact 10000 k10_0) fact_nil)), trivial, trivial⟩, trivial⟩, trivial⟩
theorem good10 (g : Good Tryz.prog tab cfg9) : Good Tryz.prog tab cfg10 := g.memo fun f l h => (memo10_ok g).get f l h
end Go.Ev
