/- Known calls, layer 7. Printed by layers.py. Known calls, layer 8. Printed by layers.py. Known calls, layer 9. Printed by layers.py. -/
import Derived.Test.YticbodgiogmldaaGreatDoorEw75
section
set_option linter.all false
namespace Go.Ev
open Go Go.Proofs
set_option maxRecDepth 100000
def e7_0 : List AV × AV := ([.agg [.int .u8 2, .nilslice, .bool false, .bool false, .str [48, 48, 48, 48], iA 0, iA 0, .str [48, 88], .str [], .int .u8 0, .int .u8 0, .int .u8 0, .int .u8 0, .int .i8 0, iA 0, .int .i8 0, iA 0], iA 59], .int .u8 2)
theorem k7_0 : chk tab cfg6 10000 10 e7_0.1 e7_0.2 = true := by kernel_rfl
def e7_1 : List AV × AV := ([.agg [.int .u8 1, .bool false, .bool false, .str [48, 48, 48, 48], iA 0, iA 0, .str [48, 88], .str [], .int .u8 0, .int .u8 0, .int .u8 0, .int .u8 0, .bool false, .bool false, .str [], iA 0, iA 0, .str [], .str [], .int .u8 0, .int .u8 0, .int .u8 0, .int .u8 0, .bool false, .bool false, .str [], iA 0, iA 0, .str [], .str [], .int .u8 0, .int .u8 0, .int .u8 0, .nilslice, .bool false, .bool false], iA 300], .tuple [.int .u8 1, iA 0])
theorem k7_1 : chk tab cfg6 10000 43 e7_1.1 e7_1.2 = true := by kernel_rfl
noncomputable def memo7 : Memo := (.node none (.node none (.node none .nil (.node none .nil (.node none (.node (some [e7_1]) .nil .nil) .nil))) .nil) (.node none .nil (.node none (.node (some [e7_0]) .nil .nil) .nil)))
noncomputable def cfg7 : Cfg := cfgM cfg6 memo7
theorem memo7_ok (g : Good Tryz.prog tab cfg6) : TbAll (fun f l => ∀ e ∈ l, Fact Tryz.prog cfg6 f e.1 e.2) (fun i => i) memo7 := ⟨none_all, ⟨none_all, ⟨none_all, trivial, ⟨none_all, trivial, ⟨none_all, ⟨(some_all (fact_cons (g.fact 10000 k7_1) fact_nil)), trivial, trivial⟩, trivial⟩⟩⟩, trivial⟩, ⟨none_all, trivial, ⟨none_all, ⟨(some_all (fact_cons (g.fact 10000 k7_0) fact_nil)), trivial, trivial⟩, trivial⟩⟩⟩
theorem good7 (g : Good Tryz.prog tab cfg6) : Good Tryz.prog tab cfg7 := g.memo fun f l h => (memo7_ok g).get f l h
end Go.Ev
end
section
set_option linter.all false
namespace Go.Ev
open Go Go.Proofs
set_option maxRecDepth 100000
def e8_0 : List AV × AV := ([.agg [.int .u8 1, .bool false, .bool false, .str [48, 48, 48, 48], iA 0, iA 0, .str [48, 88], .str [], .int .u8 0, .int .u8 0, .int .u8 0, .int .u8 0, .bool false, .bool false, .str [], iA 0, iA 0, .str [], .str [], .int .u8 0, .int .u8 0, .int .u8 0, .int .u8 0, .bool false, .bool false, .str [], iA 0, iA 0, .str [], .str [], .int .u8 0, .int .u8 0, .int .u8 0, .nilslice, .bool false, .bool false], iA 59], .tuple [.int .u8 2, iA 0])
theorem k8_0 : chk tab cfg7 10000 43 e8_0.1 e8_0.2 = true := by kernel_rfl
noncomputable def memo8 : Memo := (.node none (.node none (.node none .nil (.node none .nil (.node none (.node (some [e8_0]) .nil .nil) .nil))) .nil) .nil)
noncomputable def cfg8 : Cfg := cfgM cfg7 memo8
theorem memo8_ok (g : Good Tryz.prog tab cfg7) : TbAll (fun f l => ∀ e ∈ l, Fact Tryz.prog cfg7 f e.1 e.2) (fun i => i) memo8 := ⟨none_all, ⟨none_all, ⟨none_all, trivial, ⟨none_all, trivial, ⟨none_all, ⟨(some_all (fact_cons (g.fact 10000 k8_0) fact_nil)), trivial, trivial⟩, trivial⟩⟩⟩, trivial⟩, trivial⟩
theorem good8 (g : Good Tryz.prog tab cfg7) : Good Tryz.prog tab cfg8 := g.memo fun f l h => (memo8_ok g).get f l h
end Go.Ev
end
section
set_option linter.all false
namespace Go.Ev
open Go Go.Proofs
set_option maxRecDepth 100000
def e9_0 : List AV × AV := ([], .bool true)
theorem k9_0 : chk tab cfg8 10000 8 e9_0.1 e9_0.2 = true := by kernel_rfl
noncomputable def memo9 : Memo := (.node none .nil (.node none (.node none (.node (some [e9_0]) .nil .nil) .nil) .nil))
noncomputable def cfg9 : Cfg := cfgM cfg8 memo9
theorem memo9_ok (g : Good Tryz.prog tab cfg8) : TbAll (fun f l => ∀ e ∈ l, Fact Tryz.prog cfg8 f e.1 e.2) (fun i => i) memo9 := ⟨none_all, trivial, ⟨none_all, ⟨none_all, ⟨(some_all (fact_cons (g.fact 10000 k9_0) fact_nil)), trivial, trivial⟩, trivial⟩, trivial⟩⟩
theorem good9 (g : Good Tryz.prog tab cfg8) : Good Tryz.prog tab cfg9 := g.memo fun f l h => (memo9_ok g).get f l h
end Go.Ev
end
