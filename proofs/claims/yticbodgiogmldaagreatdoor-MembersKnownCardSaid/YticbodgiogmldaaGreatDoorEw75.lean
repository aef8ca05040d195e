/- Known calls, layer 6. Printed by layers.py. -/
import Derived.Test.YticbodgiogmldaaGreatDoorEw74
set_option linter.all false
namespace Go.Ev
open Go Go.Proofs
set_option maxRecDepth 100000
def e6_0 : List AV × AV := ([.agg [.int .u8 2, .nilslice, .bool false, .bool false, .str [88, 88, 88, 88], iA 0, iA 0, .str [], .str [], .int .u8 0, .int .u8 0, .int .u8 0, .int .u8 0, .int .i8 0, iA 0, .int .i8 0, iA 0], iA 0], .int .u8 2)
theorem k6_0 : chk tab cfg5 10000 10 e6_0.1 e6_0.2 = true := by kernel_rfl
def e6_1 : List AV × AV := ([.agg [.int .u8 2, .nilslice, .bool false, .bool false, .str [88, 88, 88, 88], iA 0, iA 0, .str [], .str [], .int .u8 0, .int .u8 0, .int .u8 0, .int .u8 0, .int .i8 0, iA 0, .int .i8 0, iA 0], iA 5], .int .u8 2)
theorem k6_1 : chk tab cfg5 10000 10 e6_1.1 e6_1.2 = true := by kernel_rfl
def e6_2 : List AV × AV := ([.agg [.int .u8 2, .nilslice, .bool false, .bool false, .str [88, 88, 88, 88], iA 0, iA 0, .str [], .str [], .int .u8 0, .int .u8 0, .int .u8 0, .int .u8 0, .int .i8 0, iA 0, .int .i8 0, iA 0], iA 6], .int .u8 2)
theorem k6_2 : chk tab cfg5 10000 10 e6_2.1 e6_2.2 = true := by kernel_rfl
def e6_3 : List AV × AV := ([.agg [.int .u8 2, .nilslice, .bool false, .bool false, .str [88, 88, 88, 88], iA 0, iA 0, .str [], .str [], .int .u8 0, .int .u8 0, .int .u8 0, .int .u8 0, .int .i8 0, iA 0, .int .i8 0, iA 0], iA 7], .int .u8 2)
theorem k6_3 : chk tab cfg5 10000 10 e6_3.1 e6_3.2 = true := by kernel_rfl
def e6_4 : List AV × AV := ([.agg [.int .u8 2, .nilslice, .bool false, .bool false, .str [88, 88, 88, 88], iA 0, iA 0, .str [], .str [], .int .u8 0, .int .u8 0, .int .u8 0, .int .u8 0, .int .i8 0, iA 0, .int .i8 0, iA 0], iA (-1)], .int .u8 1)
theorem k6_4 : chk tab cfg5 10000 10 e6_4.1 e6_4.2 = true := by kernel_rfl
def e6_5 : List AV × AV := ([.agg [.int .u8 2, .nilslice, .bool false, .bool false, .str [88, 88, 88, 88], iA 0, iA 0, .str [], .str [], .int .u8 0, .int .u8 0, .int .u8 0, .int .u8 0, .int .i8 0, iA 0, .int .i8 0, iA 0], iA 305], .int .u8 2)
theorem k6_5 : chk tab cfg5 10000 10 e6_5.1 e6_5.2 = true := by kernel_rfl
def e6_6 : List AV × AV := ([.agg [.int .u8 2, .nilslice, .bool false, .bool false, .str [88, 88, 88, 88], iA 0, iA 0, .str [], .str [], .int .u8 0, .int .u8 0, .int .u8 0, .int .u8 0, .int .i8 0, iA 0, .int .i8 0, iA 0], iA 1000000], .int .u8 2)
theorem k6_6 : chk tab cfg5 10000 10 e6_6.1 e6_6.2 = true := by kernel_rfl
def e6_7 : List AV × AV := ([.agg [.int .u8 2, .nilslice, .bool false, .bool false, .str [88, 88, 88, 88], iA 0, iA 0, .str [], .str [], .int .u8 0, .int .u8 0, .int .u8 0, .int .u8 0, .int .i8 0, iA 0, .int .i8 0, iA 0], iA 3652424], .int .u8 2)
theorem k6_7 : chk tab cfg5 10000 10 e6_7.1 e6_7.2 = true := by kernel_rfl
def e6_8 : List AV × AV := ([.agg [.int .u8 2, .nilslice, .bool false, .bool false, .str [88, 88, 88, 88], iA 0, iA 0, .str [], .str [], .int .u8 0, .int .u8 0, .int .u8 0, .int .u8 0, .int .i8 0, iA 0, .int .i8 0, iA 0], iA 3652425], .int .u8 1)
theorem k6_8 : chk tab cfg5 10000 10 e6_8.1 e6_8.2 = true := by kernel_rfl
def e6_9 : List AV × AV := ([.agg [.int .u8 2, .nilslice, .bool false, .bool false, .str [48, 48, 48, 88], iA 0, iA 0, .str [49, 88], .str [], .int .u8 0, .int .u8 0, .int .u8 0, .int .u8 0, .int .i8 0, iA 0, .int .i8 0, iA 0], iA 0], .int .u8 1)
theorem k6_9 : chk tab cfg5 10000 10 e6_9.1 e6_9.2 = true := by kernel_rfl
def e6_10 : List AV × AV := ([.agg [.int .u8 2, .nilslice, .bool false, .bool false, .str [48, 48, 48, 88], iA 0, iA 0, .str [49, 88], .str [], .int .u8 0, .int .u8 0, .int .u8 0, .int .u8 0, .int .i8 0, iA 0, .int .i8 0, iA 0], iA 5], .int .u8 1)
theorem k6_10 : chk tab cfg5 10000 10 e6_10.1 e6_10.2 = true := by kernel_rfl
def e6_11 : List AV × AV := ([.agg [.int .u8 2, .nilslice, .bool false, .bool false, .str [48, 48, 48, 88], iA 0, iA 0, .str [49, 88], .str [], .int .u8 0, .int .u8 0, .int .u8 0, .int .u8 0, .int .i8 0, iA 0, .int .i8 0, iA 0], iA 6], .int .u8 1)
theorem k6_11 : chk tab cfg5 10000 10 e6_11.1 e6_11.2 = true := by kernel_rfl
def e6_12 : List AV × AV := ([.agg [.int .u8 2, .nilslice, .bool false, .bool false, .str [48, 48, 48, 88], iA 0, iA 0, .str [49, 88], .str [], .int .u8 0, .int .u8 0, .int .u8 0, .int .u8 0, .int .i8 0, iA 0, .int .i8 0, iA 0], iA 7], .int .u8 1)
theorem k6_12 : chk tab cfg5 10000 10 e6_12.1 e6_12.2 = true := by kernel_rfl
def e6_13 : List AV × AV := ([.agg [.int .u8 2, .nilslice, .bool false, .bool false, .str [48, 48, 48, 88], iA 0, iA 0, .str [49, 88], .str [], .int .u8 0, .int .u8 0, .int .u8 0, .int .u8 0, .int .i8 0, iA 0, .int .i8 0, iA 0], iA 305], .int .u8 2)
theorem k6_13 : chk tab cfg5 10000 10 e6_13.1 e6_13.2 = true := by kernel_rfl
def e6_14 : List AV × AV := ([.agg [.int .u8 2, .nilslice, .bool false, .bool false, .str [48, 48, 48, 88], iA 0, iA 0, .str [49, 88], .str [], .int .u8 0, .int .u8 0, .int .u8 0, .int .u8 0, .int .i8 0, iA 0, .int .i8 0, iA 0], iA 3652425], .int .u8 1)
theorem k6_14 : chk tab cfg5 10000 10 e6_14.1 e6_14.2 = true := by kernel_rfl
def e6_15 : List AV × AV := ([dA [48, 48, 48, 48] 0 0 [48, 88] [], iA 59], .bool true)
theorem k6_15 : chk tab cfg5 10000 27 e6_15.1 e6_15.2 = true := by kernel_rfl
def e6_16 : List AV × AV := ([.agg [.int .u8 2, .nilslice, .bool false, .bool false, .str [48, 48, 48, 48], iA 0, iA 0, .str [48, 88], .str [], .int .u8 0, .int .u8 0, .int .u8 0, .int .u8 0, .int .i8 0, iA 0, .int .i8 0, iA 0], iA 300], .int .u8 1)
theorem k6_16 : chk tab cfg5 10000 10 e6_16.1 e6_16.2 = true := by kernel_rfl
noncomputable def memo6 : Memo := (.node none (.node none (.node none .nil (.node none .nil (.node (some [e6_15]) .nil .nil))) .nil) (.node none .nil (.node none (.node (some [e6_0, e6_1, e6_2, e6_3, e6_4, e6_5, e6_6, e6_7, e6_8, e6_9, e6_10, e6_11, e6_12, e6_13, e6_14, e6_16]) .nil .nil) .nil)))
noncomputable def cfg6 : Cfg := cfgM cfg5 memo6
theorem memo6_ok (g : Good Tryz.prog tab cfg5) : TbAll (fun f l => ∀ e ∈ l, Fact Tryz.prog cfg5 f e.1 e.2) (fun i => i) memo6 := ⟨none_all, ⟨none_all, ⟨none_all, trivial, ⟨none_all, trivial, ⟨(some_all (fact_cons (g.fact 10000 k6_15) fact_nil)), trivial, trivial⟩⟩⟩, trivial⟩, ⟨none_all, trivial, ⟨none_all, ⟨(some_all (fact_cons (g.fact 10000 k6_0) (fact_cons (g.fact 10000 k6_1) (fact_cons (g.fact 10000 k6_2) (fact_cons (g.fact 10000 k6_3) (fact_cons (g.fact 10000 k6_4) (fact_cons (g.fact 10000 k6_5) (fact_cons (g.fact 10000 k6_6) (fact_cons (g.fact 10000 k6_7) (fact_cons (g.fact 10000 k6_8) (fact_cons (g.fact 10000 k6_9) (fact_cons (g.fact 10000 k6_10) (fact_cons (g.fact 10000 k6_11) (fact_cons (g.fact 10000 k6_12) (fact_cons (g.fact 10000 k6_13) (fact_cons (g.fact 10000 k6_14) (fact_cons (g.fact 10000 k6_16) fact_nil))))))))))))))))), trivial, trivial⟩, trivial⟩⟩⟩
theorem good6 (g : Good Tryz.prog tab cfg5) : Good Tryz.prog tab cfg6 := g.memo fun f l h => (memo6_ok g).get f l h
end Go.Ev
