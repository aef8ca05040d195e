/- Known calls, layer 5. Printed by layers.py. -/
import Derived.Test.YticbodgiogmldaaGreatDoorEw73
set_option linter.all false
namespace Go.Ev
open Go Go.Proofs
set_option maxRecDepth 100000
def e5_0 : List AV × AV := ([.agg [.int .u8 2, .nilslice, .bool false, .bool false, .str [88, 88, 88, 88], iA 0, iA 0, .str [], .str [], .int .u8 0, .int .u8 0, .int .u8 0, .int .u8 0, .int .i8 0, iA 0, .int .i8 0, iA 0], iA (-9223372036854775808)], .int .u8 1)
theorem k5_0 : chk tab cfg4 10000 10 e5_0.1 e5_0.2 = true := by kernel_rfl
def e5_1 : List AV × AV := ([.agg [.int .u8 2, .nilslice, .bool false, .bool false, .str [88, 88, 88, 88], iA 0, iA 0, .str [], .str [], .int .u8 0, .int .u8 0, .int .u8 0, .int .u8 0, .int .i8 0, iA 0, .int .i8 0, iA 0], iA 9223372036854775807], .int .u8 1)
theorem k5_1 : chk tab cfg4 10000 10 e5_1.1 e5_1.2 = true := by kernel_rfl
def e5_2 : List AV × AV := ([dA [88, 88, 88, 88] 0 0 [] [], iA 0], .bool true)
theorem k5_2 : chk tab cfg4 10000 27 e5_2.1 e5_2.2 = true := by kernel_rfl
def e5_3 : List AV × AV := ([dA [88, 88, 88, 88] 0 0 [] [], iA 5], .bool true)
theorem k5_3 : chk tab cfg4 10000 27 e5_3.1 e5_3.2 = true := by kernel_rfl
def e5_4 : List AV × AV := ([dA [88, 88, 88, 88] 0 0 [] [], iA 6], .bool true)
theorem k5_4 : chk tab cfg4 10000 27 e5_4.1 e5_4.2 = true := by kernel_rfl
def e5_5 : List AV × AV := ([dA [88, 88, 88, 88] 0 0 [] [], iA 7], .bool true)
theorem k5_5 : chk tab cfg4 10000 27 e5_5.1 e5_5.2 = true := by kernel_rfl
def e5_6 : List AV × AV := ([dA [88, 88, 88, 88] 0 0 [] [], iA (-1)], .bool false)
theorem k5_6 : chk tab cfg4 10000 27 e5_6.1 e5_6.2 = true := by kernel_rfl
def e5_7 : List AV × AV := ([dA [88, 88, 88, 88] 0 0 [] [], iA 305], .bool true)
theorem k5_7 : chk tab cfg4 10000 27 e5_7.1 e5_7.2 = true := by kernel_rfl
def e5_8 : List AV × AV := ([dA [88, 88, 88, 88] 0 0 [] [], iA 1000000], .bool true)
theorem k5_8 : chk tab cfg4 10000 27 e5_8.1 e5_8.2 = true := by kernel_rfl
def e5_9 : List AV × AV := ([dA [88, 88, 88, 88] 0 0 [] [], iA 3652424], .bool true)
theorem k5_9 : chk tab cfg4 10000 27 e5_9.1 e5_9.2 = true := by kernel_rfl
def e5_10 : List AV × AV := ([dA [88, 88, 88, 88] 0 0 [] [], iA 3652425], .bool false)
theorem k5_10 : chk tab cfg4 10000 27 e5_10.1 e5_10.2 = true := by kernel_rfl
def e5_11 : List AV × AV := ([dA [48, 48, 48, 88] 0 0 [49, 88] [], iA 0], .bool false)
theorem k5_11 : chk tab cfg4 10000 27 e5_11.1 e5_11.2 = true := by kernel_rfl
def e5_12 : List AV × AV := ([dA [48, 48, 48, 88] 0 0 [49, 88] [], iA 5], .bool false)
theorem k5_12 : chk tab cfg4 10000 27 e5_12.1 e5_12.2 = true := by kernel_rfl
def e5_13 : List AV × AV := ([dA [48, 48, 48, 88] 0 0 [49, 88] [], iA 6], .bool false)
theorem k5_13 : chk tab cfg4 10000 27 e5_13.1 e5_13.2 = true := by kernel_rfl
def e5_14 : List AV × AV := ([dA [48, 48, 48, 88] 0 0 [49, 88] [], iA 7], .bool false)
theorem k5_14 : chk tab cfg4 10000 27 e5_14.1 e5_14.2 = true := by kernel_rfl
def e5_15 : List AV × AV := ([.agg [.int .u8 2, .nilslice, .bool false, .bool false, .str [48, 48, 48, 88], iA 0, iA 0, .str [49, 88], .str [], .int .u8 0, .int .u8 0, .int .u8 0, .int .u8 0, .int .i8 0, iA 0, .int .i8 0, iA 0], iA (-1)], .int .u8 1)
theorem k5_15 : chk tab cfg4 10000 10 e5_15.1 e5_15.2 = true := by kernel_rfl
def e5_16 : List AV × AV := ([dA [48, 48, 48, 88] 0 0 [49, 88] [], iA 305], .bool true)
theorem k5_16 : chk tab cfg4 10000 27 e5_16.1 e5_16.2 = true := by kernel_rfl
def e5_17 : List AV × AV := ([.agg [.int .u8 2, .nilslice, .bool false, .bool false, .str [48, 48, 48, 88], iA 0, iA 0, .str [49, 88], .str [], .int .u8 0, .int .u8 0, .int .u8 0, .int .u8 0, .int .i8 0, iA 0, .int .i8 0, iA 0], iA 1000000], .int .u8 1)
theorem k5_17 : chk tab cfg4 10000 10 e5_17.1 e5_17.2 = true := by kernel_rfl
def e5_18 : List AV × AV := ([.agg [.int .u8 2, .nilslice, .bool false, .bool false, .str [48, 48, 48, 88], iA 0, iA 0, .str [49, 88], .str [], .int .u8 0, .int .u8 0, .int .u8 0, .int .u8 0, .int .i8 0, iA 0, .int .i8 0, iA 0], iA 3652424], .int .u8 1)
theorem k5_18 : chk tab cfg4 10000 10 e5_18.1 e5_18.2 = true := by kernel_rfl
def e5_19 : List AV × AV := ([dA [48, 48, 48, 88] 0 0 [49, 88] [], iA 3652425], .bool false)
theorem k5_19 : chk tab cfg4 10000 27 e5_19.1 e5_19.2 = true := by kernel_rfl
def e5_20 : List AV × AV := ([.agg [.int .u8 3, .nilslice, .bool false, .bool false, .str [], iA 0, iA 0, .str [], .str [], .int .u8 0, .int .u8 0, .int .u8 0, .int .u8 1, .int .i8 0, iA 0, .int .i8 1, iA 0], iA (-9223372036854775808)], .int .u8 1)
theorem k5_20 : chk tab cfg4 10000 10 e5_20.1 e5_20.2 = true := by kernel_rfl
def e5_21 : List AV × AV := ([.agg [.int .u8 3, .nilslice, .bool false, .bool false, .str [], iA 0, iA 0, .str [], .str [], .int .u8 0, .int .u8 0, .int .u8 0, .int .u8 1, .int .i8 0, iA 0, .int .i8 1, iA 0], iA 9223372036854775807], .int .u8 2)
theorem k5_21 : chk tab cfg4 10000 10 e5_21.1 e5_21.2 = true := by kernel_rfl
def e5_22 : List AV × AV := ([.agg [.int .u8 3, .nilslice, .bool false, .bool false, .str [], iA 0, iA 0, .str [], .str [], .int .u8 0, .int .u8 0, .int .u8 0, .int .u8 1, .int .i8 0, iA 0, .int .i8 1, iA 0], iA 0], .int .u8 2)
theorem k5_22 : chk tab cfg4 10000 10 e5_22.1 e5_22.2 = true := by kernel_rfl
def e5_23 : List AV × AV := ([.agg [.int .u8 3, .nilslice, .bool false, .bool false, .str [], iA 0, iA 0, .str [], .str [], .int .u8 0, .int .u8 0, .int .u8 0, .int .u8 1, .int .i8 0, iA 0, .int .i8 1, iA 0], iA 5], .int .u8 2)
theorem k5_23 : chk tab cfg4 10000 10 e5_23.1 e5_23.2 = true := by kernel_rfl
def e5_24 : List AV × AV := ([.agg [.int .u8 3, .nilslice, .bool false, .bool false, .str [], iA 0, iA 0, .str [], .str [], .int .u8 0, .int .u8 0, .int .u8 0, .int .u8 1, .int .i8 0, iA 0, .int .i8 1, iA 0], iA 6], .int .u8 2)
theorem k5_24 : chk tab cfg4 10000 10 e5_24.1 e5_24.2 = true := by kernel_rfl
def e5_25 : List AV × AV := ([.agg [.int .u8 3, .nilslice, .bool false, .bool false, .str [], iA 0, iA 0, .str [], .str [], .int .u8 0, .int .u8 0, .int .u8 0, .int .u8 1, .int .i8 0, iA 0, .int .i8 1, iA 0], iA 7], .int .u8 2)
theorem k5_25 : chk tab cfg4 10000 10 e5_25.1 e5_25.2 = true := by kernel_rfl
def e5_26 : List AV × AV := ([.agg [.int .u8 3, .nilslice, .bool false, .bool false, .str [], iA 0, iA 0, .str [], .str [], .int .u8 0, .int .u8 0, .int .u8 0, .int .u8 1, .int .i8 0, iA 0, .int .i8 1, iA 0], iA (-1)], .int .u8 1)
theorem k5_26 : chk tab cfg4 10000 10 e5_26.1 e5_26.2 = true := by kernel_rfl
def e5_27 : List AV × AV := ([.agg [.int .u8 3, .nilslice, .bool false, .bool false, .str [], iA 0, iA 0, .str [], .str [], .int .u8 0, .int .u8 0, .int .u8 0, .int .u8 1, .int .i8 0, iA 0, .int .i8 1, iA 0], iA 305], .int .u8 2)
theorem k5_27 : chk tab cfg4 10000 10 e5_27.1 e5_27.2 = true := by kernel_rfl
def e5_28 : List AV × AV := ([.agg [.int .u8 3, .nilslice, .bool false, .bool false, .str [], iA 0, iA 0, .str [], .str [], .int .u8 0, .int .u8 0, .int .u8 0, .int .u8 1, .int .i8 0, iA 0, .int .i8 1, iA 0], iA 1000000], .int .u8 2)
theorem k5_28 : chk tab cfg4 10000 10 e5_28.1 e5_28.2 = true := by kernel_rfl
def e5_29 : List AV × AV := ([.agg [.int .u8 3, .nilslice, .bool false, .bool false, .str [], iA 0, iA 0, .str [], .str [], .int .u8 0, .int .u8 0, .int .u8 0, .int .u8 1, .int .i8 0, iA 0, .int .i8 1, iA 0], iA 3652424], .int .u8 2)
theorem k5_29 : chk tab cfg4 10000 10 e5_29.1 e5_29.2 = true := by kernel_rfl
def e5_30 : List AV × AV := ([.agg [.int .u8 3, .nilslice, .bool false, .bool false, .str [], iA 0, iA 0, .str [], .str [], .int .u8 0, .int .u8 0, .int .u8 0, .int .u8 1, .int .i8 0, iA 0, .int .i8 1, iA 0], iA 3652425], .int .u8 2)
theorem k5_30 : chk tab cfg4 10000 10 e5_30.1 e5_30.2 = true := by kernel_rfl
def e5_31 : List AV × AV := ([.agg [.int .u8 1, .bool false, .bool false, .str [48, 48, 48, 48], iA 0, iA 0, .str [48, 50], .str [], .int .u8 0, .int .u8 0, .int .u8 0, .int .u8 0, .bool false, .bool false, .str [], iA 0, iA 0, .str [], .str [], .int .u8 0, .int .u8 0, .int .u8 0, .int .u8 0, .bool false, .bool false, .str [], iA 0, iA 0, .str [], .str [], .int .u8 0, .int .u8 0, .int .u8 0, .nilslice, .bool false, .bool false], iA 31], .tuple [.int .u8 3, iA 0])
theorem k5_31 : chk tab cfg4 10000 43 e5_31.1 e5_31.2 = true := by kernel_rfl
def e5_32 : List AV × AV := ([.agg [.int .u8 1, .bool false, .bool false, .str [48, 48, 48, 48], iA 0, iA 0, .str [48, 50], .str [], .int .u8 0, .int .u8 0, .int .u8 0, .int .u8 0, .bool false, .bool false, .str [], iA 0, iA 0, .str [], .str [], .int .u8 0, .int .u8 0, .int .u8 0, .int .u8 0, .bool false, .bool false, .str [], iA 0, iA 0, .str [], .str [], .int .u8 0, .int .u8 0, .int .u8 0, .nilslice, .bool false, .bool false], iA 60], .tuple [.int .u8 1, iA 0])
theorem k5_32 : chk tab cfg4 10000 43 e5_32.1 e5_32.2 = true := by kernel_rfl
def e5_33 : List AV × AV := ([dA [48, 48, 48, 48] 0 0 [48, 88] [], .agg [iA 0, iA 2, iA 29]], .tuple [rA 0 31 0 59, iA 0])
theorem k5_33 : chk tab cfg4 10000 60 e5_33.1 e5_33.2 = true := by kernel_rfl
def e5_34 : List AV × AV := ([dA [48, 48, 48, 48] 0 0 [48, 88] [], iA 300], .bool false)
theorem k5_34 : chk tab cfg4 10000 27 e5_34.1 e5_34.2 = true := by kernel_rfl
def e5_35 : List AV × AV := ([.agg [.int .u8 2, .bool false, .bool false, .str [], iA 0, iA 0, .str [], .str [], .int .u8 0, .int .u8 0, .int .u8 0, .int .u8 1, .bool false, .bool false, .str [48, 48, 48, 48], iA 0, iA 0, .str [], .str [], .int .u8 0, .int .u8 0, .int .u8 0, .int .u8 3, .bool false, .bool false, .str [], iA 0, iA 0, .str [], .str [], .int .u8 0, .int .u8 0, .int .u8 0, .nilslice, .bool false, .bool false], iA 0], .tuple [.int .u8 3, iA 0])
theorem k5_35 : chk tab cfg4 10000 43 e5_35.1 e5_35.2 = true := by kernel_rfl
def e5_36 : List AV × AV := ([.agg [.int .u8 2, .bool false, .bool false, .str [], iA 0, iA 0, .str [], .str [], .int .u8 0, .int .u8 0, .int .u8 0, .int .u8 1, .bool false, .bool false, .str [48, 48, 48, 48], iA 0, iA 0, .str [], .str [], .int .u8 0, .int .u8 0, .int .u8 0, .int .u8 3, .bool false, .bool false, .str [], iA 0, iA 0, .str [], .str [], .int .u8 0, .int .u8 0, .int .u8 0, .nilslice, .bool false, .bool false], iA 1], .tuple [.int .u8 2, iA 0])
theorem k5_36 : chk tab cfg4 10000 43 e5_36.1 e5_36.2 = true := by kernel_rfl
def e5_37 : List AV × AV := ([.agg [.int .u8 2, .bool false, .bool false, .str [], iA 0, iA 0, .str [], .str [], .int .u8 0, .int .u8 0, .int .u8 0, .int .u8 1, .bool false, .bool false, .str [48, 48, 48, 48], iA 0, iA 0, .str [], .str [], .int .u8 0, .int .u8 0, .int .u8 0, .int .u8 3, .bool false, .bool false, .str [], iA 0, iA 0, .str [], .str [], .int .u8 0, .int .u8 0, .int .u8 0, .nilslice, .bool false, .bool false], iA (-1)], .tuple [.int .u8 1, iA 0])
theorem k5_37 : chk tab cfg4 10000 43 e5_37.1 e5_37.2 = true := by kernel_rfl
def e5_38 : List AV × AV := ([.agg [.int .u8 2, .bool false, .bool false, .str [], iA 0, iA 0, .str [], .str [], .int .u8 0, .int .u8 0, .int .u8 0, .int .u8 3, .bool false, .bool false, .str [], iA 0, iA 0, .str [], .str [], .int .u8 0, .int .u8 0, .int .u8 0, .int .u8 1, .bool false, .bool false, .str [48, 48, 48, 48], iA 0, iA 0, .str [48, 49], .str [], .int .u8 0, .int .u8 0, .int .u8 0, .nilslice, .bool false, .bool false], iA 30], .tuple [.int .u8 3, iA 0])
theorem k5_38 : chk tab cfg4 10000 43 e5_38.1 e5_38.2 = true := by kernel_rfl
def e5_39 : List AV × AV := ([.agg [.int .u8 3, .nilslice, .bool false, .bool false, .str [], iA 0, iA 0, .str [], .str [], .int .u8 0, .int .u8 0, .int .u8 0, .int .u8 1, .int .i8 (-1), iA 0, .int .i8 0, iA 365], iA (-10000)], .int .u8 2)
theorem k5_39 : chk tab cfg4 10000 10 e5_39.1 e5_39.2 = true := by kernel_rfl
noncomputable def memo5 : Memo := (.node none (.node none (.node none .nil (.node none .nil (.node (some [e5_2, e5_3, e5_4, e5_5, e5_6, e5_7, e5_8, e5_9, e5_10, e5_11, e5_12, e5_13, e5_14, e5_16, e5_19, e5_34]) (.node (some [e5_31, e5_32, e5_35, e5_36, e5_37, e5_38]) .nil .nil) .nil))) .nil) (.node none (.node none .nil (.node none .nil (.node none .nil (.node (some [e5_33]) .nil .nil)))) (.node none (.node (some [e5_0, e5_1, e5_15, e5_17, e5_18, e5_20, e5_21, e5_22, e5_23, e5_24, e5_25, e5_26, e5_27, e5_28, e5_29, e5_30, e5_39]) .nil .nil) .nil)))
noncomputable def cfg5 : Cfg := cfgM cfg4 memo5
theorem memo5_ok (g : Good Tryz.prog tab cfg4) : TbAll (fun f l => ∀ e ∈ l, Fact Tryz.prog cfg4 f e.1 e.2) (fun i => i) memo5 := ⟨none_all, ⟨none_all, ⟨none_all, trivial, ⟨none_all, trivial, ⟨(some_all (fact_cons (g.fact 10000 k5_2) (fact_cons (g.fact 10000 k5_3) (fact_cons (g.fact 10000 k5_4) (fact_cons (g.fact 10000 k5_5) (fact_cons (g.fact 10000 k5_6) (fact_cons (g.fact 10000 k5_7) (fact_cons (g.fact 10000 k5_8) (fact_cons (g.fact 10000 k5_9) (fact_cons (g.fact 10000 k5_10) (fact_cons (g.fact 10000 k5_11) (fact_cons (g.fact 10000 k5_12) (fact_cons (g.fact 10000 k5_13) (fact_cons (g.fact 10000 k5_14) (fact_cons (g.fact 10000 k5_16) (fact_cons (g.fact 10000 k5_19) (fact_cons (g.fact 10000 k5_34) fact_nil))))))))))))))))), ⟨(some_all (fact_cons (g.fact 10000 k5_31) (fact_cons (g.fact 10000 k5_32) (fact_cons (g.fact 10000 k5_35) (fact_cons (g.fact 10000 k5_36) (fact_cons (g.fact 10000 k5_37) (fact_cons (g.fact 10000 k5_38) fact_nil))))))), trivial, trivial⟩, trivial⟩⟩⟩, trivial⟩, ⟨none_all, ⟨none_all, trivial, ⟨none_all, trivial, ⟨none_all, trivial, ⟨(some_all (fact_cons (g.fact 10000 k5_33) fact_nil)), trivial, trivial⟩⟩⟩⟩, ⟨none_all, ⟨(some_all (fact_cons (g.fact 10000 k5_0) (fact_cons (g.fact 10000 k5_1) (fact_cons (g.fact 10000 k5_15) (fact_cons (g.fact 10000 k5_17) (fact_cons (g.fact 10000 k5_18) (fact_cons (g.fact 10000 k5_20) (fact_cons (g.fact 10000 k5_21) (fact_cons (g.fact 10000 k5_22) (fact_cons (g.fact 10000 k5_23) (fact_cons (g.fact 10000 k5_24) (fact_cons (g.fact 10000 k5_25) (fact_cons (g.fact 10000 k5_26) (fact_cons (g.fact 10000 k5_27) (fact_cons (g.fact 10000 k5_28) (fact_cons (g.fact 10000 k5_29) (fact_cons (g.fact 10000 k5_30) (fact_cons (g.fact 10000 k5_39) fact_nil)))))))))))))))))), trivial, trivial⟩, trivial⟩⟩⟩
theorem good5 (g : Good Tryz.prog tab cfg4) : Good Tryz.prog tab cfg5 := g.memo fun f l h => (memo5_ok g).get f l h
end Go.Ev
