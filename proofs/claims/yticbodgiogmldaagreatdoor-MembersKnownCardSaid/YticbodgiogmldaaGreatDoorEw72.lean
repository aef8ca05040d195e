/- Known calls, layer 3. Printed by layers.py. -/
import Derived.Test.YticbodgiogmldaaGreatDoorEw71
set_option linter.all false
namespace Go.Ev
open Go Go.Proofs
set_option maxRecDepth 100000
def e3_0 : List AV × AV := ([dA [88, 88, 88, 88] 0 0 [] []], iA 0)
theorem k3_0 : chk tab cfg2 10000 47 e3_0.1 e3_0.2 = true := by kernel_rfl
def e3_1 : List AV × AV := ([iA 0], .tuple [iA 0, iA 1, iA 0])
theorem k3_1 : chk tab cfg2 10000 109 e3_1.1 e3_1.2 = true := by kernel_rfl
def e3_2 : List AV × AV := ([iA 5], .tuple [iA 0, iA 1, iA 0])
theorem k3_2 : chk tab cfg2 10000 109 e3_2.1 e3_2.2 = true := by kernel_rfl
def e3_3 : List AV × AV := ([iA 6], .tuple [iA 0, iA 1, iA 0])
theorem k3_3 : chk tab cfg2 10000 109 e3_3.1 e3_3.2 = true := by kernel_rfl
def e3_4 : List AV × AV := ([iA 7], .tuple [iA 0, iA 1, iA 0])
theorem k3_4 : chk tab cfg2 10000 109 e3_4.1 e3_4.2 = true := by kernel_rfl
def e3_5 : List AV × AV := ([iA (-1)], .tuple [iA (-1), iA 12, iA 0])
theorem k3_5 : chk tab cfg2 10000 109 e3_5.1 e3_5.2 = true := by kernel_rfl
def e3_6 : List AV × AV := ([iA 305], .tuple [iA 0, iA 11, iA 0])
theorem k3_6 : chk tab cfg2 10000 109 e3_6.1 e3_6.2 = true := by kernel_rfl
def e3_7 : List AV × AV := ([iA 1000000], .tuple [iA 2737, iA 11, iA 0])
theorem k3_7 : chk tab cfg2 10000 109 e3_7.1 e3_7.2 = true := by kernel_rfl
def e3_8 : List AV × AV := ([iA 3652424], .tuple [iA 9999, iA 12, iA 0])
theorem k3_8 : chk tab cfg2 10000 109 e3_8.1 e3_8.2 = true := by kernel_rfl
def e3_9 : List AV × AV := ([iA 3652425], .tuple [iA 10000, iA 1, iA 0])
theorem k3_9 : chk tab cfg2 10000 109 e3_9.1 e3_9.2 = true := by kernel_rfl
def e3_10 : List AV × AV := ([.agg [.int .u8 2, .nilslice, .bool false, .bool false, .str [48, 48, 48, 88], iA 0, iA 0, .str [49, 88], .str [], .int .u8 0, .int .u8 0, .int .u8 0, .int .u8 0, .int .i8 0, iA 0, .int .i8 0, iA 0]], iA 0)
theorem k3_10 : chk tab cfg2 10000 9 e3_10.1 e3_10.2 = true := by kernel_rfl
def e3_11 : List AV × AV := ([dA [48, 48, 48, 88] 0 0 [49, 88] []], .tuple [iA 30, iA 0])
theorem k3_11 : chk tab cfg2 10000 115 e3_11.1 e3_11.2 = true := by kernel_rfl
def e3_12 : List AV × AV := ([.agg [.int .u8 2, .nilslice, .bool false, .bool false, .str [48, 48, 48, 88], iA 0, iA 0, .str [49, 88], .str [], .int .u8 0, .int .u8 0, .int .u8 0, .int .u8 0, .int .i8 0, iA 0, .int .i8 0, iA 0], iA (-9223372036854775808)], iA 1)
theorem k3_12 : chk tab cfg2 10000 6 e3_12.1 e3_12.2 = true := by kernel_rfl
def e3_13 : List AV × AV := ([.agg [.int .u8 2, .nilslice, .bool false, .bool false, .str [48, 48, 48, 88], iA 0, iA 0, .str [49, 88], .str [], .int .u8 0, .int .u8 0, .int .u8 0, .int .u8 0, .int .i8 0, iA 0, .int .i8 0, iA 0], iA 9223372036854775807], iA 1)
theorem k3_13 : chk tab cfg2 10000 6 e3_13.1 e3_13.2 = true := by kernel_rfl
def e3_14 : List AV × AV := ([dA [48, 48, 48, 88] 0 0 [49, 88] [], .agg [iA 0, iA 1, iA 1]], .tuple [.agg [iA 0, iA 10, iA 0], .bool true, iA 0])
theorem k3_14 : chk tab cfg2 10000 160 e3_14.1 e3_14.2 = true := by kernel_rfl
def e3_15 : List AV × AV := ([.agg [.int .u8 2, .nilslice, .bool false, .bool false, .str [48, 48, 48, 88], iA 0, iA 0, .str [49, 88], .str [], .int .u8 0, .int .u8 0, .int .u8 0, .int .u8 0, .int .i8 0, iA 0, .int .i8 0, iA 0], iA 0], iA 1)
theorem k3_15 : chk tab cfg2 10000 6 e3_15.1 e3_15.2 = true := by kernel_rfl
def e3_16 : List AV × AV := ([dA [48, 48, 48, 88] 0 0 [49, 88] [], .agg [iA 0, iA 1, iA 6]], .tuple [.agg [iA 0, iA 10, iA 0], .bool true, iA 0])
theorem k3_16 : chk tab cfg2 10000 160 e3_16.1 e3_16.2 = true := by kernel_rfl
def e3_17 : List AV × AV := ([.agg [.int .u8 2, .nilslice, .bool false, .bool false, .str [48, 48, 48, 88], iA 0, iA 0, .str [49, 88], .str [], .int .u8 0, .int .u8 0, .int .u8 0, .int .u8 0, .int .i8 0, iA 0, .int .i8 0, iA 0], iA 5], iA 1)
theorem k3_17 : chk tab cfg2 10000 6 e3_17.1 e3_17.2 = true := by kernel_rfl
def e3_18 : List AV × AV := ([dA [48, 48, 48, 88] 0 0 [49, 88] [], .agg [iA 0, iA 1, iA 7]], .tuple [.agg [iA 0, iA 10, iA 0], .bool true, iA 0])
theorem k3_18 : chk tab cfg2 10000 160 e3_18.1 e3_18.2 = true := by kernel_rfl
def e3_19 : List AV × AV := ([.agg [.int .u8 2, .nilslice, .bool false, .bool false, .str [48, 48, 48, 88], iA 0, iA 0, .str [49, 88], .str [], .int .u8 0, .int .u8 0, .int .u8 0, .int .u8 0, .int .i8 0, iA 0, .int .i8 0, iA 0], iA 6], iA 1)
theorem k3_19 : chk tab cfg2 10000 6 e3_19.1 e3_19.2 = true := by kernel_rfl
def e3_20 : List AV × AV := ([dA [48, 48, 48, 88] 0 0 [49, 88] [], .agg [iA 0, iA 1, iA 8]], .tuple [.agg [iA 0, iA 10, iA 0], .bool true, iA 0])
theorem k3_20 : chk tab cfg2 10000 160 e3_20.1 e3_20.2 = true := by kernel_rfl
def e3_21 : List AV × AV := ([.agg [.int .u8 2, .nilslice, .bool false, .bool false, .str [48, 48, 48, 88], iA 0, iA 0, .str [49, 88], .str [], .int .u8 0, .int .u8 0, .int .u8 0, .int .u8 0, .int .i8 0, iA 0, .int .i8 0, iA 0], iA 7], iA 1)
theorem k3_21 : chk tab cfg2 10000 6 e3_21.1 e3_21.2 = true := by kernel_rfl
def e3_22 : List AV × AV := ([dA [48, 48, 48, 88] 0 0 [49, 88] [], .agg [iA (-1), iA 12, iA 31]], .tuple [.agg [iA 0, iA 10, iA 0], .bool true, iA 0])
theorem k3_22 : chk tab cfg2 10000 160 e3_22.1 e3_22.2 = true := by kernel_rfl
def e3_23 : List AV × AV := ([.agg [.int .u8 2, .nilslice, .bool false, .bool false, .str [48, 48, 48, 88], iA 0, iA 0, .str [49, 88], .str [], .int .u8 0, .int .u8 0, .int .u8 0, .int .u8 0, .int .i8 0, iA 0, .int .i8 0, iA 0], iA (-1)], iA 1)
theorem k3_23 : chk tab cfg2 10000 6 e3_23.1 e3_23.2 = true := by kernel_rfl
def e3_24 : List AV × AV := ([dA [48, 48, 48, 88] 0 0 [49, 88] [], .agg [iA 0, iA 11, iA 1]], .tuple [.agg [iA 0, iA 11, iA 0], .bool true, iA 0])
theorem k3_24 : chk tab cfg2 10000 160 e3_24.1 e3_24.2 = true := by kernel_rfl
def e3_25 : List AV × AV := ([iA 10], .tuple [iA 305, iA 334, iA 0])
theorem k3_25 : chk tab cfg2 10000 152 e3_25.1 e3_25.2 = true := by kernel_rfl
def e3_26 : List AV × AV := ([.agg [.int .u8 2, .nilslice, .bool false, .bool false, .str [48, 48, 48, 88], iA 0, iA 0, .str [49, 88], .str [], .int .u8 0, .int .u8 0, .int .u8 0, .int .u8 0, .int .i8 0, iA 0, .int .i8 0, iA 0], iA 305], iA 2)
theorem k3_26 : chk tab cfg2 10000 6 e3_26.1 e3_26.2 = true := by kernel_rfl
def e3_27 : List AV × AV := ([dA [48, 48, 48, 88] 0 0 [49, 88] [], .agg [iA 2737, iA 11, iA 28]], .tuple [.agg [iA 0, iA 0, iA 0], .bool false, iA 0])
theorem k3_27 : chk tab cfg2 10000 160 e3_27.1 e3_27.2 = true := by kernel_rfl
def e3_28 : List AV × AV := ([.agg [.int .u8 2, .nilslice, .bool false, .bool false, .str [48, 48, 48, 88], iA 0, iA 0, .str [49, 88], .str [], .int .u8 0, .int .u8 0, .int .u8 0, .int .u8 0, .int .i8 0, iA 0, .int .i8 0, iA 0], iA 1000000], iA 1)
theorem k3_28 : chk tab cfg2 10000 6 e3_28.1 e3_28.2 = true := by kernel_rfl
def e3_29 : List AV × AV := ([dA [48, 48, 48, 88] 0 0 [49, 88] [], .agg [iA 9999, iA 12, iA 31]], .tuple [.agg [iA 0, iA 0, iA 0], .bool false, iA 0])
theorem k3_29 : chk tab cfg2 10000 160 e3_29.1 e3_29.2 = true := by kernel_rfl
def e3_30 : List AV × AV := ([.agg [.int .u8 2, .nilslice, .bool false, .bool false, .str [48, 48, 48, 88], iA 0, iA 0, .str [49, 88], .str [], .int .u8 0, .int .u8 0, .int .u8 0, .int .u8 0, .int .i8 0, iA 0, .int .i8 0, iA 0], iA 3652424], iA 1)
theorem k3_30 : chk tab cfg2 10000 6 e3_30.1 e3_30.2 = true := by kernel_rfl
def e3_31 : List AV × AV := ([dA [48, 48, 48, 88] 0 0 [49, 88] [], .agg [iA 10000, iA 1, iA 1]], .tuple [.agg [iA 0, iA 0, iA 0], .bool false, iA 0])
theorem k3_31 : chk tab cfg2 10000 160 e3_31.1 e3_31.2 = true := by kernel_rfl
def e3_32 : List AV × AV := ([.agg [.int .u8 2, .nilslice, .bool false, .bool false, .str [48, 48, 48, 88], iA 0, iA 0, .str [49, 88], .str [], .int .u8 0, .int .u8 0, .int .u8 0, .int .u8 0, .int .i8 0, iA 0, .int .i8 0, iA 0], iA 3652425], iA 1)
theorem k3_32 : chk tab cfg2 10000 6 e3_32.1 e3_32.2 = true := by kernel_rfl
def e3_33 : List AV × AV := ([iA 0, .int .u8 1], .tuple [rA 0 0 0 365, iA 0])
theorem k3_33 : chk tab cfg2 10000 51 e3_33.1 e3_33.2 = true := by kernel_rfl
def e3_34 : List AV × AV := ([.agg [.int .u8 3, .nilslice, .bool false, .bool false, .str [], iA 0, iA 0, .str [], .str [], .int .u8 0, .int .u8 0, .int .u8 0, .int .u8 3, .int .i8 (-1), iA 0, .int .i8 0, iA 6]], .tuple [iA 0, .bool true, iA 0])
theorem k3_34 : chk tab cfg2 10000 28 e3_34.1 e3_34.2 = true := by kernel_rfl
def e3_35 : List AV × AV := ([.agg [.int .u8 3, .nilslice, .bool false, .bool false, .str [], iA 0, iA 0, .str [], .str [], .int .u8 0, .int .u8 0, .int .u8 0, .int .u8 3, .int .i8 0, iA 6, .int .i8 0, iA 6]], .tuple [iA 1, .bool false, iA 0])
theorem k3_35 : chk tab cfg2 10000 28 e3_35.1 e3_35.2 = true := by kernel_rfl
def e3_36 : List AV × AV := ([dA [48, 48, 48, 48] 0 0 [] []], iA 0)
theorem k3_36 : chk tab cfg2 10000 47 e3_36.1 e3_36.2 = true := by kernel_rfl
def e3_37 : List AV × AV := ([.agg [.bool false, .bool false, .str [48, 48, 48, 48], iA 0, iA 0]], .tuple [iA 0, iA 0])
theorem k3_37 : chk tab cfg2 10000 134 e3_37.1 e3_37.2 = true := by kernel_rfl
def e3_38 : List AV × AV := ([.agg [.int .u8 1, .bool false, .bool false, .str [48, 48, 48, 48], iA 0, iA 0, .str [48, 50], .str [], .int .u8 0, .int .u8 0, .int .u8 0, .int .u8 0, .bool false, .bool false, .str [], iA 0, iA 0, .str [], .str [], .int .u8 0, .int .u8 0, .int .u8 0, .int .u8 0, .bool false, .bool false, .str [], iA 0, iA 0, .str [], .str [], .int .u8 0, .int .u8 0, .int .u8 0, .nilslice, .bool false, .bool false]], iA 0)
theorem k3_38 : chk tab cfg2 10000 35 e3_38.1 e3_38.2 = true := by kernel_rfl
def e3_39 : List AV × AV := ([iA 1], .tuple [iA 31, iA 59, iA 0])
theorem k3_39 : chk tab cfg2 10000 152 e3_39.1 e3_39.2 = true := by kernel_rfl
def e3_40 : List AV × AV := ([.agg [.int .u8 1, .bool false, .bool false, .str [48, 48, 48, 48], iA 0, iA 0, .str [48, 88], .str [], .int .u8 0, .int .u8 0, .int .u8 0, .int .u8 0, .bool false, .bool false, .str [], iA 0, iA 0, .str [], .str [], .int .u8 0, .int .u8 0, .int .u8 0, .int .u8 0, .bool false, .bool false, .str [], iA 0, iA 0, .str [], .str [], .int .u8 0, .int .u8 0, .int .u8 0, .nilslice, .bool false, .bool false]], iA 0)
theorem k3_40 : chk tab cfg2 10000 35 e3_40.1 e3_40.2 = true := by kernel_rfl
def e3_41 : List AV × AV := ([iA 59], .tuple [iA 0, iA 2, iA 0])
theorem k3_41 : chk tab cfg2 10000 109 e3_41.1 e3_41.2 = true := by kernel_rfl
def e3_42 : List AV × AV := ([.agg [.int .u8 2, .nilslice, .bool false, .bool false, .str [48, 48, 48, 48], iA 0, iA 0, .str [48, 88], .str [], .int .u8 0, .int .u8 0, .int .u8 0, .int .u8 0, .int .i8 0, iA 0, .int .i8 0, iA 0]], iA 0)
theorem k3_42 : chk tab cfg2 10000 9 e3_42.1 e3_42.2 = true := by kernel_rfl
def e3_43 : List AV × AV := ([iA 300], .tuple [iA 0, iA 10, iA 0])
theorem k3_43 : chk tab cfg2 10000 109 e3_43.1 e3_43.2 = true := by kernel_rfl
def e3_44 : List AV × AV := ([.agg [.int .u8 3, .bool false, .bool false, .str [], iA 0, iA 0, .str [], .str [], .int .u8 0, .int .u8 0, .int .u8 0], .agg [.int .u8 1, .bool false, .bool false, .str [48, 48, 48, 48], iA 0, iA 0, .str [48, 49], .str [], .int .u8 0, .int .u8 0, .int .u8 0]], iA 0)
theorem k3_44 : chk tab cfg2 10000 124 e3_44.1 e3_44.2 = true := by kernel_rfl
def e3_45 : List AV × AV := ([iA 0], .tuple [iA 0, iA 30, iA 0])
theorem k3_45 : chk tab cfg2 10000 152 e3_45.1 e3_45.2 = true := by kernel_rfl
def e3_46 : List AV × AV := ([iA 365, .int .u8 1], .tuple [rA 0 0 0 365, iA 0])
theorem k3_46 : chk tab cfg2 10000 51 e3_46.1 e3_46.2 = true := by kernel_rfl
def e3_47 : List AV × AV := ([.agg [.bool false, .bool false, .str [48, 48, 48, 48], iA 0, iA 0, .str [48, 49], .str [], .int .u8 0, .int .u8 0, .int .u8 0, .bool false, .bool false, .bool false, .str [], iA 0, iA 0, .str [], .str [], .int .u8 0, .int .u8 0, .int .u8 0], .int .u8 4], iA 0)
theorem k3_47 : chk tab cfg2 10000 170 e3_47.1 e3_47.2 = true := by kernel_rfl
def e3_48 : List AV × AV := ([.agg [.bool false, .bool false, .str [48, 48, 48, 48], iA 0, iA 0, .str [48, 51], .str [], .int .u8 0, .int .u8 0, .int .u8 0, .bool false, .bool false, .bool false, .str [], iA 0, iA 0, .str [], .str [], .int .u8 0, .int .u8 0, .int .u8 0], .int .u8 4], iA 0)
theorem k3_48 : chk tab cfg2 10000 170 e3_48.1 e3_48.2 = true := by kernel_rfl
def e3_49 : List AV × AV := ([iA 2], .tuple [iA 60, iA 90, iA 0])
theorem k3_49 : chk tab cfg2 10000 152 e3_49.1 e3_49.2 = true := by kernel_rfl
noncomputable def memo3 : Memo := (.node none (.node none (.node none (.node none (.node none .nil (.node (some [e3_0, e3_36]) .nil .nil)) .nil) (.node none (.node none (.node (some [e3_38, e3_40]) .nil .nil) (.node (some [e3_33, e3_46]) .nil (.node (some [e3_11]) .nil .nil))) .nil)) (.node none (.node (some [e3_10, e3_42]) .nil .nil) (.node none .nil (.node none (.node none .nil (.node (some [e3_1, e3_2, e3_3, e3_4, e3_5, e3_6, e3_7, e3_8, e3_9, e3_41, e3_43]) .nil .nil)) .nil)))) (.node none (.node none (.node none (.node none (.node none .nil (.node none (.node (some [e3_14, e3_16, e3_18, e3_20, e3_22, e3_24, e3_27, e3_29, e3_31]) .nil .nil) .nil)) .nil) (.node none .nil (.node none (.node none (.node (some [e3_25, e3_39, e3_45, e3_49]) .nil .nil) .nil) .nil))) (.node none .nil (.node (some [e3_34, e3_35]) .nil (.node none .nil (.node (some [e3_44]) .nil .nil))))) (.node (some [e3_12, e3_13, e3_15, e3_17, e3_19, e3_21, e3_23, e3_26, e3_28, e3_30, e3_32]) (.node none .nil (.node none (.node none .nil (.node none (.node (some [e3_47, e3_48]) .nil .nil) .nil)) .nil)) (.node none (.node none (.node none (.node none (.node (some [e3_37]) .nil .nil) .nil) .nil) .nil) .nil))))
noncomputable def cfg3 : Cfg := cfgM cfg2 memo3
theorem memo3_ok (g : Good Tryz.prog tab cfg2) : TbAll (fun f l => ∀ e ∈ l, Fact Tryz.prog cfg2 f e.1 e.2) (fun i => i) memo3 := ⟨none_all, ⟨none_all, ⟨none_all, ⟨none_all, ⟨none_all, trivial, ⟨(some_all (fact_cons (g.fact 10000 k3_0) (fact_cons (g.fact 10000 k3_36) fact_nil))), trivial, trivial⟩⟩, trivial⟩, ⟨none_all, ⟨none_all, ⟨(some_all (fact_cons (g.fact 10000 k3_38) (fact_cons (g.fact 10000 k3_40) fact_nil))), trivial, trivial⟩, ⟨(some_all (fact_cons (g.fact 10000 k3_33) (fact_cons (g.fact 10000 k3_46) fact_nil))), trivial, ⟨(some_all (fact_cons (g.fact 10000 k3_11) fact_nil)), trivial, trivial⟩⟩⟩, trivial⟩⟩, ⟨none_all, ⟨(some_all (fact_cons (g.fact 10000 k3_10) (fact_cons (g.fact 10000 k3_42) fact_nil))), trivial, trivial⟩, ⟨none_all, trivial, ⟨none_all, ⟨none_all, trivial, ⟨(some_all (fact_cons (g.fact 10000 k3_1) (fact_cons (g.fact 10000 k3_2) (fact_cons (g.fact 10000 k3_3) (fact_cons (g.fact 10000 k3_4) (fact_cons (g.fact 10000 k3_5) (fact_cons (g.fact 10000 k3_6) (fact_cons (g.fact 10000 k3_7) (fact_cons (g.fact 10000 k3_8) (fact_cons (g.fact 10000 k3_9) (fact_cons (g.fact 10000 k3_41) (fact_cons (g.fact 10000 k3_43) fact_nil)))))))))))), trivial, trivial⟩⟩, trivial⟩⟩⟩⟩, ⟨none_all, ⟨none_all, ⟨none_all, ⟨none_all, ⟨none_all, trivial, ⟨none_all, ⟨(some_all (fact_cons (g.fact 10000 k3_14) (fact_cons (g.fact 10000 k3_16) (fact_cons (g.fact 10000 k3_18) (fact_cons (g.fact 10000 k3_20) (fact_cons (g.fact 10000 k3_22) (fact_cons (g.fact 10000 k3_24) (fact_cons (g.fact 10000 k3_27) (fact_cons (g.fact 10000 k3_29) (fact_cons (g.fact 10000 k3_31) fact_nil)))))))))), trivial, trivial⟩, trivial⟩⟩, trivial⟩, ⟨none_all, trivial, ⟨none_all, ⟨none_all, ⟨(some_all (fact_cons (g.fact 10000 k3_25) (fact_cons (g.fact 10000 k3_39) (fact_cons (g.fact 10000 k3_45) (fact_cons (g.fact 10000 k3_49) fact_nil))))), trivial, trivial⟩, trivial⟩, trivial⟩⟩⟩, ⟨none_all, trivial, ⟨(some_all (fact_cons (g.fact 10000 k3_34) (fact_cons (g.fact 10000 k3_35) fact_nil))), trivial, ⟨none_all, trivial, ⟨(some_all (fact_cons (g.fact 10000 k3_44) fact_nil)), trivial, trivial⟩⟩⟩⟩⟩, ⟨(some_all (fact_cons (g.fact 10000 k3_12) (fact_cons (g.fact 10000 k3_13) (fact_cons (g.fact 10000 k3_15) (fact_cons (g.fact 10000 k3_17) (fact_cons (g.fact 10000 k3_19) (fact_cons (g.fact 10000 k3_21) (fact_cons (g.fact 10000 k3_23) (fact_cons (g.fact 10000 k3_26) (fact_cons (g.fact 10000 k3_28) (fact_cons (g.fact 10000 k3_30) (fact_cons (g.fact 10000 k3_32) fact_nil)))))))))))), ⟨none_all, trivial, ⟨none_all, ⟨none_all, trivial, ⟨none_all, ⟨(some_all (fact_cons (g.fact 10000 k3_47) (fact_cons (g.fact 10000 k3_48) fact_nil))), trivial, trivial⟩, trivial⟩⟩, trivial⟩⟩, ⟨none_all, ⟨none_all, ⟨none_all, ⟨none_all, ⟨(some_all (fact_cons (g.fact 10000 k3_37) fact_nil)), trivial, trivial⟩, trivial⟩, trivial⟩, trivial⟩, trivial⟩⟩⟩⟩
theorem good3 (g : Good Tryz.prog tab cfg2) : Good Tryz.prog tab cfg3 := g.memo fun f l h => (memo3_ok g).get f l h
end Go.Ev
