/- Known calls, layer 4. Printed by layers.py. -/
import Derived.Test.YticbodgiogmldaaGreatDoorEw72
set_option linter.all false
namespace Go.Ev
open Go Go.Proofs
set_option maxRecDepth 100000
def e4_0 : List AV × AV := ([.agg [.int .u8 2, .nilslice, .bool false, .bool false, .str [88, 88, 88, 88], iA 0, iA 0, .str [], .str [], .int .u8 0, .int .u8 0, .int .u8 0, .int .u8 0, .int .i8 0, iA 0, .int .i8 0, iA 0]], iA 0)
theorem k4_0 : chk tab cfg3 10000 9 e4_0.1 e4_0.2 = true := by kernel_rfl
def e4_1 : List AV × AV := ([dA [88, 88, 88, 88] 0 0 [] []], .tuple [iA 10000, iA 0])
theorem k4_1 : chk tab cfg3 10000 115 e4_1.1 e4_1.2 = true := by kernel_rfl
def e4_2 : List AV × AV := ([iA 0], .tuple [.agg [iA 0, iA 1, iA 1], iA 0])
theorem k4_2 : chk tab cfg3 10000 58 e4_2.1 e4_2.2 = true := by kernel_rfl
def e4_3 : List AV × AV := ([dA [88, 88, 88, 88] 0 0 [] [], .agg [iA 0, iA 1, iA 1]], .tuple [.agg [iA 0, iA 0, iA 0], .bool true, iA 0])
theorem k4_3 : chk tab cfg3 10000 160 e4_3.1 e4_3.2 = true := by kernel_rfl
def e4_4 : List AV × AV := ([iA 5], .tuple [.agg [iA 0, iA 1, iA 6], iA 0])
theorem k4_4 : chk tab cfg3 10000 58 e4_4.1 e4_4.2 = true := by kernel_rfl
def e4_5 : List AV × AV := ([dA [88, 88, 88, 88] 0 0 [] [], .agg [iA 0, iA 1, iA 6]], .tuple [.agg [iA 0, iA 0, iA 0], .bool true, iA 0])
theorem k4_5 : chk tab cfg3 10000 160 e4_5.1 e4_5.2 = true := by kernel_rfl
def e4_6 : List AV × AV := ([iA 6], .tuple [.agg [iA 0, iA 1, iA 7], iA 0])
theorem k4_6 : chk tab cfg3 10000 58 e4_6.1 e4_6.2 = true := by kernel_rfl
def e4_7 : List AV × AV := ([dA [88, 88, 88, 88] 0 0 [] [], .agg [iA 0, iA 1, iA 7]], .tuple [.agg [iA 0, iA 0, iA 0], .bool true, iA 0])
theorem k4_7 : chk tab cfg3 10000 160 e4_7.1 e4_7.2 = true := by kernel_rfl
def e4_8 : List AV × AV := ([iA 7], .tuple [.agg [iA 0, iA 1, iA 8], iA 0])
theorem k4_8 : chk tab cfg3 10000 58 e4_8.1 e4_8.2 = true := by kernel_rfl
def e4_9 : List AV × AV := ([dA [88, 88, 88, 88] 0 0 [] [], .agg [iA 0, iA 1, iA 8]], .tuple [.agg [iA 0, iA 0, iA 0], .bool true, iA 0])
theorem k4_9 : chk tab cfg3 10000 160 e4_9.1 e4_9.2 = true := by kernel_rfl
def e4_10 : List AV × AV := ([dA [88, 88, 88, 88] 0 0 [] [], .agg [iA (-1), iA 12, iA 31]], .tuple [.agg [iA 0, iA 0, iA 0], .bool true, iA 0])
theorem k4_10 : chk tab cfg3 10000 160 e4_10.1 e4_10.2 = true := by kernel_rfl
def e4_11 : List AV × AV := ([dA [88, 88, 88, 88] 0 0 [] [], .agg [iA 0, iA 11, iA 1]], .tuple [.agg [iA 0, iA 0, iA 0], .bool true, iA 0])
theorem k4_11 : chk tab cfg3 10000 160 e4_11.1 e4_11.2 = true := by kernel_rfl
def e4_12 : List AV × AV := ([dA [88, 88, 88, 88] 0 0 [] [], .agg [iA 2737, iA 11, iA 28]], .tuple [.agg [iA 2737, iA 0, iA 0], .bool true, iA 0])
theorem k4_12 : chk tab cfg3 10000 160 e4_12.1 e4_12.2 = true := by kernel_rfl
def e4_13 : List AV × AV := ([dA [88, 88, 88, 88] 0 0 [] [], .agg [iA 9999, iA 12, iA 31]], .tuple [.agg [iA 9999, iA 0, iA 0], .bool true, iA 0])
theorem k4_13 : chk tab cfg3 10000 160 e4_13.1 e4_13.2 = true := by kernel_rfl
def e4_14 : List AV × AV := ([iA 3652425], .tuple [.agg [iA 10000, iA 1, iA 1], iA 0])
theorem k4_14 : chk tab cfg3 10000 58 e4_14.1 e4_14.2 = true := by kernel_rfl
def e4_15 : List AV × AV := ([dA [88, 88, 88, 88] 0 0 [] [], .agg [iA 10000, iA 1, iA 1]], .tuple [.agg [iA 0, iA 0, iA 0], .bool false, iA 0])
theorem k4_15 : chk tab cfg3 10000 160 e4_15.1 e4_15.2 = true := by kernel_rfl
def e4_16 : List AV × AV := ([.agg [.int .u8 2, .nilslice, .bool false, .bool false, .str [48, 48, 48, 88], iA 0, iA 0, .str [49, 88], .str [], .int .u8 0, .int .u8 0, .int .u8 0, .int .u8 0, .int .i8 0, iA 0, .int .i8 0, iA 0], iA (-9223372036854775808)], .int .u8 1)
theorem k4_16 : chk tab cfg3 10000 10 e4_16.1 e4_16.2 = true := by kernel_rfl
def e4_17 : List AV × AV := ([.agg [.int .u8 2, .nilslice, .bool false, .bool false, .str [48, 48, 48, 88], iA 0, iA 0, .str [49, 88], .str [], .int .u8 0, .int .u8 0, .int .u8 0, .int .u8 0, .int .i8 0, iA 0, .int .i8 0, iA 0], iA 9223372036854775807], .int .u8 1)
theorem k4_17 : chk tab cfg3 10000 10 e4_17.1 e4_17.2 = true := by kernel_rfl
def e4_18 : List AV × AV := ([dA [48, 48, 48, 88] 0 0 [49, 88] [], iA (-1)], .bool false)
theorem k4_18 : chk tab cfg3 10000 27 e4_18.1 e4_18.2 = true := by kernel_rfl
def e4_19 : List AV × AV := ([dA [48, 48, 48, 88] 0 0 [49, 88] [], .agg [iA 0, iA 11, iA 1]], .tuple [rA 0 305 0 334, iA 0])
theorem k4_19 : chk tab cfg3 10000 60 e4_19.1 e4_19.2 = true := by kernel_rfl
def e4_20 : List AV × AV := ([dA [48, 48, 48, 88] 0 0 [49, 88] [], iA 1000000], .bool false)
theorem k4_20 : chk tab cfg3 10000 27 e4_20.1 e4_20.2 = true := by kernel_rfl
def e4_21 : List AV × AV := ([dA [48, 48, 48, 88] 0 0 [49, 88] [], iA 3652424], .bool false)
theorem k4_21 : chk tab cfg3 10000 27 e4_21.1 e4_21.2 = true := by kernel_rfl
def e4_22 : List AV × AV := ([.agg [.int .u8 3, .nilslice, .bool false, .bool false, .str [], iA 0, iA 0, .str [], .str [], .int .u8 0, .int .u8 0, .int .u8 0, .int .u8 1, .int .i8 0, iA 0, .int .i8 1, iA 0]], iA 0)
theorem k4_22 : chk tab cfg3 10000 9 e4_22.1 e4_22.2 = true := by kernel_rfl
def e4_23 : List AV × AV := ([.agg [.int .u8 3, .nilslice, .bool false, .bool false, .str [], iA 0, iA 0, .str [], .str [], .int .u8 0, .int .u8 0, .int .u8 0, .int .u8 3, .int .i8 (-1), iA 0, .int .i8 0, iA 6], iA (-9223372036854775808)], .int .u8 2)
theorem k4_23 : chk tab cfg3 10000 10 e4_23.1 e4_23.2 = true := by kernel_rfl
def e4_24 : List AV × AV := ([.agg [.int .u8 3, .nilslice, .bool false, .bool false, .str [], iA 0, iA 0, .str [], .str [], .int .u8 0, .int .u8 0, .int .u8 0, .int .u8 3, .int .i8 (-1), iA 0, .int .i8 0, iA 6], iA 9223372036854775807], .int .u8 1)
theorem k4_24 : chk tab cfg3 10000 10 e4_24.1 e4_24.2 = true := by kernel_rfl
def e4_25 : List AV × AV := ([.agg [.int .u8 3, .nilslice, .bool false, .bool false, .str [], iA 0, iA 0, .str [], .str [], .int .u8 0, .int .u8 0, .int .u8 0, .int .u8 3, .int .i8 (-1), iA 0, .int .i8 0, iA 6], iA 0], .int .u8 2)
theorem k4_25 : chk tab cfg3 10000 10 e4_25.1 e4_25.2 = true := by kernel_rfl
def e4_26 : List AV × AV := ([.agg [.int .u8 3, .nilslice, .bool false, .bool false, .str [], iA 0, iA 0, .str [], .str [], .int .u8 0, .int .u8 0, .int .u8 0, .int .u8 3, .int .i8 (-1), iA 0, .int .i8 0, iA 6], iA 5], .int .u8 2)
theorem k4_26 : chk tab cfg3 10000 10 e4_26.1 e4_26.2 = true := by kernel_rfl
def e4_27 : List AV × AV := ([.agg [.int .u8 3, .nilslice, .bool false, .bool false, .str [], iA 0, iA 0, .str [], .str [], .int .u8 0, .int .u8 0, .int .u8 0, .int .u8 3, .int .i8 (-1), iA 0, .int .i8 0, iA 6], iA 6], .int .u8 2)
theorem k4_27 : chk tab cfg3 10000 10 e4_27.1 e4_27.2 = true := by kernel_rfl
def e4_28 : List AV × AV := ([.agg [.int .u8 3, .nilslice, .bool false, .bool false, .str [], iA 0, iA 0, .str [], .str [], .int .u8 0, .int .u8 0, .int .u8 0, .int .u8 3, .int .i8 (-1), iA 0, .int .i8 0, iA 6], iA 7], .int .u8 1)
theorem k4_28 : chk tab cfg3 10000 10 e4_28.1 e4_28.2 = true := by kernel_rfl
def e4_29 : List AV × AV := ([.agg [.int .u8 3, .nilslice, .bool false, .bool false, .str [], iA 0, iA 0, .str [], .str [], .int .u8 0, .int .u8 0, .int .u8 0, .int .u8 3, .int .i8 (-1), iA 0, .int .i8 0, iA 6], iA (-1)], .int .u8 2)
theorem k4_29 : chk tab cfg3 10000 10 e4_29.1 e4_29.2 = true := by kernel_rfl
def e4_30 : List AV × AV := ([.agg [.int .u8 3, .nilslice, .bool false, .bool false, .str [], iA 0, iA 0, .str [], .str [], .int .u8 0, .int .u8 0, .int .u8 0, .int .u8 3, .int .i8 (-1), iA 0, .int .i8 0, iA 6], iA 305], .int .u8 1)
theorem k4_30 : chk tab cfg3 10000 10 e4_30.1 e4_30.2 = true := by kernel_rfl
def e4_31 : List AV × AV := ([.agg [.int .u8 3, .nilslice, .bool false, .bool false, .str [], iA 0, iA 0, .str [], .str [], .int .u8 0, .int .u8 0, .int .u8 0, .int .u8 3, .int .i8 (-1), iA 0, .int .i8 0, iA 6], iA 1000000], .int .u8 1)
theorem k4_31 : chk tab cfg3 10000 10 e4_31.1 e4_31.2 = true := by kernel_rfl
def e4_32 : List AV × AV := ([.agg [.int .u8 3, .nilslice, .bool false, .bool false, .str [], iA 0, iA 0, .str [], .str [], .int .u8 0, .int .u8 0, .int .u8 0, .int .u8 3, .int .i8 (-1), iA 0, .int .i8 0, iA 6], iA 3652424], .int .u8 1)
theorem k4_32 : chk tab cfg3 10000 10 e4_32.1 e4_32.2 = true := by kernel_rfl
def e4_33 : List AV × AV := ([.agg [.int .u8 3, .nilslice, .bool false, .bool false, .str [], iA 0, iA 0, .str [], .str [], .int .u8 0, .int .u8 0, .int .u8 0, .int .u8 3, .int .i8 (-1), iA 0, .int .i8 0, iA 6], iA 3652425], .int .u8 1)
theorem k4_33 : chk tab cfg3 10000 10 e4_33.1 e4_33.2 = true := by kernel_rfl
def e4_34 : List AV × AV := ([.agg [.int .u8 3, .nilslice, .bool false, .bool false, .str [], iA 0, iA 0, .str [], .str [], .int .u8 0, .int .u8 0, .int .u8 0, .int .u8 3, .int .i8 0, iA 6, .int .i8 0, iA 6], iA (-9223372036854775808)], .int .u8 1)
theorem k4_34 : chk tab cfg3 10000 10 e4_34.1 e4_34.2 = true := by kernel_rfl
def e4_35 : List AV × AV := ([.agg [.int .u8 3, .nilslice, .bool false, .bool false, .str [], iA 0, iA 0, .str [], .str [], .int .u8 0, .int .u8 0, .int .u8 0, .int .u8 3, .int .i8 0, iA 6, .int .i8 0, iA 6], iA 9223372036854775807], .int .u8 1)
theorem k4_35 : chk tab cfg3 10000 10 e4_35.1 e4_35.2 = true := by kernel_rfl
def e4_36 : List AV × AV := ([.agg [.int .u8 3, .nilslice, .bool false, .bool false, .str [], iA 0, iA 0, .str [], .str [], .int .u8 0, .int .u8 0, .int .u8 0, .int .u8 3, .int .i8 0, iA 6, .int .i8 0, iA 6], iA 0], .int .u8 1)
theorem k4_36 : chk tab cfg3 10000 10 e4_36.1 e4_36.2 = true := by kernel_rfl
def e4_37 : List AV × AV := ([.agg [.int .u8 3, .nilslice, .bool false, .bool false, .str [], iA 0, iA 0, .str [], .str [], .int .u8 0, .int .u8 0, .int .u8 0, .int .u8 3, .int .i8 0, iA 6, .int .i8 0, iA 6], iA 5], .int .u8 1)
theorem k4_37 : chk tab cfg3 10000 10 e4_37.1 e4_37.2 = true := by kernel_rfl
def e4_38 : List AV × AV := ([.agg [.int .u8 3, .nilslice, .bool false, .bool false, .str [], iA 0, iA 0, .str [], .str [], .int .u8 0, .int .u8 0, .int .u8 0, .int .u8 3, .int .i8 0, iA 6, .int .i8 0, iA 6], iA 6], .int .u8 3)
theorem k4_38 : chk tab cfg3 10000 10 e4_38.1 e4_38.2 = true := by kernel_rfl
def e4_39 : List AV × AV := ([.agg [.int .u8 3, .nilslice, .bool false, .bool false, .str [], iA 0, iA 0, .str [], .str [], .int .u8 0, .int .u8 0, .int .u8 0, .int .u8 3, .int .i8 0, iA 6, .int .i8 0, iA 6], iA 7], .int .u8 1)
theorem k4_39 : chk tab cfg3 10000 10 e4_39.1 e4_39.2 = true := by kernel_rfl
def e4_40 : List AV × AV := ([.agg [.int .u8 3, .nilslice, .bool false, .bool false, .str [], iA 0, iA 0, .str [], .str [], .int .u8 0, .int .u8 0, .int .u8 0, .int .u8 3, .int .i8 0, iA 6, .int .i8 0, iA 6], iA (-1)], .int .u8 1)
theorem k4_40 : chk tab cfg3 10000 10 e4_40.1 e4_40.2 = true := by kernel_rfl
def e4_41 : List AV × AV := ([.agg [.int .u8 3, .nilslice, .bool false, .bool false, .str [], iA 0, iA 0, .str [], .str [], .int .u8 0, .int .u8 0, .int .u8 0, .int .u8 3, .int .i8 0, iA 6, .int .i8 0, iA 6], iA 305], .int .u8 1)
theorem k4_41 : chk tab cfg3 10000 10 e4_41.1 e4_41.2 = true := by kernel_rfl
def e4_42 : List AV × AV := ([.agg [.int .u8 3, .nilslice, .bool false, .bool false, .str [], iA 0, iA 0, .str [], .str [], .int .u8 0, .int .u8 0, .int .u8 0, .int .u8 3, .int .i8 0, iA 6, .int .i8 0, iA 6], iA 1000000], .int .u8 1)
theorem k4_42 : chk tab cfg3 10000 10 e4_42.1 e4_42.2 = true := by kernel_rfl
def e4_43 : List AV × AV := ([.agg [.int .u8 3, .nilslice, .bool false, .bool false, .str [], iA 0, iA 0, .str [], .str [], .int .u8 0, .int .u8 0, .int .u8 0, .int .u8 3, .int .i8 0, iA 6, .int .i8 0, iA 6], iA 3652424], .int .u8 1)
theorem k4_43 : chk tab cfg3 10000 10 e4_43.1 e4_43.2 = true := by kernel_rfl
def e4_44 : List AV × AV := ([.agg [.int .u8 3, .nilslice, .bool false, .bool false, .str [], iA 0, iA 0, .str [], .str [], .int .u8 0, .int .u8 0, .int .u8 0, .int .u8 3, .int .i8 0, iA 6, .int .i8 0, iA 6], iA 3652425], .int .u8 1)
theorem k4_44 : chk tab cfg3 10000 10 e4_44.1 e4_44.2 = true := by kernel_rfl
def e4_45 : List AV × AV := ([.agg [.int .u8 1, .bool false, .bool false, .str [48, 48, 48, 48], iA 0, iA 0, .str [], .str [], .int .u8 0, .int .u8 0, .int .u8 0, .int .u8 0, .bool false, .bool false, .str [], iA 0, iA 0, .str [], .str [], .int .u8 0, .int .u8 0, .int .u8 0, .int .u8 0, .bool false, .bool false, .str [], iA 0, iA 0, .str [], .str [], .int .u8 0, .int .u8 0, .int .u8 0, .nilslice, .bool false, .bool false]], iA 0)
theorem k4_45 : chk tab cfg3 10000 35 e4_45.1 e4_45.2 = true := by kernel_rfl
def e4_46 : List AV × AV := ([dA [48, 48, 48, 48] 0 0 [] []], .tuple [rA 0 0 0 365, iA 0])
theorem k4_46 : chk tab cfg3 10000 79 e4_46.1 e4_46.2 = true := by kernel_rfl
def e4_47 : List AV × AV := ([dA [48, 48, 48, 48] 0 0 [48, 50] []], .tuple [rA 0 31 0 59, iA 0])
theorem k4_47 : chk tab cfg3 10000 79 e4_47.1 e4_47.2 = true := by kernel_rfl
def e4_48 : List AV × AV := ([dA [48, 48, 48, 48] 0 0 [48, 88] [], .agg [iA 0, iA 2, iA 29]], .tuple [.agg [iA 0, iA 2, iA 0], .bool true, iA 0])
theorem k4_48 : chk tab cfg3 10000 160 e4_48.1 e4_48.2 = true := by kernel_rfl
def e4_49 : List AV × AV := ([dA [48, 48, 48, 48] 0 0 [48, 88] []], .tuple [iA 9, iA 0])
theorem k4_49 : chk tab cfg3 10000 115 e4_49.1 e4_49.2 = true := by kernel_rfl
def e4_50 : List AV × AV := ([dA [48, 48, 48, 48] 0 0 [48, 88] [], .agg [iA 0, iA 10, iA 27]], .tuple [.agg [iA 0, iA 0, iA 0], .bool false, iA 0])
theorem k4_50 : chk tab cfg3 10000 160 e4_50.1 e4_50.2 = true := by kernel_rfl
def e4_51 : List AV × AV := ([.agg [.int .u8 1, .bool false, .bool false, .str [48, 48, 48, 48], iA 0, iA 0, .str [], .str [], .int .u8 0, .int .u8 0, .int .u8 0], .agg [.int .u8 3, .bool false, .bool false, .str [], iA 0, iA 0, .str [], .str [], .int .u8 0, .int .u8 0, .int .u8 0]], iA 0)
theorem k4_51 : chk tab cfg3 10000 124 e4_51.1 e4_51.2 = true := by kernel_rfl
def e4_52 : List AV × AV := ([dA [48, 48, 48, 48] 0 0 [48, 49] []], .tuple [rA 0 0 0 30, iA 0])
theorem k4_52 : chk tab cfg3 10000 79 e4_52.1 e4_52.2 = true := by kernel_rfl
def e4_53 : List AV × AV := ([.agg [.bool false, .bool false, .str [48, 48, 48, 48], iA 0, iA 0, .str [], .str [], .int .u8 0, .int .u8 0, .int .u8 0, .bool false, .bool false, .bool false, .str [], iA 0, iA 0, .str [], .str [], .int .u8 0, .int .u8 0, .int .u8 0]], .bool true)
theorem k4_53 : chk tab cfg3 10000 173 e4_53.1 e4_53.2 = true := by kernel_rfl
def e4_54 : List AV × AV := ([.agg [.int .u8 3, .nilslice, .bool false, .bool false, .str [], iA 0, iA 0, .str [], .str [], .int .u8 0, .int .u8 0, .int .u8 0, .int .u8 1, .int .i8 (-1), iA 0, .int .i8 0, iA 365]], iA 0)
theorem k4_54 : chk tab cfg3 10000 9 e4_54.1 e4_54.2 = true := by kernel_rfl
def e4_55 : List AV × AV := ([dA [48, 48, 48, 48] 0 0 [48, 51] []], .tuple [rA 0 60 0 90, iA 0])
theorem k4_55 : chk tab cfg3 10000 79 e4_55.1 e4_55.2 = true := by kernel_rfl
noncomputable def memo4 : Memo := (.node none (.node none (.node none (.node none (.node none .nil (.node none (.node (some [e4_46, e4_47, e4_52, e4_55]) .nil .nil) .nil)) .nil) (.node none (.node none (.node (some [e4_45]) .nil .nil) (.node none .nil (.node (some [e4_1, e4_49]) .nil .nil))) (.node (some [e4_18, e4_20, e4_21]) .nil .nil))) (.node none (.node (some [e4_0, e4_22, e4_54]) .nil .nil) (.node none .nil (.node none (.node none .nil (.node none (.node (some [e4_53]) .nil .nil) .nil)) .nil)))) (.node none (.node none (.node none (.node none (.node none .nil (.node none (.node (some [e4_3, e4_5, e4_7, e4_9, e4_10, e4_11, e4_12, e4_13, e4_15, e4_48, e4_50]) .nil .nil) .nil)) .nil) .nil) (.node none .nil (.node none .nil (.node (some [e4_19]) .nil (.node (some [e4_51]) .nil .nil))))) (.node none (.node (some [e4_16, e4_17, e4_23, e4_24, e4_25, e4_26, e4_27, e4_28, e4_29, e4_30, e4_31, e4_32, e4_33, e4_34, e4_35, e4_36, e4_37, e4_38, e4_39, e4_40, e4_41, e4_42, e4_43, e4_44]) .nil (.node none .nil (.node (some [e4_2, e4_4, e4_6, e4_8, e4_14]) .nil .nil))) .nil)))
noncomputable def cfg4 : Cfg := cfgM cfg3 memo4
theorem memo4_ok (g : Good Tryz.prog tab cfg3) : TbAll (fun f l => ∀ e ∈ l, Fact Tryz.prog cfg3 f e.1 e.2) (fun i => i) memo4 := ⟨none_all, ⟨none_all, ⟨none_all, ⟨none_all, ⟨none_all, trivial, ⟨none_all, ⟨(some_all (fact_cons (g.fact 10000 k4_46) (fact_cons (g.fact 10000 k4_47) (fact_cons (g.fact 10000 k4_52) (fact_cons (g.fact 10000 k4_55) fact_nil))))), trivial, trivial⟩, trivial⟩⟩, trivial⟩, ⟨none_all, ⟨none_all, ⟨(some_all (fact_cons (g.fact 10000 k4_45) fact_nil)), trivial, trivial⟩, ⟨none_all, trivial, ⟨(some_all (fact_cons (g.fact 10000 k4_1) (fact_cons (g.fact 10000 k4_49) fact_nil))), trivial, trivial⟩⟩⟩, ⟨(some_all (fact_cons (g.fact 10000 k4_18) (fact_cons (g.fact 10000 k4_20) (fact_cons (g.fact 10000 k4_21) fact_nil)))), trivial, trivial⟩⟩⟩, ⟨none_all, ⟨(some_all (fact_cons (g.fact 10000 k4_0) (fact_cons (g.fact 10000 k4_22) (fact_cons (g.fact 10000 k4_54) fact_nil)))), trivial, trivial⟩, ⟨none_all, trivial, ⟨none_all, ⟨none_all, trivial, ⟨none_all, ⟨(some_all (fact_cons (g.fact 10000 k4_53) fact_nil)), trivial, trivial⟩, trivial⟩⟩, trivial⟩⟩⟩⟩, ⟨none_all, ⟨none_all, ⟨none_all, ⟨none_all, ⟨none_all, trivial, ⟨none_all, ⟨(some_all (fact_cons (g.fact 10000 k4_3) (fact_cons (g.fact 10000 k4_5) (fact_cons (g.fact 10000 k4_7) (fact_cons (g.fact 10000 k4_9) (fact_cons (g.fact 10000 k4_10) (fact_cons (g.fact 10000 k4_11) (fact_cons (g.fact 10000 k4_12) (fact_cons (g.fact 10000 k4_13) (fact_cons (g.fact 10000 k4_15) (fact_cons (g.fact 10000 k4_48) (fact_cons (g.fact 10000 k4_50) fact_nil)))))))))))), trivial, trivial⟩, trivial⟩⟩, trivial⟩, trivial⟩, ⟨none_all, trivial, ⟨none_all, trivial, ⟨(some_all (fact_cons (g.fact 10000 k4_19) fact_nil)), trivial, ⟨(some_all (fact_cons (g.fact 10000 k4_51) fact_nil)), trivial, trivial⟩⟩⟩⟩⟩, ⟨none_all, ⟨(some_all (fact_cons (g.fact 10000 k4_16) (fact_cons (g.fact 10000 k4_17) (fact_cons (g.fact 10000 k4_23) (fact_cons (g.fact 10000 k4_24) (fact_cons (g.fact 10000 k4_25) (fact_cons (g.fact 10000 k4_26) (fact_cons (g.fact 10000 k4_27) (fact_cons (g.fact 10000 k4_28) (fact_cons (g.fact 10000 k4_29) (fact_cons (g.fact 10000 k4_30) (fact_cons (g.fact 10000 k4_31) (fact_cons (g.fact 10000 k4_32) (fact_cons (g.fact 10000 k4_33) (fact_cons (g.fact 10000 k4_34) (fact_cons (g.fact 10000 k4_35) (fact_cons (g.fact 10000 k4_36) (fact_cons (g.fact 10000 k4_37) (fact_cons (g.fact 10000 k4_38) (fact_cons (g.fact 10000 k4_39) (fact_cons (g.fact 10000 k4_40) (fact_cons (g.fact 10000 k4_41) (fact_cons (g.fact 10000 k4_42) (fact_cons (g.fact 10000 k4_43) (fact_cons (g.fact 10000 k4_44) fact_nil))))))))))))))))))))))))), trivial, ⟨none_all, trivial, ⟨(some_all (fact_cons (g.fact 10000 k4_2) (fact_cons (g.fact 10000 k4_4) (fact_cons (g.fact 10000 k4_6) (fact_cons (g.fact 10000 k4_8) (fact_cons (g.fact 10000 k4_14) fact_nil)))))), trivial, trivial⟩⟩⟩, trivial⟩⟩⟩
theorem good4 (g : Good Tryz.prog tab cfg3) : Good Tryz.prog tab cfg4 := g.memo fun f l h => (memo4_ok g).get f l h
end Go.Ev
