/- Known calls, layer 2. Printed by layers.py. -/
import Derived.Test.YticbodgiogmldaaGreatDoorEw70
set_option linter.all false
namespace Go.Ev
open Go Go.Proofs
set_option maxRecDepth 100000
def e2_0 : List AV × AV := ([rA 0 (-9223372036854775808) 0 (-9223372036854775808), rA (-1) 0 1 0], .bool true)
theorem k2_0 : chk tab cfg1 10000 107 e2_0.1 e2_0.2 = true := by kernel_rfl
def e2_1 : List AV × AV := ([rA 0 9223372036854775807 0 9223372036854775807, rA (-1) 0 1 0], .bool true)
theorem k2_1 : chk tab cfg1 10000 107 e2_1.1 e2_1.2 = true := by kernel_rfl
def e2_2 : List AV × AV := ([rA 0 0 0 0, rA (-1) 0 1 0], .bool true)
theorem k2_2 : chk tab cfg1 10000 107 e2_2.1 e2_2.2 = true := by kernel_rfl
def e2_3 : List AV × AV := ([rA 0 5 0 5, rA (-1) 0 1 0], .bool true)
theorem k2_3 : chk tab cfg1 10000 107 e2_3.1 e2_3.2 = true := by kernel_rfl
def e2_4 : List AV × AV := ([rA 0 6 0 6, rA (-1) 0 1 0], .bool true)
theorem k2_4 : chk tab cfg1 10000 107 e2_4.1 e2_4.2 = true := by kernel_rfl
def e2_5 : List AV × AV := ([rA 0 7 0 7, rA (-1) 0 1 0], .bool true)
theorem k2_5 : chk tab cfg1 10000 107 e2_5.1 e2_5.2 = true := by kernel_rfl
def e2_6 : List AV × AV := ([rA 0 (-1) 0 (-1), rA (-1) 0 1 0], .bool true)
theorem k2_6 : chk tab cfg1 10000 107 e2_6.1 e2_6.2 = true := by kernel_rfl
def e2_7 : List AV × AV := ([rA 0 305 0 305, rA (-1) 0 1 0], .bool true)
theorem k2_7 : chk tab cfg1 10000 107 e2_7.1 e2_7.2 = true := by kernel_rfl
def e2_8 : List AV × AV := ([rA 0 1000000 0 1000000, rA (-1) 0 1 0], .bool true)
theorem k2_8 : chk tab cfg1 10000 107 e2_8.1 e2_8.2 = true := by kernel_rfl
def e2_9 : List AV × AV := ([rA 0 3652424 0 3652424, rA (-1) 0 1 0], .bool true)
theorem k2_9 : chk tab cfg1 10000 107 e2_9.1 e2_9.2 = true := by kernel_rfl
def e2_10 : List AV × AV := ([rA 0 3652425 0 3652425, rA (-1) 0 1 0], .bool true)
theorem k2_10 : chk tab cfg1 10000 107 e2_10.1 e2_10.2 = true := by kernel_rfl
def e2_11 : List AV × AV := ([rA (-1) 0 0 5, rA 0 7 1 0], .bool false)
theorem k2_11 : chk tab cfg1 10000 46 e2_11.1 e2_11.2 = true := by kernel_rfl
def e2_12 : List AV × AV := ([rA 0 (-9223372036854775808) 0 (-9223372036854775808), rA (-1) 0 0 5], .bool true)
theorem k2_12 : chk tab cfg1 10000 107 e2_12.1 e2_12.2 = true := by kernel_rfl
def e2_13 : List AV × AV := ([rA 0 9223372036854775807 0 9223372036854775807, rA (-1) 0 0 5], .bool false)
theorem k2_13 : chk tab cfg1 10000 107 e2_13.1 e2_13.2 = true := by kernel_rfl
def e2_14 : List AV × AV := ([rA 0 9223372036854775807 0 9223372036854775807, rA 0 7 1 0], .bool true)
theorem k2_14 : chk tab cfg1 10000 107 e2_14.1 e2_14.2 = true := by kernel_rfl
def e2_15 : List AV × AV := ([rA 0 0 0 0, rA (-1) 0 0 5], .bool true)
theorem k2_15 : chk tab cfg1 10000 107 e2_15.1 e2_15.2 = true := by kernel_rfl
def e2_16 : List AV × AV := ([rA 0 5 0 5, rA (-1) 0 0 5], .bool true)
theorem k2_16 : chk tab cfg1 10000 107 e2_16.1 e2_16.2 = true := by kernel_rfl
def e2_17 : List AV × AV := ([rA 0 6 0 6, rA (-1) 0 0 5], .bool false)
theorem k2_17 : chk tab cfg1 10000 107 e2_17.1 e2_17.2 = true := by kernel_rfl
def e2_18 : List AV × AV := ([rA 0 6 0 6, rA 0 7 1 0], .bool false)
theorem k2_18 : chk tab cfg1 10000 107 e2_18.1 e2_18.2 = true := by kernel_rfl
def e2_19 : List AV × AV := ([rA 0 7 0 7, rA (-1) 0 0 5], .bool false)
theorem k2_19 : chk tab cfg1 10000 107 e2_19.1 e2_19.2 = true := by kernel_rfl
def e2_20 : List AV × AV := ([rA 0 7 0 7, rA 0 7 1 0], .bool true)
theorem k2_20 : chk tab cfg1 10000 107 e2_20.1 e2_20.2 = true := by kernel_rfl
def e2_21 : List AV × AV := ([rA 0 (-1) 0 (-1), rA (-1) 0 0 5], .bool true)
theorem k2_21 : chk tab cfg1 10000 107 e2_21.1 e2_21.2 = true := by kernel_rfl
def e2_22 : List AV × AV := ([rA 0 305 0 305, rA (-1) 0 0 5], .bool false)
theorem k2_22 : chk tab cfg1 10000 107 e2_22.1 e2_22.2 = true := by kernel_rfl
def e2_23 : List AV × AV := ([rA 0 305 0 305, rA 0 7 1 0], .bool true)
theorem k2_23 : chk tab cfg1 10000 107 e2_23.1 e2_23.2 = true := by kernel_rfl
def e2_24 : List AV × AV := ([rA 0 1000000 0 1000000, rA (-1) 0 0 5], .bool false)
theorem k2_24 : chk tab cfg1 10000 107 e2_24.1 e2_24.2 = true := by kernel_rfl
def e2_25 : List AV × AV := ([rA 0 1000000 0 1000000, rA 0 7 1 0], .bool true)
theorem k2_25 : chk tab cfg1 10000 107 e2_25.1 e2_25.2 = true := by kernel_rfl
def e2_26 : List AV × AV := ([rA 0 3652424 0 3652424, rA (-1) 0 0 5], .bool false)
theorem k2_26 : chk tab cfg1 10000 107 e2_26.1 e2_26.2 = true := by kernel_rfl
def e2_27 : List AV × AV := ([rA 0 3652424 0 3652424, rA 0 7 1 0], .bool true)
theorem k2_27 : chk tab cfg1 10000 107 e2_27.1 e2_27.2 = true := by kernel_rfl
def e2_28 : List AV × AV := ([rA 0 3652425 0 3652425, rA (-1) 0 0 5], .bool false)
theorem k2_28 : chk tab cfg1 10000 107 e2_28.1 e2_28.2 = true := by kernel_rfl
def e2_29 : List AV × AV := ([rA 0 3652425 0 3652425, rA 0 7 1 0], .bool true)
theorem k2_29 : chk tab cfg1 10000 107 e2_29.1 e2_29.2 = true := by kernel_rfl
def e2_30 : List AV × AV := ([dA [88, 88, 88, 88] 0 0 [] []], .bool true)
theorem k2_30 : chk tab cfg1 10000 90 e2_30.1 e2_30.2 = true := by kernel_rfl
def e2_31 : List AV × AV := ([iA (-9223372036854775808)], .tuple [iA 0, iA 6])
theorem k2_31 : chk tab cfg1 10000 149 e2_31.1 e2_31.2 = true := by kernel_rfl
def e2_32 : List AV × AV := ([iA 9223372036854775807], .tuple [iA 0, iA 6])
theorem k2_32 : chk tab cfg1 10000 149 e2_32.1 e2_32.2 = true := by kernel_rfl
def e2_33 : List AV × AV := ([iA 0], .tuple [iA 0, iA 0])
theorem k2_33 : chk tab cfg1 10000 149 e2_33.1 e2_33.2 = true := by kernel_rfl
def e2_34 : List AV × AV := ([.str [88, 88, 88, 88], iA 0], .tuple [iA 0, iA 0])
theorem k2_34 : chk tab cfg1 10000 130 e2_34.1 e2_34.2 = true := by kernel_rfl
def e2_35 : List AV × AV := ([dA [88, 88, 88, 88] 0 0 [] [], .agg [iA 0, iA 1, iA 1]], .tuple [rA 0 0 0 365, iA 0])
theorem k2_35 : chk tab cfg1 10000 114 e2_35.1 e2_35.2 = true := by kernel_rfl
def e2_36 : List AV × AV := ([rA 0 0 0 0, rA 0 0 0 365], .bool true)
theorem k2_36 : chk tab cfg1 10000 107 e2_36.1 e2_36.2 = true := by kernel_rfl
def e2_37 : List AV × AV := ([iA 5], .tuple [iA 0, iA 0])
theorem k2_37 : chk tab cfg1 10000 149 e2_37.1 e2_37.2 = true := by kernel_rfl
def e2_38 : List AV × AV := ([dA [88, 88, 88, 88] 0 0 [] [], .agg [iA 0, iA 1, iA 6]], .tuple [rA 0 0 0 365, iA 0])
theorem k2_38 : chk tab cfg1 10000 114 e2_38.1 e2_38.2 = true := by kernel_rfl
def e2_39 : List AV × AV := ([rA 0 5 0 5, rA 0 0 0 365], .bool true)
theorem k2_39 : chk tab cfg1 10000 107 e2_39.1 e2_39.2 = true := by kernel_rfl
def e2_40 : List AV × AV := ([iA 6], .tuple [iA 0, iA 0])
theorem k2_40 : chk tab cfg1 10000 149 e2_40.1 e2_40.2 = true := by kernel_rfl
def e2_41 : List AV × AV := ([dA [88, 88, 88, 88] 0 0 [] [], .agg [iA 0, iA 1, iA 7]], .tuple [rA 0 0 0 365, iA 0])
theorem k2_41 : chk tab cfg1 10000 114 e2_41.1 e2_41.2 = true := by kernel_rfl
def e2_42 : List AV × AV := ([rA 0 6 0 6, rA 0 0 0 365], .bool true)
theorem k2_42 : chk tab cfg1 10000 107 e2_42.1 e2_42.2 = true := by kernel_rfl
def e2_43 : List AV × AV := ([iA 7], .tuple [iA 0, iA 0])
theorem k2_43 : chk tab cfg1 10000 149 e2_43.1 e2_43.2 = true := by kernel_rfl
def e2_44 : List AV × AV := ([dA [88, 88, 88, 88] 0 0 [] [], .agg [iA 0, iA 1, iA 8]], .tuple [rA 0 0 0 365, iA 0])
theorem k2_44 : chk tab cfg1 10000 114 e2_44.1 e2_44.2 = true := by kernel_rfl
def e2_45 : List AV × AV := ([rA 0 7 0 7, rA 0 0 0 365], .bool true)
theorem k2_45 : chk tab cfg1 10000 107 e2_45.1 e2_45.2 = true := by kernel_rfl
def e2_46 : List AV × AV := ([iA (-1)], .tuple [iA (-1), iA 0])
theorem k2_46 : chk tab cfg1 10000 149 e2_46.1 e2_46.2 = true := by kernel_rfl
def e2_47 : List AV × AV := ([iA (-1), iA 12], .tuple [iA (-31), iA 0])
theorem k2_47 : chk tab cfg1 10000 110 e2_47.1 e2_47.2 = true := by kernel_rfl
def e2_48 : List AV × AV := ([iA 305], .tuple [iA 0, iA 0])
theorem k2_48 : chk tab cfg1 10000 149 e2_48.1 e2_48.2 = true := by kernel_rfl
def e2_49 : List AV × AV := ([iA 0, iA 11], .tuple [iA 305, iA 0])
theorem k2_49 : chk tab cfg1 10000 110 e2_49.1 e2_49.2 = true := by kernel_rfl
def e2_50 : List AV × AV := ([dA [88, 88, 88, 88] 0 0 [] [], .agg [iA 0, iA 11, iA 1]], .tuple [rA 0 0 0 365, iA 0])
theorem k2_50 : chk tab cfg1 10000 114 e2_50.1 e2_50.2 = true := by kernel_rfl
def e2_51 : List AV × AV := ([rA 0 305 0 305, rA 0 0 0 365], .bool true)
theorem k2_51 : chk tab cfg1 10000 107 e2_51.1 e2_51.2 = true := by kernel_rfl
def e2_52 : List AV × AV := ([iA 1000000], .tuple [iA 2737, iA 0])
theorem k2_52 : chk tab cfg1 10000 149 e2_52.1 e2_52.2 = true := by kernel_rfl
def e2_53 : List AV × AV := ([iA 2737, iA 11], .tuple [iA 999973, iA 0])
theorem k2_53 : chk tab cfg1 10000 110 e2_53.1 e2_53.2 = true := by kernel_rfl
def e2_54 : List AV × AV := ([.str [88, 88, 88, 88], iA 2737], .tuple [iA 2737, iA 0])
theorem k2_54 : chk tab cfg1 10000 130 e2_54.1 e2_54.2 = true := by kernel_rfl
def e2_55 : List AV × AV := ([dA [88, 88, 88, 88] 0 0 [] [], .agg [iA 2737, iA 11, iA 28]], .tuple [rA 0 999669 0 1000033, iA 0])
theorem k2_55 : chk tab cfg1 10000 114 e2_55.1 e2_55.2 = true := by kernel_rfl
def e2_56 : List AV × AV := ([rA 0 1000000 0 1000000, rA 0 999669 0 1000033], .bool true)
theorem k2_56 : chk tab cfg1 10000 107 e2_56.1 e2_56.2 = true := by kernel_rfl
def e2_57 : List AV × AV := ([iA 3652424], .tuple [iA 9999, iA 0])
theorem k2_57 : chk tab cfg1 10000 149 e2_57.1 e2_57.2 = true := by kernel_rfl
def e2_58 : List AV × AV := ([iA 9999, iA 12], .tuple [iA 3652394, iA 0])
theorem k2_58 : chk tab cfg1 10000 110 e2_58.1 e2_58.2 = true := by kernel_rfl
def e2_59 : List AV × AV := ([.str [88, 88, 88, 88], iA 9999], .tuple [iA 9999, iA 0])
theorem k2_59 : chk tab cfg1 10000 130 e2_59.1 e2_59.2 = true := by kernel_rfl
def e2_60 : List AV × AV := ([dA [88, 88, 88, 88] 0 0 [] [], .agg [iA 9999, iA 12, iA 31]], .tuple [rA 0 3652060 0 3652424, iA 0])
theorem k2_60 : chk tab cfg1 10000 114 e2_60.1 e2_60.2 = true := by kernel_rfl
def e2_61 : List AV × AV := ([rA 0 3652424 0 3652424, rA 0 3652060 0 3652424], .bool true)
theorem k2_61 : chk tab cfg1 10000 107 e2_61.1 e2_61.2 = true := by kernel_rfl
def e2_62 : List AV × AV := ([iA 3652425], .tuple [iA 10000, iA 0])
theorem k2_62 : chk tab cfg1 10000 149 e2_62.1 e2_62.2 = true := by kernel_rfl
def e2_63 : List AV × AV := ([dA [48, 48, 48, 88] 0 0 [49, 88] []], iA 0)
theorem k2_63 : chk tab cfg1 10000 47 e2_63.1 e2_63.2 = true := by kernel_rfl
def e2_64 : List AV × AV := ([.agg [.bool false, .bool false, .str [48, 48, 48, 88], iA 0, iA 0]], .tuple [iA 0, iA 9])
theorem k2_64 : chk tab cfg1 10000 68 e2_64.1 e2_64.2 = true := by kernel_rfl
def e2_65 : List AV × AV := ([.str [48, 48, 48, 88], iA 0], .tuple [iA 0, iA 0])
theorem k2_65 : chk tab cfg1 10000 130 e2_65.1 e2_65.2 = true := by kernel_rfl
def e2_66 : List AV × AV := ([rA 0 305 0 305, rA 0 305 0 334], .bool true)
theorem k2_66 : chk tab cfg1 10000 107 e2_66.1 e2_66.2 = true := by kernel_rfl
def e2_67 : List AV × AV := ([.str [48, 48, 48, 88], iA 2737], .tuple [iA 0, iA 16])
theorem k2_67 : chk tab cfg1 10000 130 e2_67.1 e2_67.2 = true := by kernel_rfl
def e2_68 : List AV × AV := ([.str [48, 48, 48, 88], iA 9999], .tuple [iA 0, iA 16])
theorem k2_68 : chk tab cfg1 10000 130 e2_68.1 e2_68.2 = true := by kernel_rfl
def e2_69 : List AV × AV := ([rA (-1) 0 0 6, .int .u8 3], .bool true)
theorem k2_69 : chk tab cfg1 10000 23 e2_69.1 e2_69.2 = true := by kernel_rfl
def e2_70 : List AV × AV := ([rA 0 6 0 6, .int .u8 3], .bool true)
theorem k2_70 : chk tab cfg1 10000 23 e2_70.1 e2_70.2 = true := by kernel_rfl
def e2_71 : List AV × AV := ([.agg [.int .u8 3, .nilslice, .bool false, .bool false, .str [], iA 0, iA 0, .str [], .str [], .int .u8 0, .int .u8 0, .int .u8 0, .int .u8 3, .int .i8 0, iA 6, .int .i8 0, iA 6]], .tuple [iA 1, .bool false])
theorem k2_71 : chk tab cfg1 10000 61 e2_71.1 e2_71.2 = true := by kernel_rfl
def e2_72 : List AV × AV := ([.agg [.int .u8 5, .nilslice, .bool false, .bool false, .str [], iA 0, iA 0, .str [], .str [], .int .u8 0, .int .u8 0, .int .u8 0, .int .u8 0, .int .i8 0, iA 6, .int .i8 1, iA 0], iA (-9223372036854775808)], .tuple [.int .u8 1, iA 0])
theorem k2_72 : chk tab cfg1 10000 5 e2_72.1 e2_72.2 = true := by kernel_rfl
def e2_73 : List AV × AV := ([.agg [.int .u8 5, .nilslice, .bool false, .bool false, .str [], iA 0, iA 0, .str [], .str [], .int .u8 0, .int .u8 0, .int .u8 0, .int .u8 0, .int .i8 0, iA 6, .int .i8 1, iA 0], iA 9223372036854775807], .tuple [.int .u8 2, iA 0])
theorem k2_73 : chk tab cfg1 10000 5 e2_73.1 e2_73.2 = true := by kernel_rfl
def e2_74 : List AV × AV := ([.agg [.int .u8 5, .nilslice, .bool false, .bool false, .str [], iA 0, iA 0, .str [], .str [], .int .u8 0, .int .u8 0, .int .u8 0, .int .u8 0, .int .i8 0, iA 6, .int .i8 1, iA 0], iA 0], .tuple [.int .u8 1, iA 0])
theorem k2_74 : chk tab cfg1 10000 5 e2_74.1 e2_74.2 = true := by kernel_rfl
def e2_75 : List AV × AV := ([.agg [.int .u8 5, .nilslice, .bool false, .bool false, .str [], iA 0, iA 0, .str [], .str [], .int .u8 0, .int .u8 0, .int .u8 0, .int .u8 0, .int .i8 0, iA 6, .int .i8 1, iA 0], iA 5], .tuple [.int .u8 1, iA 0])
theorem k2_75 : chk tab cfg1 10000 5 e2_75.1 e2_75.2 = true := by kernel_rfl
def e2_76 : List AV × AV := ([.agg [.int .u8 5, .nilslice, .bool false, .bool false, .str [], iA 0, iA 0, .str [], .str [], .int .u8 0, .int .u8 0, .int .u8 0, .int .u8 0, .int .i8 0, iA 6, .int .i8 1, iA 0], iA 6], .tuple [.int .u8 3, iA 0])
theorem k2_76 : chk tab cfg1 10000 5 e2_76.1 e2_76.2 = true := by kernel_rfl
def e2_77 : List AV × AV := ([.agg [.int .u8 5, .nilslice, .bool false, .bool false, .str [], iA 0, iA 0, .str [], .str [], .int .u8 0, .int .u8 0, .int .u8 0, .int .u8 0, .int .i8 0, iA 6, .int .i8 1, iA 0], iA 7], .tuple [.int .u8 2, iA 0])
theorem k2_77 : chk tab cfg1 10000 5 e2_77.1 e2_77.2 = true := by kernel_rfl
def e2_78 : List AV × AV := ([.agg [.int .u8 5, .nilslice, .bool false, .bool false, .str [], iA 0, iA 0, .str [], .str [], .int .u8 0, .int .u8 0, .int .u8 0, .int .u8 0, .int .i8 0, iA 6, .int .i8 1, iA 0], iA (-1)], .tuple [.int .u8 1, iA 0])
theorem k2_78 : chk tab cfg1 10000 5 e2_78.1 e2_78.2 = true := by kernel_rfl
def e2_79 : List AV × AV := ([.agg [.int .u8 5, .nilslice, .bool false, .bool false, .str [], iA 0, iA 0, .str [], .str [], .int .u8 0, .int .u8 0, .int .u8 0, .int .u8 0, .int .i8 0, iA 6, .int .i8 1, iA 0], iA 305], .tuple [.int .u8 2, iA 0])
theorem k2_79 : chk tab cfg1 10000 5 e2_79.1 e2_79.2 = true := by kernel_rfl
def e2_80 : List AV × AV := ([.agg [.int .u8 5, .nilslice, .bool false, .bool false, .str [], iA 0, iA 0, .str [], .str [], .int .u8 0, .int .u8 0, .int .u8 0, .int .u8 0, .int .i8 0, iA 6, .int .i8 1, iA 0], iA 1000000], .tuple [.int .u8 2, iA 0])
theorem k2_80 : chk tab cfg1 10000 5 e2_80.1 e2_80.2 = true := by kernel_rfl
def e2_81 : List AV × AV := ([.agg [.int .u8 5, .nilslice, .bool false, .bool false, .str [], iA 0, iA 0, .str [], .str [], .int .u8 0, .int .u8 0, .int .u8 0, .int .u8 0, .int .i8 0, iA 6, .int .i8 1, iA 0], iA 3652424], .tuple [.int .u8 2, iA 0])
theorem k2_81 : chk tab cfg1 10000 5 e2_81.1 e2_81.2 = true := by kernel_rfl
def e2_82 : List AV × AV := ([.agg [.int .u8 5, .nilslice, .bool false, .bool false, .str [], iA 0, iA 0, .str [], .str [], .int .u8 0, .int .u8 0, .int .u8 0, .int .u8 0, .int .i8 0, iA 6, .int .i8 1, iA 0], iA 3652425], .tuple [.int .u8 2, iA 0])
theorem k2_82 : chk tab cfg1 10000 5 e2_82.1 e2_82.2 = true := by kernel_rfl
def e2_83 : List AV × AV := ([.agg [.int .u8 5, .nilslice, .bool false, .bool false, .str [], iA 0, iA 0, .str [], .str [], .int .u8 0, .int .u8 0, .int .u8 0, .int .u8 0, .int .i8 0, iA (-9223372036854775808), .int .i8 1, iA 0], iA (-9223372036854775808)], .tuple [.int .u8 3, iA 0])
theorem k2_83 : chk tab cfg1 10000 5 e2_83.1 e2_83.2 = true := by kernel_rfl
def e2_84 : List AV × AV := ([.agg [.int .u8 5, .nilslice, .bool false, .bool false, .str [], iA 0, iA 0, .str [], .str [], .int .u8 0, .int .u8 0, .int .u8 0, .int .u8 0, .int .i8 0, iA (-9223372036854775808), .int .i8 1, iA 0], iA 9223372036854775807], .tuple [.int .u8 2, iA 0])
theorem k2_84 : chk tab cfg1 10000 5 e2_84.1 e2_84.2 = true := by kernel_rfl
def e2_85 : List AV × AV := ([.agg [.int .u8 5, .nilslice, .bool false, .bool false, .str [], iA 0, iA 0, .str [], .str [], .int .u8 0, .int .u8 0, .int .u8 0, .int .u8 0, .int .i8 0, iA (-9223372036854775808), .int .i8 1, iA 0], iA 0], .tuple [.int .u8 2, iA 0])
theorem k2_85 : chk tab cfg1 10000 5 e2_85.1 e2_85.2 = true := by kernel_rfl
def e2_86 : List AV × AV := ([.agg [.int .u8 5, .nilslice, .bool false, .bool false, .str [], iA 0, iA 0, .str [], .str [], .int .u8 0, .int .u8 0, .int .u8 0, .int .u8 0, .int .i8 0, iA (-9223372036854775808), .int .i8 1, iA 0], iA 5], .tuple [.int .u8 2, iA 0])
theorem k2_86 : chk tab cfg1 10000 5 e2_86.1 e2_86.2 = true := by kernel_rfl
def e2_87 : List AV × AV := ([.agg [.int .u8 5, .nilslice, .bool false, .bool false, .str [], iA 0, iA 0, .str [], .str [], .int .u8 0, .int .u8 0, .int .u8 0, .int .u8 0, .int .i8 0, iA (-9223372036854775808), .int .i8 1, iA 0], iA 6], .tuple [.int .u8 2, iA 0])
theorem k2_87 : chk tab cfg1 10000 5 e2_87.1 e2_87.2 = true := by kernel_rfl
def e2_88 : List AV × AV := ([.agg [.int .u8 5, .nilslice, .bool false, .bool false, .str [], iA 0, iA 0, .str [], .str [], .int .u8 0, .int .u8 0, .int .u8 0, .int .u8 0, .int .i8 0, iA (-9223372036854775808), .int .i8 1, iA 0], iA 7], .tuple [.int .u8 2, iA 0])
theorem k2_88 : chk tab cfg1 10000 5 e2_88.1 e2_88.2 = true := by kernel_rfl
def e2_89 : List AV × AV := ([.agg [.int .u8 5, .nilslice, .bool false, .bool false, .str [], iA 0, iA 0, .str [], .str [], .int .u8 0, .int .u8 0, .int .u8 0, .int .u8 0, .int .i8 0, iA (-9223372036854775808), .int .i8 1, iA 0], iA (-1)], .tuple [.int .u8 2, iA 0])
theorem k2_89 : chk tab cfg1 10000 5 e2_89.1 e2_89.2 = true := by kernel_rfl
def e2_90 : List AV × AV := ([.agg [.int .u8 5, .nilslice, .bool false, .bool false, .str [], iA 0, iA 0, .str [], .str [], .int .u8 0, .int .u8 0, .int .u8 0, .int .u8 0, .int .i8 0, iA (-9223372036854775808), .int .i8 1, iA 0], iA 305], .tuple [.int .u8 2, iA 0])
theorem k2_90 : chk tab cfg1 10000 5 e2_90.1 e2_90.2 = true := by kernel_rfl
def e2_91 : List AV × AV := ([.agg [.int .u8 5, .nilslice, .bool false, .bool false, .str [], iA 0, iA 0, .str [], .str [], .int .u8 0, .int .u8 0, .int .u8 0, .int .u8 0, .int .i8 0, iA (-9223372036854775808), .int .i8 1, iA 0], iA 1000000], .tuple [.int .u8 2, iA 0])
theorem k2_91 : chk tab cfg1 10000 5 e2_91.1 e2_91.2 = true := by kernel_rfl
def e2_92 : List AV × AV := ([.agg [.int .u8 5, .nilslice, .bool false, .bool false, .str [], iA 0, iA 0, .str [], .str [], .int .u8 0, .int .u8 0, .int .u8 0, .int .u8 0, .int .i8 0, iA (-9223372036854775808), .int .i8 1, iA 0], iA 3652424], .tuple [.int .u8 2, iA 0])
theorem k2_92 : chk tab cfg1 10000 5 e2_92.1 e2_92.2 = true := by kernel_rfl
def e2_93 : List AV × AV := ([.agg [.int .u8 5, .nilslice, .bool false, .bool false, .str [], iA 0, iA 0, .str [], .str [], .int .u8 0, .int .u8 0, .int .u8 0, .int .u8 0, .int .i8 0, iA (-9223372036854775808), .int .i8 1, iA 0], iA 3652425], .tuple [.int .u8 2, iA 0])
theorem k2_93 : chk tab cfg1 10000 5 e2_93.1 e2_93.2 = true := by kernel_rfl
def e2_94 : List AV × AV := ([dA [48, 48, 48, 48] 0 0 [] []], .bool true)
theorem k2_94 : chk tab cfg1 10000 90 e2_94.1 e2_94.2 = true := by kernel_rfl
def e2_95 : List AV × AV := ([.agg [.bool false, .bool false, .str [48, 48, 48, 48], iA 0, iA 0]], .tuple [iA 0, iA 0])
theorem k2_95 : chk tab cfg1 10000 131 e2_95.1 e2_95.2 = true := by kernel_rfl
def e2_96 : List AV × AV := ([dA [48, 48, 48, 48] 0 0 [] [], .agg [iA 0, iA 0, iA 0]], .tuple [rA 0 0 0 365, iA 0])
theorem k2_96 : chk tab cfg1 10000 114 e2_96.1 e2_96.2 = true := by kernel_rfl
def e2_97 : List AV × AV := ([dA [48, 48, 48, 48] 0 0 [48, 50] []], iA 0)
theorem k2_97 : chk tab cfg1 10000 47 e2_97.1 e2_97.2 = true := by kernel_rfl
def e2_98 : List AV × AV := ([iA 0, iA 2], .tuple [iA 31, iA 0])
theorem k2_98 : chk tab cfg1 10000 110 e2_98.1 e2_98.2 = true := by kernel_rfl
def e2_99 : List AV × AV := ([rA 0 31 0 31, rA 0 31 0 59], .bool true)
theorem k2_99 : chk tab cfg1 10000 107 e2_99.1 e2_99.2 = true := by kernel_rfl
def e2_100 : List AV × AV := ([rA 0 60 0 60, rA 0 31 0 59], .bool false)
theorem k2_100 : chk tab cfg1 10000 107 e2_100.1 e2_100.2 = true := by kernel_rfl
def e2_101 : List AV × AV := ([dA [48, 48, 48, 48] 0 0 [48, 88] []], iA 0)
theorem k2_101 : chk tab cfg1 10000 47 e2_101.1 e2_101.2 = true := by kernel_rfl
def e2_102 : List AV × AV := ([iA 59], .tuple [iA 0, iA 0])
theorem k2_102 : chk tab cfg1 10000 149 e2_102.1 e2_102.2 = true := by kernel_rfl
def e2_103 : List AV × AV := ([rA 0 59 0 59, rA 0 31 0 59], .bool true)
theorem k2_103 : chk tab cfg1 10000 107 e2_103.1 e2_103.2 = true := by kernel_rfl
def e2_104 : List AV × AV := ([iA 300], .tuple [iA 0, iA 0])
theorem k2_104 : chk tab cfg1 10000 149 e2_104.1 e2_104.2 = true := by kernel_rfl
def e2_105 : List AV × AV := ([iA 0, iA 10], .tuple [iA 274, iA 0])
theorem k2_105 : chk tab cfg1 10000 110 e2_105.1 e2_105.2 = true := by kernel_rfl
def e2_106 : List AV × AV := ([dA [48, 48, 48, 48] 0 0 [48, 49] []], iA 0)
theorem k2_106 : chk tab cfg1 10000 47 e2_106.1 e2_106.2 = true := by kernel_rfl
def e2_107 : List AV × AV := ([iA 0, iA 1], .tuple [iA 30, iA 0])
theorem k2_107 : chk tab cfg1 10000 193 e2_107.1 e2_107.2 = true := by kernel_rfl
def e2_108 : List AV × AV := ([rA 0 40 0 40, rA 0 0 0 365], .bool true)
theorem k2_108 : chk tab cfg1 10000 107 e2_108.1 e2_108.2 = true := by kernel_rfl
def e2_109 : List AV × AV := ([rA 0 40 0 40, rA 0 31 0 59], .bool true)
theorem k2_109 : chk tab cfg1 10000 107 e2_109.1 e2_109.2 = true := by kernel_rfl
def e2_110 : List AV × AV := ([rA 0 0 0 0, rA 0 31 0 59], .bool false)
theorem k2_110 : chk tab cfg1 10000 107 e2_110.1 e2_110.2 = true := by kernel_rfl
def e2_111 : List AV × AV := ([iA 365], .tuple [iA 0, iA 0])
theorem k2_111 : chk tab cfg1 10000 149 e2_111.1 e2_111.2 = true := by kernel_rfl
def e2_112 : List AV × AV := ([dA [48, 48, 48, 48] 0 0 [48, 51] []], iA 0)
theorem k2_112 : chk tab cfg1 10000 47 e2_112.1 e2_112.2 = true := by kernel_rfl
def e2_113 : List AV × AV := ([iA 0, iA 3], .tuple [iA 60, iA 0])
theorem k2_113 : chk tab cfg1 10000 110 e2_113.1 e2_113.2 = true := by kernel_rfl
def e2_114 : List AV × AV := ([rA 0 0 0 30, rA 0 60 0 90], .bool false)
theorem k2_114 : chk tab cfg1 10000 46 e2_114.1 e2_114.2 = true := by kernel_rfl
def e2_115 : List AV × AV := ([rA 0 30 0 30, rA 0 0 0 30], .bool true)
theorem k2_115 : chk tab cfg1 10000 107 e2_115.1 e2_115.2 = true := by kernel_rfl
def e2_116 : List AV × AV := ([rA 0 40 0 40, rA 0 0 0 30], .bool false)
theorem k2_116 : chk tab cfg1 10000 107 e2_116.1 e2_116.2 = true := by kernel_rfl
def e2_117 : List AV × AV := ([rA 0 40 0 40, rA 0 60 0 90], .bool false)
theorem k2_117 : chk tab cfg1 10000 107 e2_117.1 e2_117.2 = true := by kernel_rfl
noncomputable def memo2 : Memo := (.node none (.node none (.node none (.node none (.node none .nil (.node (some [e2_63, e2_97, e2_101, e2_106, e2_112]) .nil .nil)) (.node (some [e2_69, e2_70]) .nil .nil)) (.node none (.node none (.node none (.node none (.node (some [e2_95]) .nil .nil) .nil) .nil) .nil) (.node none (.node none .nil (.node (some [e2_0, e2_1, e2_2, e2_3, e2_4, e2_5, e2_6, e2_7, e2_8, e2_9, e2_10, e2_12, e2_13, e2_14, e2_15, e2_16, e2_17, e2_18, e2_19, e2_20, e2_21, e2_22, e2_23, e2_24, e2_25, e2_26, e2_27, e2_28, e2_29, e2_36, e2_39, e2_42, e2_45, e2_51, e2_56, e2_61, e2_66, e2_99, e2_100, e2_103, e2_108, e2_109, e2_110, e2_115, e2_116, e2_117]) .nil .nil)) .nil))) (.node (some [e2_72, e2_73, e2_74, e2_75, e2_76, e2_77, e2_78, e2_79, e2_80, e2_81, e2_82, e2_83, e2_84, e2_85, e2_86, e2_87, e2_88, e2_89, e2_90, e2_91, e2_92, e2_93]) (.node none (.node none (.node none (.node none .nil (.node (some [e2_107]) .nil .nil)) .nil) .nil) .nil) (.node none (.node none .nil (.node none (.node none (.node (some [e2_31, e2_32, e2_33, e2_37, e2_40, e2_43, e2_46, e2_48, e2_52, e2_57, e2_62, e2_102, e2_104, e2_111]) .nil .nil) .nil) .nil)) (.node none .nil (.node (some [e2_71]) .nil .nil))))) (.node none (.node none .nil (.node none (.node none (.node none (.node (some [e2_64]) .nil .nil) .nil) .nil) .nil)) (.node none (.node none (.node none (.node none (.node none (.node (some [e2_34, e2_54, e2_59, e2_65, e2_67, e2_68]) .nil .nil) .nil) .nil) (.node none .nil (.node (some [e2_35, e2_38, e2_41, e2_44, e2_50, e2_55, e2_60, e2_96]) .nil .nil))) (.node none .nil (.node none (.node (some [e2_30, e2_94]) .nil .nil) .nil))) (.node none .nil (.node none (.node (some [e2_11, e2_114]) .nil (.node (some [e2_47, e2_49, e2_53, e2_58, e2_98, e2_105, e2_113]) .nil .nil)) .nil)))))
noncomputable def cfg2 : Cfg := cfgM cfg1 memo2
theorem memo2_ok (g : Good Tryz.prog tab cfg1) : TbAll (fun f l => ∀ e ∈ l, Fact Tryz.prog cfg1 f e.1 e.2) (fun i => i) memo2 := ⟨none_all, ⟨none_all, ⟨none_all, ⟨none_all, ⟨none_all, trivial, ⟨(some_all (fact_cons (g.fact 10000 k2_63) (fact_cons (g.fact 10000 k2_97) (fact_cons (g.fact 10000 k2_101) (fact_cons (g.fact 10000 k2_106) (fact_cons (g.fact 10000 k2_112) fact_nil)))))), trivial, trivial⟩⟩, ⟨(some_all (fact_cons (g.fact 10000 k2_69) (fact_cons (g.fact 10000 k2_70) fact_nil))), trivial, trivial⟩⟩, ⟨none_all, ⟨none_all, ⟨none_all, ⟨none_all, ⟨(some_all (fact_cons (g.fact 10000 k2_95) fact_nil)), trivial, trivial⟩, trivial⟩, trivial⟩, trivial⟩, ⟨none_all, ⟨none_all, trivial, ⟨(some_all (fact_cons (g.fact 10000 k2_0) (fact_cons (g.fact 10000 k2_1) (fact_cons (g.fact 10000 k2_2) (fact_cons (g.fact 10000 k2_3) (fact_cons (g.fact 10000 k2_4) (fact_cons (g.fact 10000 k2_5) (fact_cons (g.fact 10000 k2_6) (fact_cons (g.fact 10000 k2_7) (fact_cons (g.fact 10000 k2_8) (fact_cons (g.fact 10000 k2_9) (fact_cons (g.fact 10000 k2_10) (fact_cons (g.fact 10000 k2_12) (fact_cons (g.fact 10000 k2_13) (fact_cons (g.fact 10000 k2_14) (fact_cons (g.fact 10000 k2_15) (fact_cons (g.fact 10000 k2_16) (fact_cons (g.fact 10000 k2_17) (fact_cons (g.fact 10000 k2_18) (fact_cons (g.fact 10000 k2_19) (fact_cons (g.fact 10000 k2_20) (fact_cons (g.fact 10000 k2_21) (fact_cons (g.fact 10000 k2_22) (fact_cons (g.fact 10000 k2_23) (fact_cons (g.fact 10000 k2_24) (fact_cons (g.fact 10000 k2_25) (fact_cons (g.fact 10000 k2_26) (fact_cons (g.fact 10000 k2_27) (fact_cons (g.fact 10000 k2_28) (fact_cons (g.fact 10000 k2_29) (fact_cons (g.fact 10000 k2_36) (fact_cons (g.fact 10000 k2_39) (fact_cons (g.fact 10000 k2_42) (fact_cons (g.fact 10000 k2_45) (fact_cons (g.fact 10000 k2_51) (fact_cons (g.fact 10000 k2_56) (fact_cons (g.fact 10000 k2_61) (fact_cons (g.fact 10000 k2_66) (fact_cons (g.fact 10000 k2_99) (fact_cons (g.fact 10000 k2_100) (fact_cons (g.fact 10000 k2_103) (fact_cons (g.fact 10000 k2_108) (fact_cons (g.fact 10000 k2_109) (fact_cons (g.fact 10000 k2_110) (fact_cons (g.fact 10000 k2_115) (fact_cons (g.fact 10000 k2_116) (fact_cons (g.fact 10000 k2_117) fact_nil))))))))))))))))))))))))))))))))))))))))))))))), trivial, trivial⟩⟩, trivial⟩⟩⟩, ⟨(some_all (fact_cons (g.fact 10000 k2_72) (fact_cons (g.fact 10000 k2_73) (fact_cons (g.fact 10000 k2_74) (fact_cons (g.fact 10000 k2_75) (fact_cons (g.fact 10000 k2_76) (fact_cons (g.fact 10000 k2_77) (fact_cons (g.fact 10000 k2_78) (fact_cons (g.fact 10000 k2_79) (fact_cons (g.fact 10000 k2_80) (fact_cons (g.fact 10000 k2_81) (fact_cons (g.fact 10000 k2_82) (fact_cons (g.fact 10000 k2_83) (fact_cons (g.fact 10000 k2_84) (fact_cons (g.fact 10000 k2_85) (fact_cons (g.fact 10000 k2_86) (fact_cons (g.fact 10000 k2_87) (fact_cons (g.fact 10000 k2_88) (fact_cons (g.fact 10000 k2_89) (fact_cons (g.fact 10000 k2_90) (fact_cons (g.fact 10000 k2_91) (fact_cons (g.fact 10000 k2_92) (fact_cons (g.fact 10000 k2_93) fact_nil))))))))))))))))))))))), ⟨none_all, ⟨none_all, ⟨none_all, ⟨none_all, trivial, ⟨(some_all (fact_cons (g.fact 10000 k2_107) fact_nil)), trivial, trivial⟩⟩, trivial⟩, trivial⟩, trivial⟩, ⟨none_all, ⟨none_all, trivial, ⟨none_all, ⟨none_all, ⟨(some_all (fact_cons (g.fact 10000 k2_31) (fact_cons (g.fact 10000 k2_32) (fact_cons (g.fact 10000 k2_33) (fact_cons (g.fact 10000 k2_37) (fact_cons (g.fact 10000 k2_40) (fact_cons (g.fact 10000 k2_43) (fact_cons (g.fact 10000 k2_46) (fact_cons (g.fact 10000 k2_48) (fact_cons (g.fact 10000 k2_52) (fact_cons (g.fact 10000 k2_57) (fact_cons (g.fact 10000 k2_62) (fact_cons (g.fact 10000 k2_102) (fact_cons (g.fact 10000 k2_104) (fact_cons (g.fact 10000 k2_111) fact_nil))))))))))))))), trivial, trivial⟩, trivial⟩, trivial⟩⟩, ⟨none_all, trivial, ⟨(some_all (fact_cons (g.fact 10000 k2_71) fact_nil)), trivial, trivial⟩⟩⟩⟩⟩, ⟨none_all, ⟨none_all, trivial, ⟨none_all, ⟨none_all, ⟨none_all, ⟨(some_all (fact_cons (g.fact 10000 k2_64) fact_nil)), trivial, trivial⟩, trivial⟩, trivial⟩, trivial⟩⟩, ⟨none_all, ⟨none_all, ⟨none_all, ⟨none_all, ⟨none_all, ⟨(some_all (fact_cons (g.fact 10000 k2_34) (fact_cons (g.fact 10000 k2_54) (fact_cons (g.fact 10000 k2_59) (fact_cons (g.fact 10000 k2_65) (fact_cons (g.fact 10000 k2_67) (fact_cons (g.fact 10000 k2_68) fact_nil))))))), trivial, trivial⟩, trivial⟩, trivial⟩, ⟨none_all, trivial, ⟨(some_all (fact_cons (g.fact 10000 k2_35) (fact_cons (g.fact 10000 k2_38) (fact_cons (g.fact 10000 k2_41) (fact_cons (g.fact 10000 k2_44) (fact_cons (g.fact 10000 k2_50) (fact_cons (g.fact 10000 k2_55) (fact_cons (g.fact 10000 k2_60) (fact_cons (g.fact 10000 k2_96) fact_nil))))))))), trivial, trivial⟩⟩⟩, ⟨none_all, trivial, ⟨none_all, ⟨(some_all (fact_cons (g.fact 10000 k2_30) (fact_cons (g.fact 10000 k2_94) fact_nil))), trivial, trivial⟩, trivial⟩⟩⟩, ⟨none_all, trivial, ⟨none_all, ⟨(some_all (fact_cons (g.fact 10000 k2_11) (fact_cons (g.fact 10000 k2_114) fact_nil))), trivial, ⟨(some_all (fact_cons (g.fact 10000 k2_47) (fact_cons (g.fact 10000 k2_49) (fact_cons (g.fact 10000 k2_53) (fact_cons (g.fact 10000 k2_58) (fact_cons (g.fact 10000 k2_98) (fact_cons (g.fact 10000 k2_105) (fact_cons (g.fact 10000 k2_113) fact_nil)))))))), trivial, trivial⟩⟩, trivial⟩⟩⟩⟩⟩
theorem good2 (g : Good Tryz.prog tab cfg1) : Good Tryz.prog tab cfg2 := g.memo fun f l h => (memo2_ok g).get f l h
end Go.Ev
