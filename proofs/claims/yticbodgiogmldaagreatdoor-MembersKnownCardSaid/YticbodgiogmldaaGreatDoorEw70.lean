/- Known calls, layer 1. Printed by layers.py. -/
import Derived.Test.YticbodgiogmldaaGreatDoorEe4
set_option linter.all false
namespace Go.Ev
open Go Go.Proofs
set_option maxRecDepth 100000
abbrev iA (n : Int) : AV := .int .i64 n
abbrev dA (s : List UInt8) (e g : Int) (mo da : List UInt8) : AV := .agg [.bool false, .bool false, .str s, iA e, iA g, .str mo, .str da, .int .u8 0, .int .u8 0, .int .u8 0]
abbrev rA (a b c d : Int) : AV := .agg [.int .i8 a, iA b, .int .i8 c, iA d]
def e1_0 : List AV × AV := ([rA 0 0 0 0], iA 0)
theorem k1_0 : chk tab cfg0 10000 19 e1_0.1 e1_0.2 = true := by kernel_rfl
def e1_1 : List AV × AV := ([rA (-1) 0 1 0], iA 0)
theorem k1_1 : chk tab cfg0 10000 19 e1_1.1 e1_1.2 = true := by kernel_rfl
def e1_2 : List AV × AV := ([rA 0 (-9223372036854775808) 0 (-9223372036854775808)], iA 0)
theorem k1_2 : chk tab cfg0 10000 19 e1_2.1 e1_2.2 = true := by kernel_rfl
def e1_3 : List AV × AV := ([rA 0 9223372036854775807 0 9223372036854775807], iA 0)
theorem k1_3 : chk tab cfg0 10000 19 e1_3.1 e1_3.2 = true := by kernel_rfl
def e1_4 : List AV × AV := ([rA 0 5 0 5], iA 0)
theorem k1_4 : chk tab cfg0 10000 19 e1_4.1 e1_4.2 = true := by kernel_rfl
def e1_5 : List AV × AV := ([rA 0 6 0 6], iA 0)
theorem k1_5 : chk tab cfg0 10000 19 e1_5.1 e1_5.2 = true := by kernel_rfl
def e1_6 : List AV × AV := ([rA 0 7 0 7], iA 0)
theorem k1_6 : chk tab cfg0 10000 19 e1_6.1 e1_6.2 = true := by kernel_rfl
def e1_7 : List AV × AV := ([rA 0 (-1) 0 (-1)], iA 0)
theorem k1_7 : chk tab cfg0 10000 19 e1_7.1 e1_7.2 = true := by kernel_rfl
def e1_8 : List AV × AV := ([rA 0 305 0 305], iA 0)
theorem k1_8 : chk tab cfg0 10000 19 e1_8.1 e1_8.2 = true := by kernel_rfl
def e1_9 : List AV × AV := ([rA 0 1000000 0 1000000], iA 0)
theorem k1_9 : chk tab cfg0 10000 19 e1_9.1 e1_9.2 = true := by kernel_rfl
def e1_10 : List AV × AV := ([rA 0 3652424 0 3652424], iA 0)
theorem k1_10 : chk tab cfg0 10000 19 e1_10.1 e1_10.2 = true := by kernel_rfl
def e1_11 : List AV × AV := ([rA 0 3652425 0 3652425], iA 0)
theorem k1_11 : chk tab cfg0 10000 19 e1_11.1 e1_11.2 = true := by kernel_rfl
def e1_12 : List AV × AV := ([rA (-1) 0 0 5], iA 0)
theorem k1_12 : chk tab cfg0 10000 19 e1_12.1 e1_12.2 = true := by kernel_rfl
def e1_13 : List AV × AV := ([rA 0 7 1 0], iA 0)
theorem k1_13 : chk tab cfg0 10000 19 e1_13.1 e1_13.2 = true := by kernel_rfl
def e1_14 : List AV × AV := ([rA (-1) 0 0 5, rA 0 7 1 0], iA (-1))
theorem k1_14 : chk tab cfg0 10000 45 e1_14.1 e1_14.2 = true := by kernel_rfl
def e1_15 : List AV × AV := ([.str [88, 88, 88, 88], .str [88, 48, 49, 50, 51, 52, 53, 54, 55, 56, 57]], .bool true)
theorem k1_15 : chk tab cfg0 10000 176 e1_15.1 e1_15.2 = true := by kernel_rfl
def e1_16 : List AV × AV := ([iA 201], iA 49)
theorem k1_16 : chk tab cfg0 10000 254 e1_16.1 e1_16.2 = true := by kernel_rfl
def e1_17 : List AV × AV := ([iA 301], iA 73)
theorem k1_17 : chk tab cfg0 10000 254 e1_17.1 e1_17.2 = true := by kernel_rfl
def e1_18 : List AV × AV := ([iA 251], iA 61)
theorem k1_18 : chk tab cfg0 10000 254 e1_18.1 e1_18.2 = true := by kernel_rfl
def e1_19 : List AV × AV := ([iA 226], iA 55)
theorem k1_19 : chk tab cfg0 10000 254 e1_19.1 e1_19.2 = true := by kernel_rfl
def e1_20 : List AV × AV := ([iA 239], iA 58)
theorem k1_20 : chk tab cfg0 10000 254 e1_20.1 e1_20.2 = true := by kernel_rfl
def e1_21 : List AV × AV := ([iA 245], iA 60)
theorem k1_21 : chk tab cfg0 10000 254 e1_21.1 e1_21.2 = true := by kernel_rfl
def e1_22 : List AV × AV := ([iA 248], iA 60)
theorem k1_22 : chk tab cfg0 10000 254 e1_22.1 e1_22.2 = true := by kernel_rfl
def e1_23 : List AV × AV := ([iA 247], iA 60)
theorem k1_23 : chk tab cfg0 10000 254 e1_23.1 e1_23.2 = true := by kernel_rfl
def e1_24 : List AV × AV := ([iA 246], iA 60)
theorem k1_24 : chk tab cfg0 10000 254 e1_24.1 e1_24.2 = true := by kernel_rfl
def e1_25 : List AV × AV := ([.str [88, 88, 88, 88]], .tuple [iA 10000, iA 0])
theorem k1_25 : chk tab cfg0 10000 162 e1_25.1 e1_25.2 = true := by kernel_rfl
def e1_26 : List AV × AV := ([iA 101], iA 25)
theorem k1_26 : chk tab cfg0 10000 254 e1_26.1 e1_26.2 = true := by kernel_rfl
def e1_27 : List AV × AV := ([iA 151], iA 37)
theorem k1_27 : chk tab cfg0 10000 254 e1_27.1 e1_27.2 = true := by kernel_rfl
def e1_28 : List AV × AV := ([iA 176], iA 43)
theorem k1_28 : chk tab cfg0 10000 254 e1_28.1 e1_28.2 = true := by kernel_rfl
def e1_29 : List AV × AV := ([iA 164], iA 40)
theorem k1_29 : chk tab cfg0 10000 254 e1_29.1 e1_29.2 = true := by kernel_rfl
def e1_30 : List AV × AV := ([iA 158], iA 39)
theorem k1_30 : chk tab cfg0 10000 254 e1_30.1 e1_30.2 = true := by kernel_rfl
def e1_31 : List AV × AV := ([iA 155], iA 38)
theorem k1_31 : chk tab cfg0 10000 254 e1_31.1 e1_31.2 = true := by kernel_rfl
def e1_32 : List AV × AV := ([iA 153], iA 38)
theorem k1_32 : chk tab cfg0 10000 254 e1_32.1 e1_32.2 = true := by kernel_rfl
def e1_33 : List AV × AV := ([iA 154], iA 38)
theorem k1_33 : chk tab cfg0 10000 254 e1_33.1 e1_33.2 = true := by kernel_rfl
def e1_34 : List AV × AV := ([iA 51], iA 13)
theorem k1_34 : chk tab cfg0 10000 254 e1_34.1 e1_34.2 = true := by kernel_rfl
def e1_35 : List AV × AV := ([iA 26], iA 7)
theorem k1_35 : chk tab cfg0 10000 254 e1_35.1 e1_35.2 = true := by kernel_rfl
def e1_36 : List AV × AV := ([iA 13], iA 4)
theorem k1_36 : chk tab cfg0 10000 254 e1_36.1 e1_36.2 = true := by kernel_rfl
def e1_37 : List AV × AV := ([iA 7], iA 2)
theorem k1_37 : chk tab cfg0 10000 254 e1_37.1 e1_37.2 = true := by kernel_rfl
def e1_38 : List AV × AV := ([iA 4], iA 1)
theorem k1_38 : chk tab cfg0 10000 254 e1_38.1 e1_38.2 = true := by kernel_rfl
def e1_39 : List AV × AV := ([iA 2], iA 1)
theorem k1_39 : chk tab cfg0 10000 254 e1_39.1 e1_39.2 = true := by kernel_rfl
def e1_40 : List AV × AV := ([iA 1], iA 1)
theorem k1_40 : chk tab cfg0 10000 254 e1_40.1 e1_40.2 = true := by kernel_rfl
def e1_41 : List AV × AV := ([iA 0], iA 0)
theorem k1_41 : chk tab cfg0 10000 254 e1_41.1 e1_41.2 = true := by kernel_rfl
def e1_42 : List AV × AV := ([.str [88, 88, 88, 88], iA 0, .bool true], .tuple [iA 0, iA 0])
theorem k1_42 : chk tab cfg0 10000 182 e1_42.1 e1_42.2 = true := by kernel_rfl
def e1_43 : List AV × AV := ([rA 0 0 0 365], iA 0)
theorem k1_43 : chk tab cfg0 10000 19 e1_43.1 e1_43.2 = true := by kernel_rfl
def e1_44 : List AV × AV := ([iA 351], iA 85)
theorem k1_44 : chk tab cfg0 10000 254 e1_44.1 e1_44.2 = true := by kernel_rfl
def e1_45 : List AV × AV := ([iA 376], iA 91)
theorem k1_45 : chk tab cfg0 10000 254 e1_45.1 e1_45.2 = true := by kernel_rfl
def e1_46 : List AV × AV := ([iA 389], iA 95)
theorem k1_46 : chk tab cfg0 10000 254 e1_46.1 e1_46.2 = true := by kernel_rfl
def e1_47 : List AV × AV := ([iA 395], iA 96)
theorem k1_47 : chk tab cfg0 10000 254 e1_47.1 e1_47.2 = true := by kernel_rfl
def e1_48 : List AV × AV := ([iA 398], iA 97)
theorem k1_48 : chk tab cfg0 10000 254 e1_48.1 e1_48.2 = true := by kernel_rfl
def e1_49 : List AV × AV := ([iA 400], iA 97)
theorem k1_49 : chk tab cfg0 10000 254 e1_49.1 e1_49.2 = true := by kernel_rfl
def e1_50 : List AV × AV := ([iA 399], iA 97)
theorem k1_50 : chk tab cfg0 10000 254 e1_50.1 e1_50.2 = true := by kernel_rfl
def e1_51 : List AV × AV := ([iA (-1)], iA 0)
theorem k1_51 : chk tab cfg0 10000 254 e1_51.1 e1_51.2 = true := by kernel_rfl
def e1_52 : List AV × AV := ([iA 326], iA 79)
theorem k1_52 : chk tab cfg0 10000 254 e1_52.1 e1_52.2 = true := by kernel_rfl
def e1_53 : List AV × AV := ([iA 339], iA 82)
theorem k1_53 : chk tab cfg0 10000 254 e1_53.1 e1_53.2 = true := by kernel_rfl
def e1_54 : List AV × AV := ([iA 333], iA 81)
theorem k1_54 : chk tab cfg0 10000 254 e1_54.1 e1_54.2 = true := by kernel_rfl
def e1_55 : List AV × AV := ([iA 336], iA 81)
theorem k1_55 : chk tab cfg0 10000 254 e1_55.1 e1_55.2 = true := by kernel_rfl
def e1_56 : List AV × AV := ([iA 338], iA 82)
theorem k1_56 : chk tab cfg0 10000 254 e1_56.1 e1_56.2 = true := by kernel_rfl
def e1_57 : List AV × AV := ([iA 337], iA 82)
theorem k1_57 : chk tab cfg0 10000 254 e1_57.1 e1_57.2 = true := by kernel_rfl
def e1_58 : List AV × AV := ([iA 2737], iA 664)
theorem k1_58 : chk tab cfg0 10000 254 e1_58.1 e1_58.2 = true := by kernel_rfl
def e1_59 : List AV × AV := ([iA 2738], iA 664)
theorem k1_59 : chk tab cfg0 10000 254 e1_59.1 e1_59.2 = true := by kernel_rfl
def e1_60 : List AV × AV := ([.str [88, 88, 88, 88], iA 2737, .bool true], .tuple [iA 2737, iA 0])
theorem k1_60 : chk tab cfg0 10000 182 e1_60.1 e1_60.2 = true := by kernel_rfl
def e1_61 : List AV × AV := ([rA 0 999669 0 1000033], iA 0)
theorem k1_61 : chk tab cfg0 10000 19 e1_61.1 e1_61.2 = true := by kernel_rfl
def e1_62 : List AV × AV := ([iA 9999], iA 2425)
theorem k1_62 : chk tab cfg0 10000 254 e1_62.1 e1_62.2 = true := by kernel_rfl
def e1_63 : List AV × AV := ([iA 10000], iA 2425)
theorem k1_63 : chk tab cfg0 10000 254 e1_63.1 e1_63.2 = true := by kernel_rfl
def e1_64 : List AV × AV := ([.str [88, 88, 88, 88], iA 9999, .bool true], .tuple [iA 9999, iA 0])
theorem k1_64 : chk tab cfg0 10000 182 e1_64.1 e1_64.2 = true := by kernel_rfl
def e1_65 : List AV × AV := ([rA 0 3652060 0 3652424], iA 0)
theorem k1_65 : chk tab cfg0 10000 19 e1_65.1 e1_65.2 = true := by kernel_rfl
def e1_66 : List AV × AV := ([iA 10001], iA 2426)
theorem k1_66 : chk tab cfg0 10000 254 e1_66.1 e1_66.2 = true := by kernel_rfl
def e1_67 : List AV × AV := ([.str [88, 88, 88, 88], iA 10000], .tuple [iA 0, iA 16])
theorem k1_67 : chk tab cfg0 10000 130 e1_67.1 e1_67.2 = true := by kernel_rfl
def e1_68 : List AV × AV := ([dA [48, 48, 48, 88] 0 0 [49, 88] []], .tuple [iA 0, .bool false])
theorem k1_68 : chk tab cfg0 10000 59 e1_68.1 e1_68.2 = true := by kernel_rfl
def e1_69 : List AV × AV := ([.str [48, 48, 48, 88], .str [88, 48, 49, 50, 51, 52, 53, 54, 55, 56, 57]], .bool true)
theorem k1_69 : chk tab cfg0 10000 176 e1_69.1 e1_69.2 = true := by kernel_rfl
def e1_70 : List AV × AV := ([.str [49, 88], iA 12], .bool true)
theorem k1_70 : chk tab cfg0 10000 91 e1_70.1 e1_70.2 = true := by kernel_rfl
def e1_71 : List AV × AV := ([.str [48, 48, 48, 88]], .tuple [iA 10, iA 0])
theorem k1_71 : chk tab cfg0 10000 162 e1_71.1 e1_71.2 = true := by kernel_rfl
def e1_72 : List AV × AV := ([.str [48, 48, 48, 48], iA 0], .tuple [iA 0, iA 1])
theorem k1_72 : chk tab cfg0 10000 119 e1_72.1 e1_72.2 = true := by kernel_rfl
def e1_73 : List AV × AV := ([.str [48, 48, 48, 57], iA 0], .tuple [iA 9, iA 1])
theorem k1_73 : chk tab cfg0 10000 119 e1_73.1 e1_73.2 = true := by kernel_rfl
def e1_74 : List AV × AV := ([.agg [.bool false, .bool false, .str [48, 48, 48, 88], iA 0, iA 0], iA 0], iA 1)
theorem k1_74 : chk tab cfg0 10000 69 e1_74.1 e1_74.2 = true := by kernel_rfl
def e1_75 : List AV × AV := ([dA [48, 48, 48, 88] 0 0 [49, 88] []], iA 0)
theorem k1_75 : chk tab cfg0 10000 165 e1_75.1 e1_75.2 = true := by kernel_rfl
def e1_76 : List AV × AV := ([.agg [.bool false, .bool false, .str [48, 48, 48, 88], iA 0, iA 0], iA 1], iA 1)
theorem k1_76 : chk tab cfg0 10000 69 e1_76.1 e1_76.2 = true := by kernel_rfl
def e1_77 : List AV × AV := ([.agg [.bool false, .bool false, .str [48, 48, 48, 88], iA 0, iA 0], iA 2], iA 1)
theorem k1_77 : chk tab cfg0 10000 69 e1_77.1 e1_77.2 = true := by kernel_rfl
def e1_78 : List AV × AV := ([.agg [.bool false, .bool false, .str [48, 48, 48, 88], iA 0, iA 0], iA 3], iA 1)
theorem k1_78 : chk tab cfg0 10000 69 e1_78.1 e1_78.2 = true := by kernel_rfl
def e1_79 : List AV × AV := ([.agg [.bool false, .bool false, .str [48, 48, 48, 88], iA 0, iA 0], iA 4], iA 1)
theorem k1_79 : chk tab cfg0 10000 69 e1_79.1 e1_79.2 = true := by kernel_rfl
def e1_80 : List AV × AV := ([.agg [.bool false, .bool false, .str [48, 48, 48, 88], iA 0, iA 0], iA 5], iA 1)
theorem k1_80 : chk tab cfg0 10000 69 e1_80.1 e1_80.2 = true := by kernel_rfl
def e1_81 : List AV × AV := ([.agg [.bool false, .bool false, .str [48, 48, 48, 88], iA 0, iA 0], iA 6], iA 1)
theorem k1_81 : chk tab cfg0 10000 69 e1_81.1 e1_81.2 = true := by kernel_rfl
def e1_82 : List AV × AV := ([.agg [.bool false, .bool false, .str [48, 48, 48, 88], iA 0, iA 0], iA 7], iA 1)
theorem k1_82 : chk tab cfg0 10000 69 e1_82.1 e1_82.2 = true := by kernel_rfl
def e1_83 : List AV × AV := ([.agg [.bool false, .bool false, .str [48, 48, 48, 88], iA 0, iA 0], iA 8], iA 1)
theorem k1_83 : chk tab cfg0 10000 69 e1_83.1 e1_83.2 = true := by kernel_rfl
def e1_84 : List AV × AV := ([.agg [.bool false, .bool false, .str [48, 48, 48, 88], iA 0, iA 0], iA 9], iA 1)
theorem k1_84 : chk tab cfg0 10000 69 e1_84.1 e1_84.2 = true := by kernel_rfl
def e1_85 : List AV × AV := ([iA 0, iA 10, iA 1], iA 274)
theorem k1_85 : chk tab cfg0 10000 74 e1_85.1 e1_85.2 = true := by kernel_rfl
def e1_86 : List AV × AV := ([iA 0, iA 11, iA 1], iA 305)
theorem k1_86 : chk tab cfg0 10000 74 e1_86.1 e1_86.2 = true := by kernel_rfl
def e1_87 : List AV × AV := ([iA 0, iA 12, iA 1], iA 335)
theorem k1_87 : chk tab cfg0 10000 74 e1_87.1 e1_87.2 = true := by kernel_rfl
def e1_88 : List AV × AV := ([iA 1, iA 10, iA 1], iA 639)
theorem k1_88 : chk tab cfg0 10000 74 e1_88.1 e1_88.2 = true := by kernel_rfl
def e1_89 : List AV × AV := ([iA 1, iA 11, iA 1], iA 670)
theorem k1_89 : chk tab cfg0 10000 74 e1_89.1 e1_89.2 = true := by kernel_rfl
def e1_90 : List AV × AV := ([iA 1, iA 12, iA 1], iA 700)
theorem k1_90 : chk tab cfg0 10000 74 e1_90.1 e1_90.2 = true := by kernel_rfl
def e1_91 : List AV × AV := ([iA 2, iA 10, iA 1], iA 1004)
theorem k1_91 : chk tab cfg0 10000 74 e1_91.1 e1_91.2 = true := by kernel_rfl
def e1_92 : List AV × AV := ([iA 2, iA 11, iA 1], iA 1035)
theorem k1_92 : chk tab cfg0 10000 74 e1_92.1 e1_92.2 = true := by kernel_rfl
def e1_93 : List AV × AV := ([iA 2, iA 12, iA 1], iA 1065)
theorem k1_93 : chk tab cfg0 10000 74 e1_93.1 e1_93.2 = true := by kernel_rfl
def e1_94 : List AV × AV := ([iA 3, iA 10, iA 1], iA 1369)
theorem k1_94 : chk tab cfg0 10000 74 e1_94.1 e1_94.2 = true := by kernel_rfl
def e1_95 : List AV × AV := ([iA 3, iA 11, iA 1], iA 1400)
theorem k1_95 : chk tab cfg0 10000 74 e1_95.1 e1_95.2 = true := by kernel_rfl
def e1_96 : List AV × AV := ([iA 3, iA 12, iA 1], iA 1430)
theorem k1_96 : chk tab cfg0 10000 74 e1_96.1 e1_96.2 = true := by kernel_rfl
def e1_97 : List AV × AV := ([iA 4, iA 10, iA 1], iA 1735)
theorem k1_97 : chk tab cfg0 10000 74 e1_97.1 e1_97.2 = true := by kernel_rfl
def e1_98 : List AV × AV := ([iA 4, iA 11, iA 1], iA 1766)
theorem k1_98 : chk tab cfg0 10000 74 e1_98.1 e1_98.2 = true := by kernel_rfl
def e1_99 : List AV × AV := ([iA 4, iA 12, iA 1], iA 1796)
theorem k1_99 : chk tab cfg0 10000 74 e1_99.1 e1_99.2 = true := by kernel_rfl
def e1_100 : List AV × AV := ([iA 5, iA 10, iA 1], iA 2100)
theorem k1_100 : chk tab cfg0 10000 74 e1_100.1 e1_100.2 = true := by kernel_rfl
def e1_101 : List AV × AV := ([iA 5, iA 11, iA 1], iA 2131)
theorem k1_101 : chk tab cfg0 10000 74 e1_101.1 e1_101.2 = true := by kernel_rfl
def e1_102 : List AV × AV := ([iA 5, iA 12, iA 1], iA 2161)
theorem k1_102 : chk tab cfg0 10000 74 e1_102.1 e1_102.2 = true := by kernel_rfl
def e1_103 : List AV × AV := ([iA 6, iA 10, iA 1], iA 2465)
theorem k1_103 : chk tab cfg0 10000 74 e1_103.1 e1_103.2 = true := by kernel_rfl
def e1_104 : List AV × AV := ([iA 6, iA 11, iA 1], iA 2496)
theorem k1_104 : chk tab cfg0 10000 74 e1_104.1 e1_104.2 = true := by kernel_rfl
def e1_105 : List AV × AV := ([iA 6, iA 12, iA 1], iA 2526)
theorem k1_105 : chk tab cfg0 10000 74 e1_105.1 e1_105.2 = true := by kernel_rfl
def e1_106 : List AV × AV := ([iA 7, iA 10, iA 1], iA 2830)
theorem k1_106 : chk tab cfg0 10000 74 e1_106.1 e1_106.2 = true := by kernel_rfl
def e1_107 : List AV × AV := ([iA 7, iA 11, iA 1], iA 2861)
theorem k1_107 : chk tab cfg0 10000 74 e1_107.1 e1_107.2 = true := by kernel_rfl
def e1_108 : List AV × AV := ([iA 7, iA 12, iA 1], iA 2891)
theorem k1_108 : chk tab cfg0 10000 74 e1_108.1 e1_108.2 = true := by kernel_rfl
def e1_109 : List AV × AV := ([iA 8, iA 10, iA 1], iA 3196)
theorem k1_109 : chk tab cfg0 10000 74 e1_109.1 e1_109.2 = true := by kernel_rfl
def e1_110 : List AV × AV := ([iA 8, iA 11, iA 1], iA 3227)
theorem k1_110 : chk tab cfg0 10000 74 e1_110.1 e1_110.2 = true := by kernel_rfl
def e1_111 : List AV × AV := ([iA 8, iA 12, iA 1], iA 3257)
theorem k1_111 : chk tab cfg0 10000 74 e1_111.1 e1_111.2 = true := by kernel_rfl
def e1_112 : List AV × AV := ([iA 9, iA 10, iA 1], iA 3561)
theorem k1_112 : chk tab cfg0 10000 74 e1_112.1 e1_112.2 = true := by kernel_rfl
def e1_113 : List AV × AV := ([iA 9, iA 11, iA 1], iA 3592)
theorem k1_113 : chk tab cfg0 10000 74 e1_113.1 e1_113.2 = true := by kernel_rfl
def e1_114 : List AV × AV := ([iA 9, iA 12, iA 1], iA 3622)
theorem k1_114 : chk tab cfg0 10000 74 e1_114.1 e1_114.2 = true := by kernel_rfl
def e1_115 : List AV × AV := ([.str [48, 48, 48, 88], iA 0, .bool true], .tuple [iA 0, iA 0])
theorem k1_115 : chk tab cfg0 10000 182 e1_115.1 e1_115.2 = true := by kernel_rfl
def e1_116 : List AV × AV := ([rA 0 305 0 334], iA 0)
theorem k1_116 : chk tab cfg0 10000 19 e1_116.1 e1_116.2 = true := by kernel_rfl
def e1_117 : List AV × AV := ([.str [48, 48, 48, 88], iA 2737, .bool true], .tuple [iA 0, iA 16])
theorem k1_117 : chk tab cfg0 10000 182 e1_117.1 e1_117.2 = true := by kernel_rfl
def e1_118 : List AV × AV := ([.str [48, 48, 48, 88], iA 9999, .bool true], .tuple [iA 0, iA 16])
theorem k1_118 : chk tab cfg0 10000 182 e1_118.1 e1_118.2 = true := by kernel_rfl
def e1_119 : List AV × AV := ([.str [48, 48, 48, 88], iA 10000], .tuple [iA 0, iA 16])
theorem k1_119 : chk tab cfg0 10000 130 e1_119.1 e1_119.2 = true := by kernel_rfl
def e1_120 : List AV × AV := ([rA 0 0 1 0], iA 0)
theorem k1_120 : chk tab cfg0 10000 19 e1_120.1 e1_120.2 = true := by kernel_rfl
def e1_121 : List AV × AV := ([rA (-1) 0 0 6], iA 0)
theorem k1_121 : chk tab cfg0 10000 19 e1_121.1 e1_121.2 = true := by kernel_rfl
def e1_122 : List AV × AV := ([rA 0 6 0 6, .int .u8 3], .tuple [iA 6, iA 0])
theorem k1_122 : chk tab cfg0 10000 163 e1_122.1 e1_122.2 = true := by kernel_rfl
def e1_123 : List AV × AV := ([.agg [.int .u8 3, .nilslice, .bool false, .bool false, .str [], iA 0, iA 0, .str [], .str [], .int .u8 0, .int .u8 0, .int .u8 0, .int .u8 3, .int .i8 0, iA 6, .int .i8 0, iA 6]], iA 1)
theorem k1_123 : chk tab cfg0 10000 13 e1_123.1 e1_123.2 = true := by kernel_rfl
def e1_124 : List AV × AV := ([.agg [.int .u8 4, .nilslice, .bool false, .bool false, .str [], iA 0, iA 0, .str [], .str [], .int .u8 0, .int .u8 0, .int .u8 0, .int .u8 0, .int .i8 (-1), iA 0, .int .i8 0, iA 6], iA (-9223372036854775808)], .int .u8 2)
theorem k1_124 : chk tab cfg0 10000 10 e1_124.1 e1_124.2 = true := by kernel_rfl
def e1_125 : List AV × AV := ([.agg [.int .u8 4, .nilslice, .bool false, .bool false, .str [], iA 0, iA 0, .str [], .str [], .int .u8 0, .int .u8 0, .int .u8 0, .int .u8 0, .int .i8 (-1), iA 0, .int .i8 0, iA 6], iA 9223372036854775807], .int .u8 1)
theorem k1_125 : chk tab cfg0 10000 10 e1_125.1 e1_125.2 = true := by kernel_rfl
def e1_126 : List AV × AV := ([.agg [.int .u8 4, .nilslice, .bool false, .bool false, .str [], iA 0, iA 0, .str [], .str [], .int .u8 0, .int .u8 0, .int .u8 0, .int .u8 0, .int .i8 (-1), iA 0, .int .i8 0, iA 6], iA 0], .int .u8 2)
theorem k1_126 : chk tab cfg0 10000 10 e1_126.1 e1_126.2 = true := by kernel_rfl
def e1_127 : List AV × AV := ([.agg [.int .u8 4, .nilslice, .bool false, .bool false, .str [], iA 0, iA 0, .str [], .str [], .int .u8 0, .int .u8 0, .int .u8 0, .int .u8 0, .int .i8 (-1), iA 0, .int .i8 0, iA 6], iA 5], .int .u8 2)
theorem k1_127 : chk tab cfg0 10000 10 e1_127.1 e1_127.2 = true := by kernel_rfl
def e1_128 : List AV × AV := ([.agg [.int .u8 4, .nilslice, .bool false, .bool false, .str [], iA 0, iA 0, .str [], .str [], .int .u8 0, .int .u8 0, .int .u8 0, .int .u8 0, .int .i8 (-1), iA 0, .int .i8 0, iA 6], iA 6], .int .u8 3)
theorem k1_128 : chk tab cfg0 10000 10 e1_128.1 e1_128.2 = true := by kernel_rfl
def e1_129 : List AV × AV := ([.agg [.int .u8 4, .nilslice, .bool false, .bool false, .str [], iA 0, iA 0, .str [], .str [], .int .u8 0, .int .u8 0, .int .u8 0, .int .u8 0, .int .i8 (-1), iA 0, .int .i8 0, iA 6], iA 7], .int .u8 1)
theorem k1_129 : chk tab cfg0 10000 10 e1_129.1 e1_129.2 = true := by kernel_rfl
def e1_130 : List AV × AV := ([.agg [.int .u8 4, .nilslice, .bool false, .bool false, .str [], iA 0, iA 0, .str [], .str [], .int .u8 0, .int .u8 0, .int .u8 0, .int .u8 0, .int .i8 (-1), iA 0, .int .i8 0, iA 6], iA (-1)], .int .u8 2)
theorem k1_130 : chk tab cfg0 10000 10 e1_130.1 e1_130.2 = true := by kernel_rfl
def e1_131 : List AV × AV := ([.agg [.int .u8 4, .nilslice, .bool false, .bool false, .str [], iA 0, iA 0, .str [], .str [], .int .u8 0, .int .u8 0, .int .u8 0, .int .u8 0, .int .i8 (-1), iA 0, .int .i8 0, iA 6], iA 305], .int .u8 1)
theorem k1_131 : chk tab cfg0 10000 10 e1_131.1 e1_131.2 = true := by kernel_rfl
def e1_132 : List AV × AV := ([.agg [.int .u8 4, .nilslice, .bool false, .bool false, .str [], iA 0, iA 0, .str [], .str [], .int .u8 0, .int .u8 0, .int .u8 0, .int .u8 0, .int .i8 (-1), iA 0, .int .i8 0, iA 6], iA 1000000], .int .u8 1)
theorem k1_132 : chk tab cfg0 10000 10 e1_132.1 e1_132.2 = true := by kernel_rfl
def e1_133 : List AV × AV := ([.agg [.int .u8 4, .nilslice, .bool false, .bool false, .str [], iA 0, iA 0, .str [], .str [], .int .u8 0, .int .u8 0, .int .u8 0, .int .u8 0, .int .i8 (-1), iA 0, .int .i8 0, iA 6], iA 3652424], .int .u8 1)
theorem k1_133 : chk tab cfg0 10000 10 e1_133.1 e1_133.2 = true := by kernel_rfl
def e1_134 : List AV × AV := ([.agg [.int .u8 4, .nilslice, .bool false, .bool false, .str [], iA 0, iA 0, .str [], .str [], .int .u8 0, .int .u8 0, .int .u8 0, .int .u8 0, .int .i8 (-1), iA 0, .int .i8 0, iA 6], iA 3652425], .int .u8 1)
theorem k1_134 : chk tab cfg0 10000 10 e1_134.1 e1_134.2 = true := by kernel_rfl
def e1_135 : List AV × AV := ([rA 0 6 1 0], iA 0)
theorem k1_135 : chk tab cfg0 10000 19 e1_135.1 e1_135.2 = true := by kernel_rfl
def e1_136 : List AV × AV := ([.agg [.int .u8 5, .nilslice, .bool false, .bool false, .str [], iA 0, iA 0, .str [], .str [], .int .u8 0, .int .u8 0, .int .u8 0, .int .u8 0, .int .i8 0, iA 6, .int .i8 1, iA 0], iA (-9223372036854775808)], .int .u8 1)
theorem k1_136 : chk tab cfg0 10000 10 e1_136.1 e1_136.2 = true := by kernel_rfl
def e1_137 : List AV × AV := ([.agg [.int .u8 5, .nilslice, .bool false, .bool false, .str [], iA 0, iA 0, .str [], .str [], .int .u8 0, .int .u8 0, .int .u8 0, .int .u8 0, .int .i8 0, iA 6, .int .i8 1, iA 0], iA 9223372036854775807], .int .u8 2)
theorem k1_137 : chk tab cfg0 10000 10 e1_137.1 e1_137.2 = true := by kernel_rfl
def e1_138 : List AV × AV := ([.agg [.int .u8 5, .nilslice, .bool false, .bool false, .str [], iA 0, iA 0, .str [], .str [], .int .u8 0, .int .u8 0, .int .u8 0, .int .u8 0, .int .i8 0, iA 6, .int .i8 1, iA 0], iA 0], .int .u8 1)
theorem k1_138 : chk tab cfg0 10000 10 e1_138.1 e1_138.2 = true := by kernel_rfl
def e1_139 : List AV × AV := ([.agg [.int .u8 5, .nilslice, .bool false, .bool false, .str [], iA 0, iA 0, .str [], .str [], .int .u8 0, .int .u8 0, .int .u8 0, .int .u8 0, .int .i8 0, iA 6, .int .i8 1, iA 0], iA 5], .int .u8 1)
theorem k1_139 : chk tab cfg0 10000 10 e1_139.1 e1_139.2 = true := by kernel_rfl
def e1_140 : List AV × AV := ([.agg [.int .u8 5, .nilslice, .bool false, .bool false, .str [], iA 0, iA 0, .str [], .str [], .int .u8 0, .int .u8 0, .int .u8 0, .int .u8 0, .int .i8 0, iA 6, .int .i8 1, iA 0], iA 6], .int .u8 3)
theorem k1_140 : chk tab cfg0 10000 10 e1_140.1 e1_140.2 = true := by kernel_rfl
def e1_141 : List AV × AV := ([.agg [.int .u8 5, .nilslice, .bool false, .bool false, .str [], iA 0, iA 0, .str [], .str [], .int .u8 0, .int .u8 0, .int .u8 0, .int .u8 0, .int .i8 0, iA 6, .int .i8 1, iA 0], iA 7], .int .u8 2)
theorem k1_141 : chk tab cfg0 10000 10 e1_141.1 e1_141.2 = true := by kernel_rfl
def e1_142 : List AV × AV := ([.agg [.int .u8 5, .nilslice, .bool false, .bool false, .str [], iA 0, iA 0, .str [], .str [], .int .u8 0, .int .u8 0, .int .u8 0, .int .u8 0, .int .i8 0, iA 6, .int .i8 1, iA 0], iA (-1)], .int .u8 1)
theorem k1_142 : chk tab cfg0 10000 10 e1_142.1 e1_142.2 = true := by kernel_rfl
def e1_143 : List AV × AV := ([.agg [.int .u8 5, .nilslice, .bool false, .bool false, .str [], iA 0, iA 0, .str [], .str [], .int .u8 0, .int .u8 0, .int .u8 0, .int .u8 0, .int .i8 0, iA 6, .int .i8 1, iA 0], iA 305], .int .u8 2)
theorem k1_143 : chk tab cfg0 10000 10 e1_143.1 e1_143.2 = true := by kernel_rfl
def e1_144 : List AV × AV := ([.agg [.int .u8 5, .nilslice, .bool false, .bool false, .str [], iA 0, iA 0, .str [], .str [], .int .u8 0, .int .u8 0, .int .u8 0, .int .u8 0, .int .i8 0, iA 6, .int .i8 1, iA 0], iA 1000000], .int .u8 2)
theorem k1_144 : chk tab cfg0 10000 10 e1_144.1 e1_144.2 = true := by kernel_rfl
def e1_145 : List AV × AV := ([.agg [.int .u8 5, .nilslice, .bool false, .bool false, .str [], iA 0, iA 0, .str [], .str [], .int .u8 0, .int .u8 0, .int .u8 0, .int .u8 0, .int .i8 0, iA 6, .int .i8 1, iA 0], iA 3652424], .int .u8 2)
theorem k1_145 : chk tab cfg0 10000 10 e1_145.1 e1_145.2 = true := by kernel_rfl
def e1_146 : List AV × AV := ([.agg [.int .u8 5, .nilslice, .bool false, .bool false, .str [], iA 0, iA 0, .str [], .str [], .int .u8 0, .int .u8 0, .int .u8 0, .int .u8 0, .int .i8 0, iA 6, .int .i8 1, iA 0], iA 3652425], .int .u8 2)
theorem k1_146 : chk tab cfg0 10000 10 e1_146.1 e1_146.2 = true := by kernel_rfl
def e1_147 : List AV × AV := ([rA 0 (-9223372036854775808) 1 0], iA 0)
theorem k1_147 : chk tab cfg0 10000 19 e1_147.1 e1_147.2 = true := by kernel_rfl
def e1_148 : List AV × AV := ([.agg [.int .u8 5, .nilslice, .bool false, .bool false, .str [], iA 0, iA 0, .str [], .str [], .int .u8 0, .int .u8 0, .int .u8 0, .int .u8 0, .int .i8 0, iA (-9223372036854775808), .int .i8 1, iA 0], iA (-9223372036854775808)], .int .u8 3)
theorem k1_148 : chk tab cfg0 10000 10 e1_148.1 e1_148.2 = true := by kernel_rfl
def e1_149 : List AV × AV := ([.agg [.int .u8 5, .nilslice, .bool false, .bool false, .str [], iA 0, iA 0, .str [], .str [], .int .u8 0, .int .u8 0, .int .u8 0, .int .u8 0, .int .i8 0, iA (-9223372036854775808), .int .i8 1, iA 0], iA 9223372036854775807], .int .u8 2)
theorem k1_149 : chk tab cfg0 10000 10 e1_149.1 e1_149.2 = true := by kernel_rfl
def e1_150 : List AV × AV := ([.agg [.int .u8 5, .nilslice, .bool false, .bool false, .str [], iA 0, iA 0, .str [], .str [], .int .u8 0, .int .u8 0, .int .u8 0, .int .u8 0, .int .i8 0, iA (-9223372036854775808), .int .i8 1, iA 0], iA 0], .int .u8 2)
theorem k1_150 : chk tab cfg0 10000 10 e1_150.1 e1_150.2 = true := by kernel_rfl
def e1_151 : List AV × AV := ([.agg [.int .u8 5, .nilslice, .bool false, .bool false, .str [], iA 0, iA 0, .str [], .str [], .int .u8 0, .int .u8 0, .int .u8 0, .int .u8 0, .int .i8 0, iA (-9223372036854775808), .int .i8 1, iA 0], iA 5], .int .u8 2)
theorem k1_151 : chk tab cfg0 10000 10 e1_151.1 e1_151.2 = true := by kernel_rfl
def e1_152 : List AV × AV := ([.agg [.int .u8 5, .nilslice, .bool false, .bool false, .str [], iA 0, iA 0, .str [], .str [], .int .u8 0, .int .u8 0, .int .u8 0, .int .u8 0, .int .i8 0, iA (-9223372036854775808), .int .i8 1, iA 0], iA 6], .int .u8 2)
theorem k1_152 : chk tab cfg0 10000 10 e1_152.1 e1_152.2 = true := by kernel_rfl
def e1_153 : List AV × AV := ([.agg [.int .u8 5, .nilslice, .bool false, .bool false, .str [], iA 0, iA 0, .str [], .str [], .int .u8 0, .int .u8 0, .int .u8 0, .int .u8 0, .int .i8 0, iA (-9223372036854775808), .int .i8 1, iA 0], iA 7], .int .u8 2)
theorem k1_153 : chk tab cfg0 10000 10 e1_153.1 e1_153.2 = true := by kernel_rfl
def e1_154 : List AV × AV := ([.agg [.int .u8 5, .nilslice, .bool false, .bool false, .str [], iA 0, iA 0, .str [], .str [], .int .u8 0, .int .u8 0, .int .u8 0, .int .u8 0, .int .i8 0, iA (-9223372036854775808), .int .i8 1, iA 0], iA (-1)], .int .u8 2)
theorem k1_154 : chk tab cfg0 10000 10 e1_154.1 e1_154.2 = true := by kernel_rfl
def e1_155 : List AV × AV := ([.agg [.int .u8 5, .nilslice, .bool false, .bool false, .str [], iA 0, iA 0, .str [], .str [], .int .u8 0, .int .u8 0, .int .u8 0, .int .u8 0, .int .i8 0, iA (-9223372036854775808), .int .i8 1, iA 0], iA 305], .int .u8 2)
theorem k1_155 : chk tab cfg0 10000 10 e1_155.1 e1_155.2 = true := by kernel_rfl
def e1_156 : List AV × AV := ([.agg [.int .u8 5, .nilslice, .bool false, .bool false, .str [], iA 0, iA 0, .str [], .str [], .int .u8 0, .int .u8 0, .int .u8 0, .int .u8 0, .int .i8 0, iA (-9223372036854775808), .int .i8 1, iA 0], iA 1000000], .int .u8 2)
theorem k1_156 : chk tab cfg0 10000 10 e1_156.1 e1_156.2 = true := by kernel_rfl
def e1_157 : List AV × AV := ([.agg [.int .u8 5, .nilslice, .bool false, .bool false, .str [], iA 0, iA 0, .str [], .str [], .int .u8 0, .int .u8 0, .int .u8 0, .int .u8 0, .int .i8 0, iA (-9223372036854775808), .int .i8 1, iA 0], iA 3652424], .int .u8 2)
theorem k1_157 : chk tab cfg0 10000 10 e1_157.1 e1_157.2 = true := by kernel_rfl
def e1_158 : List AV × AV := ([.agg [.int .u8 5, .nilslice, .bool false, .bool false, .str [], iA 0, iA 0, .str [], .str [], .int .u8 0, .int .u8 0, .int .u8 0, .int .u8 0, .int .i8 0, iA (-9223372036854775808), .int .i8 1, iA 0], iA 3652425], .int .u8 2)
theorem k1_158 : chk tab cfg0 10000 10 e1_158.1 e1_158.2 = true := by kernel_rfl
def e1_159 : List AV × AV := ([.str [48, 48, 48, 48], .str [88, 48, 49, 50, 51, 52, 53, 54, 55, 56, 57]], .bool true)
theorem k1_159 : chk tab cfg0 10000 176 e1_159.1 e1_159.2 = true := by kernel_rfl
def e1_160 : List AV × AV := ([iA 0, iA 1], .tuple [iA 0, iA 0])
theorem k1_160 : chk tab cfg0 10000 184 e1_160.1 e1_160.2 = true := by kernel_rfl
def e1_161 : List AV × AV := ([dA [48, 48, 48, 48] 0 0 [48, 50] []], .tuple [iA 0, .bool false])
theorem k1_161 : chk tab cfg0 10000 59 e1_161.1 e1_161.2 = true := by kernel_rfl
def e1_162 : List AV × AV := ([rA 0 31 0 31], iA 0)
theorem k1_162 : chk tab cfg0 10000 19 e1_162.1 e1_162.2 = true := by kernel_rfl
def e1_163 : List AV × AV := ([rA 0 31 0 59], iA 0)
theorem k1_163 : chk tab cfg0 10000 19 e1_163.1 e1_163.2 = true := by kernel_rfl
def e1_164 : List AV × AV := ([rA 0 60 0 60], iA 0)
theorem k1_164 : chk tab cfg0 10000 19 e1_164.1 e1_164.2 = true := by kernel_rfl
def e1_165 : List AV × AV := ([dA [48, 48, 48, 48] 0 0 [48, 88] []], .tuple [iA 0, .bool false])
theorem k1_165 : chk tab cfg0 10000 59 e1_165.1 e1_165.2 = true := by kernel_rfl
def e1_166 : List AV × AV := ([rA 0 59 0 59], iA 0)
theorem k1_166 : chk tab cfg0 10000 19 e1_166.1 e1_166.2 = true := by kernel_rfl
def e1_167 : List AV × AV := ([.agg [.int .u8 5, .nilslice, .bool false, .bool false, .str [], iA 0, iA 0, .str [], .str [], .int .u8 0, .int .u8 0, .int .u8 0, .int .u8 0, .int .i8 0, iA 0, .int .i8 1, iA 0], iA 0], .int .u8 3)
theorem k1_167 : chk tab cfg0 10000 10 e1_167.1 e1_167.2 = true := by kernel_rfl
def e1_168 : List AV × AV := ([.agg [.int .u8 5, .nilslice, .bool false, .bool false, .str [], iA 0, iA 0, .str [], .str [], .int .u8 0, .int .u8 0, .int .u8 0, .int .u8 0, .int .i8 0, iA 0, .int .i8 1, iA 0], iA 1], .int .u8 2)
theorem k1_168 : chk tab cfg0 10000 10 e1_168.1 e1_168.2 = true := by kernel_rfl
def e1_169 : List AV × AV := ([.agg [.int .u8 5, .nilslice, .bool false, .bool false, .str [], iA 0, iA 0, .str [], .str [], .int .u8 0, .int .u8 0, .int .u8 0, .int .u8 0, .int .i8 0, iA 0, .int .i8 1, iA 0], iA (-1)], .int .u8 1)
theorem k1_169 : chk tab cfg0 10000 10 e1_169.1 e1_169.2 = true := by kernel_rfl
def e1_170 : List AV × AV := ([dA [48, 48, 48, 48] 0 0 [48, 49] []], .tuple [iA 0, .bool false])
theorem k1_170 : chk tab cfg0 10000 59 e1_170.1 e1_170.2 = true := by kernel_rfl
def e1_171 : List AV × AV := ([.agg [.int .u8 4, .nilslice, .bool false, .bool false, .str [], iA 0, iA 0, .str [], .str [], .int .u8 0, .int .u8 0, .int .u8 0, .int .u8 0, .int .i8 (-1), iA 0, .int .i8 0, iA 30], iA 30], .int .u8 3)
theorem k1_171 : chk tab cfg0 10000 10 e1_171.1 e1_171.2 = true := by kernel_rfl
def e1_172 : List AV × AV := ([rA 0 40 0 40], iA 0)
theorem k1_172 : chk tab cfg0 10000 19 e1_172.1 e1_172.2 = true := by kernel_rfl
def e1_173 : List AV × AV := ([dA [48, 48, 48, 48] 0 0 [] []], .int .u8 1)
theorem k1_173 : chk tab cfg0 10000 218 e1_173.1 e1_173.2 = true := by kernel_rfl
def e1_174 : List AV × AV := ([rA (-1) 0 0 365], iA 0)
theorem k1_174 : chk tab cfg0 10000 19 e1_174.1 e1_174.2 = true := by kernel_rfl
def e1_175 : List AV × AV := ([dA [48, 48, 48, 48] 0 0 [48, 51] []], .tuple [iA 0, .bool false])
theorem k1_175 : chk tab cfg0 10000 59 e1_175.1 e1_175.2 = true := by kernel_rfl
def e1_176 : List AV × AV := ([.str [48, 51], iA 12], .bool true)
theorem k1_176 : chk tab cfg0 10000 91 e1_176.1 e1_176.2 = true := by kernel_rfl
def e1_177 : List AV × AV := ([rA 0 0 0 30], iA 0)
theorem k1_177 : chk tab cfg0 10000 19 e1_177.1 e1_177.2 = true := by kernel_rfl
def e1_178 : List AV × AV := ([rA 0 60 0 90], iA 0)
theorem k1_178 : chk tab cfg0 10000 19 e1_178.1 e1_178.2 = true := by kernel_rfl
def e1_179 : List AV × AV := ([rA 0 60 0 90, rA 0 0 0 30], iA 1)
theorem k1_179 : chk tab cfg0 10000 45 e1_179.1 e1_179.2 = true := by kernel_rfl
def e1_180 : List AV × AV := ([rA 0 30 0 30], iA 0)
theorem k1_180 : chk tab cfg0 10000 19 e1_180.1 e1_180.2 = true := by kernel_rfl
noncomputable def memo1 : Memo := (.node none (.node none (.node none (.node none .nil (.node none .nil (.node none .nil (.node (some [e1_72, e1_73]) .nil .nil)))) (.node none (.node (some [e1_0, e1_1, e1_2, e1_3, e1_4, e1_5, e1_6, e1_7, e1_8, e1_9, e1_10, e1_11, e1_12, e1_13, e1_43, e1_61, e1_65, e1_116, e1_120, e1_121, e1_135, e1_147, e1_162, e1_163, e1_164, e1_166, e1_172, e1_174, e1_177, e1_178, e1_180]) (.node none .nil (.node none (.node (some [e1_122]) .nil .nil) .nil)) .nil) (.node none .nil (.node (some [e1_68, e1_161, e1_165, e1_170, e1_175]) (.node (some [e1_70, e1_176]) .nil .nil) .nil)))) (.node none .nil (.node (some [e1_123]) (.node none (.node none (.node (some [e1_74, e1_76, e1_77, e1_78, e1_79, e1_80, e1_81, e1_82, e1_83, e1_84]) .nil .nil) (.node none (.node (some [e1_75]) .nil .nil) .nil)) .nil) (.node none (.node (some [e1_14, e1_179]) .nil .nil) .nil)))) (.node none (.node none (.node none (.node none .nil (.node none .nil (.node none (.node (some [e1_15, e1_69, e1_159]) .nil .nil) .nil))) (.node none .nil (.node none .nil (.node none (.node (some [e1_160]) .nil .nil) .nil)))) .nil) (.node none (.node (some [e1_124, e1_125, e1_126, e1_127, e1_128, e1_129, e1_130, e1_131, e1_132, e1_133, e1_134, e1_136, e1_137, e1_138, e1_139, e1_140, e1_141, e1_142, e1_143, e1_144, e1_145, e1_146, e1_148, e1_149, e1_150, e1_151, e1_152, e1_153, e1_154, e1_155, e1_156, e1_157, e1_158, e1_167, e1_168, e1_169, e1_171]) (.node none (.node none (.node none (.node (some [e1_67, e1_119]) .nil .nil) .nil) (.node none (.node (some [e1_25, e1_71]) .nil .nil) .nil)) .nil) (.node none (.node none (.node (some [e1_85, e1_86, e1_87, e1_88, e1_89, e1_90, e1_91, e1_92, e1_93, e1_94, e1_95, e1_96, e1_97, e1_98, e1_99, e1_100, e1_101, e1_102, e1_103, e1_104, e1_105, e1_106, e1_107, e1_108, e1_109, e1_110, e1_111, e1_112, e1_113, e1_114]) .nil .nil) .nil) (.node none (.node none .nil (.node (some [e1_173]) .nil .nil)) .nil))) (.node none (.node none .nil (.node none .nil (.node none (.node (some [e1_42, e1_60, e1_64, e1_115, e1_117, e1_118]) .nil .nil) .nil))) (.node none .nil (.node none .nil (.node none .nil (.node (some [e1_16, e1_17, e1_18, e1_19, e1_20, e1_21, e1_22, e1_23, e1_24, e1_26, e1_27, e1_28, e1_29, e1_30, e1_31, e1_32, e1_33, e1_34, e1_35, e1_36, e1_37, e1_38, e1_39, e1_40, e1_41, e1_44, e1_45, e1_46, e1_47, e1_48, e1_49, e1_50, e1_51, e1_52, e1_53, e1_54, e1_55, e1_56, e1_57, e1_58, e1_59, e1_62, e1_63, e1_66]) .nil .nil))))))))
noncomputable def cfg1 : Cfg := cfgM cfg0 memo1
theorem memo1_ok (g : Good Tryz.prog tab cfg0) : TbAll (fun f l => ∀ e ∈ l, Fact Tryz.prog cfg0 f e.1 e.2) (fun i => i) memo1 := ⟨none_all, ⟨none_all, ⟨none_all, ⟨none_all, trivial, ⟨none_all, trivial, ⟨none_all, trivial, ⟨(some_all (fact_cons (g.fact 10000 k1_72) (fact_cons (g.fact 10000 k1_73) fact_nil))), trivial, trivial⟩⟩⟩⟩, ⟨none_all, ⟨(some_all (fact_cons (g.fact 10000 k1_0) (fact_cons (g.fact 10000 k1_1) (fact_cons (g.fact 10000 k1_2) (fact_cons (g.fact 10000 k1_3) (fact_cons (g.fact 10000 k1_4) (fact_cons (g.fact 10000 k1_5) (fact_cons (g.fact 10000 k1_6) (fact_cons (g.fact 10000 k1_7) (fact_cons (g.fact 10000 k1_8) (fact_cons (g.fact 10000 k1_9) (fact_cons (g.fact 10000 k1_10) (fact_cons (g.fact 10000 k1_11) (fact_cons (g.fact 10000 k1_12) (fact_cons (g.fact 10000 k1_13) (fact_cons (g.fact 10000 k1_43) (fact_cons (g.fact 10000 k1_61) (fact_cons (g.fact 10000 k1_65) (fact_cons (g.fact 10000 k1_116) (fact_cons (g.fact 10000 k1_120) (fact_cons (g.fact 10000 k1_121) (fact_cons (g.fact 10000 k1_135) (fact_cons (g.fact 10000 k1_147) (fact_cons (g.fact 10000 k1_162) (fact_cons (g.fact 10000 k1_163) (fact_cons (g.fact 10000 k1_164) (fact_cons (g.fact 10000 k1_166) (fact_cons (g.fact 10000 k1_172) (fact_cons (g.fact 10000 k1_174) (fact_cons (g.fact 10000 k1_177) (fact_cons (g.fact 10000 k1_178) (fact_cons (g.fact 10000 k1_180) fact_nil)))))))))))))))))))))))))))))))), ⟨none_all, trivial, ⟨none_all, ⟨(some_all (fact_cons (g.fact 10000 k1_122) fact_nil)), trivial, trivial⟩, trivial⟩⟩, trivial⟩, ⟨none_all, trivial, ⟨(some_all (fact_cons (g.fact 10000 k1_68) (fact_cons (g.fact 10000 k1_161) (fact_cons (g.fact 10000 k1_165) (fact_cons (g.fact 10000 k1_170) (fact_cons (g.fact 10000 k1_175) fact_nil)))))), ⟨(some_all (fact_cons (g.fact 10000 k1_70) (fact_cons (g.fact 10000 k1_176) fact_nil))), trivial, trivial⟩, trivial⟩⟩⟩⟩, ⟨none_all, trivial, ⟨(some_all (fact_cons (g.fact 10000 k1_123) fact_nil)), ⟨none_all, ⟨none_all, ⟨(some_all (fact_cons (g.fact 10000 k1_74) (fact_cons (g.fact 10000 k1_76) (fact_cons (g.fact 10000 k1_77) (fact_cons (g.fact 10000 k1_78) (fact_cons (g.fact 10000 k1_79) (fact_cons (g.fact 10000 k1_80) (fact_cons (g.fact 10000 k1_81) (fact_cons (g.fact 10000 k1_82) (fact_cons (g.fact 10000 k1_83) (fact_cons (g.fact 10000 k1_84) fact_nil))))))))))), trivial, trivial⟩, ⟨none_all, ⟨(some_all (fact_cons (g.fact 10000 k1_75) fact_nil)), trivial, trivial⟩, trivial⟩⟩, trivial⟩, ⟨none_all, ⟨(some_all (fact_cons (g.fact 10000 k1_14) (fact_cons (g.fact 10000 k1_179) fact_nil))), trivial, trivial⟩, trivial⟩⟩⟩⟩, ⟨none_all, ⟨none_all, ⟨none_all, ⟨none_all, trivial, ⟨none_all, trivial, ⟨none_all, ⟨(some_all (fact_cons (g.fact 10000 k1_15) (fact_cons (g.fact 10000 k1_69) (fact_cons (g.fact 10000 k1_159) fact_nil)))), trivial, trivial⟩, trivial⟩⟩⟩, ⟨none_all, trivial, ⟨none_all, trivial, ⟨none_all, ⟨(some_all (fact_cons (g.fact 10000 k1_160) fact_nil)), trivial, trivial⟩, trivial⟩⟩⟩⟩, trivial⟩, ⟨none_all, ⟨(some_all (fact_cons (g.fact 10000 k1_124) (fact_cons (g.fact 10000 k1_125) (fact_cons (g.fact 10000 k1_126) (fact_cons (g.fact 10000 k1_127) (fact_cons (g.fact 10000 k1_128) (fact_cons (g.fact 10000 k1_129) (fact_cons (g.fact 10000 k1_130) (fact_cons (g.fact 10000 k1_131) (fact_cons (g.fact 10000 k1_132) (fact_cons (g.fact 10000 k1_133) (fact_cons (g.fact 10000 k1_134) (fact_cons (g.fact 10000 k1_136) (fact_cons (g.fact 10000 k1_137) (fact_cons (g.fact 10000 k1_138) (fact_cons (g.fact 10000 k1_139) (fact_cons (g.fact 10000 k1_140) (fact_cons (g.fact 10000 k1_141) (fact_cons (g.fact 10000 k1_142) (fact_cons (g.fact 10000 k1_143) (fact_cons (g.fact 10000 k1_144) (fact_cons (g.fact 10000 k1_145) (fact_cons (g.fact 10000 k1_146) (fact_cons (g.fact 10000 k1_148) (fact_cons (g.fact 10000 k1_149) (fact_cons (g.fact 10000 k1_150) (fact_cons (g.fact 10000 k1_151) (fact_cons (g.fact 10000 k1_152) (fact_cons (g.fact 10000 k1_153) (fact_cons (g.fact 10000 k1_154) (fact_cons (g.fact 10000 k1_155) (fact_cons (g.fact 10000 k1_156) (fact_cons (g.fact 10000 k1_157) (fact_cons (g.fact 10000 k1_158) (fact_cons (g.fact 10000 k1_167) (fact_cons (g.fact 10000 k1_168) (fact_cons (g.fact 10000 k1_169) (fact_cons (g.fact 10000 k1_171) fact_nil)))))))))))))))))))))))))))))))))))))), ⟨none_all, ⟨none_all, ⟨none_all, ⟨(some_all (fact_cons (g.fact 10000 k1_67) (fact_cons (g.fact 10000 k1_119) fact_nil))), trivial, trivial⟩, trivial⟩, ⟨none_all, ⟨(some_all (fact_cons (g.fact 10000 k1_25) (fact_cons (g.fact 10000 k1_71) fact_nil))), trivial, trivial⟩, trivial⟩⟩, trivial⟩, ⟨none_all, ⟨none_all, ⟨(some_all (fact_cons (g.fact 10000 k1_85) (fact_cons (g.fact 10000 k1_86) (fact_cons (g.fact 10000 k1_87) (fact_cons (g.fact 10000 k1_88) (fact_cons (g.fact 10000 k1_89) (fact_cons (g.fact 10000 k1_90) (fact_cons (g.fact 10000 k1_91) (fact_cons (g.fact 10000 k1_92) (fact_cons (g.fact 10000 k1_93) (fact_cons (g.fact 10000 k1_94) (fact_cons (g.fact 10000 k1_95) (fact_cons (g.fact 10000 k1_96) (fact_cons (g.fact 10000 k1_97) (fact_cons (g.fact 10000 k1_98) (fact_cons (g.fact 10000 k1_99) (fact_cons (g.fact 10000 k1_100) (fact_cons (g.fact 10000 k1_101) (fact_cons (g.fact 10000 k1_102) (fact_cons (g.fact 10000 k1_103) (fact_cons (g.fact 10000 k1_104) (fact_cons (g.fact 10000 k1_105) (fact_cons (g.fact 10000 k1_106) (fact_cons (g.fact 10000 k1_107) (fact_cons (g.fact 10000 k1_108) (fact_cons (g.fact 10000 k1_109) (fact_cons (g.fact 10000 k1_110) (fact_cons (g.fact 10000 k1_111) (fact_cons (g.fact 10000 k1_112) (fact_cons (g.fact 10000 k1_113) (fact_cons (g.fact 10000 k1_114) fact_nil))))))))))))))))))))))))))))))), trivial, trivial⟩, trivial⟩, ⟨none_all, ⟨none_all, trivial, ⟨(some_all (fact_cons (g.fact 10000 k1_173) fact_nil)), trivial, trivial⟩⟩, trivial⟩⟩⟩, ⟨none_all, ⟨none_all, trivial, ⟨none_all, trivial, ⟨none_all, ⟨(some_all (fact_cons (g.fact 10000 k1_42) (fact_cons (g.fact 10000 k1_60) (fact_cons (g.fact 10000 k1_64) (fact_cons (g.fact 10000 k1_115) (fact_cons (g.fact 10000 k1_117) (fact_cons (g.fact 10000 k1_118) fact_nil))))))), trivial, trivial⟩, trivial⟩⟩⟩, ⟨none_all, trivial, ⟨none_all, trivial, ⟨none_all, trivial, ⟨(some_all (fact_cons (g.fact 10000 k1_16) (fact_cons (g.fact 10000 k1_17) (fact_cons (g.fact 10000 k1_18) (fact_cons (g.fact 10000 k1_19) (fact_cons (g.fact 10000 k1_20) (fact_cons (g.fact 10000 k1_21) (fact_cons (g.fact 10000 k1_22) (fact_cons (g.fact 10000 k1_23) (fact_cons (g.fact 10000 k1_24) (fact_cons (g.fact 10000 k1_26) (fact_cons (g.fact 10000 k1_27) (fact_cons (g.fact 10000 k1_28) (fact_cons (g.fact 10000 k1_29) (fact_cons (g.fact 10000 k1_30) (fact_cons (g.fact 10000 k1_31) (fact_cons (g.fact 10000 k1_32) (fact_cons (g.fact 10000 k1_33) (fact_cons (g.fact 10000 k1_34) (fact_cons (g.fact 10000 k1_35) (fact_cons (g.fact 10000 k1_36) (fact_cons (g.fact 10000 k1_37) (fact_cons (g.fact 10000 k1_38) (fact_cons (g.fact 10000 k1_39) (fact_cons (g.fact 10000 k1_40) (fact_cons (g.fact 10000 k1_41) (fact_cons (g.fact 10000 k1_44) (fact_cons (g.fact 10000 k1_45) (fact_cons (g.fact 10000 k1_46) (fact_cons (g.fact 10000 k1_47) (fact_cons (g.fact 10000 k1_48) (fact_cons (g.fact 10000 k1_49) (fact_cons (g.fact 10000 k1_50) (fact_cons (g.fact 10000 k1_51) (fact_cons (g.fact 10000 k1_52) (fact_cons (g.fact 10000 k1_53) (fact_cons (g.fact 10000 k1_54) (fact_cons (g.fact 10000 k1_55) (fact_cons (g.fact 10000 k1_56) (fact_cons (g.fact 10000 k1_57) (fact_cons (g.fact 10000 k1_58) (fact_cons (g.fact 10000 k1_59) (fact_cons (g.fact 10000 k1_62) (fact_cons (g.fact 10000 k1_63) (fact_cons (g.fact 10000 k1_66) fact_nil))))))))))))))))))))))))))))))))))))))))))))), trivial, trivial⟩⟩⟩⟩⟩⟩⟩⟩
theorem good1 (g : Good Tryz.prog tab cfg0) : Good Tryz.prog tab cfg1 := g.memo fun f l h => (memo1_ok g).get f l h
end Go.Ev
