/- CALLS SHOWN ONCE BY THE KERNEL, kept as tables, part 2. MADE BY PROGRAM (genmemo.py). -/
import Derived.Test.YtjofohhnkdbfbaaGreatDoorBiM0x1
import Derived.KernelRfl
set_option linter.unusedVariables false
set_option maxRecDepth 100000
namespace Go.Proofs.YtjofohhnkdbfbaaGreatDoor
open Go Go.BI
attribute [local irreducible] NextOk NatAt
noncomputable def e311 : List V × V := ([.agg [.int .i64 (0), .int .i64 (17), .bool true, .slice true 0 [], .slice false 5 [.agg [.int .i64 (0), .int .i64 (16), .bool true, .slice true 0 [], .slice false 5 [.agg [.int .i64 (0), .int .i64 (6), .bool false, (gu8 [42, 134, 72, 134, 247, 13, 1, 9, 4]), .slice true 0 []], .agg [.int .i64 (0), .int .i64 (17), .bool true, .slice true 0 [], .slice false 5 [.agg [.int .i64 (0), .int .i64 (4), .bool false, (gu8 [0, 0, 0, 0, 0, 0, 0, 0, 0, 0, 0, 0, 0, 0, 0, 0, 0, 0, 0, 0, 0, 0, 0, 0, 0, 0, 0, 0, 0, 0, 0, 0, 0, 0, 0, 0, 0, 0, 0, 0, 0, 0, 0, 0, 0, 0, 0, 0, 0, 0, 0, 0, 0, 0, 0, 0, 0, 0, 0, 0, 0, 0, 0, 0]), .slice true 0 []]]]]], .agg [.int .i64 (0), .int .i64 (16), .bool true, .slice true 0 [], .slice false 5 [.agg [.int .i64 (0), .int .i64 (6), .bool false, (gu8 [42, 134, 72, 134, 247, 13, 1, 9, 3]), .slice true 0 []], .agg [.int .i64 (0), .int .i64 (17), .bool true, .slice true 0 [], .slice false 5 [.agg [.int .i64 (0), .int .i64 (6), .bool false, (gu8 [42, 134, 72, 134, 247, 13, 1, 7, 1]), .slice true 0 []]]]]], .agg [.int .i64 (0), .int .i64 (16), .bool true, .slice true 0 [], .slice false 5 [.agg [.int .i64 (0), .int .i64 (6), .bool false, (gu8 [42, 134, 72, 134, 247, 13, 1, 9, 16, 2, 47]), .slice true 0 []], .agg [.int .i64 (0), .int .i64 (17), .bool true, .slice true 0 [], .slice false 5 [.agg [.int .i64 (0), .int .i64 (16), .bool true, .slice true 0 [], .slice false 5 [.agg [.int .i64 (0), .int .i64 (16), .bool true, .slice true 0 [], .slice false 5 [.agg [.int .i64 (0), .int .i64 (16), .bool true, .slice true 0 [], .slice false 5 [.agg [.int .i64 (0), .int .i64 (4), .bool false, (gu8 [0, 0, 0, 0, 0, 0, 0, 0, 0, 0, 0, 0, 0, 0, 0, 0, 0, 0, 0, 0, 0, 0, 0, 0, 0, 0, 0, 0, 0, 0, 0, 0]), .slice true 0 []], .agg [.int .i64 (0), .int .i64 (16), .bool true, .slice true 0 [], .slice false 5 [.agg [.int .i64 (0), .int .i64 (16), .bool true, .slice true 0 [], .slice false 5 [.agg [.int .i64 (2), .int .i64 (4), .bool true, .slice true 0 [], .slice false 5 [.agg [.int .i64 (0), .int .i64 (16), .bool true, .slice true 0 [], .slice false 5 [.agg [.int .i64 (0), .int .i64 (17), .bool true, .slice true 0 [], .slice false 5 [.agg [.int .i64 (0), .int .i64 (16), .bool true, .slice true 0 [], .slice false 5 [.agg [.int .i64 (0), .int .i64 (6), .bool false, (gu8 [85, 4, 3]), .slice true 0 []], .agg [.int .i64 (0), .int .i64 (12), .bool false, (gu8 [97]), .slice true 0 []]]]]]]]]]]], .agg [.int .i64 (0), .int .i64 (2), .bool false, (gu8 [1]), .slice true 0 []]]]]]]]]]]]]], .agg [.int .i64 (0), .int .i64 (16), .bool true, .slice true 0 [], .slice false 5 [.agg [.int .i64 (0), .int .i64 (6), .bool false, (gu8 [42, 134, 72, 134, 247, 13, 1, 9, 5]), .slice true 0 []], .agg [.int .i64 (0), .int .i64 (17), .bool true, .slice true 0 [], .slice false 5 [.agg [.int .i64 (0), .int .i64 (23), .bool false, (gu8 [55, 48, 48, 49, 48, 49, 48, 48, 48, 48, 48, 49, 90]), .slice true 0 []]]]]], .agg [.int .i64 (0), .int .i64 (16), .bool true, .slice true 0 [], .slice false 5 [.agg [.int .i64 (0), .int .i64 (6), .bool false, (gu8 [42, 3]), .slice true 0 []], .agg [.int .i64 (0), .int .i64 (17), .bool true, .slice true 0 [], .slice false 5 [.agg [.int .i64 (0), .int .i64 (2), .bool false, (gu8 [5]), .slice true 0 []]]]]]]]], .tup [.agg [.int .i64 (0), .int .i64 (17), .bool true, .slice true 0 [], .slice false 5 [.agg [.int .i64 (0), .int .i64 (16), .bool true, .slice true 0 [], .slice false 5 [.agg [.int .i64 (0), .int .i64 (6), .bool false, (gu8 [42, 3]), .slice true 0 []], .agg [.int .i64 (0), .int .i64 (17), .bool true, .slice true 0 [], .slice false 5 [.agg [.int .i64 (0), .int .i64 (2), .bool false, (gu8 [5]), .slice true 0 []]]]]], .agg [.int .i64 (0), .int .i64 (16), .bool true, .slice true 0 [], .slice false 5 [.agg [.int .i64 (0), .int .i64 (6), .bool false, (gu8 [42, 134, 72, 134, 247, 13, 1, 9, 3]), .slice true 0 []], .agg [.int .i64 (0), .int .i64 (17), .bool true, .slice true 0 [], .slice false 5 [.agg [.int .i64 (0), .int .i64 (6), .bool false, (gu8 [42, 134, 72, 134, 247, 13, 1, 7, 1]), .slice true 0 []]]]]], .agg [.int .i64 (0), .int .i64 (16), .bool true, .slice true 0 [], .slice false 5 [.agg [.int .i64 (0), .int .i64 (6), .bool false, (gu8 [42, 134, 72, 134, 247, 13, 1, 9, 5]), .slice true 0 []], .agg [.int .i64 (0), .int .i64 (17), .bool true, .slice true 0 [], .slice false 5 [.agg [.int .i64 (0), .int .i64 (23), .bool false, (gu8 [55, 48, 48, 49, 48, 49, 48, 48, 48, 48, 48, 49, 90]), .slice true 0 []]]]]], .agg [.int .i64 (0), .int .i64 (16), .bool true, .slice true 0 [], .slice false 5 [.agg [.int .i64 (0), .int .i64 (6), .bool false, (gu8 [42, 134, 72, 134, 247, 13, 1, 9, 16, 2, 47]), .slice true 0 []], .agg [.int .i64 (0), .int .i64 (17), .bool true, .slice true 0 [], .slice false 5 [.agg [.int .i64 (0), .int .i64 (16), .bool true, .slice true 0 [], .slice false 5 [.agg [.int .i64 (0), .int .i64 (16), .bool true, .slice true 0 [], .slice false 5 [.agg [.int .i64 (0), .int .i64 (16), .bool true, .slice true 0 [], .slice false 5 [.agg [.int .i64 (0), .int .i64 (4), .bool false, (gu8 [0, 0, 0, 0, 0, 0, 0, 0, 0, 0, 0, 0, 0, 0, 0, 0, 0, 0, 0, 0, 0, 0, 0, 0, 0, 0, 0, 0, 0, 0, 0, 0]), .slice true 0 []], .agg [.int .i64 (0), .int .i64 (16), .bool true, .slice true 0 [], .slice false 5 [.agg [.int .i64 (0), .int .i64 (16), .bool true, .slice true 0 [], .slice false 5 [.agg [.int .i64 (2), .int .i64 (4), .bool true, .slice true 0 [], .slice false 5 [.agg [.int .i64 (0), .int .i64 (16), .bool true, .slice true 0 [], .slice false 5 [.agg [.int .i64 (0), .int .i64 (17), .bool true, .slice true 0 [], .slice false 5 [.agg [.int .i64 (0), .int .i64 (16), .bool true, .slice true 0 [], .slice false 5 [.agg [.int .i64 (0), .int .i64 (6), .bool false, (gu8 [85, 4, 3]), .slice true 0 []], .agg [.int .i64 (0), .int .i64 (12), .bool false, (gu8 [97]), .slice true 0 []]]]]]]]]]]], .agg [.int .i64 (0), .int .i64 (2), .bool false, (gu8 [1]), .slice true 0 []]]]]]]]]]]]]], .agg [.int .i64 (0), .int .i64 (16), .bool true, .slice true 0 [], .slice false 5 [.agg [.int .i64 (0), .int .i64 (6), .bool false, (gu8 [42, 134, 72, 134, 247, 13, 1, 9, 4]), .slice true 0 []], .agg [.int .i64 (0), .int .i64 (17), .bool true, .slice true 0 [], .slice false 5 [.agg [.int .i64 (0), .int .i64 (4), .bool false, (gu8 [0, 0, 0, 0, 0, 0, 0, 0, 0, 0, 0, 0, 0, 0, 0, 0, 0, 0, 0, 0, 0, 0, 0, 0, 0, 0, 0, 0, 0, 0, 0, 0, 0, 0, 0, 0, 0, 0, 0, 0, 0, 0, 0, 0, 0, 0, 0, 0, 0, 0, 0, 0, 0, 0, 0, 0, 0, 0, 0, 0, 0, 0, 0, 0]), .slice true 0 []]]]]]]], .int .i64 (0)])
theorem m311 : NatAt par 59 e311.1 e311.2 := .base (par := par) (par' := par14) rfl rfl (.of_eval (n := 1000) parOk14 (by kernel_rfl))
noncomputable def tab59_14 : List (List V × V) := e311 :: tab59_5
theorem ok59_14 : MemoOk par 59 tab59_14 := .cons m311 <| ok59_5
noncomputable def par15_0 : Par := par.with 7 (memoF par14 1000 7 tab7_2)
theorem parOk15_0 : ParOk par15_0 := memo_with (base := par) parOk14 rfl rfl parOk rfl rfl ok7_2
noncomputable def par15_1 : Par := par15_0.with 11 (memoF par14 1000 11 tab11_0)
theorem parOk15_1 : ParOk par15_1 := memo_with (base := par) parOk14 rfl rfl parOk15_0 rfl rfl ok11_0
noncomputable def par15_2 : Par := par15_1.with 14 (memoF par14 1000 14 tab14_4)
theorem parOk15_2 : ParOk par15_2 := memo_with (base := par) parOk14 rfl rfl parOk15_1 rfl rfl ok14_4
noncomputable def par15_3 : Par := par15_2.with 27 (memoF par14 1000 27 tab27_8)
theorem parOk15_3 : ParOk par15_3 := memo_with (base := par) parOk14 rfl rfl parOk15_2 rfl rfl ok27_8
noncomputable def par15_4 : Par := par15_3.with 28 (memoF par14 1000 28 tab28_7)
theorem parOk15_4 : ParOk par15_4 := memo_with (base := par) parOk14 rfl rfl parOk15_3 rfl rfl ok28_7
noncomputable def par15_5 : Par := par15_4.with 29 (memoF par14 1000 29 tab29_10)
theorem parOk15_5 : ParOk par15_5 := memo_with (base := par) parOk14 rfl rfl parOk15_4 rfl rfl ok29_10
noncomputable def par15_6 : Par := par15_5.with 30 (memoF par14 1000 30 tab30_11)
theorem parOk15_6 : ParOk par15_6 := memo_with (base := par) parOk14 rfl rfl parOk15_5 rfl rfl ok30_11
noncomputable def par15_7 : Par := par15_6.with 31 (memoF par14 1000 31 tab31_2)
theorem parOk15_7 : ParOk par15_7 := memo_with (base := par) parOk14 rfl rfl parOk15_6 rfl rfl ok31_2
noncomputable def par15_8 : Par := par15_7.with 32 (memoF par14 1000 32 tab32_7)
theorem parOk15_8 : ParOk par15_8 := memo_with (base := par) parOk14 rfl rfl parOk15_7 rfl rfl ok32_7
noncomputable def par15_9 : Par := par15_8.with 35 (memoF par14 1000 35 tab35_1)
theorem parOk15_9 : ParOk par15_9 := memo_with (base := par) parOk14 rfl rfl parOk15_8 rfl rfl ok35_1
noncomputable def par15_10 : Par := par15_9.with 36 (memoF par14 1000 36 tab36_5)
theorem parOk15_10 : ParOk par15_10 := memo_with (base := par) parOk14 rfl rfl parOk15_9 rfl rfl ok36_5
noncomputable def par15_11 : Par := par15_10.with 45 (memoF par14 1000 45 tab45_0)
theorem parOk15_11 : ParOk par15_11 := memo_with (base := par) parOk14 rfl rfl parOk15_10 rfl rfl ok45_0
noncomputable def par15_12 : Par := par15_11.with 48 (memoF par14 1000 48 tab48_3)
theorem parOk15_12 : ParOk par15_12 := memo_with (base := par) parOk14 rfl rfl parOk15_11 rfl rfl ok48_3
noncomputable def par15_13 : Par := par15_12.with 49 (memoF par14 1000 49 tab49_2)
theorem parOk15_13 : ParOk par15_13 := memo_with (base := par) parOk14 rfl rfl parOk15_12 rfl rfl ok49_2
noncomputable def par15_14 : Par := par15_13.with 51 (memoF par14 1000 51 tab51_5)
theorem parOk15_14 : ParOk par15_14 := memo_with (base := par) parOk14 rfl rfl parOk15_13 rfl rfl ok51_5
noncomputable def par15_15 : Par := par15_14.with 53 (memoF par14 1000 53 tab53_6)
theorem parOk15_15 : ParOk par15_15 := memo_with (base := par) parOk14 rfl rfl parOk15_14 rfl rfl ok53_6
noncomputable def par15_16 : Par := par15_15.with 54 (memoF par14 1000 54 tab54_12)
theorem parOk15_16 : ParOk par15_16 := memo_with (base := par) parOk14 rfl rfl parOk15_15 rfl rfl ok54_12
noncomputable def par15_17 : Par := par15_16.with 56 (memoF par14 1000 56 tab56_1)
theorem parOk15_17 : ParOk par15_17 := memo_with (base := par) parOk14 rfl rfl parOk15_16 rfl rfl ok56_1
noncomputable def par15_18 : Par := par15_17.with 57 (memoF par14 1000 57 tab57_6)
theorem parOk15_18 : ParOk par15_18 := memo_with (base := par) parOk14 rfl rfl parOk15_17 rfl rfl ok57_6
noncomputable def par15_19 : Par := par15_18.with 58 (memoF par14 1000 58 tab58_1)
theorem parOk15_19 : ParOk par15_19 := memo_with (base := par) parOk14 rfl rfl parOk15_18 rfl rfl ok58_1
noncomputable def par15_20 : Par := par15_19.with 59 (memoF par14 1000 59 tab59_14)
theorem parOk15_20 : ParOk par15_20 := memo_with (base := par) parOk14 rfl rfl parOk15_19 rfl rfl ok59_14
noncomputable def par15_21 : Par := par15_20.with 63 (memoF par14 1000 63 tab63_1)
theorem parOk15_21 : ParOk par15_21 := memo_with (base := par) parOk14 rfl rfl parOk15_20 rfl rfl ok63_1
noncomputable def par15_22 : Par := par15_21.with 64 (memoF par14 1000 64 tab64_6)
theorem parOk15_22 : ParOk par15_22 := memo_with (base := par) parOk14 rfl rfl parOk15_21 rfl rfl ok64_6
noncomputable def par15_23 : Par := par15_22.with 65 (memoF par14 1000 65 tab65_5)
theorem parOk15_23 : ParOk par15_23 := memo_with (base := par) parOk14 rfl rfl parOk15_22 rfl rfl ok65_5
noncomputable def par15_24 : Par := par15_23.with 66 (memoF par14 1000 66 tab66_2)
theorem parOk15_24 : ParOk par15_24 := memo_with (base := par) parOk14 rfl rfl parOk15_23 rfl rfl ok66_2
noncomputable def par15_25 : Par := par15_24.with 67 (memoF par14 1000 67 tab67_9)
theorem parOk15_25 : ParOk par15_25 := memo_with (base := par) parOk14 rfl rfl parOk15_24 rfl rfl ok67_9
noncomputable def par15_26 : Par := par15_25.with 69 (memoF par14 1000 69 tab69_6)
theorem parOk15_26 : ParOk par15_26 := memo_with (base := par) parOk14 rfl rfl parOk15_25 rfl rfl ok69_6
noncomputable def par15_27 : Par := par15_26.with 70 (memoF par14 1000 70 tab70_1)
theorem parOk15_27 : ParOk par15_27 := memo_with (base := par) parOk14 rfl rfl parOk15_26 rfl rfl ok70_1
noncomputable def par15_28 : Par := par15_27.with 71 (memoF par14 1000 71 tab71_0)
theorem parOk15_28 : ParOk par15_28 := memo_with (base := par) parOk14 rfl rfl parOk15_27 rfl rfl ok71_0
noncomputable def par15_29 : Par := par15_28.with 74 (memoF par14 1000 74 tab74_0)
theorem parOk15_29 : ParOk par15_29 := memo_with (base := par) parOk14 rfl rfl parOk15_28 rfl rfl ok74_0
noncomputable def par15_30 : Par := par15_29.with 75 (memoF par14 1000 75 tab75_13)
theorem parOk15_30 : ParOk par15_30 := memo_with (base := par) parOk14 rfl rfl parOk15_29 rfl rfl ok75_13
noncomputable def par15_31 : Par := par15_30.with 98 (memoF par14 1000 98 tab98_1)
theorem parOk15_31 : ParOk par15_31 := memo_with (base := par) parOk14 rfl rfl parOk15_30 rfl rfl ok98_1
noncomputable def par15_32 : Par := par15_31.with 99 (memoF par14 1000 99 tab99_2)
theorem parOk15_32 : ParOk par15_32 := memo_with (base := par) parOk14 rfl rfl parOk15_31 rfl rfl ok99_2
noncomputable def par15_33 : Par := par15_32.with 100 (memoF par14 1000 100 tab100_1)
theorem parOk15_33 : ParOk par15_33 := memo_with (base := par) parOk14 rfl rfl parOk15_32 rfl rfl ok100_1
noncomputable def par15_34 : Par := par15_33.with 103 (memoF par14 1000 103 tab103_4)
theorem parOk15_34 : ParOk par15_34 := memo_with (base := par) parOk14 rfl rfl parOk15_33 rfl rfl ok103_4
noncomputable def par15_35 : Par := par15_34.with 104 (memoF par14 1000 104 tab104_5)
theorem parOk15_35 : ParOk par15_35 := memo_with (base := par) parOk14 rfl rfl parOk15_34 rfl rfl ok104_5
noncomputable def par15_36 : Par := par15_35.with 105 (memoF par14 1000 105 tab105_11)
theorem parOk15_36 : ParOk par15_36 := memo_with (base := par) parOk14 rfl rfl parOk15_35 rfl rfl ok105_11
noncomputable def par15_37 : Par := par15_36.with 106 (memoF par14 1000 106 tab106_5)
theorem parOk15_37 : ParOk par15_37 := memo_with (base := par) parOk14 rfl rfl parOk15_36 rfl rfl ok106_5
noncomputable def par15_38 : Par := par15_37.with 107 (memoF par14 1000 107 tab107_4)
theorem parOk15_38 : ParOk par15_38 := memo_with (base := par) parOk14 rfl rfl parOk15_37 rfl rfl ok107_4
noncomputable def par15_39 : Par := par15_38.with 110 (memoF par14 1000 110 tab110_4)
theorem parOk15_39 : ParOk par15_39 := memo_with (base := par) parOk14 rfl rfl parOk15_38 rfl rfl ok110_4
noncomputable def par15_40 : Par := par15_39.with 116 (memoF par14 1000 116 tab116_5)
theorem parOk15_40 : ParOk par15_40 := memo_with (base := par) parOk14 rfl rfl parOk15_39 rfl rfl ok116_5
noncomputable def par15_41 : Par := par15_40.with 117 (memoF par14 1000 117 tab117_3)
theorem parOk15_41 : ParOk par15_41 := memo_with (base := par) parOk14 rfl rfl parOk15_40 rfl rfl ok117_3
noncomputable def par15_42 : Par := par15_41.with 119 (memoF par14 1000 119 tab119_1)
theorem parOk15_42 : ParOk par15_42 := memo_with (base := par) parOk14 rfl rfl parOk15_41 rfl rfl ok119_1
noncomputable def par15_43 : Par := par15_42.with 120 (memoF par14 1000 120 tab120_2)
theorem parOk15_43 : ParOk par15_43 := memo_with (base := par) parOk14 rfl rfl parOk15_42 rfl rfl ok120_2
noncomputable def par15_44 : Par := par15_43.with 168 (memoF par14 1000 168 tab168_0)
theorem parOk15_44 : ParOk par15_44 := memo_with (base := par) parOk14 rfl rfl parOk15_43 rfl rfl ok168_0
noncomputable def par15_45 : Par := par15_44.with 170 (memoF par14 1000 170 tab170_1)
theorem parOk15_45 : ParOk par15_45 := memo_with (base := par) parOk14 rfl rfl parOk15_44 rfl rfl ok170_1
noncomputable def par15_46 : Par := par15_45.with 171 (memoF par14 1000 171 tab171_0)
theorem parOk15_46 : ParOk par15_46 := memo_with (base := par) parOk14 rfl rfl parOk15_45 rfl rfl ok171_0
noncomputable def par15_47 : Par := par15_46.with 172 (memoF par14 1000 172 tab172_0)
theorem parOk15_47 : ParOk par15_47 := memo_with (base := par) parOk14 rfl rfl parOk15_46 rfl rfl ok172_0
noncomputable def par15_48 : Par := par15_47.with 176 (memoF par14 1000 176 tab176_10)
theorem parOk15_48 : ParOk par15_48 := memo_with (base := par) parOk14 rfl rfl parOk15_47 rfl rfl ok176_10
noncomputable def par15_49 : Par := par15_48.with 180 (memoF par14 1000 180 tab180_3)
theorem parOk15_49 : ParOk par15_49 := memo_with (base := par) parOk14 rfl rfl parOk15_48 rfl rfl ok180_3
noncomputable def par15_50 : Par := par15_49.with 182 (memoF par14 1000 182 tab182_3)
theorem parOk15_50 : ParOk par15_50 := memo_with (base := par) parOk14 rfl rfl parOk15_49 rfl rfl ok182_3
noncomputable def par15_51 : Par := par15_50.with 183 (memoF par14 1000 183 tab183_6)
theorem parOk15_51 : ParOk par15_51 := memo_with (base := par) parOk14 rfl rfl parOk15_50 rfl rfl ok183_6
noncomputable def par15_52 : Par := par15_51.with 184 (memoF par14 1000 184 tab184_5)
theorem parOk15_52 : ParOk par15_52 := memo_with (base := par) parOk14 rfl rfl parOk15_51 rfl rfl ok184_5
noncomputable def par15_53 : Par := par15_52.with 185 (memoF par14 1000 185 tab185_2)
theorem parOk15_53 : ParOk par15_53 := memo_with (base := par) parOk14 rfl rfl parOk15_52 rfl rfl ok185_2
noncomputable def par15_54 : Par := par15_53.with 193 (memoF par14 1000 193 tab193_3)
theorem parOk15_54 : ParOk par15_54 := memo_with (base := par) parOk14 rfl rfl parOk15_53 rfl rfl ok193_3
noncomputable def par15_55 : Par := par15_54.with 230 (memoF par14 1000 230 tab230_0)
theorem parOk15_55 : ParOk par15_55 := memo_with (base := par) parOk14 rfl rfl parOk15_54 rfl rfl ok230_0
noncomputable def par15_56 : Par := par15_55.with 237 (memoF par14 1000 237 tab237_0)
theorem parOk15_56 : ParOk par15_56 := memo_with (base := par) parOk14 rfl rfl parOk15_55 rfl rfl ok237_0
noncomputable def par15_57 : Par := par15_56.with 239 (memoF par14 1000 239 tab239_0)
theorem parOk15_57 : ParOk par15_57 := memo_with (base := par) parOk14 rfl rfl parOk15_56 rfl rfl ok239_0
noncomputable def par15_58 : Par := par15_57.with 244 (memoF par14 1000 244 tab244_1)
theorem parOk15_58 : ParOk par15_58 := memo_with (base := par) parOk14 rfl rfl parOk15_57 rfl rfl ok244_1
noncomputable def par15_59 : Par := par15_58.with 247 (memoF par14 1000 247 tab247_1)
theorem parOk15_59 : ParOk par15_59 := memo_with (base := par) parOk14 rfl rfl parOk15_58 rfl rfl ok247_1
noncomputable def par15_60 : Par := par15_59.with 250 (memoF par14 1000 250 tab250_0)
theorem parOk15_60 : ParOk par15_60 := memo_with (base := par) parOk14 rfl rfl parOk15_59 rfl rfl ok250_0
noncomputable def par15_61 : Par := par15_60.with 251 (memoF par14 1000 251 tab251_2)
theorem parOk15_61 : ParOk par15_61 := memo_with (base := par) parOk14 rfl rfl parOk15_60 rfl rfl ok251_2
noncomputable def par15_62 : Par := par15_61.with 291 (memoF par14 1000 291 tab291_0)
theorem parOk15_62 : ParOk par15_62 := memo_with (base := par) parOk14 rfl rfl parOk15_61 rfl rfl ok291_0
noncomputable def par15_63 : Par := par15_62.with 296 (memoF par14 1000 296 tab296_4)
theorem parOk15_63 : ParOk par15_63 := memo_with (base := par) parOk14 rfl rfl parOk15_62 rfl rfl ok296_4
noncomputable def par15_64 : Par := par15_63.with 307 (memoF par14 1000 307 tab307_0)
theorem parOk15_64 : ParOk par15_64 := memo_with (base := par) parOk14 rfl rfl parOk15_63 rfl rfl ok307_0
noncomputable def par15_65 : Par := par15_64.with 311 (memoF par14 1000 311 tab311_0)
theorem parOk15_65 : ParOk par15_65 := memo_with (base := par) parOk14 rfl rfl parOk15_64 rfl rfl ok311_0
noncomputable def par15_66 : Par := par15_65.with 313 (memoF par14 1000 313 tab313_1)
theorem parOk15_66 : ParOk par15_66 := memo_with (base := par) parOk14 rfl rfl parOk15_65 rfl rfl ok313_1
noncomputable def par15_67 : Par := par15_66.with 332 (memoF par14 1000 332 tab332_2)
theorem parOk15_67 : ParOk par15_67 := memo_with (base := par) parOk14 rfl rfl parOk15_66 rfl rfl ok332_2
noncomputable def par15_68 : Par := par15_67.with 333 (memoF par14 1000 333 tab333_3)
theorem parOk15_68 : ParOk par15_68 := memo_with (base := par) parOk14 rfl rfl parOk15_67 rfl rfl ok333_3
noncomputable def par15_69 : Par := par15_68.with 335 (memoF par14 1000 335 tab335_1)
theorem parOk15_69 : ParOk par15_69 := memo_with (base := par) parOk14 rfl rfl parOk15_68 rfl rfl ok335_1
noncomputable def par15 : Par := par15_69.with 344 (memoF par14 1000 344 tab344_0)
theorem parOk15 : ParOk par15 := memo_with (base := par) parOk14 rfl rfl parOk15_69 rfl rfl ok344_0
noncomputable def e312 : List V × V := ([.agg [(gu8 [42, 134, 72, 134, 247, 13, 1, 7, 1]), (gu8 [0, 0, 0, 0, 0, 0, 0, 0, 0, 0, 0, 0, 0, 0, 0, 0, 0, 0, 0, 0, 0, 0, 0, 0, 0, 0, 0, 0, 0, 0, 0, 0, 0, 0, 0, 0, 0, 0, 0, 0, 0, 0, 0, 0, 0, 0, 0, 0, 0, 0, 0, 0, 0, 0, 0, 0, 0, 0, 0, 0, 0, 0, 0, 0]), .int .i64 (2), (gu8 [0, 0, 0, 0, 0, 0, 0, 0, 0, 0, 0, 0, 0, 0, 0, 0, 0, 0, 0, 0, 0, 0, 0, 0, 0, 0, 0, 0, 0, 0, 0, 0]), .slice false 3 [.agg [.int .i64 (1), .str [97], .bool false]], (gu8 [1]), .int .i64 (1000), .slice false 5 [.agg [.int .i64 (0), .int .i64 (16), .bool true, .slice true 0 [], .slice false 5 [.agg [.int .i64 (0), .int .i64 (6), .bool false, (gu8 [42, 3]), .slice true 0 []], .agg [.int .i64 (0), .int .i64 (17), .bool true, .slice true 0 [], .slice false 5 [.agg [.int .i64 (0), .int .i64 (2), .bool false, (gu8 [5]), .slice true 0 []]]]]]]]], .tup [.agg [.int .i64 (0), .int .i64 (17), .bool true, .slice true 0 [], .slice false 5 [.agg [.int .i64 (0), .int .i64 (16), .bool true, .slice true 0 [], .slice false 5 [.agg [.int .i64 (0), .int .i64 (6), .bool false, (gu8 [42, 3]), .slice true 0 []], .agg [.int .i64 (0), .int .i64 (17), .bool true, .slice true 0 [], .slice false 5 [.agg [.int .i64 (0), .int .i64 (2), .bool false, (gu8 [5]), .slice true 0 []]]]]], .agg [.int .i64 (0), .int .i64 (16), .bool true, .slice true 0 [], .slice false 5 [.agg [.int .i64 (0), .int .i64 (6), .bool false, (gu8 [42, 134, 72, 134, 247, 13, 1, 9, 3]), .slice true 0 []], .agg [.int .i64 (0), .int .i64 (17), .bool true, .slice true 0 [], .slice false 5 [.agg [.int .i64 (0), .int .i64 (6), .bool false, (gu8 [42, 134, 72, 134, 247, 13, 1, 7, 1]), .slice true 0 []]]]]], .agg [.int .i64 (0), .int .i64 (16), .bool true, .slice true 0 [], .slice false 5 [.agg [.int .i64 (0), .int .i64 (6), .bool false, (gu8 [42, 134, 72, 134, 247, 13, 1, 9, 5]), .slice true 0 []], .agg [.int .i64 (0), .int .i64 (17), .bool true, .slice true 0 [], .slice false 5 [.agg [.int .i64 (0), .int .i64 (23), .bool false, (gu8 [55, 48, 48, 49, 48, 49, 48, 48, 48, 48, 48, 49, 90]), .slice true 0 []]]]]], .agg [.int .i64 (0), .int .i64 (16), .bool true, .slice true 0 [], .slice false 5 [.agg [.int .i64 (0), .int .i64 (6), .bool false, (gu8 [42, 134, 72, 134, 247, 13, 1, 9, 16, 2, 47]), .slice true 0 []], .agg [.int .i64 (0), .int .i64 (17), .bool true, .slice true 0 [], .slice false 5 [.agg [.int .i64 (0), .int .i64 (16), .bool true, .slice true 0 [], .slice false 5 [.agg [.int .i64 (0), .int .i64 (16), .bool true, .slice true 0 [], .slice false 5 [.agg [.int .i64 (0), .int .i64 (16), .bool true, .slice true 0 [], .slice false 5 [.agg [.int .i64 (0), .int .i64 (4), .bool false, (gu8 [0, 0, 0, 0, 0, 0, 0, 0, 0, 0, 0, 0, 0, 0, 0, 0, 0, 0, 0, 0, 0, 0, 0, 0, 0, 0, 0, 0, 0, 0, 0, 0]), .slice true 0 []], .agg [.int .i64 (0), .int .i64 (16), .bool true, .slice true 0 [], .slice false 5 [.agg [.int .i64 (0), .int .i64 (16), .bool true, .slice true 0 [], .slice false 5 [.agg [.int .i64 (2), .int .i64 (4), .bool true, .slice true 0 [], .slice false 5 [.agg [.int .i64 (0), .int .i64 (16), .bool true, .slice true 0 [], .slice false 5 [.agg [.int .i64 (0), .int .i64 (17), .bool true, .slice true 0 [], .slice false 5 [.agg [.int .i64 (0), .int .i64 (16), .bool true, .slice true 0 [], .slice false 5 [.agg [.int .i64 (0), .int .i64 (6), .bool false, (gu8 [85, 4, 3]), .slice true 0 []], .agg [.int .i64 (0), .int .i64 (12), .bool false, (gu8 [97]), .slice true 0 []]]]]]]]]]]], .agg [.int .i64 (0), .int .i64 (2), .bool false, (gu8 [1]), .slice true 0 []]]]]]]]]]]]]], .agg [.int .i64 (0), .int .i64 (16), .bool true, .slice true 0 [], .slice false 5 [.agg [.int .i64 (0), .int .i64 (6), .bool false, (gu8 [42, 134, 72, 134, 247, 13, 1, 9, 4]), .slice true 0 []], .agg [.int .i64 (0), .int .i64 (17), .bool true, .slice true 0 [], .slice false 5 [.agg [.int .i64 (0), .int .i64 (4), .bool false, (gu8 [0, 0, 0, 0, 0, 0, 0, 0, 0, 0, 0, 0, 0, 0, 0, 0, 0, 0, 0, 0, 0, 0, 0, 0, 0, 0, 0, 0, 0, 0, 0, 0, 0, 0, 0, 0, 0, 0, 0, 0, 0, 0, 0, 0, 0, 0, 0, 0, 0, 0, 0, 0, 0, 0, 0, 0, 0, 0, 0, 0, 0, 0, 0, 0]), .slice true 0 []]]]]]]], .int .i64 (0)])
theorem m312 : NatAt par 27 e312.1 e312.2 := .base (par := par) (par' := par15) rfl rfl (.of_eval (n := 1000) parOk15 (by kernel_rfl))
noncomputable def tab27_15 : List (List V × V) := e312 :: tab27_8
theorem ok27_15 : MemoOk par 27 tab27_15 := .cons m312 <| ok27_8
noncomputable def par16_0 : Par := par.with 7 (memoF par15 1000 7 tab7_2)
theorem parOk16_0 : ParOk par16_0 := memo_with (base := par) parOk15 rfl rfl parOk rfl rfl ok7_2
noncomputable def par16_1 : Par := par16_0.with 11 (memoF par15 1000 11 tab11_0)
theorem parOk16_1 : ParOk par16_1 := memo_with (base := par) parOk15 rfl rfl parOk16_0 rfl rfl ok11_0
noncomputable def par16_2 : Par := par16_1.with 14 (memoF par15 1000 14 tab14_4)
theorem parOk16_2 : ParOk par16_2 := memo_with (base := par) parOk15 rfl rfl parOk16_1 rfl rfl ok14_4
noncomputable def par16_3 : Par := par16_2.with 27 (memoF par15 1000 27 tab27_15)
theorem parOk16_3 : ParOk par16_3 := memo_with (base := par) parOk15 rfl rfl parOk16_2 rfl rfl ok27_15
noncomputable def par16_4 : Par := par16_3.with 28 (memoF par15 1000 28 tab28_7)
theorem parOk16_4 : ParOk par16_4 := memo_with (base := par) parOk15 rfl rfl parOk16_3 rfl rfl ok28_7
noncomputable def par16_5 : Par := par16_4.with 29 (memoF par15 1000 29 tab29_10)
theorem parOk16_5 : ParOk par16_5 := memo_with (base := par) parOk15 rfl rfl parOk16_4 rfl rfl ok29_10
noncomputable def par16_6 : Par := par16_5.with 30 (memoF par15 1000 30 tab30_11)
theorem parOk16_6 : ParOk par16_6 := memo_with (base := par) parOk15 rfl rfl parOk16_5 rfl rfl ok30_11
noncomputable def par16_7 : Par := par16_6.with 31 (memoF par15 1000 31 tab31_2)
theorem parOk16_7 : ParOk par16_7 := memo_with (base := par) parOk15 rfl rfl parOk16_6 rfl rfl ok31_2
noncomputable def par16_8 : Par := par16_7.with 32 (memoF par15 1000 32 tab32_7)
theorem parOk16_8 : ParOk par16_8 := memo_with (base := par) parOk15 rfl rfl parOk16_7 rfl rfl ok32_7
noncomputable def par16_9 : Par := par16_8.with 35 (memoF par15 1000 35 tab35_1)
theorem parOk16_9 : ParOk par16_9 := memo_with (base := par) parOk15 rfl rfl parOk16_8 rfl rfl ok35_1
noncomputable def par16_10 : Par := par16_9.with 36 (memoF par15 1000 36 tab36_5)
theorem parOk16_10 : ParOk par16_10 := memo_with (base := par) parOk15 rfl rfl parOk16_9 rfl rfl ok36_5
noncomputable def par16_11 : Par := par16_10.with 45 (memoF par15 1000 45 tab45_0)
theorem parOk16_11 : ParOk par16_11 := memo_with (base := par) parOk15 rfl rfl parOk16_10 rfl rfl ok45_0
noncomputable def par16_12 : Par := par16_11.with 48 (memoF par15 1000 48 tab48_3)
theorem parOk16_12 : ParOk par16_12 := memo_with (base := par) parOk15 rfl rfl parOk16_11 rfl rfl ok48_3
noncomputable def par16_13 : Par := par16_12.with 49 (memoF par15 1000 49 tab49_2)
theorem parOk16_13 : ParOk par16_13 := memo_with (base := par) parOk15 rfl rfl parOk16_12 rfl rfl ok49_2
noncomputable def par16_14 : Par := par16_13.with 51 (memoF par15 1000 51 tab51_5)
theorem parOk16_14 : ParOk par16_14 := memo_with (base := par) parOk15 rfl rfl parOk16_13 rfl rfl ok51_5
noncomputable def par16_15 : Par := par16_14.with 53 (memoF par15 1000 53 tab53_6)
theorem parOk16_15 : ParOk par16_15 := memo_with (base := par) parOk15 rfl rfl parOk16_14 rfl rfl ok53_6
noncomputable def par16_16 : Par := par16_15.with 54 (memoF par15 1000 54 tab54_12)
theorem parOk16_16 : ParOk par16_16 := memo_with (base := par) parOk15 rfl rfl parOk16_15 rfl rfl ok54_12
noncomputable def par16_17 : Par := par16_16.with 56 (memoF par15 1000 56 tab56_1)
theorem parOk16_17 : ParOk par16_17 := memo_with (base := par) parOk15 rfl rfl parOk16_16 rfl rfl ok56_1
noncomputable def par16_18 : Par := par16_17.with 57 (memoF par15 1000 57 tab57_6)
theorem parOk16_18 : ParOk par16_18 := memo_with (base := par) parOk15 rfl rfl parOk16_17 rfl rfl ok57_6
noncomputable def par16_19 : Par := par16_18.with 58 (memoF par15 1000 58 tab58_1)
theorem parOk16_19 : ParOk par16_19 := memo_with (base := par) parOk15 rfl rfl parOk16_18 rfl rfl ok58_1
noncomputable def par16_20 : Par := par16_19.with 59 (memoF par15 1000 59 tab59_14)
theorem parOk16_20 : ParOk par16_20 := memo_with (base := par) parOk15 rfl rfl parOk16_19 rfl rfl ok59_14
noncomputable def par16_21 : Par := par16_20.with 63 (memoF par15 1000 63 tab63_1)
theorem parOk16_21 : ParOk par16_21 := memo_with (base := par) parOk15 rfl rfl parOk16_20 rfl rfl ok63_1
noncomputable def par16_22 : Par := par16_21.with 64 (memoF par15 1000 64 tab64_6)
theorem parOk16_22 : ParOk par16_22 := memo_with (base := par) parOk15 rfl rfl parOk16_21 rfl rfl ok64_6
noncomputable def par16_23 : Par := par16_22.with 65 (memoF par15 1000 65 tab65_5)
theorem parOk16_23 : ParOk par16_23 := memo_with (base := par) parOk15 rfl rfl parOk16_22 rfl rfl ok65_5
noncomputable def par16_24 : Par := par16_23.with 66 (memoF par15 1000 66 tab66_2)
theorem parOk16_24 : ParOk par16_24 := memo_with (base := par) parOk15 rfl rfl parOk16_23 rfl rfl ok66_2
noncomputable def par16_25 : Par := par16_24.with 67 (memoF par15 1000 67 tab67_9)
theorem parOk16_25 : ParOk par16_25 := memo_with (base := par) parOk15 rfl rfl parOk16_24 rfl rfl ok67_9
noncomputable def par16_26 : Par := par16_25.with 69 (memoF par15 1000 69 tab69_6)
theorem parOk16_26 : ParOk par16_26 := memo_with (base := par) parOk15 rfl rfl parOk16_25 rfl rfl ok69_6
noncomputable def par16_27 : Par := par16_26.with 70 (memoF par15 1000 70 tab70_1)
theorem parOk16_27 : ParOk par16_27 := memo_with (base := par) parOk15 rfl rfl parOk16_26 rfl rfl ok70_1
noncomputable def par16_28 : Par := par16_27.with 71 (memoF par15 1000 71 tab71_0)
theorem parOk16_28 : ParOk par16_28 := memo_with (base := par) parOk15 rfl rfl parOk16_27 rfl rfl ok71_0
noncomputable def par16_29 : Par := par16_28.with 74 (memoF par15 1000 74 tab74_0)
theorem parOk16_29 : ParOk par16_29 := memo_with (base := par) parOk15 rfl rfl parOk16_28 rfl rfl ok74_0
noncomputable def par16_30 : Par := par16_29.with 75 (memoF par15 1000 75 tab75_13)
theorem parOk16_30 : ParOk par16_30 := memo_with (base := par) parOk15 rfl rfl parOk16_29 rfl rfl ok75_13
noncomputable def par16_31 : Par := par16_30.with 98 (memoF par15 1000 98 tab98_1)
theorem parOk16_31 : ParOk par16_31 := memo_with (base := par) parOk15 rfl rfl parOk16_30 rfl rfl ok98_1
noncomputable def par16_32 : Par := par16_31.with 99 (memoF par15 1000 99 tab99_2)
theorem parOk16_32 : ParOk par16_32 := memo_with (base := par) parOk15 rfl rfl parOk16_31 rfl rfl ok99_2
noncomputable def par16_33 : Par := par16_32.with 100 (memoF par15 1000 100 tab100_1)
theorem parOk16_33 : ParOk par16_33 := memo_with (base := par) parOk15 rfl rfl parOk16_32 rfl rfl ok100_1
noncomputable def par16_34 : Par := par16_33.with 103 (memoF par15 1000 103 tab103_4)
theorem parOk16_34 : ParOk par16_34 := memo_with (base := par) parOk15 rfl rfl parOk16_33 rfl rfl ok103_4
noncomputable def par16_35 : Par := par16_34.with 104 (memoF par15 1000 104 tab104_5)
theorem parOk16_35 : ParOk par16_35 := memo_with (base := par) parOk15 rfl rfl parOk16_34 rfl rfl ok104_5
noncomputable def par16_36 : Par := par16_35.with 105 (memoF par15 1000 105 tab105_11)
theorem parOk16_36 : ParOk par16_36 := memo_with (base := par) parOk15 rfl rfl parOk16_35 rfl rfl ok105_11
noncomputable def par16_37 : Par := par16_36.with 106 (memoF par15 1000 106 tab106_5)
theorem parOk16_37 : ParOk par16_37 := memo_with (base := par) parOk15 rfl rfl parOk16_36 rfl rfl ok106_5
noncomputable def par16_38 : Par := par16_37.with 107 (memoF par15 1000 107 tab107_4)
theorem parOk16_38 : ParOk par16_38 := memo_with (base := par) parOk15 rfl rfl parOk16_37 rfl rfl ok107_4
noncomputable def par16_39 : Par := par16_38.with 110 (memoF par15 1000 110 tab110_4)
theorem parOk16_39 : ParOk par16_39 := memo_with (base := par) parOk15 rfl rfl parOk16_38 rfl rfl ok110_4
noncomputable def par16_40 : Par := par16_39.with 116 (memoF par15 1000 116 tab116_5)
theorem parOk16_40 : ParOk par16_40 := memo_with (base := par) parOk15 rfl rfl parOk16_39 rfl rfl ok116_5
noncomputable def par16_41 : Par := par16_40.with 117 (memoF par15 1000 117 tab117_3)
theorem parOk16_41 : ParOk par16_41 := memo_with (base := par) parOk15 rfl rfl parOk16_40 rfl rfl ok117_3
noncomputable def par16_42 : Par := par16_41.with 119 (memoF par15 1000 119 tab119_1)
theorem parOk16_42 : ParOk par16_42 := memo_with (base := par) parOk15 rfl rfl parOk16_41 rfl rfl ok119_1
noncomputable def par16_43 : Par := par16_42.with 120 (memoF par15 1000 120 tab120_2)
theorem parOk16_43 : ParOk par16_43 := memo_with (base := par) parOk15 rfl rfl parOk16_42 rfl rfl ok120_2
noncomputable def par16_44 : Par := par16_43.with 168 (memoF par15 1000 168 tab168_0)
theorem parOk16_44 : ParOk par16_44 := memo_with (base := par) parOk15 rfl rfl parOk16_43 rfl rfl ok168_0
noncomputable def par16_45 : Par := par16_44.with 170 (memoF par15 1000 170 tab170_1)
theorem parOk16_45 : ParOk par16_45 := memo_with (base := par) parOk15 rfl rfl parOk16_44 rfl rfl ok170_1
noncomputable def par16_46 : Par := par16_45.with 171 (memoF par15 1000 171 tab171_0)
theorem parOk16_46 : ParOk par16_46 := memo_with (base := par) parOk15 rfl rfl parOk16_45 rfl rfl ok171_0
noncomputable def par16_47 : Par := par16_46.with 172 (memoF par15 1000 172 tab172_0)
theorem parOk16_47 : ParOk par16_47 := memo_with (base := par) parOk15 rfl rfl parOk16_46 rfl rfl ok172_0
noncomputable def par16_48 : Par := par16_47.with 176 (memoF par15 1000 176 tab176_10)
theorem parOk16_48 : ParOk par16_48 := memo_with (base := par) parOk15 rfl rfl parOk16_47 rfl rfl ok176_10
noncomputable def par16_49 : Par := par16_48.with 180 (memoF par15 1000 180 tab180_3)
theorem parOk16_49 : ParOk par16_49 := memo_with (base := par) parOk15 rfl rfl parOk16_48 rfl rfl ok180_3
noncomputable def par16_50 : Par := par16_49.with 182 (memoF par15 1000 182 tab182_3)
theorem parOk16_50 : ParOk par16_50 := memo_with (base := par) parOk15 rfl rfl parOk16_49 rfl rfl ok182_3
noncomputable def par16_51 : Par := par16_50.with 183 (memoF par15 1000 183 tab183_6)
theorem parOk16_51 : ParOk par16_51 := memo_with (base := par) parOk15 rfl rfl parOk16_50 rfl rfl ok183_6
noncomputable def par16_52 : Par := par16_51.with 184 (memoF par15 1000 184 tab184_5)
theorem parOk16_52 : ParOk par16_52 := memo_with (base := par) parOk15 rfl rfl parOk16_51 rfl rfl ok184_5
noncomputable def par16_53 : Par := par16_52.with 185 (memoF par15 1000 185 tab185_2)
theorem parOk16_53 : ParOk par16_53 := memo_with (base := par) parOk15 rfl rfl parOk16_52 rfl rfl ok185_2
noncomputable def par16_54 : Par := par16_53.with 193 (memoF par15 1000 193 tab193_3)
theorem parOk16_54 : ParOk par16_54 := memo_with (base := par) parOk15 rfl rfl parOk16_53 rfl rfl ok193_3
noncomputable def par16_55 : Par := par16_54.with 230 (memoF par15 1000 230 tab230_0)
theorem parOk16_55 : ParOk par16_55 := memo_with (base := par) parOk15 rfl rfl parOk16_54 rfl rfl ok230_0
noncomputable def par16_56 : Par := par16_55.with 237 (memoF par15 1000 237 tab237_0)
theorem parOk16_56 : ParOk par16_56 := memo_with (base := par) parOk15 rfl rfl parOk16_55 rfl rfl ok237_0
noncomputable def par16_57 : Par := par16_56.with 239 (memoF par15 1000 239 tab239_0)
theorem parOk16_57 : ParOk par16_57 := memo_with (base := par) parOk15 rfl rfl parOk16_56 rfl rfl ok239_0
noncomputable def par16_58 : Par := par16_57.with 244 (memoF par15 1000 244 tab244_1)
theorem parOk16_58 : ParOk par16_58 := memo_with (base := par) parOk15 rfl rfl parOk16_57 rfl rfl ok244_1
noncomputable def par16_59 : Par := par16_58.with 247 (memoF par15 1000 247 tab247_1)
theorem parOk16_59 : ParOk par16_59 := memo_with (base := par) parOk15 rfl rfl parOk16_58 rfl rfl ok247_1
noncomputable def par16_60 : Par := par16_59.with 250 (memoF par15 1000 250 tab250_0)
theorem parOk16_60 : ParOk par16_60 := memo_with (base := par) parOk15 rfl rfl parOk16_59 rfl rfl ok250_0
noncomputable def par16_61 : Par := par16_60.with 251 (memoF par15 1000 251 tab251_2)
theorem parOk16_61 : ParOk par16_61 := memo_with (base := par) parOk15 rfl rfl parOk16_60 rfl rfl ok251_2
noncomputable def par16_62 : Par := par16_61.with 291 (memoF par15 1000 291 tab291_0)
theorem parOk16_62 : ParOk par16_62 := memo_with (base := par) parOk15 rfl rfl parOk16_61 rfl rfl ok291_0
noncomputable def par16_63 : Par := par16_62.with 296 (memoF par15 1000 296 tab296_4)
theorem parOk16_63 : ParOk par16_63 := memo_with (base := par) parOk15 rfl rfl parOk16_62 rfl rfl ok296_4
noncomputable def par16_64 : Par := par16_63.with 307 (memoF par15 1000 307 tab307_0)
theorem parOk16_64 : ParOk par16_64 := memo_with (base := par) parOk15 rfl rfl parOk16_63 rfl rfl ok307_0
noncomputable def par16_65 : Par := par16_64.with 311 (memoF par15 1000 311 tab311_0)
theorem parOk16_65 : ParOk par16_65 := memo_with (base := par) parOk15 rfl rfl parOk16_64 rfl rfl ok311_0
noncomputable def par16_66 : Par := par16_65.with 313 (memoF par15 1000 313 tab313_1)
theorem parOk16_66 : ParOk par16_66 := memo_with (base := par) parOk15 rfl rfl parOk16_65 rfl rfl ok313_1
noncomputable def par16_67 : Par := par16_66.with 332 (memoF par15 1000 332 tab332_2)
theorem parOk16_67 : ParOk par16_67 := memo_with (base := par) parOk15 rfl rfl parOk16_66 rfl rfl ok332_2
noncomputable def par16_68 : Par := par16_67.with 333 (memoF par15 1000 333 tab333_3)
theorem parOk16_68 : ParOk par16_68 := memo_with (base := par) parOk15 rfl rfl parOk16_67 rfl rfl ok333_3
noncomputable def par16_69 : Par := par16_68.with 335 (memoF par15 1000 335 tab335_1)
theorem parOk16_69 : ParOk par16_69 := memo_with (base := par) parOk15 rfl rfl parOk16_68 rfl rfl ok335_1
noncomputable def par16 : Par := par16_69.with 344 (memoF par15 1000 344 tab344_0)
theorem parOk16 : ParOk par16 := memo_with (base := par) parOk15 rfl rfl parOk16_69 rfl rfl ok344_0
noncomputable def e313 : List V × V := ([.agg [.int .i64 (0), .int .i64 (17), .bool true, .slice true 0 [], .slice false 5 [.agg [.int .i64 (0), .int .i64 (16), .bool true, .slice true 0 [], .slice false 5 [.agg [.int .i64 (0), .int .i64 (6), .bool false, (gu8 [42, 3]), .slice true 0 []], .agg [.int .i64 (0), .int .i64 (17), .bool true, .slice true 0 [], .slice false 5 [.agg [.int .i64 (0), .int .i64 (2), .bool false, (gu8 [5]), .slice true 0 []]]]]], .agg [.int .i64 (0), .int .i64 (16), .bool true, .slice true 0 [], .slice false 5 [.agg [.int .i64 (0), .int .i64 (6), .bool false, (gu8 [42, 134, 72, 134, 247, 13, 1, 9, 3]), .slice true 0 []], .agg [.int .i64 (0), .int .i64 (17), .bool true, .slice true 0 [], .slice false 5 [.agg [.int .i64 (0), .int .i64 (6), .bool false, (gu8 [42, 134, 72, 134, 247, 13, 1, 7, 1]), .slice true 0 []]]]]], .agg [.int .i64 (0), .int .i64 (16), .bool true, .slice true 0 [], .slice false 5 [.agg [.int .i64 (0), .int .i64 (6), .bool false, (gu8 [42, 134, 72, 134, 247, 13, 1, 9, 5]), .slice true 0 []], .agg [.int .i64 (0), .int .i64 (17), .bool true, .slice true 0 [], .slice false 5 [.agg [.int .i64 (0), .int .i64 (23), .bool false, (gu8 [55, 48, 48, 49, 48, 49, 48, 48, 48, 48, 48, 49, 90]), .slice true 0 []]]]]], .agg [.int .i64 (0), .int .i64 (16), .bool true, .slice true 0 [], .slice false 5 [.agg [.int .i64 (0), .int .i64 (6), .bool false, (gu8 [42, 134, 72, 134, 247, 13, 1, 9, 16, 2, 47]), .slice true 0 []], .agg [.int .i64 (0), .int .i64 (17), .bool true, .slice true 0 [], .slice false 5 [.agg [.int .i64 (0), .int .i64 (16), .bool true, .slice true 0 [], .slice false 5 [.agg [.int .i64 (0), .int .i64 (16), .bool true, .slice true 0 [], .slice false 5 [.agg [.int .i64 (0), .int .i64 (16), .bool true, .slice true 0 [], .slice false 5 [.agg [.int .i64 (0), .int .i64 (4), .bool false, (gu8 [0, 0, 0, 0, 0, 0, 0, 0, 0, 0, 0, 0, 0, 0, 0, 0, 0, 0, 0, 0, 0, 0, 0, 0, 0, 0, 0, 0, 0, 0, 0, 0]), .slice true 0 []], .agg [.int .i64 (0), .int .i64 (16), .bool true, .slice true 0 [], .slice false 5 [.agg [.int .i64 (0), .int .i64 (16), .bool true, .slice true 0 [], .slice false 5 [.agg [.int .i64 (2), .int .i64 (4), .bool true, .slice true 0 [], .slice false 5 [.agg [.int .i64 (0), .int .i64 (16), .bool true, .slice true 0 [], .slice false 5 [.agg [.int .i64 (0), .int .i64 (17), .bool true, .slice true 0 [], .slice false 5 [.agg [.int .i64 (0), .int .i64 (16), .bool true, .slice true 0 [], .slice false 5 [.agg [.int .i64 (0), .int .i64 (6), .bool false, (gu8 [85, 4, 3]), .slice true 0 []], .agg [.int .i64 (0), .int .i64 (12), .bool false, (gu8 [97]), .slice true 0 []]]]]]]]]]]], .agg [.int .i64 (0), .int .i64 (2), .bool false, (gu8 [1]), .slice true 0 []]]]]]]]]]]]]], .agg [.int .i64 (0), .int .i64 (16), .bool true, .slice true 0 [], .slice false 5 [.agg [.int .i64 (0), .int .i64 (6), .bool false, (gu8 [42, 134, 72, 134, 247, 13, 1, 9, 4]), .slice true 0 []], .agg [.int .i64 (0), .int .i64 (17), .bool true, .slice true 0 [], .slice false 5 [.agg [.int .i64 (0), .int .i64 (4), .bool false, (gu8 [0, 0, 0, 0, 0, 0, 0, 0, 0, 0, 0, 0, 0, 0, 0, 0, 0, 0, 0, 0, 0, 0, 0, 0, 0, 0, 0, 0, 0, 0, 0, 0, 0, 0, 0, 0, 0, 0, 0, 0, 0, 0, 0, 0, 0, 0, 0, 0, 0, 0, 0, 0, 0, 0, 0, 0, 0, 0, 0, 0, 0, 0, 0, 0]), .slice true 0 []]]]]]]]], .tup [.agg [(gu8 [42, 134, 72, 134, 247, 13, 1, 7, 1]), (gu8 [0, 0, 0, 0, 0, 0, 0, 0, 0, 0, 0, 0, 0, 0, 0, 0, 0, 0, 0, 0, 0, 0, 0, 0, 0, 0, 0, 0, 0, 0, 0, 0, 0, 0, 0, 0, 0, 0, 0, 0, 0, 0, 0, 0, 0, 0, 0, 0, 0, 0, 0, 0, 0, 0, 0, 0, 0, 0, 0, 0, 0, 0, 0, 0]), .int .i64 (2), (gu8 [0, 0, 0, 0, 0, 0, 0, 0, 0, 0, 0, 0, 0, 0, 0, 0, 0, 0, 0, 0, 0, 0, 0, 0, 0, 0, 0, 0, 0, 0, 0, 0]), .slice false 3 [.agg [.int .i64 (1), .str [97], .bool false]], (gu8 [1]), .int .i64 (1000), .slice false 5 [.agg [.int .i64 (0), .int .i64 (16), .bool true, .slice true 0 [], .slice false 5 [.agg [.int .i64 (0), .int .i64 (6), .bool false, (gu8 [42, 3]), .slice true 0 []], .agg [.int .i64 (0), .int .i64 (17), .bool true, .slice true 0 [], .slice false 5 [.agg [.int .i64 (0), .int .i64 (2), .bool false, (gu8 [5]), .slice true 0 []]]]]]]], .int .i64 (0)])
theorem m313 : NatAt par 28 e313.1 e313.2 := .base (par := par) (par' := par16) rfl rfl (.of_eval (n := 1000) parOk16 (by kernel_rfl))
noncomputable def tab28_16 : List (List V × V) := e313 :: tab28_7
theorem ok28_16 : MemoOk par 28 tab28_16 := .cons m313 <| ok28_7
noncomputable def par17_0 : Par := par.with 7 (memoF par16 1000 7 tab7_2)
theorem parOk17_0 : ParOk par17_0 := memo_with (base := par) parOk16 rfl rfl parOk rfl rfl ok7_2
noncomputable def par17_1 : Par := par17_0.with 11 (memoF par16 1000 11 tab11_0)
theorem parOk17_1 : ParOk par17_1 := memo_with (base := par) parOk16 rfl rfl parOk17_0 rfl rfl ok11_0
noncomputable def par17_2 : Par := par17_1.with 14 (memoF par16 1000 14 tab14_4)
theorem parOk17_2 : ParOk par17_2 := memo_with (base := par) parOk16 rfl rfl parOk17_1 rfl rfl ok14_4
noncomputable def par17_3 : Par := par17_2.with 27 (memoF par16 1000 27 tab27_15)
theorem parOk17_3 : ParOk par17_3 := memo_with (base := par) parOk16 rfl rfl parOk17_2 rfl rfl ok27_15
noncomputable def par17_4 : Par := par17_3.with 28 (memoF par16 1000 28 tab28_16)
theorem parOk17_4 : ParOk par17_4 := memo_with (base := par) parOk16 rfl rfl parOk17_3 rfl rfl ok28_16
noncomputable def par17_5 : Par := par17_4.with 29 (memoF par16 1000 29 tab29_10)
theorem parOk17_5 : ParOk par17_5 := memo_with (base := par) parOk16 rfl rfl parOk17_4 rfl rfl ok29_10
noncomputable def par17_6 : Par := par17_5.with 30 (memoF par16 1000 30 tab30_11)
theorem parOk17_6 : ParOk par17_6 := memo_with (base := par) parOk16 rfl rfl parOk17_5 rfl rfl ok30_11
noncomputable def par17_7 : Par := par17_6.with 31 (memoF par16 1000 31 tab31_2)
theorem parOk17_7 : ParOk par17_7 := memo_with (base := par) parOk16 rfl rfl parOk17_6 rfl rfl ok31_2
noncomputable def par17_8 : Par := par17_7.with 32 (memoF par16 1000 32 tab32_7)
theorem parOk17_8 : ParOk par17_8 := memo_with (base := par) parOk16 rfl rfl parOk17_7 rfl rfl ok32_7
noncomputable def par17_9 : Par := par17_8.with 35 (memoF par16 1000 35 tab35_1)
theorem parOk17_9 : ParOk par17_9 := memo_with (base := par) parOk16 rfl rfl parOk17_8 rfl rfl ok35_1
noncomputable def par17_10 : Par := par17_9.with 36 (memoF par16 1000 36 tab36_5)
theorem parOk17_10 : ParOk par17_10 := memo_with (base := par) parOk16 rfl rfl parOk17_9 rfl rfl ok36_5
noncomputable def par17_11 : Par := par17_10.with 45 (memoF par16 1000 45 tab45_0)
theorem parOk17_11 : ParOk par17_11 := memo_with (base := par) parOk16 rfl rfl parOk17_10 rfl rfl ok45_0
noncomputable def par17_12 : Par := par17_11.with 48 (memoF par16 1000 48 tab48_3)
theorem parOk17_12 : ParOk par17_12 := memo_with (base := par) parOk16 rfl rfl parOk17_11 rfl rfl ok48_3
noncomputable def par17_13 : Par := par17_12.with 49 (memoF par16 1000 49 tab49_2)
theorem parOk17_13 : ParOk par17_13 := memo_with (base := par) parOk16 rfl rfl parOk17_12 rfl rfl ok49_2
noncomputable def par17_14 : Par := par17_13.with 51 (memoF par16 1000 51 tab51_5)
theorem parOk17_14 : ParOk par17_14 := memo_with (base := par) parOk16 rfl rfl parOk17_13 rfl rfl ok51_5
noncomputable def par17_15 : Par := par17_14.with 53 (memoF par16 1000 53 tab53_6)
theorem parOk17_15 : ParOk par17_15 := memo_with (base := par) parOk16 rfl rfl parOk17_14 rfl rfl ok53_6
noncomputable def par17_16 : Par := par17_15.with 54 (memoF par16 1000 54 tab54_12)
theorem parOk17_16 : ParOk par17_16 := memo_with (base := par) parOk16 rfl rfl parOk17_15 rfl rfl ok54_12
noncomputable def par17_17 : Par := par17_16.with 56 (memoF par16 1000 56 tab56_1)
theorem parOk17_17 : ParOk par17_17 := memo_with (base := par) parOk16 rfl rfl parOk17_16 rfl rfl ok56_1
noncomputable def par17_18 : Par := par17_17.with 57 (memoF par16 1000 57 tab57_6)
theorem parOk17_18 : ParOk par17_18 := memo_with (base := par) parOk16 rfl rfl parOk17_17 rfl rfl ok57_6
noncomputable def par17_19 : Par := par17_18.with 58 (memoF par16 1000 58 tab58_1)
theorem parOk17_19 : ParOk par17_19 := memo_with (base := par) parOk16 rfl rfl parOk17_18 rfl rfl ok58_1
noncomputable def par17_20 : Par := par17_19.with 59 (memoF par16 1000 59 tab59_14)
theorem parOk17_20 : ParOk par17_20 := memo_with (base := par) parOk16 rfl rfl parOk17_19 rfl rfl ok59_14
noncomputable def par17_21 : Par := par17_20.with 63 (memoF par16 1000 63 tab63_1)
theorem parOk17_21 : ParOk par17_21 := memo_with (base := par) parOk16 rfl rfl parOk17_20 rfl rfl ok63_1
noncomputable def par17_22 : Par := par17_21.with 64 (memoF par16 1000 64 tab64_6)
theorem parOk17_22 : ParOk par17_22 := memo_with (base := par) parOk16 rfl rfl parOk17_21 rfl rfl ok64_6
noncomputable def par17_23 : Par := par17_22.with 65 (memoF par16 1000 65 tab65_5)
theorem parOk17_23 : ParOk par17_23 := memo_with (base := par) parOk16 rfl rfl parOk17_22 rfl rfl ok65_5
noncomputable def par17_24 : Par := par17_23.with 66 (memoF par16 1000 66 tab66_2)
theorem parOk17_24 : ParOk par17_24 := memo_with (base := par) parOk16 rfl rfl parOk17_23 rfl rfl ok66_2
noncomputable def par17_25 : Par := par17_24.with 67 (memoF par16 1000 67 tab67_9)
theorem parOk17_25 : ParOk par17_25 := memo_with (base := par) parOk16 rfl rfl parOk17_24 rfl rfl ok67_9
noncomputable def par17_26 : Par := par17_25.with 69 (memoF par16 1000 69 tab69_6)
theorem parOk17_26 : ParOk par17_26 := memo_with (base := par) parOk16 rfl rfl parOk17_25 rfl rfl ok69_6
noncomputable def par17_27 : Par := par17_26.with 70 (memoF par16 1000 70 tab70_1)
theorem parOk17_27 : ParOk par17_27 := memo_with (base := par) parOk16 rfl rfl parOk17_26 rfl rfl ok70_1
noncomputable def par17_28 : Par := par17_27.with 71 (memoF par16 1000 71 tab71_0)
theorem parOk17_28 : ParOk par17_28 := memo_with (base := par) parOk16 rfl rfl parOk17_27 rfl rfl ok71_0
noncomputable def par17_29 : Par := par17_28.with 74 (memoF par16 1000 74 tab74_0)
theorem parOk17_29 : ParOk par17_29 := memo_with (base := par) parOk16 rfl rfl parOk17_28 rfl rfl ok74_0
noncomputable def par17_30 : Par := par17_29.with 75 (memoF par16 1000 75 tab75_13)
theorem parOk17_30 : ParOk par17_30 := memo_with (base := par) parOk16 rfl rfl parOk17_29 rfl rfl ok75_13
noncomputable def par17_31 : Par := par17_30.with 98 (memoF par16 1000 98 tab98_1)
theorem parOk17_31 : ParOk par17_31 := memo_with (base := par) parOk16 rfl rfl parOk17_30 rfl rfl ok98_1
noncomputable def par17_32 : Par := par17_31.with 99 (memoF par16 1000 99 tab99_2)
theorem parOk17_32 : ParOk par17_32 := memo_with (base := par) parOk16 rfl rfl parOk17_31 rfl rfl ok99_2
noncomputable def par17_33 : Par := par17_32.with 100 (memoF par16 1000 100 tab100_1)
theorem parOk17_33 : ParOk par17_33 := memo_with (base := par) parOk16 rfl rfl parOk17_32 rfl rfl ok100_1
noncomputable def par17_34 : Par := par17_33.with 103 (memoF par16 1000 103 tab103_4)
theorem parOk17_34 : ParOk par17_34 := memo_with (base := par) parOk16 rfl rfl parOk17_33 rfl rfl ok103_4
noncomputable def par17_35 : Par := par17_34.with 104 (memoF par16 1000 104 tab104_5)
theorem parOk17_35 : ParOk par17_35 := memo_with (base := par) parOk16 rfl rfl parOk17_34 rfl rfl ok104_5
noncomputable def par17_36 : Par := par17_35.with 105 (memoF par16 1000 105 tab105_11)
theorem parOk17_36 : ParOk par17_36 := memo_with (base := par) parOk16 rfl rfl parOk17_35 rfl rfl ok105_11
noncomputable def par17_37 : Par := par17_36.with 106 (memoF par16 1000 106 tab106_5)
theorem parOk17_37 : ParOk par17_37 := memo_with (base := par) parOk16 rfl rfl parOk17_36 rfl rfl ok106_5
noncomputable def par17_38 : Par := par17_37.with 107 (memoF par16 1000 107 tab107_4)
theorem parOk17_38 : ParOk par17_38 := memo_with (base := par) parOk16 rfl rfl parOk17_37 rfl rfl ok107_4
noncomputable def par17_39 : Par := par17_38.with 110 (memoF par16 1000 110 tab110_4)
theorem parOk17_39 : ParOk par17_39 := memo_with (base := par) parOk16 rfl rfl parOk17_38 rfl rfl ok110_4
noncomputable def par17_40 : Par := par17_39.with 116 (memoF par16 1000 116 tab116_5)
theorem parOk17_40 : ParOk par17_40 := memo_with (base := par) parOk16 rfl rfl parOk17_39 rfl rfl ok116_5
noncomputable def par17_41 : Par := par17_40.with 117 (memoF par16 1000 117 tab117_3)
theorem parOk17_41 : ParOk par17_41 := memo_with (base := par) parOk16 rfl rfl parOk17_40 rfl rfl ok117_3
noncomputable def par17_42 : Par := par17_41.with 119 (memoF par16 1000 119 tab119_1)
theorem parOk17_42 : ParOk par17_42 := memo_with (base := par) parOk16 rfl rfl parOk17_41 rfl rfl ok119_1
noncomputable def par17_43 : Par := par17_42.with 120 (memoF par16 1000 120 tab120_2)
theorem parOk17_43 : ParOk par17_43 := memo_with (base := par) parOk16 rfl rfl parOk17_42 rfl rfl ok120_2
noncomputable def par17_44 : Par := par17_43.with 168 (memoF par16 1000 168 tab168_0)
theorem parOk17_44 : ParOk par17_44 := memo_with (base := par) parOk16 rfl rfl parOk17_43 rfl rfl ok168_0
noncomputable def par17_45 : Par := par17_44.with 170 (memoF par16 1000 170 tab170_1)
theorem parOk17_45 : ParOk par17_45 := memo_with (base := par) parOk16 rfl rfl parOk17_44 rfl rfl ok170_1
noncomputable def par17_46 : Par := par17_45.with 171 (memoF par16 1000 171 tab171_0)
theorem parOk17_46 : ParOk par17_46 := memo_with (base := par) parOk16 rfl rfl parOk17_45 rfl rfl ok171_0
noncomputable def par17_47 : Par := par17_46.with 172 (memoF par16 1000 172 tab172_0)
theorem parOk17_47 : ParOk par17_47 := memo_with (base := par) parOk16 rfl rfl parOk17_46 rfl rfl ok172_0
noncomputable def par17_48 : Par := par17_47.with 176 (memoF par16 1000 176 tab176_10)
theorem parOk17_48 : ParOk par17_48 := memo_with (base := par) parOk16 rfl rfl parOk17_47 rfl rfl ok176_10
noncomputable def par17_49 : Par := par17_48.with 180 (memoF par16 1000 180 tab180_3)
theorem parOk17_49 : ParOk par17_49 := memo_with (base := par) parOk16 rfl rfl parOk17_48 rfl rfl ok180_3
noncomputable def par17_50 : Par := par17_49.with 182 (memoF par16 1000 182 tab182_3)
theorem parOk17_50 : ParOk par17_50 := memo_with (base := par) parOk16 rfl rfl parOk17_49 rfl rfl ok182_3
noncomputable def par17_51 : Par := par17_50.with 183 (memoF par16 1000 183 tab183_6)
theorem parOk17_51 : ParOk par17_51 := memo_with (base := par) parOk16 rfl rfl parOk17_50 rfl rfl ok183_6
noncomputable def par17_52 : Par := par17_51.with 184 (memoF par16 1000 184 tab184_5)
theorem parOk17_52 : ParOk par17_52 := memo_with (base := par) parOk16 rfl rfl parOk17_51 rfl rfl ok184_5
noncomputable def par17_53 : Par := par17_52.with 185 (memoF par16 1000 185 tab185_2)
theorem parOk17_53 : ParOk par17_53 := memo_with (base := par) parOk16 rfl rfl parOk17_52 rfl rfl ok185_2
noncomputable def par17_54 : Par := par17_53.with 193 (memoF par16 1000 193 tab193_3)
theorem parOk17_54 : ParOk par17_54 := memo_with (base := par) parOk16 rfl rfl parOk17_53 rfl rfl ok193_3
noncomputable def par17_55 : Par := par17_54.with 230 (memoF par16 1000 230 tab230_0)
theorem parOk17_55 : ParOk par17_55 := memo_with (base := par) parOk16 rfl rfl parOk17_54 rfl rfl ok230_0
noncomputable def par17_56 : Par := par17_55.with 237 (memoF par16 1000 237 tab237_0)
theorem parOk17_56 : ParOk par17_56 := memo_with (base := par) parOk16 rfl rfl parOk17_55 rfl rfl ok237_0
noncomputable def par17_57 : Par := par17_56.with 239 (memoF par16 1000 239 tab239_0)
theorem parOk17_57 : ParOk par17_57 := memo_with (base := par) parOk16 rfl rfl parOk17_56 rfl rfl ok239_0
noncomputable def par17_58 : Par := par17_57.with 244 (memoF par16 1000 244 tab244_1)
theorem parOk17_58 : ParOk par17_58 := memo_with (base := par) parOk16 rfl rfl parOk17_57 rfl rfl ok244_1
noncomputable def par17_59 : Par := par17_58.with 247 (memoF par16 1000 247 tab247_1)
theorem parOk17_59 : ParOk par17_59 := memo_with (base := par) parOk16 rfl rfl parOk17_58 rfl rfl ok247_1
noncomputable def par17_60 : Par := par17_59.with 250 (memoF par16 1000 250 tab250_0)
theorem parOk17_60 : ParOk par17_60 := memo_with (base := par) parOk16 rfl rfl parOk17_59 rfl rfl ok250_0
noncomputable def par17_61 : Par := par17_60.with 251 (memoF par16 1000 251 tab251_2)
theorem parOk17_61 : ParOk par17_61 := memo_with (base := par) parOk16 rfl rfl parOk17_60 rfl rfl ok251_2
noncomputable def par17_62 : Par := par17_61.with 291 (memoF par16 1000 291 tab291_0)
theorem parOk17_62 : ParOk par17_62 := memo_with (base := par) parOk16 rfl rfl parOk17_61 rfl rfl ok291_0
noncomputable def par17_63 : Par := par17_62.with 296 (memoF par16 1000 296 tab296_4)
theorem parOk17_63 : ParOk par17_63 := memo_with (base := par) parOk16 rfl rfl parOk17_62 rfl rfl ok296_4
noncomputable def par17_64 : Par := par17_63.with 307 (memoF par16 1000 307 tab307_0)
theorem parOk17_64 : ParOk par17_64 := memo_with (base := par) parOk16 rfl rfl parOk17_63 rfl rfl ok307_0
noncomputable def par17_65 : Par := par17_64.with 311 (memoF par16 1000 311 tab311_0)
theorem parOk17_65 : ParOk par17_65 := memo_with (base := par) parOk16 rfl rfl parOk17_64 rfl rfl ok311_0
noncomputable def par17_66 : Par := par17_65.with 313 (memoF par16 1000 313 tab313_1)
theorem parOk17_66 : ParOk par17_66 := memo_with (base := par) parOk16 rfl rfl parOk17_65 rfl rfl ok313_1
noncomputable def par17_67 : Par := par17_66.with 332 (memoF par16 1000 332 tab332_2)
theorem parOk17_67 : ParOk par17_67 := memo_with (base := par) parOk16 rfl rfl parOk17_66 rfl rfl ok332_2
noncomputable def par17_68 : Par := par17_67.with 333 (memoF par16 1000 333 tab333_3)
theorem parOk17_68 : ParOk par17_68 := memo_with (base := par) parOk16 rfl rfl parOk17_67 rfl rfl ok333_3
noncomputable def par17_69 : Par := par17_68.with 335 (memoF par16 1000 335 tab335_1)
theorem parOk17_69 : ParOk par17_69 := memo_with (base := par) parOk16 rfl rfl parOk17_68 rfl rfl ok335_1
noncomputable def par17 : Par := par17_69.with 344 (memoF par16 1000 344 tab344_0)
theorem parOk17 : ParOk par17 := memo_with (base := par) parOk16 rfl rfl parOk17_69 rfl rfl ok344_0
end Go.Proofs.YtjofohhnkdbfbaaGreatDoor
