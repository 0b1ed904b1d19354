/- CALLS SHOWN ONCE BY THE KERNEL, kept as tables, part 1. MADE BY PROGRAM (genmemo.py). -/
import Derived.Test.YtjofohhnkdbfbaaGreatDoorBiM0x0
import Derived.KernelRfl
set_option linter.unusedVariables false
set_option maxRecDepth 100000
namespace Go.Proofs.YtjofohhnkdbfbaaGreatDoor
open Go Go.BI
attribute [local irreducible] NextOk NatAt
noncomputable def e228 : List V × V := ([.str [115, 105, 103, 110, 105, 110, 103, 84, 105, 109, 101]], (gu8 [42, 134, 72, 134, 247, 13, 1, 9, 5]))
theorem m228 : NatAt par 14 e228.1 e228.2 := .base (par := par) (par' := par4) rfl rfl (.of_eval (n := 1000) parOk4 (by kernel_rfl))
noncomputable def e229 : List V × V := ([.str [109, 101, 115, 115, 97, 103, 101, 68, 105, 103, 101, 115, 116]], (gu8 [42, 134, 72, 134, 247, 13, 1, 9, 4]))
theorem m229 : NatAt par 14 e229.1 e229.2 := .base (par := par) (par' := par4) rfl rfl (.of_eval (n := 1000) parOk4 (by kernel_rfl))
noncomputable def e230 : List V × V := ([.int .i64 (1)], .tup [.str [49, 57, 55, 48, 48, 49, 48, 49, 48, 48, 48, 48, 48, 48, 46, 48, 48, 49, 90], .int .i64 (0)])
theorem m230 : NatAt par 107 e230.1 e230.2 := .base (par := par) (par' := par4) rfl rfl (.of_eval (n := 1000) parOk4 (by kernel_rfl))
noncomputable def e231 : List V × V := ([.str [99, 111, 110, 116, 101, 110, 116, 84, 121, 112, 101]], (gu8 [42, 134, 72, 134, 247, 13, 1, 9, 3]))
theorem m231 : NatAt par 14 e231.1 e231.2 := .base (par := par) (par' := par4) rfl rfl (.of_eval (n := 1000) parOk4 (by kernel_rfl))
noncomputable def e232 : List V × V := ([.str [115, 104, 97, 50, 53, 54]], (gu8 [96, 134, 72, 1, 101, 3, 4, 2, 1]))
theorem m232 : NatAt par 14 e232.1 e232.2 := .base (par := par) (par' := par4) rfl rfl (.of_eval (n := 1000) parOk4 (by kernel_rfl))
noncomputable def e233 : List V × V := ([.str [115, 105, 103, 110, 105, 110, 103, 67, 101, 114, 116, 105, 102, 105, 99, 97, 116, 101, 86, 50]], (gu8 [42, 134, 72, 134, 247, 13, 1, 9, 16, 2, 47]))
theorem m233 : NatAt par 14 e233.1 e233.2 := .base (par := par) (par' := par4) rfl rfl (.of_eval (n := 1000) parOk4 (by kernel_rfl))
noncomputable def e234 : List V × V := ([.str [99, 111, 109, 109, 111, 110, 78, 97, 109, 101]], .agg [.int .i64 (0), .int .i64 (6), .bool false, (gu8 [85, 4, 3]), .slice true 0 []])
theorem m234 : NatAt par 116 e234.1 e234.2 := .base (par := par) (par' := par4) rfl rfl (.of_eval (n := 1000) parOk4 (by kernel_rfl))
noncomputable def e235 : List V × V := ([(gu8 [42, 134, 72, 134, 247, 13, 1, 9, 5])], .bool true)
theorem m235 : NatAt par 103 e235.1 e235.2 := .base (par := par) (par' := par4) rfl rfl (.of_eval (n := 1000) parOk4 (by kernel_rfl))
noncomputable def e236 : List V × V := ([.agg [.int .i64 (0), .int .i64 (16), .bool true, .slice true 0 [], .slice false 5 [.agg [.int .i64 (0), .int .i64 (6), .bool false, (gu8 [42, 3]), .slice true 0 []], .agg [.int .i64 (0), .int .i64 (17), .bool true, .slice true 0 [], .slice false 5 [.agg [.int .i64 (0), .int .i64 (2), .bool false, (gu8 [5]), .slice true 0 []]]]]]], .tup [(gu8 [48, 9, 6, 2, 42, 3, 49, 3, 2, 1, 5]), .int .i64 (0)])
theorem m236 : NatAt par 36 e236.1 e236.2 := .base (par := par) (par' := par4) rfl rfl (.of_eval (n := 1000) parOk4 (by kernel_rfl))
noncomputable def e237 : List V × V := ([.str [100, 97, 116, 97]], (gu8 [42, 134, 72, 134, 247, 13, 1, 7, 1]))
theorem m237 : NatAt par 14 e237.1 e237.2 := .base (par := par) (par' := par4) rfl rfl (.of_eval (n := 1000) parOk4 (by kernel_rfl))
noncomputable def e238 : List V × V := ([.agg [.int .i64 (0), .int .i64 (16), .bool true, .slice true 0 [], .slice false 5 [.agg [.int .i64 (0), .int .i64 (16), .bool true, .slice true 0 [], .slice false 5 [.agg [.int .i64 (2), .int .i64 (4), .bool true, .slice true 0 [], .slice false 5 [.agg [.int .i64 (0), .int .i64 (16), .bool true, .slice true 0 [], .slice false 5 [.agg [.int .i64 (0), .int .i64 (17), .bool true, .slice true 0 [], .slice false 5 [.agg [.int .i64 (0), .int .i64 (16), .bool true, .slice true 0 [], .slice false 5 [.agg [.int .i64 (0), .int .i64 (6), .bool false, (gu8 [85, 4, 3]), .slice true 0 []], .agg [.int .i64 (0), .int .i64 (12), .bool false, (gu8 [97]), .slice true 0 []]]]]]]]]]]], .agg [.int .i64 (0), .int .i64 (2), .bool false, (gu8 [1]), .slice true 0 []]]]], .tup [.int .i64 (9), .int .i64 (7)])
theorem m238 : NatAt par 176 e238.1 e238.2 := .base (par := par) (par' := par4) rfl rfl (.of_eval (n := 1000) parOk4 (by kernel_rfl))
noncomputable def e239 : List V × V := ([.int .i64 (1000)], .tup [.str [49, 57, 55, 48, 48, 49, 48, 49, 48, 48, 48, 48, 48, 49, 90], .int .i64 (0)])
theorem m239 : NatAt par 107 e239.1 e239.2 := .base (par := par) (par' := par4) rfl rfl (.of_eval (n := 1000) parOk4 (by kernel_rfl))
noncomputable def e240 : List V × V := ([(gu8 [55, 48, 48, 49, 48, 49, 48, 48, 48, 48, 48, 49, 90])], .bool true)
theorem m240 : NatAt par 296 e240.1 e240.2 := .base (par := par) (par' := par4) rfl rfl (.of_eval (n := 1000) parOk4 (by kernel_rfl))
noncomputable def e241 : List V × V := ([(gu8 [42, 134, 72, 134, 247, 13, 1, 9, 16, 2, 47])], .str [115, 105, 103, 110, 105, 110, 103, 67, 101, 114, 116, 105, 102, 105, 99, 97, 116, 101, 86, 50])
theorem m241 : NatAt par 110 e241.1 e241.2 := .base (par := par) (par' := par4) rfl rfl (.of_eval (n := 1000) parOk4 (by kernel_rfl))
noncomputable def e242 : List V × V := ([.str [115, 104, 97, 53, 49, 50]], (gu8 [96, 134, 72, 1, 101, 3, 4, 2, 3]))
theorem m242 : NatAt par 14 e242.1 e242.2 := .base (par := par) (par' := par4) rfl rfl (.of_eval (n := 1000) parOk4 (by kernel_rfl))
noncomputable def e243 : List V × V := ([.agg [.int .i64 (0), .int .i64 (17), .bool true, .slice true 0 [], .slice false 5 [.agg [.int .i64 (0), .int .i64 (16), .bool true, .slice true 0 [], .slice false 5 [.agg [.int .i64 (0), .int .i64 (6), .bool false, (gu8 [42, 134, 72, 134, 247, 13, 1, 9, 4]), .slice true 0 []], .agg [.int .i64 (0), .int .i64 (17), .bool true, .slice true 0 [], .slice false 5 [.agg [.int .i64 (0), .int .i64 (4), .bool false, (gu8 [1]), .slice true 0 []]]]]]]]], .tup [.int .i64 (20), .int .i64 (0)])
theorem m243 : NatAt par 75 e243.1 e243.2 := .base (par := par) (par' := par4) rfl rfl (.of_eval (n := 1000) parOk4 (by kernel_rfl))
noncomputable def tab14_4 : List (List V × V) := e228 :: e229 :: e231 :: e232 :: e233 :: e237 :: e242 :: tab14_3
theorem ok14_4 : MemoOk par 14 tab14_4 := .cons m228 <| .cons m229 <| .cons m231 <| .cons m232 <| .cons m233 <| .cons m237 <| .cons m242 <| ok14_3
noncomputable def tab36_4 : List (List V × V) := e236 :: []
theorem ok36_4 : MemoOk par 36 tab36_4 := .cons m236 <| .nil
noncomputable def tab75_4 : List (List V × V) := e243 :: tab75_3
theorem ok75_4 : MemoOk par 75 tab75_4 := .cons m243 <| ok75_3
noncomputable def tab103_4 : List (List V × V) := e235 :: tab103_3
theorem ok103_4 : MemoOk par 103 tab103_4 := .cons m235 <| ok103_3
noncomputable def tab107_4 : List (List V × V) := e230 :: e239 :: []
theorem ok107_4 : MemoOk par 107 tab107_4 := .cons m230 <| .cons m239 <| .nil
noncomputable def tab110_4 : List (List V × V) := e241 :: tab110_3
theorem ok110_4 : MemoOk par 110 tab110_4 := .cons m241 <| ok110_3
noncomputable def tab116_4 : List (List V × V) := e234 :: []
theorem ok116_4 : MemoOk par 116 tab116_4 := .cons m234 <| .nil
noncomputable def tab176_4 : List (List V × V) := e238 :: tab176_3
theorem ok176_4 : MemoOk par 176 tab176_4 := .cons m238 <| ok176_3
noncomputable def tab296_4 : List (List V × V) := e240 :: []
theorem ok296_4 : MemoOk par 296 tab296_4 := .cons m240 <| .nil
noncomputable def par5_0 : Par := par.with 7 (memoF par4 1000 7 tab7_2)
theorem parOk5_0 : ParOk par5_0 := memo_with (base := par) parOk4 rfl rfl parOk rfl rfl ok7_2
noncomputable def par5_1 : Par := par5_0.with 11 (memoF par4 1000 11 tab11_0)
theorem parOk5_1 : ParOk par5_1 := memo_with (base := par) parOk4 rfl rfl parOk5_0 rfl rfl ok11_0
noncomputable def par5_2 : Par := par5_1.with 14 (memoF par4 1000 14 tab14_4)
theorem parOk5_2 : ParOk par5_2 := memo_with (base := par) parOk4 rfl rfl parOk5_1 rfl rfl ok14_4
noncomputable def par5_3 : Par := par5_2.with 31 (memoF par4 1000 31 tab31_2)
theorem parOk5_3 : ParOk par5_3 := memo_with (base := par) parOk4 rfl rfl parOk5_2 rfl rfl ok31_2
noncomputable def par5_4 : Par := par5_3.with 35 (memoF par4 1000 35 tab35_1)
theorem parOk5_4 : ParOk par5_4 := memo_with (base := par) parOk4 rfl rfl parOk5_3 rfl rfl ok35_1
noncomputable def par5_5 : Par := par5_4.with 36 (memoF par4 1000 36 tab36_4)
theorem parOk5_5 : ParOk par5_5 := memo_with (base := par) parOk4 rfl rfl parOk5_4 rfl rfl ok36_4
noncomputable def par5_6 : Par := par5_5.with 45 (memoF par4 1000 45 tab45_0)
theorem parOk5_6 : ParOk par5_6 := memo_with (base := par) parOk4 rfl rfl parOk5_5 rfl rfl ok45_0
noncomputable def par5_7 : Par := par5_6.with 48 (memoF par4 1000 48 tab48_3)
theorem parOk5_7 : ParOk par5_7 := memo_with (base := par) parOk4 rfl rfl parOk5_6 rfl rfl ok48_3
noncomputable def par5_8 : Par := par5_7.with 49 (memoF par4 1000 49 tab49_2)
theorem parOk5_8 : ParOk par5_8 := memo_with (base := par) parOk4 rfl rfl parOk5_7 rfl rfl ok49_2
noncomputable def par5_9 : Par := par5_8.with 54 (memoF par4 1000 54 tab54_3)
theorem parOk5_9 : ParOk par5_9 := memo_with (base := par) parOk4 rfl rfl parOk5_8 rfl rfl ok54_3
noncomputable def par5_10 : Par := par5_9.with 56 (memoF par4 1000 56 tab56_1)
theorem parOk5_10 : ParOk par5_10 := memo_with (base := par) parOk4 rfl rfl parOk5_9 rfl rfl ok56_1
noncomputable def par5_11 : Par := par5_10.with 58 (memoF par4 1000 58 tab58_1)
theorem parOk5_11 : ParOk par5_11 := memo_with (base := par) parOk4 rfl rfl parOk5_10 rfl rfl ok58_1
noncomputable def par5_12 : Par := par5_11.with 63 (memoF par4 1000 63 tab63_1)
theorem parOk5_12 : ParOk par5_12 := memo_with (base := par) parOk4 rfl rfl parOk5_11 rfl rfl ok63_1
noncomputable def par5_13 : Par := par5_12.with 66 (memoF par4 1000 66 tab66_2)
theorem parOk5_13 : ParOk par5_13 := memo_with (base := par) parOk4 rfl rfl parOk5_12 rfl rfl ok66_2
noncomputable def par5_14 : Par := par5_13.with 70 (memoF par4 1000 70 tab70_1)
theorem parOk5_14 : ParOk par5_14 := memo_with (base := par) parOk4 rfl rfl parOk5_13 rfl rfl ok70_1
noncomputable def par5_15 : Par := par5_14.with 71 (memoF par4 1000 71 tab71_0)
theorem parOk5_15 : ParOk par5_15 := memo_with (base := par) parOk4 rfl rfl parOk5_14 rfl rfl ok71_0
noncomputable def par5_16 : Par := par5_15.with 74 (memoF par4 1000 74 tab74_0)
theorem parOk5_16 : ParOk par5_16 := memo_with (base := par) parOk4 rfl rfl parOk5_15 rfl rfl ok74_0
noncomputable def par5_17 : Par := par5_16.with 75 (memoF par4 1000 75 tab75_4)
theorem parOk5_17 : ParOk par5_17 := memo_with (base := par) parOk4 rfl rfl parOk5_16 rfl rfl ok75_4
noncomputable def par5_18 : Par := par5_17.with 98 (memoF par4 1000 98 tab98_1)
theorem parOk5_18 : ParOk par5_18 := memo_with (base := par) parOk4 rfl rfl parOk5_17 rfl rfl ok98_1
noncomputable def par5_19 : Par := par5_18.with 99 (memoF par4 1000 99 tab99_2)
theorem parOk5_19 : ParOk par5_19 := memo_with (base := par) parOk4 rfl rfl parOk5_18 rfl rfl ok99_2
noncomputable def par5_20 : Par := par5_19.with 100 (memoF par4 1000 100 tab100_1)
theorem parOk5_20 : ParOk par5_20 := memo_with (base := par) parOk4 rfl rfl parOk5_19 rfl rfl ok100_1
noncomputable def par5_21 : Par := par5_20.with 103 (memoF par4 1000 103 tab103_4)
theorem parOk5_21 : ParOk par5_21 := memo_with (base := par) parOk4 rfl rfl parOk5_20 rfl rfl ok103_4
noncomputable def par5_22 : Par := par5_21.with 105 (memoF par4 1000 105 tab105_2)
theorem parOk5_22 : ParOk par5_22 := memo_with (base := par) parOk4 rfl rfl parOk5_21 rfl rfl ok105_2
noncomputable def par5_23 : Par := par5_22.with 107 (memoF par4 1000 107 tab107_4)
theorem parOk5_23 : ParOk par5_23 := memo_with (base := par) parOk4 rfl rfl parOk5_22 rfl rfl ok107_4
noncomputable def par5_24 : Par := par5_23.with 110 (memoF par4 1000 110 tab110_4)
theorem parOk5_24 : ParOk par5_24 := memo_with (base := par) parOk4 rfl rfl parOk5_23 rfl rfl ok110_4
noncomputable def par5_25 : Par := par5_24.with 116 (memoF par4 1000 116 tab116_4)
theorem parOk5_25 : ParOk par5_25 := memo_with (base := par) parOk4 rfl rfl parOk5_24 rfl rfl ok116_4
noncomputable def par5_26 : Par := par5_25.with 117 (memoF par4 1000 117 tab117_3)
theorem parOk5_26 : ParOk par5_26 := memo_with (base := par) parOk4 rfl rfl parOk5_25 rfl rfl ok117_3
noncomputable def par5_27 : Par := par5_26.with 119 (memoF par4 1000 119 tab119_1)
theorem parOk5_27 : ParOk par5_27 := memo_with (base := par) parOk4 rfl rfl parOk5_26 rfl rfl ok119_1
noncomputable def par5_28 : Par := par5_27.with 120 (memoF par4 1000 120 tab120_2)
theorem parOk5_28 : ParOk par5_28 := memo_with (base := par) parOk4 rfl rfl parOk5_27 rfl rfl ok120_2
noncomputable def par5_29 : Par := par5_28.with 168 (memoF par4 1000 168 tab168_0)
theorem parOk5_29 : ParOk par5_29 := memo_with (base := par) parOk4 rfl rfl parOk5_28 rfl rfl ok168_0
noncomputable def par5_30 : Par := par5_29.with 170 (memoF par4 1000 170 tab170_1)
theorem parOk5_30 : ParOk par5_30 := memo_with (base := par) parOk4 rfl rfl parOk5_29 rfl rfl ok170_1
noncomputable def par5_31 : Par := par5_30.with 171 (memoF par4 1000 171 tab171_0)
theorem parOk5_31 : ParOk par5_31 := memo_with (base := par) parOk4 rfl rfl parOk5_30 rfl rfl ok171_0
noncomputable def par5_32 : Par := par5_31.with 172 (memoF par4 1000 172 tab172_0)
theorem parOk5_32 : ParOk par5_32 := memo_with (base := par) parOk4 rfl rfl parOk5_31 rfl rfl ok172_0
noncomputable def par5_33 : Par := par5_32.with 176 (memoF par4 1000 176 tab176_4)
theorem parOk5_33 : ParOk par5_33 := memo_with (base := par) parOk4 rfl rfl parOk5_32 rfl rfl ok176_4
noncomputable def par5_34 : Par := par5_33.with 180 (memoF par4 1000 180 tab180_3)
theorem parOk5_34 : ParOk par5_34 := memo_with (base := par) parOk4 rfl rfl parOk5_33 rfl rfl ok180_3
noncomputable def par5_35 : Par := par5_34.with 182 (memoF par4 1000 182 tab182_3)
theorem parOk5_35 : ParOk par5_35 := memo_with (base := par) parOk4 rfl rfl parOk5_34 rfl rfl ok182_3
noncomputable def par5_36 : Par := par5_35.with 185 (memoF par4 1000 185 tab185_2)
theorem parOk5_36 : ParOk par5_36 := memo_with (base := par) parOk4 rfl rfl parOk5_35 rfl rfl ok185_2
noncomputable def par5_37 : Par := par5_36.with 193 (memoF par4 1000 193 tab193_3)
theorem parOk5_37 : ParOk par5_37 := memo_with (base := par) parOk4 rfl rfl parOk5_36 rfl rfl ok193_3
noncomputable def par5_38 : Par := par5_37.with 230 (memoF par4 1000 230 tab230_0)
theorem parOk5_38 : ParOk par5_38 := memo_with (base := par) parOk4 rfl rfl parOk5_37 rfl rfl ok230_0
noncomputable def par5_39 : Par := par5_38.with 237 (memoF par4 1000 237 tab237_0)
theorem parOk5_39 : ParOk par5_39 := memo_with (base := par) parOk4 rfl rfl parOk5_38 rfl rfl ok237_0
noncomputable def par5_40 : Par := par5_39.with 239 (memoF par4 1000 239 tab239_0)
theorem parOk5_40 : ParOk par5_40 := memo_with (base := par) parOk4 rfl rfl parOk5_39 rfl rfl ok239_0
noncomputable def par5_41 : Par := par5_40.with 244 (memoF par4 1000 244 tab244_1)
theorem parOk5_41 : ParOk par5_41 := memo_with (base := par) parOk4 rfl rfl parOk5_40 rfl rfl ok244_1
noncomputable def par5_42 : Par := par5_41.with 247 (memoF par4 1000 247 tab247_1)
theorem parOk5_42 : ParOk par5_42 := memo_with (base := par) parOk4 rfl rfl parOk5_41 rfl rfl ok247_1
noncomputable def par5_43 : Par := par5_42.with 250 (memoF par4 1000 250 tab250_0)
theorem parOk5_43 : ParOk par5_43 := memo_with (base := par) parOk4 rfl rfl parOk5_42 rfl rfl ok250_0
noncomputable def par5_44 : Par := par5_43.with 251 (memoF par4 1000 251 tab251_2)
theorem parOk5_44 : ParOk par5_44 := memo_with (base := par) parOk4 rfl rfl parOk5_43 rfl rfl ok251_2
noncomputable def par5_45 : Par := par5_44.with 291 (memoF par4 1000 291 tab291_0)
theorem parOk5_45 : ParOk par5_45 := memo_with (base := par) parOk4 rfl rfl parOk5_44 rfl rfl ok291_0
noncomputable def par5_46 : Par := par5_45.with 296 (memoF par4 1000 296 tab296_4)
theorem parOk5_46 : ParOk par5_46 := memo_with (base := par) parOk4 rfl rfl parOk5_45 rfl rfl ok296_4
noncomputable def par5_47 : Par := par5_46.with 307 (memoF par4 1000 307 tab307_0)
theorem parOk5_47 : ParOk par5_47 := memo_with (base := par) parOk4 rfl rfl parOk5_46 rfl rfl ok307_0
noncomputable def par5_48 : Par := par5_47.with 311 (memoF par4 1000 311 tab311_0)
theorem parOk5_48 : ParOk par5_48 := memo_with (base := par) parOk4 rfl rfl parOk5_47 rfl rfl ok311_0
noncomputable def par5_49 : Par := par5_48.with 313 (memoF par4 1000 313 tab313_1)
theorem parOk5_49 : ParOk par5_49 := memo_with (base := par) parOk4 rfl rfl parOk5_48 rfl rfl ok313_1
noncomputable def par5_50 : Par := par5_49.with 332 (memoF par4 1000 332 tab332_2)
theorem parOk5_50 : ParOk par5_50 := memo_with (base := par) parOk4 rfl rfl parOk5_49 rfl rfl ok332_2
noncomputable def par5_51 : Par := par5_50.with 333 (memoF par4 1000 333 tab333_3)
theorem parOk5_51 : ParOk par5_51 := memo_with (base := par) parOk4 rfl rfl parOk5_50 rfl rfl ok333_3
noncomputable def par5_52 : Par := par5_51.with 335 (memoF par4 1000 335 tab335_1)
theorem parOk5_52 : ParOk par5_52 := memo_with (base := par) parOk4 rfl rfl parOk5_51 rfl rfl ok335_1
noncomputable def par5 : Par := par5_52.with 344 (memoF par4 1000 344 tab344_0)
theorem parOk5 : ParOk par5 := memo_with (base := par) parOk4 rfl rfl parOk5_52 rfl rfl ok344_0
noncomputable def e244 : List V × V := ([.str [109, 101, 115, 115, 97, 103, 101, 68, 105, 103, 101, 115, 116], .agg [.int .i64 (0), .int .i64 (4), .bool false, .slice true 0 [], .slice true 0 []]], .agg [.int .i64 (0), .int .i64 (16), .bool true, .slice true 0 [], .slice false 5 [.agg [.int .i64 (0), .int .i64 (6), .bool false, (gu8 [42, 134, 72, 134, 247, 13, 1, 9, 4]), .slice true 0 []], .agg [.int .i64 (0), .int .i64 (17), .bool true, .slice true 0 [], .slice false 5 [.agg [.int .i64 (0), .int .i64 (4), .bool false, .slice true 0 [], .slice true 0 []]]]]])
theorem m244 : NatAt par 51 e244.1 e244.2 := .base (par := par) (par' := par5) rfl rfl (.of_eval (n := 1000) parOk5 (by kernel_rfl))
noncomputable def e245 : List V × V := ([.str [109, 101, 115, 115, 97, 103, 101, 68, 105, 103, 101, 115, 116], .agg [.int .i64 (0), .int .i64 (4), .bool false, (gu8 [0, 0, 0, 0, 0, 0, 0, 0, 0, 0, 0, 0, 0, 0, 0, 0, 0, 0, 0, 0, 0, 0, 0, 0, 0, 0, 0, 0, 0, 0, 0, 0, 0, 0, 0, 0, 0, 0, 0, 0, 0, 0, 0, 0, 0, 0, 0, 0, 0, 0, 0, 0, 0, 0, 0, 0, 0, 0, 0, 0, 0, 0, 0, 0, 0]), .slice true 0 []]], .agg [.int .i64 (0), .int .i64 (16), .bool true, .slice true 0 [], .slice false 5 [.agg [.int .i64 (0), .int .i64 (6), .bool false, (gu8 [42, 134, 72, 134, 247, 13, 1, 9, 4]), .slice true 0 []], .agg [.int .i64 (0), .int .i64 (17), .bool true, .slice true 0 [], .slice false 5 [.agg [.int .i64 (0), .int .i64 (4), .bool false, (gu8 [0, 0, 0, 0, 0, 0, 0, 0, 0, 0, 0, 0, 0, 0, 0, 0, 0, 0, 0, 0, 0, 0, 0, 0, 0, 0, 0, 0, 0, 0, 0, 0, 0, 0, 0, 0, 0, 0, 0, 0, 0, 0, 0, 0, 0, 0, 0, 0, 0, 0, 0, 0, 0, 0, 0, 0, 0, 0, 0, 0, 0, 0, 0, 0, 0]), .slice true 0 []]]]]])
theorem m245 : NatAt par 51 e245.1 e245.2 := .base (par := par) (par' := par5) rfl rfl (.of_eval (n := 1000) parOk5 (by kernel_rfl))
noncomputable def e246 : List V × V := ([.str [109, 101, 115, 115, 97, 103, 101, 68, 105, 103, 101, 115, 116], .agg [.int .i64 (0), .int .i64 (4), .bool false, (gu8 [1]), .slice true 0 []]], .agg [.int .i64 (0), .int .i64 (16), .bool true, .slice true 0 [], .slice false 5 [.agg [.int .i64 (0), .int .i64 (6), .bool false, (gu8 [42, 134, 72, 134, 247, 13, 1, 9, 4]), .slice true 0 []], .agg [.int .i64 (0), .int .i64 (17), .bool true, .slice true 0 [], .slice false 5 [.agg [.int .i64 (0), .int .i64 (4), .bool false, (gu8 [1]), .slice true 0 []]]]]])
theorem m246 : NatAt par 51 e246.1 e246.2 := .base (par := par) (par' := par5) rfl rfl (.of_eval (n := 1000) parOk5 (by kernel_rfl))
noncomputable def e247 : List V × V := ([.int .i64 (1)], .tup [.str [], .int .i64 (150)])
theorem m247 : NatAt par 106 e247.1 e247.2 := .base (par := par) (par' := par5) rfl rfl (.of_eval (n := 1000) parOk5 (by kernel_rfl))
noncomputable def e248 : List V × V := ([.str [115, 105, 103, 110, 105, 110, 103, 84, 105, 109, 101], .agg [.int .i64 (0), .int .i64 (24), .bool false, (gu8 [49, 57, 55, 48, 48, 49, 48, 49, 48, 48, 48, 48, 48, 48, 46, 48, 48, 49, 90]), .slice true 0 []]], .agg [.int .i64 (0), .int .i64 (16), .bool true, .slice true 0 [], .slice false 5 [.agg [.int .i64 (0), .int .i64 (6), .bool false, (gu8 [42, 134, 72, 134, 247, 13, 1, 9, 5]), .slice true 0 []], .agg [.int .i64 (0), .int .i64 (17), .bool true, .slice true 0 [], .slice false 5 [.agg [.int .i64 (0), .int .i64 (24), .bool false, (gu8 [49, 57, 55, 48, 48, 49, 48, 49, 48, 48, 48, 48, 48, 48, 46, 48, 48, 49, 90]), .slice true 0 []]]]]])
theorem m248 : NatAt par 51 e248.1 e248.2 := .base (par := par) (par' := par5) rfl rfl (.of_eval (n := 1000) parOk5 (by kernel_rfl))
noncomputable def e249 : List V × V := ([.str [115, 105, 103, 110, 105, 110, 103, 84, 105, 109, 101], .agg [.int .i64 (0), .int .i64 (24), .bool false, .slice false 1 [], .slice true 0 []]], .agg [.int .i64 (0), .int .i64 (16), .bool true, .slice true 0 [], .slice false 5 [.agg [.int .i64 (0), .int .i64 (6), .bool false, (gu8 [42, 134, 72, 134, 247, 13, 1, 9, 5]), .slice true 0 []], .agg [.int .i64 (0), .int .i64 (17), .bool true, .slice true 0 [], .slice false 5 [.agg [.int .i64 (0), .int .i64 (24), .bool false, .slice false 1 [], .slice true 0 []]]]]])
theorem m249 : NatAt par 51 e249.1 e249.2 := .base (par := par) (par' := par5) rfl rfl (.of_eval (n := 1000) parOk5 (by kernel_rfl))
noncomputable def e250 : List V × V := ([.str [99, 111, 110, 116, 101, 110, 116, 84, 121, 112, 101], .agg [.int .i64 (0), .int .i64 (6), .bool false, (gu8 [128]), .slice true 0 []]], .agg [.int .i64 (0), .int .i64 (16), .bool true, .slice true 0 [], .slice false 5 [.agg [.int .i64 (0), .int .i64 (6), .bool false, (gu8 [42, 134, 72, 134, 247, 13, 1, 9, 3]), .slice true 0 []], .agg [.int .i64 (0), .int .i64 (17), .bool true, .slice true 0 [], .slice false 5 [.agg [.int .i64 (0), .int .i64 (6), .bool false, (gu8 [128]), .slice true 0 []]]]]])
theorem m250 : NatAt par 51 e250.1 e250.2 := .base (par := par) (par' := par5) rfl rfl (.of_eval (n := 1000) parOk5 (by kernel_rfl))
noncomputable def e251 : List V × V := ([.str [115, 104, 97, 50, 53, 54]], .agg [.int .i64 (0), .int .i64 (6), .bool false, (gu8 [96, 134, 72, 1, 101, 3, 4, 2, 1]), .slice true 0 []])
theorem m251 : NatAt par 116 e251.1 e251.2 := .base (par := par) (par' := par5) rfl rfl (.of_eval (n := 1000) parOk5 (by kernel_rfl))
noncomputable def e252 : List V × V := ([.str [115, 105, 103, 110, 105, 110, 103, 67, 101, 114, 116, 105, 102, 105, 99, 97, 116, 101, 86, 50], .agg [.int .i64 (0), .int .i64 (16), .bool true, .slice true 0 [], .slice false 5 [.agg [.int .i64 (0), .int .i64 (16), .bool true, .slice true 0 [], .slice false 5 [.agg [.int .i64 (0), .int .i64 (0), .bool false, .slice true 0 [], .slice true 0 []]]]]]], .agg [.int .i64 (0), .int .i64 (16), .bool true, .slice true 0 [], .slice false 5 [.agg [.int .i64 (0), .int .i64 (6), .bool false, (gu8 [42, 134, 72, 134, 247, 13, 1, 9, 16, 2, 47]), .slice true 0 []], .agg [.int .i64 (0), .int .i64 (17), .bool true, .slice true 0 [], .slice false 5 [.agg [.int .i64 (0), .int .i64 (16), .bool true, .slice true 0 [], .slice false 5 [.agg [.int .i64 (0), .int .i64 (16), .bool true, .slice true 0 [], .slice false 5 [.agg [.int .i64 (0), .int .i64 (0), .bool false, .slice true 0 [], .slice true 0 []]]]]]]]]])
theorem m252 : NatAt par 51 e252.1 e252.2 := .base (par := par) (par' := par5) rfl rfl (.of_eval (n := 1000) parOk5 (by kernel_rfl))
noncomputable def e253 : List V × V := ([.slice false 3 [.agg [.int .i64 (1), .str [97], .bool false]]], .tup [.agg [.int .i64 (0), .int .i64 (16), .bool true, .slice true 0 [], .slice false 5 [.agg [.int .i64 (0), .int .i64 (17), .bool true, .slice true 0 [], .slice false 5 [.agg [.int .i64 (0), .int .i64 (16), .bool true, .slice true 0 [], .slice false 5 [.agg [.int .i64 (0), .int .i64 (6), .bool false, (gu8 [85, 4, 3]), .slice true 0 []], .agg [.int .i64 (0), .int .i64 (12), .bool false, (gu8 [97]), .slice true 0 []]]]]]]], .int .i64 (0)])
theorem m253 : NatAt par 65 e253.1 e253.2 := .base (par := par) (par' := par5) rfl rfl (.of_eval (n := 1000) parOk5 (by kernel_rfl))
noncomputable def e254 : List V × V := ([.slice false 5 [.agg [.int .i64 (0), .int .i64 (16), .bool true, .slice true 0 [], .slice false 5 [.agg [.int .i64 (0), .int .i64 (6), .bool false, (gu8 [42, 134, 72, 134, 247, 13, 1, 9, 5]), .slice true 0 []], .agg [.int .i64 (0), .int .i64 (17), .bool true, .slice true 0 [], .slice false 5 [.agg [.int .i64 (0), .int .i64 (2), .bool false, (gu8 [5]), .slice true 0 []]]]]]]], .bool false)
theorem m254 : NatAt par 53 e254.1 e254.2 := .base (par := par) (par' := par5) rfl rfl (.of_eval (n := 1000) parOk5 (by kernel_rfl))
noncomputable def e255 : List V × V := ([.agg [.int .i64 (0), .int .i64 (16), .bool true, .slice true 0 [], .slice false 5 [.agg [.int .i64 (0), .int .i64 (6), .bool false, (gu8 [42, 3]), .slice true 0 []], .agg [.int .i64 (0), .int .i64 (17), .bool true, .slice true 0 [], .slice false 5 [.agg [.int .i64 (0), .int .i64 (2), .bool false, (gu8 [5]), .slice true 0 []]]]]], .agg [.int .i64 (0), .int .i64 (16), .bool true, .slice true 0 [], .slice false 5 [.agg [.int .i64 (0), .int .i64 (6), .bool false, (gu8 [42, 3]), .slice true 0 []], .agg [.int .i64 (0), .int .i64 (17), .bool true, .slice true 0 [], .slice false 5 [.agg [.int .i64 (0), .int .i64 (2), .bool false, (gu8 [5]), .slice true 0 []]]]]]], .tup [.int .i64 (0), .int .i64 (0)])
theorem m255 : NatAt par 104 e255.1 e255.2 := .base (par := par) (par' := par5) rfl rfl (.of_eval (n := 1000) parOk5 (by kernel_rfl))
noncomputable def e256 : List V × V := ([.str [109, 101, 115, 115, 97, 103, 101, 68, 105, 103, 101, 115, 116], .agg [.int .i64 (0), .int .i64 (4), .bool false, (gu8 [0, 0, 0, 0, 0, 0, 0, 0, 0, 0, 0, 0, 0, 0, 0, 0, 0, 0, 0, 0, 0, 0, 0, 0, 0, 0, 0, 0, 0, 0, 0, 0, 0, 0, 0, 0, 0, 0, 0, 0, 0, 0, 0, 0, 0, 0, 0, 0, 0, 0, 0, 0, 0, 0, 0, 0, 0, 0, 0, 0, 0, 0, 0, 0]), .slice true 0 []]], .agg [.int .i64 (0), .int .i64 (16), .bool true, .slice true 0 [], .slice false 5 [.agg [.int .i64 (0), .int .i64 (6), .bool false, (gu8 [42, 134, 72, 134, 247, 13, 1, 9, 4]), .slice true 0 []], .agg [.int .i64 (0), .int .i64 (17), .bool true, .slice true 0 [], .slice false 5 [.agg [.int .i64 (0), .int .i64 (4), .bool false, (gu8 [0, 0, 0, 0, 0, 0, 0, 0, 0, 0, 0, 0, 0, 0, 0, 0, 0, 0, 0, 0, 0, 0, 0, 0, 0, 0, 0, 0, 0, 0, 0, 0, 0, 0, 0, 0, 0, 0, 0, 0, 0, 0, 0, 0, 0, 0, 0, 0, 0, 0, 0, 0, 0, 0, 0, 0, 0, 0, 0, 0, 0, 0, 0, 0]), .slice true 0 []]]]]])
theorem m256 : NatAt par 51 e256.1 e256.2 := .base (par := par) (par' := par5) rfl rfl (.of_eval (n := 1000) parOk5 (by kernel_rfl))
noncomputable def e257 : List V × V := ([.slice false 5 [.agg [.int .i64 (0), .int .i64 (16), .bool true, .slice true 0 [], .slice false 5 [.agg [.int .i64 (0), .int .i64 (6), .bool false, (gu8 [42, 3]), .slice true 0 []], .agg [.int .i64 (0), .int .i64 (17), .bool true, .slice true 0 [], .slice false 5 [.agg [.int .i64 (0), .int .i64 (2), .bool false, (gu8 [5]), .slice true 0 []]]]]]]], .bool true)
theorem m257 : NatAt par 53 e257.1 e257.2 := .base (par := par) (par' := par5) rfl rfl (.of_eval (n := 1000) parOk5 (by kernel_rfl))
noncomputable def e258 : List V × V := ([.str [99, 111, 110, 116, 101, 110, 116, 84, 121, 112, 101], .agg [.int .i64 (0), .int .i64 (6), .bool false, (gu8 [42, 134, 72, 134, 247, 13, 1, 7, 1]), .slice true 0 []]], .agg [.int .i64 (0), .int .i64 (16), .bool true, .slice true 0 [], .slice false 5 [.agg [.int .i64 (0), .int .i64 (6), .bool false, (gu8 [42, 134, 72, 134, 247, 13, 1, 9, 3]), .slice true 0 []], .agg [.int .i64 (0), .int .i64 (17), .bool true, .slice true 0 [], .slice false 5 [.agg [.int .i64 (0), .int .i64 (6), .bool false, (gu8 [42, 134, 72, 134, 247, 13, 1, 7, 1]), .slice true 0 []]]]]])
theorem m258 : NatAt par 51 e258.1 e258.2 := .base (par := par) (par' := par5) rfl rfl (.of_eval (n := 1000) parOk5 (by kernel_rfl))
noncomputable def e259 : List V × V := ([.agg [.int .i64 (0), .int .i64 (16), .bool true, .slice true 0 [], .slice false 5 [.agg [.int .i64 (0), .int .i64 (4), .bool false, (gu8 [0, 0, 0, 0, 0, 0, 0, 0, 0, 0, 0, 0, 0, 0, 0, 0, 0, 0, 0, 0, 0, 0, 0, 0, 0, 0, 0, 0, 0, 0, 0, 0]), .slice true 0 []], .agg [.int .i64 (0), .int .i64 (16), .bool true, .slice true 0 [], .slice false 5 [.agg [.int .i64 (0), .int .i64 (16), .bool true, .slice true 0 [], .slice false 5 [.agg [.int .i64 (2), .int .i64 (4), .bool true, .slice true 0 [], .slice false 5 [.agg [.int .i64 (0), .int .i64 (16), .bool true, .slice true 0 [], .slice false 5 [.agg [.int .i64 (0), .int .i64 (17), .bool true, .slice true 0 [], .slice false 5 [.agg [.int .i64 (0), .int .i64 (16), .bool true, .slice true 0 [], .slice false 5 [.agg [.int .i64 (0), .int .i64 (6), .bool false, (gu8 [85, 4, 3]), .slice true 0 []], .agg [.int .i64 (0), .int .i64 (12), .bool false, (gu8 [97]), .slice true 0 []]]]]]]]]]]], .agg [.int .i64 (0), .int .i64 (2), .bool false, (gu8 [1]), .slice true 0 []]]]]]], .tup [.int .i64 (11), .int .i64 (8)])
theorem m259 : NatAt par 176 e259.1 e259.2 := .base (par := par) (par' := par5) rfl rfl (.of_eval (n := 1000) parOk5 (by kernel_rfl))
noncomputable def e260 : List V × V := ([.str [115, 105, 103, 110, 105, 110, 103, 67, 101, 114, 116, 105, 102, 105, 99, 97, 116, 101, 86, 50], .agg [.int .i64 (0), .int .i64 (16), .bool true, .slice true 0 [], .slice false 5 [.agg [.int .i64 (0), .int .i64 (16), .bool true, .slice true 0 [], .slice false 5 [.agg [.int .i64 (0), .int .i64 (16), .bool true, .slice true 0 [], .slice false 5 [.agg [.int .i64 (0), .int .i64 (4), .bool false, (gu8 [0, 0, 0, 0, 0, 0, 0, 0, 0, 0, 0, 0, 0, 0, 0, 0, 0, 0, 0, 0, 0, 0, 0, 0, 0, 0, 0, 0, 0, 0, 0, 0]), .slice true 0 []], .agg [.int .i64 (0), .int .i64 (16), .bool true, .slice true 0 [], .slice false 5 [.agg [.int .i64 (0), .int .i64 (16), .bool true, .slice true 0 [], .slice false 5 [.agg [.int .i64 (2), .int .i64 (4), .bool true, .slice true 0 [], .slice false 5 [.agg [.int .i64 (0), .int .i64 (16), .bool true, .slice true 0 [], .slice false 5 [.agg [.int .i64 (0), .int .i64 (17), .bool true, .slice true 0 [], .slice false 5 [.agg [.int .i64 (0), .int .i64 (16), .bool true, .slice true 0 [], .slice false 5 [.agg [.int .i64 (0), .int .i64 (6), .bool false, (gu8 [85, 4, 3]), .slice true 0 []], .agg [.int .i64 (0), .int .i64 (12), .bool false, (gu8 [97]), .slice true 0 []]]]]]]]]]]], .agg [.int .i64 (0), .int .i64 (2), .bool false, (gu8 [1]), .slice true 0 []]]]]]]]]]], .agg [.int .i64 (0), .int .i64 (16), .bool true, .slice true 0 [], .slice false 5 [.agg [.int .i64 (0), .int .i64 (6), .bool false, (gu8 [42, 134, 72, 134, 247, 13, 1, 9, 16, 2, 47]), .slice true 0 []], .agg [.int .i64 (0), .int .i64 (17), .bool true, .slice true 0 [], .slice false 5 [.agg [.int .i64 (0), .int .i64 (16), .bool true, .slice true 0 [], .slice false 5 [.agg [.int .i64 (0), .int .i64 (16), .bool true, .slice true 0 [], .slice false 5 [.agg [.int .i64 (0), .int .i64 (16), .bool true, .slice true 0 [], .slice false 5 [.agg [.int .i64 (0), .int .i64 (4), .bool false, (gu8 [0, 0, 0, 0, 0, 0, 0, 0, 0, 0, 0, 0, 0, 0, 0, 0, 0, 0, 0, 0, 0, 0, 0, 0, 0, 0, 0, 0, 0, 0, 0, 0]), .slice true 0 []], .agg [.int .i64 (0), .int .i64 (16), .bool true, .slice true 0 [], .slice false 5 [.agg [.int .i64 (0), .int .i64 (16), .bool true, .slice true 0 [], .slice false 5 [.agg [.int .i64 (2), .int .i64 (4), .bool true, .slice true 0 [], .slice false 5 [.agg [.int .i64 (0), .int .i64 (16), .bool true, .slice true 0 [], .slice false 5 [.agg [.int .i64 (0), .int .i64 (17), .bool true, .slice true 0 [], .slice false 5 [.agg [.int .i64 (0), .int .i64 (16), .bool true, .slice true 0 [], .slice false 5 [.agg [.int .i64 (0), .int .i64 (6), .bool false, (gu8 [85, 4, 3]), .slice true 0 []], .agg [.int .i64 (0), .int .i64 (12), .bool false, (gu8 [97]), .slice true 0 []]]]]]]]]]]], .agg [.int .i64 (0), .int .i64 (2), .bool false, (gu8 [1]), .slice true 0 []]]]]]]]]]]]]])
theorem m260 : NatAt par 51 e260.1 e260.2 := .base (par := par) (par' := par5) rfl rfl (.of_eval (n := 1000) parOk5 (by kernel_rfl))
noncomputable def e261 : List V × V := ([.int .i64 (1000)], .tup [.str [55, 48, 48, 49, 48, 49, 48, 48, 48, 48, 48, 49, 90], .int .i64 (0)])
theorem m261 : NatAt par 106 e261.1 e261.2 := .base (par := par) (par' := par5) rfl rfl (.of_eval (n := 1000) parOk5 (by kernel_rfl))
noncomputable def e262 : List V × V := ([.str [115, 105, 103, 110, 105, 110, 103, 84, 105, 109, 101], .agg [.int .i64 (0), .int .i64 (23), .bool false, (gu8 [55, 48, 48, 49, 48, 49, 48, 48, 48, 48, 48, 49, 90]), .slice true 0 []]], .agg [.int .i64 (0), .int .i64 (16), .bool true, .slice true 0 [], .slice false 5 [.agg [.int .i64 (0), .int .i64 (6), .bool false, (gu8 [42, 134, 72, 134, 247, 13, 1, 9, 5]), .slice true 0 []], .agg [.int .i64 (0), .int .i64 (17), .bool true, .slice true 0 [], .slice false 5 [.agg [.int .i64 (0), .int .i64 (23), .bool false, (gu8 [55, 48, 48, 49, 48, 49, 48, 48, 48, 48, 48, 49, 90]), .slice true 0 []]]]]])
theorem m262 : NatAt par 51 e262.1 e262.2 := .base (par := par) (par' := par5) rfl rfl (.of_eval (n := 1000) parOk5 (by kernel_rfl))
noncomputable def e263 : List V × V := ([.str [49, 57, 55, 48, 48, 49, 48, 49, 48, 48, 48, 48, 48, 49, 90]], .tup [.int .i64 (1000), .int .i64 (0)])
theorem m263 : NatAt par 184 e263.1 e263.2 := .base (par := par) (par' := par5) rfl rfl (.of_eval (n := 1000) parOk5 (by kernel_rfl))
noncomputable def e264 : List V × V := ([.str [115, 104, 97, 53, 49, 50]], .agg [.int .i64 (0), .int .i64 (6), .bool false, (gu8 [96, 134, 72, 1, 101, 3, 4, 2, 3]), .slice true 0 []])
theorem m264 : NatAt par 116 e264.1 e264.2 := .base (par := par) (par' := par5) rfl rfl (.of_eval (n := 1000) parOk5 (by kernel_rfl))
noncomputable def e265 : List V × V := ([.agg [.int .i64 (0), .int .i64 (16), .bool true, .slice true 0 [], .slice false 5 [.agg [.int .i64 (0), .int .i64 (16), .bool true, .slice true 0 [], .slice false 5 [.agg [.int .i64 (0), .int .i64 (6), .bool false, (gu8 [96, 134, 72, 1, 101, 3, 4, 2, 3]), .slice true 0 []]]], .agg [.int .i64 (0), .int .i64 (4), .bool false, (gu8 [0, 0, 0, 0, 0, 0, 0, 0, 0, 0, 0, 0, 0, 0, 0, 0, 0, 0, 0, 0, 0, 0, 0, 0, 0, 0, 0, 0, 0, 0, 0, 0, 0, 0, 0, 0, 0, 0, 0, 0, 0, 0, 0, 0, 0, 0, 0, 0, 0, 0, 0, 0, 0, 0, 0, 0, 0, 0, 0, 0, 0, 0, 0, 0]), .slice true 0 []], .agg [.int .i64 (0), .int .i64 (16), .bool true, .slice true 0 [], .slice false 5 [.agg [.int .i64 (0), .int .i64 (16), .bool true, .slice true 0 [], .slice false 5 [.agg [.int .i64 (2), .int .i64 (4), .bool true, .slice true 0 [], .slice false 5 [.agg [.int .i64 (0), .int .i64 (16), .bool true, .slice true 0 [], .slice false 5 [.agg [.int .i64 (0), .int .i64 (17), .bool true, .slice true 0 [], .slice false 5 [.agg [.int .i64 (0), .int .i64 (16), .bool true, .slice true 0 [], .slice false 5 [.agg [.int .i64 (0), .int .i64 (6), .bool false, (gu8 [85, 4, 3]), .slice true 0 []], .agg [.int .i64 (0), .int .i64 (12), .bool false, (gu8 [97]), .slice true 0 []]]]]]]]]]]], .agg [.int .i64 (0), .int .i64 (2), .bool false, (gu8 [1]), .slice true 0 []]]]]]], .tup [.int .i64 (13), .int .i64 (8)])
theorem m265 : NatAt par 176 e265.1 e265.2 := .base (par := par) (par' := par5) rfl rfl (.of_eval (n := 1000) parOk5 (by kernel_rfl))
noncomputable def e266 : List V × V := ([.agg [.int .i64 (0), .int .i64 (17), .bool true, .slice true 0 [], .slice false 5 [.agg [.int .i64 (0), .int .i64 (16), .bool true, .slice true 0 [], .slice false 5 [.agg [.int .i64 (0), .int .i64 (6), .bool false, (gu8 [42, 134, 72, 134, 247, 13, 1, 9, 4]), .slice true 0 []], .agg [.int .i64 (0), .int .i64 (17), .bool true, .slice true 0 [], .slice false 5 [.agg [.int .i64 (0), .int .i64 (4), .bool false, (gu8 [1]), .slice true 0 []]]]]]]]], .tup [.agg [.int .i64 (0), .int .i64 (17), .bool true, .slice true 0 [], .slice false 5 [.agg [.int .i64 (0), .int .i64 (16), .bool true, .slice true 0 [], .slice false 5 [.agg [.int .i64 (0), .int .i64 (6), .bool false, (gu8 [42, 134, 72, 134, 247, 13, 1, 9, 4]), .slice true 0 []], .agg [.int .i64 (0), .int .i64 (17), .bool true, .slice true 0 [], .slice false 5 [.agg [.int .i64 (0), .int .i64 (4), .bool false, (gu8 [1]), .slice true 0 []]]]]]]], .int .i64 (0)])
theorem m266 : NatAt par 59 e266.1 e266.2 := .base (par := par) (par' := par5) rfl rfl (.of_eval (n := 1000) parOk5 (by kernel_rfl))
noncomputable def e267 : List V × V := ([.agg [.int .i64 (0), .int .i64 (17), .bool true, .slice true 0 [], .slice false 5 [.agg [.int .i64 (0), .int .i64 (16), .bool true, .slice true 0 [], .slice false 5 [.agg [.int .i64 (0), .int .i64 (6), .bool false, (gu8 [42, 134, 72, 134, 247, 13, 1, 9, 4]), .slice true 0 []], .agg [.int .i64 (0), .int .i64 (17), .bool true, .slice true 0 [], .slice false 5 [.agg [.int .i64 (0), .int .i64 (4), .bool false, (gu8 [1]), .slice true 0 []]]]]]]]], .tup [(gu8 [49, 18, 48, 16, 6, 9, 42, 134, 72, 134, 247, 13, 1, 9, 4, 49, 3, 4, 1, 1]), .int .i64 (0)])
theorem m267 : NatAt par 36 e267.1 e267.2 := .base (par := par) (par' := par5) rfl rfl (.of_eval (n := 1000) parOk5 (by kernel_rfl))
noncomputable def tab36_5 : List (List V × V) := e267 :: tab36_4
theorem ok36_5 : MemoOk par 36 tab36_5 := .cons m267 <| ok36_4
noncomputable def tab51_5 : List (List V × V) := e244 :: e245 :: e246 :: e248 :: e249 :: e250 :: e252 :: e256 :: e258 :: e260 :: e262 :: []
theorem ok51_5 : MemoOk par 51 tab51_5 := .cons m244 <| .cons m245 <| .cons m246 <| .cons m248 <| .cons m249 <| .cons m250 <| .cons m252 <| .cons m256 <| .cons m258 <| .cons m260 <| .cons m262 <| .nil
noncomputable def tab53_5 : List (List V × V) := e254 :: e257 :: []
theorem ok53_5 : MemoOk par 53 tab53_5 := .cons m254 <| .cons m257 <| .nil
noncomputable def tab59_5 : List (List V × V) := e266 :: []
theorem ok59_5 : MemoOk par 59 tab59_5 := .cons m266 <| .nil
noncomputable def tab65_5 : List (List V × V) := e253 :: []
theorem ok65_5 : MemoOk par 65 tab65_5 := .cons m253 <| .nil
noncomputable def tab104_5 : List (List V × V) := e255 :: []
theorem ok104_5 : MemoOk par 104 tab104_5 := .cons m255 <| .nil
noncomputable def tab106_5 : List (List V × V) := e247 :: e261 :: []
theorem ok106_5 : MemoOk par 106 tab106_5 := .cons m247 <| .cons m261 <| .nil
noncomputable def tab116_5 : List (List V × V) := e251 :: e264 :: tab116_4
theorem ok116_5 : MemoOk par 116 tab116_5 := .cons m251 <| .cons m264 <| ok116_4
noncomputable def tab176_5 : List (List V × V) := e259 :: e265 :: tab176_4
theorem ok176_5 : MemoOk par 176 tab176_5 := .cons m259 <| .cons m265 <| ok176_4
noncomputable def tab184_5 : List (List V × V) := e263 :: []
theorem ok184_5 : MemoOk par 184 tab184_5 := .cons m263 <| .nil
noncomputable def par6_0 : Par := par.with 7 (memoF par5 1000 7 tab7_2)
theorem parOk6_0 : ParOk par6_0 := memo_with (base := par) parOk5 rfl rfl parOk rfl rfl ok7_2
noncomputable def par6_1 : Par := par6_0.with 11 (memoF par5 1000 11 tab11_0)
theorem parOk6_1 : ParOk par6_1 := memo_with (base := par) parOk5 rfl rfl parOk6_0 rfl rfl ok11_0
noncomputable def par6_2 : Par := par6_1.with 14 (memoF par5 1000 14 tab14_4)
theorem parOk6_2 : ParOk par6_2 := memo_with (base := par) parOk5 rfl rfl parOk6_1 rfl rfl ok14_4
noncomputable def par6_3 : Par := par6_2.with 31 (memoF par5 1000 31 tab31_2)
theorem parOk6_3 : ParOk par6_3 := memo_with (base := par) parOk5 rfl rfl parOk6_2 rfl rfl ok31_2
noncomputable def par6_4 : Par := par6_3.with 35 (memoF par5 1000 35 tab35_1)
theorem parOk6_4 : ParOk par6_4 := memo_with (base := par) parOk5 rfl rfl parOk6_3 rfl rfl ok35_1
noncomputable def par6_5 : Par := par6_4.with 36 (memoF par5 1000 36 tab36_5)
theorem parOk6_5 : ParOk par6_5 := memo_with (base := par) parOk5 rfl rfl parOk6_4 rfl rfl ok36_5
noncomputable def par6_6 : Par := par6_5.with 45 (memoF par5 1000 45 tab45_0)
theorem parOk6_6 : ParOk par6_6 := memo_with (base := par) parOk5 rfl rfl parOk6_5 rfl rfl ok45_0
noncomputable def par6_7 : Par := par6_6.with 48 (memoF par5 1000 48 tab48_3)
theorem parOk6_7 : ParOk par6_7 := memo_with (base := par) parOk5 rfl rfl parOk6_6 rfl rfl ok48_3
noncomputable def par6_8 : Par := par6_7.with 49 (memoF par5 1000 49 tab49_2)
theorem parOk6_8 : ParOk par6_8 := memo_with (base := par) parOk5 rfl rfl parOk6_7 rfl rfl ok49_2
noncomputable def par6_9 : Par := par6_8.with 51 (memoF par5 1000 51 tab51_5)
theorem parOk6_9 : ParOk par6_9 := memo_with (base := par) parOk5 rfl rfl parOk6_8 rfl rfl ok51_5
noncomputable def par6_10 : Par := par6_9.with 53 (memoF par5 1000 53 tab53_5)
theorem parOk6_10 : ParOk par6_10 := memo_with (base := par) parOk5 rfl rfl parOk6_9 rfl rfl ok53_5
noncomputable def par6_11 : Par := par6_10.with 54 (memoF par5 1000 54 tab54_3)
theorem parOk6_11 : ParOk par6_11 := memo_with (base := par) parOk5 rfl rfl parOk6_10 rfl rfl ok54_3
noncomputable def par6_12 : Par := par6_11.with 56 (memoF par5 1000 56 tab56_1)
theorem parOk6_12 : ParOk par6_12 := memo_with (base := par) parOk5 rfl rfl parOk6_11 rfl rfl ok56_1
noncomputable def par6_13 : Par := par6_12.with 58 (memoF par5 1000 58 tab58_1)
theorem parOk6_13 : ParOk par6_13 := memo_with (base := par) parOk5 rfl rfl parOk6_12 rfl rfl ok58_1
noncomputable def par6_14 : Par := par6_13.with 59 (memoF par5 1000 59 tab59_5)
theorem parOk6_14 : ParOk par6_14 := memo_with (base := par) parOk5 rfl rfl parOk6_13 rfl rfl ok59_5
noncomputable def par6_15 : Par := par6_14.with 63 (memoF par5 1000 63 tab63_1)
theorem parOk6_15 : ParOk par6_15 := memo_with (base := par) parOk5 rfl rfl parOk6_14 rfl rfl ok63_1
noncomputable def par6_16 : Par := par6_15.with 65 (memoF par5 1000 65 tab65_5)
theorem parOk6_16 : ParOk par6_16 := memo_with (base := par) parOk5 rfl rfl parOk6_15 rfl rfl ok65_5
noncomputable def par6_17 : Par := par6_16.with 66 (memoF par5 1000 66 tab66_2)
theorem parOk6_17 : ParOk par6_17 := memo_with (base := par) parOk5 rfl rfl parOk6_16 rfl rfl ok66_2
noncomputable def par6_18 : Par := par6_17.with 70 (memoF par5 1000 70 tab70_1)
theorem parOk6_18 : ParOk par6_18 := memo_with (base := par) parOk5 rfl rfl parOk6_17 rfl rfl ok70_1
noncomputable def par6_19 : Par := par6_18.with 71 (memoF par5 1000 71 tab71_0)
theorem parOk6_19 : ParOk par6_19 := memo_with (base := par) parOk5 rfl rfl parOk6_18 rfl rfl ok71_0
noncomputable def par6_20 : Par := par6_19.with 74 (memoF par5 1000 74 tab74_0)
theorem parOk6_20 : ParOk par6_20 := memo_with (base := par) parOk5 rfl rfl parOk6_19 rfl rfl ok74_0
noncomputable def par6_21 : Par := par6_20.with 75 (memoF par5 1000 75 tab75_4)
theorem parOk6_21 : ParOk par6_21 := memo_with (base := par) parOk5 rfl rfl parOk6_20 rfl rfl ok75_4
noncomputable def par6_22 : Par := par6_21.with 98 (memoF par5 1000 98 tab98_1)
theorem parOk6_22 : ParOk par6_22 := memo_with (base := par) parOk5 rfl rfl parOk6_21 rfl rfl ok98_1
noncomputable def par6_23 : Par := par6_22.with 99 (memoF par5 1000 99 tab99_2)
theorem parOk6_23 : ParOk par6_23 := memo_with (base := par) parOk5 rfl rfl parOk6_22 rfl rfl ok99_2
noncomputable def par6_24 : Par := par6_23.with 100 (memoF par5 1000 100 tab100_1)
theorem parOk6_24 : ParOk par6_24 := memo_with (base := par) parOk5 rfl rfl parOk6_23 rfl rfl ok100_1
noncomputable def par6_25 : Par := par6_24.with 103 (memoF par5 1000 103 tab103_4)
theorem parOk6_25 : ParOk par6_25 := memo_with (base := par) parOk5 rfl rfl parOk6_24 rfl rfl ok103_4
noncomputable def par6_26 : Par := par6_25.with 104 (memoF par5 1000 104 tab104_5)
theorem parOk6_26 : ParOk par6_26 := memo_with (base := par) parOk5 rfl rfl parOk6_25 rfl rfl ok104_5
noncomputable def par6_27 : Par := par6_26.with 105 (memoF par5 1000 105 tab105_2)
theorem parOk6_27 : ParOk par6_27 := memo_with (base := par) parOk5 rfl rfl parOk6_26 rfl rfl ok105_2
noncomputable def par6_28 : Par := par6_27.with 106 (memoF par5 1000 106 tab106_5)
theorem parOk6_28 : ParOk par6_28 := memo_with (base := par) parOk5 rfl rfl parOk6_27 rfl rfl ok106_5
noncomputable def par6_29 : Par := par6_28.with 107 (memoF par5 1000 107 tab107_4)
theorem parOk6_29 : ParOk par6_29 := memo_with (base := par) parOk5 rfl rfl parOk6_28 rfl rfl ok107_4
noncomputable def par6_30 : Par := par6_29.with 110 (memoF par5 1000 110 tab110_4)
theorem parOk6_30 : ParOk par6_30 := memo_with (base := par) parOk5 rfl rfl parOk6_29 rfl rfl ok110_4
noncomputable def par6_31 : Par := par6_30.with 116 (memoF par5 1000 116 tab116_5)
theorem parOk6_31 : ParOk par6_31 := memo_with (base := par) parOk5 rfl rfl parOk6_30 rfl rfl ok116_5
noncomputable def par6_32 : Par := par6_31.with 117 (memoF par5 1000 117 tab117_3)
theorem parOk6_32 : ParOk par6_32 := memo_with (base := par) parOk5 rfl rfl parOk6_31 rfl rfl ok117_3
noncomputable def par6_33 : Par := par6_32.with 119 (memoF par5 1000 119 tab119_1)
theorem parOk6_33 : ParOk par6_33 := memo_with (base := par) parOk5 rfl rfl parOk6_32 rfl rfl ok119_1
noncomputable def par6_34 : Par := par6_33.with 120 (memoF par5 1000 120 tab120_2)
theorem parOk6_34 : ParOk par6_34 := memo_with (base := par) parOk5 rfl rfl parOk6_33 rfl rfl ok120_2
noncomputable def par6_35 : Par := par6_34.with 168 (memoF par5 1000 168 tab168_0)
theorem parOk6_35 : ParOk par6_35 := memo_with (base := par) parOk5 rfl rfl parOk6_34 rfl rfl ok168_0
noncomputable def par6_36 : Par := par6_35.with 170 (memoF par5 1000 170 tab170_1)
theorem parOk6_36 : ParOk par6_36 := memo_with (base := par) parOk5 rfl rfl parOk6_35 rfl rfl ok170_1
noncomputable def par6_37 : Par := par6_36.with 171 (memoF par5 1000 171 tab171_0)
theorem parOk6_37 : ParOk par6_37 := memo_with (base := par) parOk5 rfl rfl parOk6_36 rfl rfl ok171_0
noncomputable def par6_38 : Par := par6_37.with 172 (memoF par5 1000 172 tab172_0)
theorem parOk6_38 : ParOk par6_38 := memo_with (base := par) parOk5 rfl rfl parOk6_37 rfl rfl ok172_0
noncomputable def par6_39 : Par := par6_38.with 176 (memoF par5 1000 176 tab176_5)
theorem parOk6_39 : ParOk par6_39 := memo_with (base := par) parOk5 rfl rfl parOk6_38 rfl rfl ok176_5
noncomputable def par6_40 : Par := par6_39.with 180 (memoF par5 1000 180 tab180_3)
theorem parOk6_40 : ParOk par6_40 := memo_with (base := par) parOk5 rfl rfl parOk6_39 rfl rfl ok180_3
noncomputable def par6_41 : Par := par6_40.with 182 (memoF par5 1000 182 tab182_3)
theorem parOk6_41 : ParOk par6_41 := memo_with (base := par) parOk5 rfl rfl parOk6_40 rfl rfl ok182_3
noncomputable def par6_42 : Par := par6_41.with 184 (memoF par5 1000 184 tab184_5)
theorem parOk6_42 : ParOk par6_42 := memo_with (base := par) parOk5 rfl rfl parOk6_41 rfl rfl ok184_5
noncomputable def par6_43 : Par := par6_42.with 185 (memoF par5 1000 185 tab185_2)
theorem parOk6_43 : ParOk par6_43 := memo_with (base := par) parOk5 rfl rfl parOk6_42 rfl rfl ok185_2
noncomputable def par6_44 : Par := par6_43.with 193 (memoF par5 1000 193 tab193_3)
theorem parOk6_44 : ParOk par6_44 := memo_with (base := par) parOk5 rfl rfl parOk6_43 rfl rfl ok193_3
noncomputable def par6_45 : Par := par6_44.with 230 (memoF par5 1000 230 tab230_0)
theorem parOk6_45 : ParOk par6_45 := memo_with (base := par) parOk5 rfl rfl parOk6_44 rfl rfl ok230_0
noncomputable def par6_46 : Par := par6_45.with 237 (memoF par5 1000 237 tab237_0)
theorem parOk6_46 : ParOk par6_46 := memo_with (base := par) parOk5 rfl rfl parOk6_45 rfl rfl ok237_0
noncomputable def par6_47 : Par := par6_46.with 239 (memoF par5 1000 239 tab239_0)
theorem parOk6_47 : ParOk par6_47 := memo_with (base := par) parOk5 rfl rfl parOk6_46 rfl rfl ok239_0
noncomputable def par6_48 : Par := par6_47.with 244 (memoF par5 1000 244 tab244_1)
theorem parOk6_48 : ParOk par6_48 := memo_with (base := par) parOk5 rfl rfl parOk6_47 rfl rfl ok244_1
noncomputable def par6_49 : Par := par6_48.with 247 (memoF par5 1000 247 tab247_1)
theorem parOk6_49 : ParOk par6_49 := memo_with (base := par) parOk5 rfl rfl parOk6_48 rfl rfl ok247_1
noncomputable def par6_50 : Par := par6_49.with 250 (memoF par5 1000 250 tab250_0)
theorem parOk6_50 : ParOk par6_50 := memo_with (base := par) parOk5 rfl rfl parOk6_49 rfl rfl ok250_0
noncomputable def par6_51 : Par := par6_50.with 251 (memoF par5 1000 251 tab251_2)
theorem parOk6_51 : ParOk par6_51 := memo_with (base := par) parOk5 rfl rfl parOk6_50 rfl rfl ok251_2
noncomputable def par6_52 : Par := par6_51.with 291 (memoF par5 1000 291 tab291_0)
theorem parOk6_52 : ParOk par6_52 := memo_with (base := par) parOk5 rfl rfl parOk6_51 rfl rfl ok291_0
noncomputable def par6_53 : Par := par6_52.with 296 (memoF par5 1000 296 tab296_4)
theorem parOk6_53 : ParOk par6_53 := memo_with (base := par) parOk5 rfl rfl parOk6_52 rfl rfl ok296_4
noncomputable def par6_54 : Par := par6_53.with 307 (memoF par5 1000 307 tab307_0)
theorem parOk6_54 : ParOk par6_54 := memo_with (base := par) parOk5 rfl rfl parOk6_53 rfl rfl ok307_0
noncomputable def par6_55 : Par := par6_54.with 311 (memoF par5 1000 311 tab311_0)
theorem parOk6_55 : ParOk par6_55 := memo_with (base := par) parOk5 rfl rfl parOk6_54 rfl rfl ok311_0
noncomputable def par6_56 : Par := par6_55.with 313 (memoF par5 1000 313 tab313_1)
theorem parOk6_56 : ParOk par6_56 := memo_with (base := par) parOk5 rfl rfl parOk6_55 rfl rfl ok313_1
noncomputable def par6_57 : Par := par6_56.with 332 (memoF par5 1000 332 tab332_2)
theorem parOk6_57 : ParOk par6_57 := memo_with (base := par) parOk5 rfl rfl parOk6_56 rfl rfl ok332_2
noncomputable def par6_58 : Par := par6_57.with 333 (memoF par5 1000 333 tab333_3)
theorem parOk6_58 : ParOk par6_58 := memo_with (base := par) parOk5 rfl rfl parOk6_57 rfl rfl ok333_3
noncomputable def par6_59 : Par := par6_58.with 335 (memoF par5 1000 335 tab335_1)
theorem parOk6_59 : ParOk par6_59 := memo_with (base := par) parOk5 rfl rfl parOk6_58 rfl rfl ok335_1
noncomputable def par6 : Par := par6_59.with 344 (memoF par5 1000 344 tab344_0)
theorem parOk6 : ParOk par6 := memo_with (base := par) parOk5 rfl rfl parOk6_59 rfl rfl ok344_0
noncomputable def e268 : List V × V := ([.agg [.slice true 0 [], .slice true 0 [], .int .i64 (0), .slice true 0 [], .slice true 0 [], .slice true 0 [], .int .i64 (-1), .slice true 0 []]], .tup [.agg [.int .i64 (0), .int .i64 (0), .bool false, .slice true 0 [], .slice true 0 []], .int .i64 (210)])
theorem m268 : NatAt par 27 e268.1 e268.2 := .base (par := par) (par' := par6) rfl rfl (.of_eval (n := 1000) parOk6 (by kernel_rfl))
noncomputable def e269 : List V × V := ([.agg [.slice true 0 [], (gu8 [0, 0, 0, 0, 0, 0, 0, 0, 0, 0, 0, 0, 0, 0, 0, 0, 0, 0, 0, 0, 0, 0, 0, 0, 0, 0, 0, 0, 0, 0, 0, 0, 0, 0, 0, 0, 0, 0, 0, 0, 0, 0, 0, 0, 0, 0, 0, 0, 0, 0, 0, 0, 0, 0, 0, 0, 0, 0, 0, 0, 0, 0, 0, 0, 0]), .int .i64 (0), .slice true 0 [], .slice true 0 [], .slice true 0 [], .int .i64 (-1), .slice true 0 []]], .tup [.agg [.int .i64 (0), .int .i64 (0), .bool false, .slice true 0 [], .slice true 0 []], .int .i64 (210)])
theorem m269 : NatAt par 27 e269.1 e269.2 := .base (par := par) (par' := par6) rfl rfl (.of_eval (n := 1000) parOk6 (by kernel_rfl))
noncomputable def e270 : List V × V := ([.int .i64 (1)], .tup [.agg [.int .i64 (0), .int .i64 (24), .bool false, (gu8 [49, 57, 55, 48, 48, 49, 48, 49, 48, 48, 48, 48, 48, 48, 46, 48, 48, 49, 90]), .slice true 0 []], .bool false])
theorem m270 : NatAt par 57 e270.1 e270.2 := .base (par := par) (par' := par6) rfl rfl (.of_eval (n := 1000) parOk6 (by kernel_rfl))
noncomputable def e271 : List V × V := ([.agg [.slice true 0 [], (gu8 [1]), .int .i64 (0), .slice true 0 [], .slice true 0 [], .slice true 0 [], .int .i64 (-2), .slice true 0 []]], .tup [.agg [.int .i64 (0), .int .i64 (0), .bool false, .slice true 0 [], .slice true 0 []], .int .i64 (210)])
theorem m271 : NatAt par 27 e271.1 e271.2 := .base (par := par) (par' := par6) rfl rfl (.of_eval (n := 1000) parOk6 (by kernel_rfl))
noncomputable def e272 : List V × V := ([.agg [(gu8 [128]), (gu8 [1]), .int .i64 (0), .slice true 0 [], .slice true 0 [], .slice true 0 [], .int .i64 (-1), .slice true 0 []]], .tup [.agg [.int .i64 (0), .int .i64 (0), .bool false, .slice true 0 [], .slice true 0 []], .int .i64 (210)])
theorem m272 : NatAt par 27 e272.1 e272.2 := .base (par := par) (par' := par6) rfl rfl (.of_eval (n := 1000) parOk6 (by kernel_rfl))
noncomputable def e273 : List V × V := ([.int .i64 (2), .bool false], .tup [.agg [.int .i64 (0), .int .i64 (16), .bool true, .slice true 0 [], .slice false 5 [.agg [.int .i64 (0), .int .i64 (6), .bool false, (gu8 [96, 134, 72, 1, 101, 3, 4, 2, 1]), .slice true 0 []]]], .int .i64 (0)])
theorem m273 : NatAt par 64 e273.1 e273.2 := .base (par := par) (par' := par6) rfl rfl (.of_eval (n := 1000) parOk6 (by kernel_rfl))
noncomputable def e274 : List V × V := ([.agg [.slice true 0 [], (gu8 [1]), .int .i64 (0), .slice true 0 [], .slice true 0 [], .slice true 0 [], .int .i64 (-1), .slice false 5 [.agg [.int .i64 (0), .int .i64 (16), .bool true, .slice true 0 [], .slice false 5 [.agg [.int .i64 (0), .int .i64 (6), .bool false, (gu8 [42, 134, 72, 134, 247, 13, 1, 9, 5]), .slice true 0 []], .agg [.int .i64 (0), .int .i64 (17), .bool true, .slice true 0 [], .slice false 5 [.agg [.int .i64 (0), .int .i64 (2), .bool false, (gu8 [5]), .slice true 0 []]]]]]]]], .tup [.agg [.int .i64 (0), .int .i64 (0), .bool false, .slice true 0 [], .slice true 0 []], .int .i64 (210)])
theorem m274 : NatAt par 27 e274.1 e274.2 := .base (par := par) (par' := par6) rfl rfl (.of_eval (n := 1000) parOk6 (by kernel_rfl))
noncomputable def e275 : List V × V := ([.slice false 5 [.agg [.int .i64 (0), .int .i64 (16), .bool true, .slice true 0 [], .slice false 5 [.agg [.int .i64 (0), .int .i64 (6), .bool false, (gu8 [42, 3]), .slice true 0 []], .agg [.int .i64 (0), .int .i64 (17), .bool true, .slice true 0 [], .slice false 5 [.agg [.int .i64 (0), .int .i64 (2), .bool false, (gu8 [5]), .slice true 0 []]]]]], .agg [.int .i64 (0), .int .i64 (16), .bool true, .slice true 0 [], .slice false 5 [.agg [.int .i64 (0), .int .i64 (6), .bool false, (gu8 [42, 3]), .slice true 0 []], .agg [.int .i64 (0), .int .i64 (17), .bool true, .slice true 0 [], .slice false 5 [.agg [.int .i64 (0), .int .i64 (2), .bool false, (gu8 [5]), .slice true 0 []]]]]]]], .bool false)
theorem m275 : NatAt par 53 e275.1 e275.2 := .base (par := par) (par' := par6) rfl rfl (.of_eval (n := 1000) parOk6 (by kernel_rfl))
noncomputable def e276 : List V × V := ([.agg [.slice true 0 [], (gu8 [1]), .int .i64 (0), .slice true 0 [], .slice true 0 [], .slice true 0 [], .int .i64 (-1), .slice false 5 [.agg [.int .i64 (0), .int .i64 (2), .bool false, (gu8 [1]), .slice true 0 []]]]], .tup [.agg [.int .i64 (0), .int .i64 (0), .bool false, .slice true 0 [], .slice true 0 []], .int .i64 (210)])
theorem m276 : NatAt par 27 e276.1 e276.2 := .base (par := par) (par' := par6) rfl rfl (.of_eval (n := 1000) parOk6 (by kernel_rfl))
noncomputable def e277 : List V × V := ([.agg [.slice true 0 [], (gu8 [1]), .int .i64 (0), .slice true 0 [], .slice true 0 [], .slice true 0 [], .int .i64 (-1), .slice false 5 [.agg [.int .i64 (0), .int .i64 (0), .bool false, .slice true 0 [], .slice true 0 []], .agg [.int .i64 (0), .int .i64 (0), .bool false, .slice true 0 [], .slice true 0 []], .agg [.int .i64 (0), .int .i64 (0), .bool false, .slice true 0 [], .slice true 0 []], .agg [.int .i64 (0), .int .i64 (0), .bool false, .slice true 0 [], .slice true 0 []], .agg [.int .i64 (0), .int .i64 (0), .bool false, .slice true 0 [], .slice true 0 []], .agg [.int .i64 (0), .int .i64 (0), .bool false, .slice true 0 [], .slice true 0 []], .agg [.int .i64 (0), .int .i64 (0), .bool false, .slice true 0 [], .slice true 0 []], .agg [.int .i64 (0), .int .i64 (0), .bool false, .slice true 0 [], .slice true 0 []], .agg [.int .i64 (0), .int .i64 (0), .bool false, .slice true 0 [], .slice true 0 []], .agg [.int .i64 (0), .int .i64 (0), .bool false, .slice true 0 [], .slice true 0 []], .agg [.int .i64 (0), .int .i64 (0), .bool false, .slice true 0 [], .slice true 0 []], .agg [.int .i64 (0), .int .i64 (0), .bool false, .slice true 0 [], .slice true 0 []], .agg [.int .i64 (0), .int .i64 (0), .bool false, .slice true 0 [], .slice true 0 []], .agg [.int .i64 (0), .int .i64 (0), .bool false, .slice true 0 [], .slice true 0 []], .agg [.int .i64 (0), .int .i64 (0), .bool false, .slice true 0 [], .slice true 0 []], .agg [.int .i64 (0), .int .i64 (0), .bool false, .slice true 0 [], .slice true 0 []], .agg [.int .i64 (0), .int .i64 (0), .bool false, .slice true 0 [], .slice true 0 []], .agg [.int .i64 (0), .int .i64 (0), .bool false, .slice true 0 [], .slice true 0 []], .agg [.int .i64 (0), .int .i64 (0), .bool false, .slice true 0 [], .slice true 0 []], .agg [.int .i64 (0), .int .i64 (0), .bool false, .slice true 0 [], .slice true 0 []], .agg [.int .i64 (0), .int .i64 (0), .bool false, .slice true 0 [], .slice true 0 []]]]], .tup [.agg [.int .i64 (0), .int .i64 (0), .bool false, .slice true 0 [], .slice true 0 []], .int .i64 (210)])
theorem m277 : NatAt par 27 e277.1 e277.2 := .base (par := par) (par' := par6) rfl rfl (.of_eval (n := 1000) parOk6 (by kernel_rfl))
noncomputable def e278 : List V × V := ([.agg [.int .i64 (0), .int .i64 (16), .bool true, .slice true 0 [], .slice false 5 [.agg [.int .i64 (0), .int .i64 (4), .bool false, (gu8 [0, 0, 0, 0, 0, 0, 0, 0, 0, 0, 0, 0, 0, 0, 0, 0, 0, 0, 0, 0, 0, 0, 0, 0, 0, 0, 0, 0, 0, 0, 0, 0]), .slice true 0 []], .agg [.int .i64 (0), .int .i64 (16), .bool true, .slice true 0 [], .slice false 5 [.agg [.int .i64 (0), .int .i64 (16), .bool true, .slice true 0 [], .slice false 5 [.agg [.int .i64 (2), .int .i64 (4), .bool true, .slice true 0 [], .slice false 5 [.agg [.int .i64 (0), .int .i64 (16), .bool true, .slice true 0 [], .slice false 5 [.agg [.int .i64 (0), .int .i64 (17), .bool true, .slice true 0 [], .slice false 5 [.agg [.int .i64 (0), .int .i64 (16), .bool true, .slice true 0 [], .slice false 5 [.agg [.int .i64 (0), .int .i64 (6), .bool false, (gu8 [85, 4, 3]), .slice true 0 []], .agg [.int .i64 (0), .int .i64 (12), .bool false, (gu8 [97]), .slice true 0 []]]]]]]]]]]], .agg [.int .i64 (0), .int .i64 (2), .bool false, (gu8 [1]), .slice true 0 []]]]]]], .tup [.int .i64 (0), .int .i64 (-1)])
theorem m278 : NatAt par 105 e278.1 e278.2 := .base (par := par) (par' := par6) rfl rfl (.of_eval (n := 1000) parOk6 (by kernel_rfl))
noncomputable def e279 : List V × V := ([.int .i64 (1000)], .tup [.agg [.int .i64 (0), .int .i64 (23), .bool false, (gu8 [55, 48, 48, 49, 48, 49, 48, 48, 48, 48, 48, 49, 90]), .slice true 0 []], .bool true])
theorem m279 : NatAt par 57 e279.1 e279.2 := .base (par := par) (par' := par6) rfl rfl (.of_eval (n := 1000) parOk6 (by kernel_rfl))
noncomputable def e280 : List V × V := ([.agg [.int .i64 (0), .int .i64 (16), .bool true, .slice true 0 [], .slice false 5 [.agg [.int .i64 (0), .int .i64 (16), .bool true, .slice true 0 [], .slice false 5 [.agg [.int .i64 (0), .int .i64 (4), .bool false, (gu8 [0, 0, 0, 0, 0, 0, 0, 0, 0, 0, 0, 0, 0, 0, 0, 0, 0, 0, 0, 0, 0, 0, 0, 0, 0, 0, 0, 0, 0, 0, 0, 0]), .slice true 0 []], .agg [.int .i64 (0), .int .i64 (16), .bool true, .slice true 0 [], .slice false 5 [.agg [.int .i64 (0), .int .i64 (16), .bool true, .slice true 0 [], .slice false 5 [.agg [.int .i64 (2), .int .i64 (4), .bool true, .slice true 0 [], .slice false 5 [.agg [.int .i64 (0), .int .i64 (16), .bool true, .slice true 0 [], .slice false 5 [.agg [.int .i64 (0), .int .i64 (17), .bool true, .slice true 0 [], .slice false 5 [.agg [.int .i64 (0), .int .i64 (16), .bool true, .slice true 0 [], .slice false 5 [.agg [.int .i64 (0), .int .i64 (6), .bool false, (gu8 [85, 4, 3]), .slice true 0 []], .agg [.int .i64 (0), .int .i64 (12), .bool false, (gu8 [97]), .slice true 0 []]]]]]]]]]]], .agg [.int .i64 (0), .int .i64 (2), .bool false, (gu8 [1]), .slice true 0 []]]]]]]]], .tup [.int .i64 (12), .int .i64 (9)])
theorem m280 : NatAt par 176 e280.1 e280.2 := .base (par := par) (par' := par6) rfl rfl (.of_eval (n := 1000) parOk6 (by kernel_rfl))
noncomputable def e281 : List V × V := ([.str [55, 48, 48, 49, 48, 49, 48, 48, 48, 48, 48, 49, 90]], .tup [.int .i64 (1000), .int .i64 (0)])
theorem m281 : NatAt par 183 e281.1 e281.2 := .base (par := par) (par' := par6) rfl rfl (.of_eval (n := 1000) parOk6 (by kernel_rfl))
noncomputable def e282 : List V × V := ([.agg [.int .i64 (0), .int .i64 (16), .bool true, .slice true 0 [], .slice false 5 [.agg [.int .i64 (0), .int .i64 (17), .bool true, .slice true 0 [], .slice false 5 [.agg [.int .i64 (0), .int .i64 (16), .bool true, .slice true 0 [], .slice false 5 [.agg [.int .i64 (0), .int .i64 (6), .bool false, (gu8 [85, 4, 3]), .slice true 0 []], .agg [.int .i64 (0), .int .i64 (12), .bool false, (gu8 [97]), .slice true 0 []]]]]]]]], .tup [.slice false 3 [.agg [.int .i64 (1), .str [97], .bool false]], .int .i64 (0)])
theorem m282 : NatAt par 69 e282.1 e282.2 := .base (par := par) (par' := par6) rfl rfl (.of_eval (n := 1000) parOk6 (by kernel_rfl))
noncomputable def e283 : List V × V := ([.int .i64 (4), .bool false], .tup [.agg [.int .i64 (0), .int .i64 (16), .bool true, .slice true 0 [], .slice false 5 [.agg [.int .i64 (0), .int .i64 (6), .bool false, (gu8 [96, 134, 72, 1, 101, 3, 4, 2, 3]), .slice true 0 []]]], .int .i64 (0)])
theorem m283 : NatAt par 64 e283.1 e283.2 := .base (par := par) (par' := par6) rfl rfl (.of_eval (n := 1000) parOk6 (by kernel_rfl))
noncomputable def e284 : List V × V := ([.agg [.int .i64 (0), .int .i64 (16), .bool true, .slice true 0 [], .slice false 5 [.agg [.int .i64 (0), .int .i64 (16), .bool true, .slice true 0 [], .slice false 5 [.agg [.int .i64 (0), .int .i64 (6), .bool false, (gu8 [96, 134, 72, 1, 101, 3, 4, 2, 3]), .slice true 0 []]]], .agg [.int .i64 (0), .int .i64 (4), .bool false, (gu8 [0, 0, 0, 0, 0, 0, 0, 0, 0, 0, 0, 0, 0, 0, 0, 0, 0, 0, 0, 0, 0, 0, 0, 0, 0, 0, 0, 0, 0, 0, 0, 0, 0, 0, 0, 0, 0, 0, 0, 0, 0, 0, 0, 0, 0, 0, 0, 0, 0, 0, 0, 0, 0, 0, 0, 0, 0, 0, 0, 0, 0, 0, 0, 0]), .slice true 0 []], .agg [.int .i64 (0), .int .i64 (16), .bool true, .slice true 0 [], .slice false 5 [.agg [.int .i64 (0), .int .i64 (16), .bool true, .slice true 0 [], .slice false 5 [.agg [.int .i64 (2), .int .i64 (4), .bool true, .slice true 0 [], .slice false 5 [.agg [.int .i64 (0), .int .i64 (16), .bool true, .slice true 0 [], .slice false 5 [.agg [.int .i64 (0), .int .i64 (17), .bool true, .slice true 0 [], .slice false 5 [.agg [.int .i64 (0), .int .i64 (16), .bool true, .slice true 0 [], .slice false 5 [.agg [.int .i64 (0), .int .i64 (6), .bool false, (gu8 [85, 4, 3]), .slice true 0 []], .agg [.int .i64 (0), .int .i64 (12), .bool false, (gu8 [97]), .slice true 0 []]]]]]]]]]]], .agg [.int .i64 (0), .int .i64 (2), .bool false, (gu8 [1]), .slice true 0 []]]]]]], .tup [.int .i64 (0), .int .i64 (-1)])
theorem m284 : NatAt par 105 e284.1 e284.2 := .base (par := par) (par' := par6) rfl rfl (.of_eval (n := 1000) parOk6 (by kernel_rfl))
noncomputable def e285 : List V × V := ([.agg [.slice true 0 [], (gu8 [1]), .int .i64 (0), .slice true 0 [], .slice true 0 [], .slice true 0 [], .int .i64 (-1), .slice true 0 []]], .tup [.agg [.int .i64 (0), .int .i64 (17), .bool true, .slice true 0 [], .slice false 5 [.agg [.int .i64 (0), .int .i64 (16), .bool true, .slice true 0 [], .slice false 5 [.agg [.int .i64 (0), .int .i64 (6), .bool false, (gu8 [42, 134, 72, 134, 247, 13, 1, 9, 4]), .slice true 0 []], .agg [.int .i64 (0), .int .i64 (17), .bool true, .slice true 0 [], .slice false 5 [.agg [.int .i64 (0), .int .i64 (4), .bool false, (gu8 [1]), .slice true 0 []]]]]]]], .int .i64 (0)])
theorem m285 : NatAt par 27 e285.1 e285.2 := .base (par := par) (par' := par6) rfl rfl (.of_eval (n := 1000) parOk6 (by kernel_rfl))
noncomputable def tab27_6 : List (List V × V) := e268 :: e269 :: e271 :: e272 :: e274 :: e276 :: e277 :: e285 :: []
theorem ok27_6 : MemoOk par 27 tab27_6 := .cons m268 <| .cons m269 <| .cons m271 <| .cons m272 <| .cons m274 <| .cons m276 <| .cons m277 <| .cons m285 <| .nil
noncomputable def tab53_6 : List (List V × V) := e275 :: tab53_5
theorem ok53_6 : MemoOk par 53 tab53_6 := .cons m275 <| ok53_5
noncomputable def tab57_6 : List (List V × V) := e270 :: e279 :: []
theorem ok57_6 : MemoOk par 57 tab57_6 := .cons m270 <| .cons m279 <| .nil
noncomputable def tab64_6 : List (List V × V) := e273 :: e283 :: []
theorem ok64_6 : MemoOk par 64 tab64_6 := .cons m273 <| .cons m283 <| .nil
noncomputable def tab69_6 : List (List V × V) := e282 :: []
theorem ok69_6 : MemoOk par 69 tab69_6 := .cons m282 <| .nil
noncomputable def tab105_6 : List (List V × V) := e278 :: e284 :: tab105_2
theorem ok105_6 : MemoOk par 105 tab105_6 := .cons m278 <| .cons m284 <| ok105_2
noncomputable def tab176_6 : List (List V × V) := e280 :: tab176_5
theorem ok176_6 : MemoOk par 176 tab176_6 := .cons m280 <| ok176_5
noncomputable def tab183_6 : List (List V × V) := e281 :: []
theorem ok183_6 : MemoOk par 183 tab183_6 := .cons m281 <| .nil
noncomputable def par7_0 : Par := par.with 7 (memoF par6 1000 7 tab7_2)
theorem parOk7_0 : ParOk par7_0 := memo_with (base := par) parOk6 rfl rfl parOk rfl rfl ok7_2
noncomputable def par7_1 : Par := par7_0.with 11 (memoF par6 1000 11 tab11_0)
theorem parOk7_1 : ParOk par7_1 := memo_with (base := par) parOk6 rfl rfl parOk7_0 rfl rfl ok11_0
noncomputable def par7_2 : Par := par7_1.with 14 (memoF par6 1000 14 tab14_4)
theorem parOk7_2 : ParOk par7_2 := memo_with (base := par) parOk6 rfl rfl parOk7_1 rfl rfl ok14_4
noncomputable def par7_3 : Par := par7_2.with 27 (memoF par6 1000 27 tab27_6)
theorem parOk7_3 : ParOk par7_3 := memo_with (base := par) parOk6 rfl rfl parOk7_2 rfl rfl ok27_6
noncomputable def par7_4 : Par := par7_3.with 31 (memoF par6 1000 31 tab31_2)
theorem parOk7_4 : ParOk par7_4 := memo_with (base := par) parOk6 rfl rfl parOk7_3 rfl rfl ok31_2
noncomputable def par7_5 : Par := par7_4.with 35 (memoF par6 1000 35 tab35_1)
theorem parOk7_5 : ParOk par7_5 := memo_with (base := par) parOk6 rfl rfl parOk7_4 rfl rfl ok35_1
noncomputable def par7_6 : Par := par7_5.with 36 (memoF par6 1000 36 tab36_5)
theorem parOk7_6 : ParOk par7_6 := memo_with (base := par) parOk6 rfl rfl parOk7_5 rfl rfl ok36_5
noncomputable def par7_7 : Par := par7_6.with 45 (memoF par6 1000 45 tab45_0)
theorem parOk7_7 : ParOk par7_7 := memo_with (base := par) parOk6 rfl rfl parOk7_6 rfl rfl ok45_0
noncomputable def par7_8 : Par := par7_7.with 48 (memoF par6 1000 48 tab48_3)
theorem parOk7_8 : ParOk par7_8 := memo_with (base := par) parOk6 rfl rfl parOk7_7 rfl rfl ok48_3
noncomputable def par7_9 : Par := par7_8.with 49 (memoF par6 1000 49 tab49_2)
theorem parOk7_9 : ParOk par7_9 := memo_with (base := par) parOk6 rfl rfl parOk7_8 rfl rfl ok49_2
noncomputable def par7_10 : Par := par7_9.with 51 (memoF par6 1000 51 tab51_5)
theorem parOk7_10 : ParOk par7_10 := memo_with (base := par) parOk6 rfl rfl parOk7_9 rfl rfl ok51_5
noncomputable def par7_11 : Par := par7_10.with 53 (memoF par6 1000 53 tab53_6)
theorem parOk7_11 : ParOk par7_11 := memo_with (base := par) parOk6 rfl rfl parOk7_10 rfl rfl ok53_6
noncomputable def par7_12 : Par := par7_11.with 54 (memoF par6 1000 54 tab54_3)
theorem parOk7_12 : ParOk par7_12 := memo_with (base := par) parOk6 rfl rfl parOk7_11 rfl rfl ok54_3
noncomputable def par7_13 : Par := par7_12.with 56 (memoF par6 1000 56 tab56_1)
theorem parOk7_13 : ParOk par7_13 := memo_with (base := par) parOk6 rfl rfl parOk7_12 rfl rfl ok56_1
noncomputable def par7_14 : Par := par7_13.with 57 (memoF par6 1000 57 tab57_6)
theorem parOk7_14 : ParOk par7_14 := memo_with (base := par) parOk6 rfl rfl parOk7_13 rfl rfl ok57_6
noncomputable def par7_15 : Par := par7_14.with 58 (memoF par6 1000 58 tab58_1)
theorem parOk7_15 : ParOk par7_15 := memo_with (base := par) parOk6 rfl rfl parOk7_14 rfl rfl ok58_1
noncomputable def par7_16 : Par := par7_15.with 59 (memoF par6 1000 59 tab59_5)
theorem parOk7_16 : ParOk par7_16 := memo_with (base := par) parOk6 rfl rfl parOk7_15 rfl rfl ok59_5
noncomputable def par7_17 : Par := par7_16.with 63 (memoF par6 1000 63 tab63_1)
theorem parOk7_17 : ParOk par7_17 := memo_with (base := par) parOk6 rfl rfl parOk7_16 rfl rfl ok63_1
noncomputable def par7_18 : Par := par7_17.with 64 (memoF par6 1000 64 tab64_6)
theorem parOk7_18 : ParOk par7_18 := memo_with (base := par) parOk6 rfl rfl parOk7_17 rfl rfl ok64_6
noncomputable def par7_19 : Par := par7_18.with 65 (memoF par6 1000 65 tab65_5)
theorem parOk7_19 : ParOk par7_19 := memo_with (base := par) parOk6 rfl rfl parOk7_18 rfl rfl ok65_5
noncomputable def par7_20 : Par := par7_19.with 66 (memoF par6 1000 66 tab66_2)
theorem parOk7_20 : ParOk par7_20 := memo_with (base := par) parOk6 rfl rfl parOk7_19 rfl rfl ok66_2
noncomputable def par7_21 : Par := par7_20.with 69 (memoF par6 1000 69 tab69_6)
theorem parOk7_21 : ParOk par7_21 := memo_with (base := par) parOk6 rfl rfl parOk7_20 rfl rfl ok69_6
noncomputable def par7_22 : Par := par7_21.with 70 (memoF par6 1000 70 tab70_1)
theorem parOk7_22 : ParOk par7_22 := memo_with (base := par) parOk6 rfl rfl parOk7_21 rfl rfl ok70_1
noncomputable def par7_23 : Par := par7_22.with 71 (memoF par6 1000 71 tab71_0)
theorem parOk7_23 : ParOk par7_23 := memo_with (base := par) parOk6 rfl rfl parOk7_22 rfl rfl ok71_0
noncomputable def par7_24 : Par := par7_23.with 74 (memoF par6 1000 74 tab74_0)
theorem parOk7_24 : ParOk par7_24 := memo_with (base := par) parOk6 rfl rfl parOk7_23 rfl rfl ok74_0
noncomputable def par7_25 : Par := par7_24.with 75 (memoF par6 1000 75 tab75_4)
theorem parOk7_25 : ParOk par7_25 := memo_with (base := par) parOk6 rfl rfl parOk7_24 rfl rfl ok75_4
noncomputable def par7_26 : Par := par7_25.with 98 (memoF par6 1000 98 tab98_1)
theorem parOk7_26 : ParOk par7_26 := memo_with (base := par) parOk6 rfl rfl parOk7_25 rfl rfl ok98_1
noncomputable def par7_27 : Par := par7_26.with 99 (memoF par6 1000 99 tab99_2)
theorem parOk7_27 : ParOk par7_27 := memo_with (base := par) parOk6 rfl rfl parOk7_26 rfl rfl ok99_2
noncomputable def par7_28 : Par := par7_27.with 100 (memoF par6 1000 100 tab100_1)
theorem parOk7_28 : ParOk par7_28 := memo_with (base := par) parOk6 rfl rfl parOk7_27 rfl rfl ok100_1
noncomputable def par7_29 : Par := par7_28.with 103 (memoF par6 1000 103 tab103_4)
theorem parOk7_29 : ParOk par7_29 := memo_with (base := par) parOk6 rfl rfl parOk7_28 rfl rfl ok103_4
noncomputable def par7_30 : Par := par7_29.with 104 (memoF par6 1000 104 tab104_5)
theorem parOk7_30 : ParOk par7_30 := memo_with (base := par) parOk6 rfl rfl parOk7_29 rfl rfl ok104_5
noncomputable def par7_31 : Par := par7_30.with 105 (memoF par6 1000 105 tab105_6)
theorem parOk7_31 : ParOk par7_31 := memo_with (base := par) parOk6 rfl rfl parOk7_30 rfl rfl ok105_6
noncomputable def par7_32 : Par := par7_31.with 106 (memoF par6 1000 106 tab106_5)
theorem parOk7_32 : ParOk par7_32 := memo_with (base := par) parOk6 rfl rfl parOk7_31 rfl rfl ok106_5
noncomputable def par7_33 : Par := par7_32.with 107 (memoF par6 1000 107 tab107_4)
theorem parOk7_33 : ParOk par7_33 := memo_with (base := par) parOk6 rfl rfl parOk7_32 rfl rfl ok107_4
noncomputable def par7_34 : Par := par7_33.with 110 (memoF par6 1000 110 tab110_4)
theorem parOk7_34 : ParOk par7_34 := memo_with (base := par) parOk6 rfl rfl parOk7_33 rfl rfl ok110_4
noncomputable def par7_35 : Par := par7_34.with 116 (memoF par6 1000 116 tab116_5)
theorem parOk7_35 : ParOk par7_35 := memo_with (base := par) parOk6 rfl rfl parOk7_34 rfl rfl ok116_5
noncomputable def par7_36 : Par := par7_35.with 117 (memoF par6 1000 117 tab117_3)
theorem parOk7_36 : ParOk par7_36 := memo_with (base := par) parOk6 rfl rfl parOk7_35 rfl rfl ok117_3
noncomputable def par7_37 : Par := par7_36.with 119 (memoF par6 1000 119 tab119_1)
theorem parOk7_37 : ParOk par7_37 := memo_with (base := par) parOk6 rfl rfl parOk7_36 rfl rfl ok119_1
noncomputable def par7_38 : Par := par7_37.with 120 (memoF par6 1000 120 tab120_2)
theorem parOk7_38 : ParOk par7_38 := memo_with (base := par) parOk6 rfl rfl parOk7_37 rfl rfl ok120_2
noncomputable def par7_39 : Par := par7_38.with 168 (memoF par6 1000 168 tab168_0)
theorem parOk7_39 : ParOk par7_39 := memo_with (base := par) parOk6 rfl rfl parOk7_38 rfl rfl ok168_0
noncomputable def par7_40 : Par := par7_39.with 170 (memoF par6 1000 170 tab170_1)
theorem parOk7_40 : ParOk par7_40 := memo_with (base := par) parOk6 rfl rfl parOk7_39 rfl rfl ok170_1
noncomputable def par7_41 : Par := par7_40.with 171 (memoF par6 1000 171 tab171_0)
theorem parOk7_41 : ParOk par7_41 := memo_with (base := par) parOk6 rfl rfl parOk7_40 rfl rfl ok171_0
noncomputable def par7_42 : Par := par7_41.with 172 (memoF par6 1000 172 tab172_0)
theorem parOk7_42 : ParOk par7_42 := memo_with (base := par) parOk6 rfl rfl parOk7_41 rfl rfl ok172_0
noncomputable def par7_43 : Par := par7_42.with 176 (memoF par6 1000 176 tab176_6)
theorem parOk7_43 : ParOk par7_43 := memo_with (base := par) parOk6 rfl rfl parOk7_42 rfl rfl ok176_6
noncomputable def par7_44 : Par := par7_43.with 180 (memoF par6 1000 180 tab180_3)
theorem parOk7_44 : ParOk par7_44 := memo_with (base := par) parOk6 rfl rfl parOk7_43 rfl rfl ok180_3
noncomputable def par7_45 : Par := par7_44.with 182 (memoF par6 1000 182 tab182_3)
theorem parOk7_45 : ParOk par7_45 := memo_with (base := par) parOk6 rfl rfl parOk7_44 rfl rfl ok182_3
noncomputable def par7_46 : Par := par7_45.with 183 (memoF par6 1000 183 tab183_6)
theorem parOk7_46 : ParOk par7_46 := memo_with (base := par) parOk6 rfl rfl parOk7_45 rfl rfl ok183_6
noncomputable def par7_47 : Par := par7_46.with 184 (memoF par6 1000 184 tab184_5)
theorem parOk7_47 : ParOk par7_47 := memo_with (base := par) parOk6 rfl rfl parOk7_46 rfl rfl ok184_5
noncomputable def par7_48 : Par := par7_47.with 185 (memoF par6 1000 185 tab185_2)
theorem parOk7_48 : ParOk par7_48 := memo_with (base := par) parOk6 rfl rfl parOk7_47 rfl rfl ok185_2
noncomputable def par7_49 : Par := par7_48.with 193 (memoF par6 1000 193 tab193_3)
theorem parOk7_49 : ParOk par7_49 := memo_with (base := par) parOk6 rfl rfl parOk7_48 rfl rfl ok193_3
noncomputable def par7_50 : Par := par7_49.with 230 (memoF par6 1000 230 tab230_0)
theorem parOk7_50 : ParOk par7_50 := memo_with (base := par) parOk6 rfl rfl parOk7_49 rfl rfl ok230_0
noncomputable def par7_51 : Par := par7_50.with 237 (memoF par6 1000 237 tab237_0)
theorem parOk7_51 : ParOk par7_51 := memo_with (base := par) parOk6 rfl rfl parOk7_50 rfl rfl ok237_0
noncomputable def par7_52 : Par := par7_51.with 239 (memoF par6 1000 239 tab239_0)
theorem parOk7_52 : ParOk par7_52 := memo_with (base := par) parOk6 rfl rfl parOk7_51 rfl rfl ok239_0
noncomputable def par7_53 : Par := par7_52.with 244 (memoF par6 1000 244 tab244_1)
theorem parOk7_53 : ParOk par7_53 := memo_with (base := par) parOk6 rfl rfl parOk7_52 rfl rfl ok244_1
noncomputable def par7_54 : Par := par7_53.with 247 (memoF par6 1000 247 tab247_1)
theorem parOk7_54 : ParOk par7_54 := memo_with (base := par) parOk6 rfl rfl parOk7_53 rfl rfl ok247_1
noncomputable def par7_55 : Par := par7_54.with 250 (memoF par6 1000 250 tab250_0)
theorem parOk7_55 : ParOk par7_55 := memo_with (base := par) parOk6 rfl rfl parOk7_54 rfl rfl ok250_0
noncomputable def par7_56 : Par := par7_55.with 251 (memoF par6 1000 251 tab251_2)
theorem parOk7_56 : ParOk par7_56 := memo_with (base := par) parOk6 rfl rfl parOk7_55 rfl rfl ok251_2
noncomputable def par7_57 : Par := par7_56.with 291 (memoF par6 1000 291 tab291_0)
theorem parOk7_57 : ParOk par7_57 := memo_with (base := par) parOk6 rfl rfl parOk7_56 rfl rfl ok291_0
noncomputable def par7_58 : Par := par7_57.with 296 (memoF par6 1000 296 tab296_4)
theorem parOk7_58 : ParOk par7_58 := memo_with (base := par) parOk6 rfl rfl parOk7_57 rfl rfl ok296_4
noncomputable def par7_59 : Par := par7_58.with 307 (memoF par6 1000 307 tab307_0)
theorem parOk7_59 : ParOk par7_59 := memo_with (base := par) parOk6 rfl rfl parOk7_58 rfl rfl ok307_0
noncomputable def par7_60 : Par := par7_59.with 311 (memoF par6 1000 311 tab311_0)
theorem parOk7_60 : ParOk par7_60 := memo_with (base := par) parOk6 rfl rfl parOk7_59 rfl rfl ok311_0
noncomputable def par7_61 : Par := par7_60.with 313 (memoF par6 1000 313 tab313_1)
theorem parOk7_61 : ParOk par7_61 := memo_with (base := par) parOk6 rfl rfl parOk7_60 rfl rfl ok313_1
noncomputable def par7_62 : Par := par7_61.with 332 (memoF par6 1000 332 tab332_2)
theorem parOk7_62 : ParOk par7_62 := memo_with (base := par) parOk6 rfl rfl parOk7_61 rfl rfl ok332_2
noncomputable def par7_63 : Par := par7_62.with 333 (memoF par6 1000 333 tab333_3)
theorem parOk7_63 : ParOk par7_63 := memo_with (base := par) parOk6 rfl rfl parOk7_62 rfl rfl ok333_3
noncomputable def par7_64 : Par := par7_63.with 335 (memoF par6 1000 335 tab335_1)
theorem parOk7_64 : ParOk par7_64 := memo_with (base := par) parOk6 rfl rfl parOk7_63 rfl rfl ok335_1
noncomputable def par7 : Par := par7_64.with 344 (memoF par6 1000 344 tab344_0)
theorem parOk7 : ParOk par7 := memo_with (base := par) parOk6 rfl rfl parOk7_64 rfl rfl ok344_0
noncomputable def e286 : List V × V := ([.agg [.slice true 0 [], (gu8 [1]), .int .i64 (0), .slice true 0 [], .slice true 0 [], .slice true 0 [], .int .i64 (1), .slice true 0 []]], .tup [.agg [.int .i64 (0), .int .i64 (0), .bool false, .slice true 0 [], .slice true 0 []], .int .i64 (210)])
theorem m286 : NatAt par 27 e286.1 e286.2 := .base (par := par) (par' := par7) rfl rfl (.of_eval (n := 1000) parOk7 (by kernel_rfl))
noncomputable def e287 : List V × V := ([.agg [.int .i64 (2), .slice true 0 [], .slice true 0 [], .slice true 0 []]], .tup [.agg [.int .i64 (0), .int .i64 (0), .bool false, .slice true 0 [], .slice true 0 []], .int .i64 (210)])
theorem m287 : NatAt par 29 e287.1 e287.2 := .base (par := par) (par' := par7) rfl rfl (.of_eval (n := 1000) parOk7 (by kernel_rfl))
noncomputable def e288 : List V × V := ([.agg [.int .i64 (2), (gu8 [0, 0, 0, 0, 0, 0, 0, 0, 0, 0, 0, 0, 0, 0, 0, 0, 0, 0, 0, 0, 0, 0, 0, 0, 0, 0, 0, 0, 0, 0, 0]), .slice false 3 [.agg [.int .i64 (1), .str [97], .bool false]], (gu8 [1])]], .tup [.agg [.int .i64 (0), .int .i64 (0), .bool false, .slice true 0 [], .slice true 0 []], .int .i64 (210)])
theorem m288 : NatAt par 29 e288.1 e288.2 := .base (par := par) (par' := par7) rfl rfl (.of_eval (n := 1000) parOk7 (by kernel_rfl))
noncomputable def e289 : List V × V := ([.agg [.slice true 0 [], (gu8 [1]), .int .i64 (0), .slice true 0 [], .slice true 0 [], .slice true 0 [], .int .i64 (-1), .slice false 5 [.agg [.int .i64 (0), .int .i64 (16), .bool true, .slice true 0 [], .slice false 5 [.agg [.int .i64 (0), .int .i64 (6), .bool false, (gu8 [42, 3]), .slice true 0 []], .agg [.int .i64 (0), .int .i64 (17), .bool true, .slice true 0 [], .slice false 5 [.agg [.int .i64 (0), .int .i64 (2), .bool false, (gu8 [5]), .slice true 0 []]]]]], .agg [.int .i64 (0), .int .i64 (16), .bool true, .slice true 0 [], .slice false 5 [.agg [.int .i64 (0), .int .i64 (6), .bool false, (gu8 [42, 3]), .slice true 0 []], .agg [.int .i64 (0), .int .i64 (17), .bool true, .slice true 0 [], .slice false 5 [.agg [.int .i64 (0), .int .i64 (2), .bool false, (gu8 [5]), .slice true 0 []]]]]]]]], .tup [.agg [.int .i64 (0), .int .i64 (0), .bool false, .slice true 0 [], .slice true 0 []], .int .i64 (210)])
theorem m289 : NatAt par 27 e289.1 e289.2 := .base (par := par) (par' := par7) rfl rfl (.of_eval (n := 1000) parOk7 (by kernel_rfl))
noncomputable def e290 : List V × V := ([.agg [.int .i64 (0), .int .i64 (16), .bool true, .slice true 0 [], .slice false 5 [.agg [.int .i64 (0), .int .i64 (4), .bool false, (gu8 [0, 0, 0, 0, 0, 0, 0, 0, 0, 0, 0, 0, 0, 0, 0, 0, 0, 0, 0, 0, 0, 0, 0, 0, 0, 0, 0, 0, 0, 0, 0, 0]), .slice true 0 []], .agg [.int .i64 (0), .int .i64 (16), .bool true, .slice true 0 [], .slice false 5 [.agg [.int .i64 (0), .int .i64 (16), .bool true, .slice true 0 [], .slice false 5 [.agg [.int .i64 (2), .int .i64 (4), .bool true, .slice true 0 [], .slice false 5 [.agg [.int .i64 (0), .int .i64 (16), .bool true, .slice true 0 [], .slice false 5 [.agg [.int .i64 (0), .int .i64 (17), .bool true, .slice true 0 [], .slice false 5 [.agg [.int .i64 (0), .int .i64 (16), .bool true, .slice true 0 [], .slice false 5 [.agg [.int .i64 (0), .int .i64 (6), .bool false, (gu8 [85, 4, 3]), .slice true 0 []], .agg [.int .i64 (0), .int .i64 (12), .bool false, (gu8 [97]), .slice true 0 []]]]]]]]]]]], .agg [.int .i64 (0), .int .i64 (2), .bool false, (gu8 [1]), .slice true 0 []]]]]]], .int .i64 (0))
theorem m290 : NatAt par 54 e290.1 e290.2 := .base (par := par) (par' := par7) rfl rfl (.of_eval (n := 1000) parOk7 (by kernel_rfl))
noncomputable def e291 : List V × V := ([.agg [.int .i64 (0), .int .i64 (16), .bool true, .slice true 0 [], .slice false 5 [.agg [.int .i64 (0), .int .i64 (16), .bool true, .slice true 0 [], .slice false 5 [.agg [.int .i64 (0), .int .i64 (16), .bool true, .slice true 0 [], .slice false 5 [.agg [.int .i64 (0), .int .i64 (4), .bool false, (gu8 [0, 0, 0, 0, 0, 0, 0, 0, 0, 0, 0, 0, 0, 0, 0, 0, 0, 0, 0, 0, 0, 0, 0, 0, 0, 0, 0, 0, 0, 0, 0, 0]), .slice true 0 []], .agg [.int .i64 (0), .int .i64 (16), .bool true, .slice true 0 [], .slice false 5 [.agg [.int .i64 (0), .int .i64 (16), .bool true, .slice true 0 [], .slice false 5 [.agg [.int .i64 (2), .int .i64 (4), .bool true, .slice true 0 [], .slice false 5 [.agg [.int .i64 (0), .int .i64 (16), .bool true, .slice true 0 [], .slice false 5 [.agg [.int .i64 (0), .int .i64 (17), .bool true, .slice true 0 [], .slice false 5 [.agg [.int .i64 (0), .int .i64 (16), .bool true, .slice true 0 [], .slice false 5 [.agg [.int .i64 (0), .int .i64 (6), .bool false, (gu8 [85, 4, 3]), .slice true 0 []], .agg [.int .i64 (0), .int .i64 (12), .bool false, (gu8 [97]), .slice true 0 []]]]]]]]]]]], .agg [.int .i64 (0), .int .i64 (2), .bool false, (gu8 [1]), .slice true 0 []]]]]]]]]]], .tup [.int .i64 (13), .int .i64 (10)])
theorem m291 : NatAt par 176 e291.1 e291.2 := .base (par := par) (par' := par7) rfl rfl (.of_eval (n := 1000) parOk7 (by kernel_rfl))
noncomputable def e292 : List V × V := ([.agg [.int .i64 (0), .int .i64 (16), .bool true, .slice true 0 [], .slice false 5 [.agg [.int .i64 (0), .int .i64 (16), .bool true, .slice true 0 [], .slice false 5 [.agg [.int .i64 (0), .int .i64 (6), .bool false, (gu8 [96, 134, 72, 1, 101, 3, 4, 2, 3]), .slice true 0 []]]], .agg [.int .i64 (0), .int .i64 (4), .bool false, (gu8 [0, 0, 0, 0, 0, 0, 0, 0, 0, 0, 0, 0, 0, 0, 0, 0, 0, 0, 0, 0, 0, 0, 0, 0, 0, 0, 0, 0, 0, 0, 0, 0, 0, 0, 0, 0, 0, 0, 0, 0, 0, 0, 0, 0, 0, 0, 0, 0, 0, 0, 0, 0, 0, 0, 0, 0, 0, 0, 0, 0, 0, 0, 0, 0]), .slice true 0 []], .agg [.int .i64 (0), .int .i64 (16), .bool true, .slice true 0 [], .slice false 5 [.agg [.int .i64 (0), .int .i64 (16), .bool true, .slice true 0 [], .slice false 5 [.agg [.int .i64 (2), .int .i64 (4), .bool true, .slice true 0 [], .slice false 5 [.agg [.int .i64 (0), .int .i64 (16), .bool true, .slice true 0 [], .slice false 5 [.agg [.int .i64 (0), .int .i64 (17), .bool true, .slice true 0 [], .slice false 5 [.agg [.int .i64 (0), .int .i64 (16), .bool true, .slice true 0 [], .slice false 5 [.agg [.int .i64 (0), .int .i64 (6), .bool false, (gu8 [85, 4, 3]), .slice true 0 []], .agg [.int .i64 (0), .int .i64 (12), .bool false, (gu8 [97]), .slice true 0 []]]]]]]]]]]], .agg [.int .i64 (0), .int .i64 (2), .bool false, (gu8 [1]), .slice true 0 []]]]]]], .int .i64 (0))
theorem m292 : NatAt par 54 e292.1 e292.2 := .base (par := par) (par' := par7) rfl rfl (.of_eval (n := 1000) parOk7 (by kernel_rfl))
noncomputable def e293 : List V × V := ([.agg [.int .i64 (0), .int .i64 (0), .bool false, .slice true 0 [], .slice true 0 []]], .tup [.agg [.slice true 0 [], .slice true 0 [], .int .i64 (0), .slice true 0 [], .slice true 0 [], .slice true 0 [], .int .i64 (0), .slice true 0 []], .int .i64 (210)])
theorem m293 : NatAt par 28 e293.1 e293.2 := .base (par := par) (par' := par7) rfl rfl (.of_eval (n := 1000) parOk7 (by kernel_rfl))
noncomputable def e294 : List V × V := ([], .bool true)
theorem m294 : NatAt par 32 e294.1 e294.2 := .base (par := par) (par' := par7) rfl rfl (.of_eval (n := 1000) parOk7 (by kernel_rfl))
noncomputable def tab27_7 : List (List V × V) := e286 :: e289 :: tab27_6
theorem ok27_7 : MemoOk par 27 tab27_7 := .cons m286 <| .cons m289 <| ok27_6
noncomputable def tab28_7 : List (List V × V) := e293 :: []
theorem ok28_7 : MemoOk par 28 tab28_7 := .cons m293 <| .nil
noncomputable def tab29_7 : List (List V × V) := e287 :: e288 :: []
theorem ok29_7 : MemoOk par 29 tab29_7 := .cons m287 <| .cons m288 <| .nil
noncomputable def tab32_7 : List (List V × V) := e294 :: []
theorem ok32_7 : MemoOk par 32 tab32_7 := .cons m294 <| .nil
noncomputable def tab54_7 : List (List V × V) := e290 :: e292 :: tab54_3
theorem ok54_7 : MemoOk par 54 tab54_7 := .cons m290 <| .cons m292 <| ok54_3
noncomputable def tab176_7 : List (List V × V) := e291 :: tab176_6
theorem ok176_7 : MemoOk par 176 tab176_7 := .cons m291 <| ok176_6
noncomputable def par8_0 : Par := par.with 7 (memoF par7 1000 7 tab7_2)
theorem parOk8_0 : ParOk par8_0 := memo_with (base := par) parOk7 rfl rfl parOk rfl rfl ok7_2
noncomputable def par8_1 : Par := par8_0.with 11 (memoF par7 1000 11 tab11_0)
theorem parOk8_1 : ParOk par8_1 := memo_with (base := par) parOk7 rfl rfl parOk8_0 rfl rfl ok11_0
noncomputable def par8_2 : Par := par8_1.with 14 (memoF par7 1000 14 tab14_4)
theorem parOk8_2 : ParOk par8_2 := memo_with (base := par) parOk7 rfl rfl parOk8_1 rfl rfl ok14_4
noncomputable def par8_3 : Par := par8_2.with 27 (memoF par7 1000 27 tab27_7)
theorem parOk8_3 : ParOk par8_3 := memo_with (base := par) parOk7 rfl rfl parOk8_2 rfl rfl ok27_7
noncomputable def par8_4 : Par := par8_3.with 28 (memoF par7 1000 28 tab28_7)
theorem parOk8_4 : ParOk par8_4 := memo_with (base := par) parOk7 rfl rfl parOk8_3 rfl rfl ok28_7
noncomputable def par8_5 : Par := par8_4.with 29 (memoF par7 1000 29 tab29_7)
theorem parOk8_5 : ParOk par8_5 := memo_with (base := par) parOk7 rfl rfl parOk8_4 rfl rfl ok29_7
noncomputable def par8_6 : Par := par8_5.with 31 (memoF par7 1000 31 tab31_2)
theorem parOk8_6 : ParOk par8_6 := memo_with (base := par) parOk7 rfl rfl parOk8_5 rfl rfl ok31_2
noncomputable def par8_7 : Par := par8_6.with 32 (memoF par7 1000 32 tab32_7)
theorem parOk8_7 : ParOk par8_7 := memo_with (base := par) parOk7 rfl rfl parOk8_6 rfl rfl ok32_7
noncomputable def par8_8 : Par := par8_7.with 35 (memoF par7 1000 35 tab35_1)
theorem parOk8_8 : ParOk par8_8 := memo_with (base := par) parOk7 rfl rfl parOk8_7 rfl rfl ok35_1
noncomputable def par8_9 : Par := par8_8.with 36 (memoF par7 1000 36 tab36_5)
theorem parOk8_9 : ParOk par8_9 := memo_with (base := par) parOk7 rfl rfl parOk8_8 rfl rfl ok36_5
noncomputable def par8_10 : Par := par8_9.with 45 (memoF par7 1000 45 tab45_0)
theorem parOk8_10 : ParOk par8_10 := memo_with (base := par) parOk7 rfl rfl parOk8_9 rfl rfl ok45_0
noncomputable def par8_11 : Par := par8_10.with 48 (memoF par7 1000 48 tab48_3)
theorem parOk8_11 : ParOk par8_11 := memo_with (base := par) parOk7 rfl rfl parOk8_10 rfl rfl ok48_3
noncomputable def par8_12 : Par := par8_11.with 49 (memoF par7 1000 49 tab49_2)
theorem parOk8_12 : ParOk par8_12 := memo_with (base := par) parOk7 rfl rfl parOk8_11 rfl rfl ok49_2
noncomputable def par8_13 : Par := par8_12.with 51 (memoF par7 1000 51 tab51_5)
theorem parOk8_13 : ParOk par8_13 := memo_with (base := par) parOk7 rfl rfl parOk8_12 rfl rfl ok51_5
noncomputable def par8_14 : Par := par8_13.with 53 (memoF par7 1000 53 tab53_6)
theorem parOk8_14 : ParOk par8_14 := memo_with (base := par) parOk7 rfl rfl parOk8_13 rfl rfl ok53_6
noncomputable def par8_15 : Par := par8_14.with 54 (memoF par7 1000 54 tab54_7)
theorem parOk8_15 : ParOk par8_15 := memo_with (base := par) parOk7 rfl rfl parOk8_14 rfl rfl ok54_7
noncomputable def par8_16 : Par := par8_15.with 56 (memoF par7 1000 56 tab56_1)
theorem parOk8_16 : ParOk par8_16 := memo_with (base := par) parOk7 rfl rfl parOk8_15 rfl rfl ok56_1
noncomputable def par8_17 : Par := par8_16.with 57 (memoF par7 1000 57 tab57_6)
theorem parOk8_17 : ParOk par8_17 := memo_with (base := par) parOk7 rfl rfl parOk8_16 rfl rfl ok57_6
noncomputable def par8_18 : Par := par8_17.with 58 (memoF par7 1000 58 tab58_1)
theorem parOk8_18 : ParOk par8_18 := memo_with (base := par) parOk7 rfl rfl parOk8_17 rfl rfl ok58_1
noncomputable def par8_19 : Par := par8_18.with 59 (memoF par7 1000 59 tab59_5)
theorem parOk8_19 : ParOk par8_19 := memo_with (base := par) parOk7 rfl rfl parOk8_18 rfl rfl ok59_5
noncomputable def par8_20 : Par := par8_19.with 63 (memoF par7 1000 63 tab63_1)
theorem parOk8_20 : ParOk par8_20 := memo_with (base := par) parOk7 rfl rfl parOk8_19 rfl rfl ok63_1
noncomputable def par8_21 : Par := par8_20.with 64 (memoF par7 1000 64 tab64_6)
theorem parOk8_21 : ParOk par8_21 := memo_with (base := par) parOk7 rfl rfl parOk8_20 rfl rfl ok64_6
noncomputable def par8_22 : Par := par8_21.with 65 (memoF par7 1000 65 tab65_5)
theorem parOk8_22 : ParOk par8_22 := memo_with (base := par) parOk7 rfl rfl parOk8_21 rfl rfl ok65_5
noncomputable def par8_23 : Par := par8_22.with 66 (memoF par7 1000 66 tab66_2)
theorem parOk8_23 : ParOk par8_23 := memo_with (base := par) parOk7 rfl rfl parOk8_22 rfl rfl ok66_2
noncomputable def par8_24 : Par := par8_23.with 69 (memoF par7 1000 69 tab69_6)
theorem parOk8_24 : ParOk par8_24 := memo_with (base := par) parOk7 rfl rfl parOk8_23 rfl rfl ok69_6
noncomputable def par8_25 : Par := par8_24.with 70 (memoF par7 1000 70 tab70_1)
theorem parOk8_25 : ParOk par8_25 := memo_with (base := par) parOk7 rfl rfl parOk8_24 rfl rfl ok70_1
noncomputable def par8_26 : Par := par8_25.with 71 (memoF par7 1000 71 tab71_0)
theorem parOk8_26 : ParOk par8_26 := memo_with (base := par) parOk7 rfl rfl parOk8_25 rfl rfl ok71_0
noncomputable def par8_27 : Par := par8_26.with 74 (memoF par7 1000 74 tab74_0)
theorem parOk8_27 : ParOk par8_27 := memo_with (base := par) parOk7 rfl rfl parOk8_26 rfl rfl ok74_0
noncomputable def par8_28 : Par := par8_27.with 75 (memoF par7 1000 75 tab75_4)
theorem parOk8_28 : ParOk par8_28 := memo_with (base := par) parOk7 rfl rfl parOk8_27 rfl rfl ok75_4
noncomputable def par8_29 : Par := par8_28.with 98 (memoF par7 1000 98 tab98_1)
theorem parOk8_29 : ParOk par8_29 := memo_with (base := par) parOk7 rfl rfl parOk8_28 rfl rfl ok98_1
noncomputable def par8_30 : Par := par8_29.with 99 (memoF par7 1000 99 tab99_2)
theorem parOk8_30 : ParOk par8_30 := memo_with (base := par) parOk7 rfl rfl parOk8_29 rfl rfl ok99_2
noncomputable def par8_31 : Par := par8_30.with 100 (memoF par7 1000 100 tab100_1)
theorem parOk8_31 : ParOk par8_31 := memo_with (base := par) parOk7 rfl rfl parOk8_30 rfl rfl ok100_1
noncomputable def par8_32 : Par := par8_31.with 103 (memoF par7 1000 103 tab103_4)
theorem parOk8_32 : ParOk par8_32 := memo_with (base := par) parOk7 rfl rfl parOk8_31 rfl rfl ok103_4
noncomputable def par8_33 : Par := par8_32.with 104 (memoF par7 1000 104 tab104_5)
theorem parOk8_33 : ParOk par8_33 := memo_with (base := par) parOk7 rfl rfl parOk8_32 rfl rfl ok104_5
noncomputable def par8_34 : Par := par8_33.with 105 (memoF par7 1000 105 tab105_6)
theorem parOk8_34 : ParOk par8_34 := memo_with (base := par) parOk7 rfl rfl parOk8_33 rfl rfl ok105_6
noncomputable def par8_35 : Par := par8_34.with 106 (memoF par7 1000 106 tab106_5)
theorem parOk8_35 : ParOk par8_35 := memo_with (base := par) parOk7 rfl rfl parOk8_34 rfl rfl ok106_5
noncomputable def par8_36 : Par := par8_35.with 107 (memoF par7 1000 107 tab107_4)
theorem parOk8_36 : ParOk par8_36 := memo_with (base := par) parOk7 rfl rfl parOk8_35 rfl rfl ok107_4
noncomputable def par8_37 : Par := par8_36.with 110 (memoF par7 1000 110 tab110_4)
theorem parOk8_37 : ParOk par8_37 := memo_with (base := par) parOk7 rfl rfl parOk8_36 rfl rfl ok110_4
noncomputable def par8_38 : Par := par8_37.with 116 (memoF par7 1000 116 tab116_5)
theorem parOk8_38 : ParOk par8_38 := memo_with (base := par) parOk7 rfl rfl parOk8_37 rfl rfl ok116_5
noncomputable def par8_39 : Par := par8_38.with 117 (memoF par7 1000 117 tab117_3)
theorem parOk8_39 : ParOk par8_39 := memo_with (base := par) parOk7 rfl rfl parOk8_38 rfl rfl ok117_3
noncomputable def par8_40 : Par := par8_39.with 119 (memoF par7 1000 119 tab119_1)
theorem parOk8_40 : ParOk par8_40 := memo_with (base := par) parOk7 rfl rfl parOk8_39 rfl rfl ok119_1
noncomputable def par8_41 : Par := par8_40.with 120 (memoF par7 1000 120 tab120_2)
theorem parOk8_41 : ParOk par8_41 := memo_with (base := par) parOk7 rfl rfl parOk8_40 rfl rfl ok120_2
noncomputable def par8_42 : Par := par8_41.with 168 (memoF par7 1000 168 tab168_0)
theorem parOk8_42 : ParOk par8_42 := memo_with (base := par) parOk7 rfl rfl parOk8_41 rfl rfl ok168_0
noncomputable def par8_43 : Par := par8_42.with 170 (memoF par7 1000 170 tab170_1)
theorem parOk8_43 : ParOk par8_43 := memo_with (base := par) parOk7 rfl rfl parOk8_42 rfl rfl ok170_1
noncomputable def par8_44 : Par := par8_43.with 171 (memoF par7 1000 171 tab171_0)
theorem parOk8_44 : ParOk par8_44 := memo_with (base := par) parOk7 rfl rfl parOk8_43 rfl rfl ok171_0
noncomputable def par8_45 : Par := par8_44.with 172 (memoF par7 1000 172 tab172_0)
theorem parOk8_45 : ParOk par8_45 := memo_with (base := par) parOk7 rfl rfl parOk8_44 rfl rfl ok172_0
noncomputable def par8_46 : Par := par8_45.with 176 (memoF par7 1000 176 tab176_7)
theorem parOk8_46 : ParOk par8_46 := memo_with (base := par) parOk7 rfl rfl parOk8_45 rfl rfl ok176_7
noncomputable def par8_47 : Par := par8_46.with 180 (memoF par7 1000 180 tab180_3)
theorem parOk8_47 : ParOk par8_47 := memo_with (base := par) parOk7 rfl rfl parOk8_46 rfl rfl ok180_3
noncomputable def par8_48 : Par := par8_47.with 182 (memoF par7 1000 182 tab182_3)
theorem parOk8_48 : ParOk par8_48 := memo_with (base := par) parOk7 rfl rfl parOk8_47 rfl rfl ok182_3
noncomputable def par8_49 : Par := par8_48.with 183 (memoF par7 1000 183 tab183_6)
theorem parOk8_49 : ParOk par8_49 := memo_with (base := par) parOk7 rfl rfl parOk8_48 rfl rfl ok183_6
noncomputable def par8_50 : Par := par8_49.with 184 (memoF par7 1000 184 tab184_5)
theorem parOk8_50 : ParOk par8_50 := memo_with (base := par) parOk7 rfl rfl parOk8_49 rfl rfl ok184_5
noncomputable def par8_51 : Par := par8_50.with 185 (memoF par7 1000 185 tab185_2)
theorem parOk8_51 : ParOk par8_51 := memo_with (base := par) parOk7 rfl rfl parOk8_50 rfl rfl ok185_2
noncomputable def par8_52 : Par := par8_51.with 193 (memoF par7 1000 193 tab193_3)
theorem parOk8_52 : ParOk par8_52 := memo_with (base := par) parOk7 rfl rfl parOk8_51 rfl rfl ok193_3
noncomputable def par8_53 : Par := par8_52.with 230 (memoF par7 1000 230 tab230_0)
theorem parOk8_53 : ParOk par8_53 := memo_with (base := par) parOk7 rfl rfl parOk8_52 rfl rfl ok230_0
noncomputable def par8_54 : Par := par8_53.with 237 (memoF par7 1000 237 tab237_0)
theorem parOk8_54 : ParOk par8_54 := memo_with (base := par) parOk7 rfl rfl parOk8_53 rfl rfl ok237_0
noncomputable def par8_55 : Par := par8_54.with 239 (memoF par7 1000 239 tab239_0)
theorem parOk8_55 : ParOk par8_55 := memo_with (base := par) parOk7 rfl rfl parOk8_54 rfl rfl ok239_0
noncomputable def par8_56 : Par := par8_55.with 244 (memoF par7 1000 244 tab244_1)
theorem parOk8_56 : ParOk par8_56 := memo_with (base := par) parOk7 rfl rfl parOk8_55 rfl rfl ok244_1
noncomputable def par8_57 : Par := par8_56.with 247 (memoF par7 1000 247 tab247_1)
theorem parOk8_57 : ParOk par8_57 := memo_with (base := par) parOk7 rfl rfl parOk8_56 rfl rfl ok247_1
noncomputable def par8_58 : Par := par8_57.with 250 (memoF par7 1000 250 tab250_0)
theorem parOk8_58 : ParOk par8_58 := memo_with (base := par) parOk7 rfl rfl parOk8_57 rfl rfl ok250_0
noncomputable def par8_59 : Par := par8_58.with 251 (memoF par7 1000 251 tab251_2)
theorem parOk8_59 : ParOk par8_59 := memo_with (base := par) parOk7 rfl rfl parOk8_58 rfl rfl ok251_2
noncomputable def par8_60 : Par := par8_59.with 291 (memoF par7 1000 291 tab291_0)
theorem parOk8_60 : ParOk par8_60 := memo_with (base := par) parOk7 rfl rfl parOk8_59 rfl rfl ok291_0
noncomputable def par8_61 : Par := par8_60.with 296 (memoF par7 1000 296 tab296_4)
theorem parOk8_61 : ParOk par8_61 := memo_with (base := par) parOk7 rfl rfl parOk8_60 rfl rfl ok296_4
noncomputable def par8_62 : Par := par8_61.with 307 (memoF par7 1000 307 tab307_0)
theorem parOk8_62 : ParOk par8_62 := memo_with (base := par) parOk7 rfl rfl parOk8_61 rfl rfl ok307_0
noncomputable def par8_63 : Par := par8_62.with 311 (memoF par7 1000 311 tab311_0)
theorem parOk8_63 : ParOk par8_63 := memo_with (base := par) parOk7 rfl rfl parOk8_62 rfl rfl ok311_0
noncomputable def par8_64 : Par := par8_63.with 313 (memoF par7 1000 313 tab313_1)
theorem parOk8_64 : ParOk par8_64 := memo_with (base := par) parOk7 rfl rfl parOk8_63 rfl rfl ok313_1
noncomputable def par8_65 : Par := par8_64.with 332 (memoF par7 1000 332 tab332_2)
theorem parOk8_65 : ParOk par8_65 := memo_with (base := par) parOk7 rfl rfl parOk8_64 rfl rfl ok332_2
noncomputable def par8_66 : Par := par8_65.with 333 (memoF par7 1000 333 tab333_3)
theorem parOk8_66 : ParOk par8_66 := memo_with (base := par) parOk7 rfl rfl parOk8_65 rfl rfl ok333_3
noncomputable def par8_67 : Par := par8_66.with 335 (memoF par7 1000 335 tab335_1)
theorem parOk8_67 : ParOk par8_67 := memo_with (base := par) parOk7 rfl rfl parOk8_66 rfl rfl ok335_1
noncomputable def par8 : Par := par8_67.with 344 (memoF par7 1000 344 tab344_0)
theorem parOk8 : ParOk par8 := memo_with (base := par) parOk7 rfl rfl parOk8_67 rfl rfl ok344_0
noncomputable def e295 : List V × V := ([.agg [.slice true 0 [], (gu8 [1]), .int .i64 (2), .slice true 0 [], .slice true 0 [], .slice true 0 [], .int .i64 (-1), .slice true 0 []]], .tup [.agg [.int .i64 (0), .int .i64 (0), .bool false, .slice true 0 [], .slice true 0 []], .int .i64 (210)])
theorem m295 : NatAt par 27 e295.1 e295.2 := .base (par := par) (par' := par8) rfl rfl (.of_eval (n := 1000) parOk8 (by kernel_rfl))
noncomputable def e296 : List V × V := ([.agg [.slice true 0 [], (gu8 [1]), .int .i64 (2), (gu8 [0, 0, 0, 0, 0, 0, 0, 0, 0, 0, 0, 0, 0, 0, 0, 0, 0, 0, 0, 0, 0, 0, 0, 0, 0, 0, 0, 0, 0, 0, 0]), .slice false 3 [.agg [.int .i64 (1), .str [97], .bool false]], (gu8 [1]), .int .i64 (-1), .slice true 0 []]], .tup [.agg [.int .i64 (0), .int .i64 (0), .bool false, .slice true 0 [], .slice true 0 []], .int .i64 (210)])
theorem m296 : NatAt par 27 e296.1 e296.2 := .base (par := par) (par' := par8) rfl rfl (.of_eval (n := 1000) parOk8 (by kernel_rfl))
noncomputable def e297 : List V × V := ([.agg [.int .i64 (0), .int .i64 (16), .bool true, .slice true 0 [], .slice false 5 [.agg [.int .i64 (0), .int .i64 (4), .bool false, (gu8 [0, 0, 0, 0, 0, 0, 0, 0, 0, 0, 0, 0, 0, 0, 0, 0, 0, 0, 0, 0, 0, 0, 0, 0, 0, 0, 0, 0, 0, 0, 0, 0]), .slice true 0 []], .agg [.int .i64 (0), .int .i64 (16), .bool true, .slice true 0 [], .slice false 5 [.agg [.int .i64 (0), .int .i64 (16), .bool true, .slice true 0 [], .slice false 5 [.agg [.int .i64 (2), .int .i64 (4), .bool true, .slice true 0 [], .slice false 5 [.agg [.int .i64 (0), .int .i64 (16), .bool true, .slice true 0 [], .slice false 5 [.agg [.int .i64 (0), .int .i64 (17), .bool true, .slice true 0 [], .slice false 5 [.agg [.int .i64 (0), .int .i64 (16), .bool true, .slice true 0 [], .slice false 5 [.agg [.int .i64 (0), .int .i64 (6), .bool false, (gu8 [85, 4, 3]), .slice true 0 []], .agg [.int .i64 (0), .int .i64 (12), .bool false, (gu8 [97]), .slice true 0 []]]]]]]]]]]], .agg [.int .i64 (0), .int .i64 (2), .bool false, (gu8 [1]), .slice true 0 []]]]]]], .tup [.int .i64 (59), .int .i64 (0)])
theorem m297 : NatAt par 75 e297.1 e297.2 := .base (par := par) (par' := par8) rfl rfl (.of_eval (n := 1000) parOk8 (by kernel_rfl))
noncomputable def e298 : List V × V := ([.agg [.int .i64 (0), .int .i64 (17), .bool true, .slice true 0 [], .slice false 5 [.agg [.int .i64 (0), .int .i64 (16), .bool true, .slice true 0 [], .slice false 5 [.agg [.int .i64 (0), .int .i64 (16), .bool true, .slice true 0 [], .slice false 5 [.agg [.int .i64 (0), .int .i64 (16), .bool true, .slice true 0 [], .slice false 5 [.agg [.int .i64 (0), .int .i64 (4), .bool false, (gu8 [0, 0, 0, 0, 0, 0, 0, 0, 0, 0, 0, 0, 0, 0, 0, 0, 0, 0, 0, 0, 0, 0, 0, 0, 0, 0, 0, 0, 0, 0, 0, 0]), .slice true 0 []], .agg [.int .i64 (0), .int .i64 (16), .bool true, .slice true 0 [], .slice false 5 [.agg [.int .i64 (0), .int .i64 (16), .bool true, .slice true 0 [], .slice false 5 [.agg [.int .i64 (2), .int .i64 (4), .bool true, .slice true 0 [], .slice false 5 [.agg [.int .i64 (0), .int .i64 (16), .bool true, .slice true 0 [], .slice false 5 [.agg [.int .i64 (0), .int .i64 (17), .bool true, .slice true 0 [], .slice false 5 [.agg [.int .i64 (0), .int .i64 (16), .bool true, .slice true 0 [], .slice false 5 [.agg [.int .i64 (0), .int .i64 (6), .bool false, (gu8 [85, 4, 3]), .slice true 0 []], .agg [.int .i64 (0), .int .i64 (12), .bool false, (gu8 [97]), .slice true 0 []]]]]]]]]]]], .agg [.int .i64 (0), .int .i64 (2), .bool false, (gu8 [1]), .slice true 0 []]]]]]]]]]]]], .tup [.int .i64 (14), .int .i64 (11)])
theorem m298 : NatAt par 176 e298.1 e298.2 := .base (par := par) (par' := par8) rfl rfl (.of_eval (n := 1000) parOk8 (by kernel_rfl))
noncomputable def e299 : List V × V := ([.agg [.int .i64 (0), .int .i64 (16), .bool true, .slice true 0 [], .slice false 5 [.agg [.int .i64 (0), .int .i64 (16), .bool true, .slice true 0 [], .slice false 5 [.agg [.int .i64 (0), .int .i64 (6), .bool false, (gu8 [96, 134, 72, 1, 101, 3, 4, 2, 3]), .slice true 0 []]]], .agg [.int .i64 (0), .int .i64 (4), .bool false, (gu8 [0, 0, 0, 0, 0, 0, 0, 0, 0, 0, 0, 0, 0, 0, 0, 0, 0, 0, 0, 0, 0, 0, 0, 0, 0, 0, 0, 0, 0, 0, 0, 0, 0, 0, 0, 0, 0, 0, 0, 0, 0, 0, 0, 0, 0, 0, 0, 0, 0, 0, 0, 0, 0, 0, 0, 0, 0, 0, 0, 0, 0, 0, 0, 0]), .slice true 0 []], .agg [.int .i64 (0), .int .i64 (16), .bool true, .slice true 0 [], .slice false 5 [.agg [.int .i64 (0), .int .i64 (16), .bool true, .slice true 0 [], .slice false 5 [.agg [.int .i64 (2), .int .i64 (4), .bool true, .slice true 0 [], .slice false 5 [.agg [.int .i64 (0), .int .i64 (16), .bool true, .slice true 0 [], .slice false 5 [.agg [.int .i64 (0), .int .i64 (17), .bool true, .slice true 0 [], .slice false 5 [.agg [.int .i64 (0), .int .i64 (16), .bool true, .slice true 0 [], .slice false 5 [.agg [.int .i64 (0), .int .i64 (6), .bool false, (gu8 [85, 4, 3]), .slice true 0 []], .agg [.int .i64 (0), .int .i64 (12), .bool false, (gu8 [97]), .slice true 0 []]]]]]]]]]]], .agg [.int .i64 (0), .int .i64 (2), .bool false, (gu8 [1]), .slice true 0 []]]]]]], .tup [.int .i64 (104), .int .i64 (0)])
theorem m299 : NatAt par 75 e299.1 e299.2 := .base (par := par) (par' := par8) rfl rfl (.of_eval (n := 1000) parOk8 (by kernel_rfl))
noncomputable def e300 : List V × V := ([.agg [.int .i64 (0), .int .i64 (0), .bool false, .slice true 0 [], .slice true 0 []]], .tup [.agg [.int .i64 (0), .slice true 0 [], .slice true 0 [], .slice true 0 []], .int .i64 (210)])
theorem m300 : NatAt par 30 e300.1 e300.2 := .base (par := par) (par' := par8) rfl rfl (.of_eval (n := 1000) parOk8 (by kernel_rfl))
noncomputable def tab27_8 : List (List V × V) := e295 :: e296 :: tab27_7
theorem ok27_8 : MemoOk par 27 tab27_8 := .cons m295 <| .cons m296 <| ok27_7
noncomputable def tab30_8 : List (List V × V) := e300 :: []
theorem ok30_8 : MemoOk par 30 tab30_8 := .cons m300 <| .nil
noncomputable def tab75_8 : List (List V × V) := e297 :: e299 :: tab75_4
theorem ok75_8 : MemoOk par 75 tab75_8 := .cons m297 <| .cons m299 <| ok75_4
noncomputable def tab176_8 : List (List V × V) := e298 :: tab176_7
theorem ok176_8 : MemoOk par 176 tab176_8 := .cons m298 <| ok176_7
noncomputable def par9_0 : Par := par.with 7 (memoF par8 1000 7 tab7_2)
theorem parOk9_0 : ParOk par9_0 := memo_with (base := par) parOk8 rfl rfl parOk rfl rfl ok7_2
noncomputable def par9_1 : Par := par9_0.with 11 (memoF par8 1000 11 tab11_0)
theorem parOk9_1 : ParOk par9_1 := memo_with (base := par) parOk8 rfl rfl parOk9_0 rfl rfl ok11_0
noncomputable def par9_2 : Par := par9_1.with 14 (memoF par8 1000 14 tab14_4)
theorem parOk9_2 : ParOk par9_2 := memo_with (base := par) parOk8 rfl rfl parOk9_1 rfl rfl ok14_4
noncomputable def par9_3 : Par := par9_2.with 27 (memoF par8 1000 27 tab27_8)
theorem parOk9_3 : ParOk par9_3 := memo_with (base := par) parOk8 rfl rfl parOk9_2 rfl rfl ok27_8
noncomputable def par9_4 : Par := par9_3.with 28 (memoF par8 1000 28 tab28_7)
theorem parOk9_4 : ParOk par9_4 := memo_with (base := par) parOk8 rfl rfl parOk9_3 rfl rfl ok28_7
noncomputable def par9_5 : Par := par9_4.with 29 (memoF par8 1000 29 tab29_7)
theorem parOk9_5 : ParOk par9_5 := memo_with (base := par) parOk8 rfl rfl parOk9_4 rfl rfl ok29_7
noncomputable def par9_6 : Par := par9_5.with 30 (memoF par8 1000 30 tab30_8)
theorem parOk9_6 : ParOk par9_6 := memo_with (base := par) parOk8 rfl rfl parOk9_5 rfl rfl ok30_8
noncomputable def par9_7 : Par := par9_6.with 31 (memoF par8 1000 31 tab31_2)
theorem parOk9_7 : ParOk par9_7 := memo_with (base := par) parOk8 rfl rfl parOk9_6 rfl rfl ok31_2
noncomputable def par9_8 : Par := par9_7.with 32 (memoF par8 1000 32 tab32_7)
theorem parOk9_8 : ParOk par9_8 := memo_with (base := par) parOk8 rfl rfl parOk9_7 rfl rfl ok32_7
noncomputable def par9_9 : Par := par9_8.with 35 (memoF par8 1000 35 tab35_1)
theorem parOk9_9 : ParOk par9_9 := memo_with (base := par) parOk8 rfl rfl parOk9_8 rfl rfl ok35_1
noncomputable def par9_10 : Par := par9_9.with 36 (memoF par8 1000 36 tab36_5)
theorem parOk9_10 : ParOk par9_10 := memo_with (base := par) parOk8 rfl rfl parOk9_9 rfl rfl ok36_5
noncomputable def par9_11 : Par := par9_10.with 45 (memoF par8 1000 45 tab45_0)
theorem parOk9_11 : ParOk par9_11 := memo_with (base := par) parOk8 rfl rfl parOk9_10 rfl rfl ok45_0
noncomputable def par9_12 : Par := par9_11.with 48 (memoF par8 1000 48 tab48_3)
theorem parOk9_12 : ParOk par9_12 := memo_with (base := par) parOk8 rfl rfl parOk9_11 rfl rfl ok48_3
noncomputable def par9_13 : Par := par9_12.with 49 (memoF par8 1000 49 tab49_2)
theorem parOk9_13 : ParOk par9_13 := memo_with (base := par) parOk8 rfl rfl parOk9_12 rfl rfl ok49_2
noncomputable def par9_14 : Par := par9_13.with 51 (memoF par8 1000 51 tab51_5)
theorem parOk9_14 : ParOk par9_14 := memo_with (base := par) parOk8 rfl rfl parOk9_13 rfl rfl ok51_5
noncomputable def par9_15 : Par := par9_14.with 53 (memoF par8 1000 53 tab53_6)
theorem parOk9_15 : ParOk par9_15 := memo_with (base := par) parOk8 rfl rfl parOk9_14 rfl rfl ok53_6
noncomputable def par9_16 : Par := par9_15.with 54 (memoF par8 1000 54 tab54_7)
theorem parOk9_16 : ParOk par9_16 := memo_with (base := par) parOk8 rfl rfl parOk9_15 rfl rfl ok54_7
noncomputable def par9_17 : Par := par9_16.with 56 (memoF par8 1000 56 tab56_1)
theorem parOk9_17 : ParOk par9_17 := memo_with (base := par) parOk8 rfl rfl parOk9_16 rfl rfl ok56_1
noncomputable def par9_18 : Par := par9_17.with 57 (memoF par8 1000 57 tab57_6)
theorem parOk9_18 : ParOk par9_18 := memo_with (base := par) parOk8 rfl rfl parOk9_17 rfl rfl ok57_6
noncomputable def par9_19 : Par := par9_18.with 58 (memoF par8 1000 58 tab58_1)
theorem parOk9_19 : ParOk par9_19 := memo_with (base := par) parOk8 rfl rfl parOk9_18 rfl rfl ok58_1
noncomputable def par9_20 : Par := par9_19.with 59 (memoF par8 1000 59 tab59_5)
theorem parOk9_20 : ParOk par9_20 := memo_with (base := par) parOk8 rfl rfl parOk9_19 rfl rfl ok59_5
noncomputable def par9_21 : Par := par9_20.with 63 (memoF par8 1000 63 tab63_1)
theorem parOk9_21 : ParOk par9_21 := memo_with (base := par) parOk8 rfl rfl parOk9_20 rfl rfl ok63_1
noncomputable def par9_22 : Par := par9_21.with 64 (memoF par8 1000 64 tab64_6)
theorem parOk9_22 : ParOk par9_22 := memo_with (base := par) parOk8 rfl rfl parOk9_21 rfl rfl ok64_6
noncomputable def par9_23 : Par := par9_22.with 65 (memoF par8 1000 65 tab65_5)
theorem parOk9_23 : ParOk par9_23 := memo_with (base := par) parOk8 rfl rfl parOk9_22 rfl rfl ok65_5
noncomputable def par9_24 : Par := par9_23.with 66 (memoF par8 1000 66 tab66_2)
theorem parOk9_24 : ParOk par9_24 := memo_with (base := par) parOk8 rfl rfl parOk9_23 rfl rfl ok66_2
noncomputable def par9_25 : Par := par9_24.with 69 (memoF par8 1000 69 tab69_6)
theorem parOk9_25 : ParOk par9_25 := memo_with (base := par) parOk8 rfl rfl parOk9_24 rfl rfl ok69_6
noncomputable def par9_26 : Par := par9_25.with 70 (memoF par8 1000 70 tab70_1)
theorem parOk9_26 : ParOk par9_26 := memo_with (base := par) parOk8 rfl rfl parOk9_25 rfl rfl ok70_1
noncomputable def par9_27 : Par := par9_26.with 71 (memoF par8 1000 71 tab71_0)
theorem parOk9_27 : ParOk par9_27 := memo_with (base := par) parOk8 rfl rfl parOk9_26 rfl rfl ok71_0
noncomputable def par9_28 : Par := par9_27.with 74 (memoF par8 1000 74 tab74_0)
theorem parOk9_28 : ParOk par9_28 := memo_with (base := par) parOk8 rfl rfl parOk9_27 rfl rfl ok74_0
noncomputable def par9_29 : Par := par9_28.with 75 (memoF par8 1000 75 tab75_8)
theorem parOk9_29 : ParOk par9_29 := memo_with (base := par) parOk8 rfl rfl parOk9_28 rfl rfl ok75_8
noncomputable def par9_30 : Par := par9_29.with 98 (memoF par8 1000 98 tab98_1)
theorem parOk9_30 : ParOk par9_30 := memo_with (base := par) parOk8 rfl rfl parOk9_29 rfl rfl ok98_1
noncomputable def par9_31 : Par := par9_30.with 99 (memoF par8 1000 99 tab99_2)
theorem parOk9_31 : ParOk par9_31 := memo_with (base := par) parOk8 rfl rfl parOk9_30 rfl rfl ok99_2
noncomputable def par9_32 : Par := par9_31.with 100 (memoF par8 1000 100 tab100_1)
theorem parOk9_32 : ParOk par9_32 := memo_with (base := par) parOk8 rfl rfl parOk9_31 rfl rfl ok100_1
noncomputable def par9_33 : Par := par9_32.with 103 (memoF par8 1000 103 tab103_4)
theorem parOk9_33 : ParOk par9_33 := memo_with (base := par) parOk8 rfl rfl parOk9_32 rfl rfl ok103_4
noncomputable def par9_34 : Par := par9_33.with 104 (memoF par8 1000 104 tab104_5)
theorem parOk9_34 : ParOk par9_34 := memo_with (base := par) parOk8 rfl rfl parOk9_33 rfl rfl ok104_5
noncomputable def par9_35 : Par := par9_34.with 105 (memoF par8 1000 105 tab105_6)
theorem parOk9_35 : ParOk par9_35 := memo_with (base := par) parOk8 rfl rfl parOk9_34 rfl rfl ok105_6
noncomputable def par9_36 : Par := par9_35.with 106 (memoF par8 1000 106 tab106_5)
theorem parOk9_36 : ParOk par9_36 := memo_with (base := par) parOk8 rfl rfl parOk9_35 rfl rfl ok106_5
noncomputable def par9_37 : Par := par9_36.with 107 (memoF par8 1000 107 tab107_4)
theorem parOk9_37 : ParOk par9_37 := memo_with (base := par) parOk8 rfl rfl parOk9_36 rfl rfl ok107_4
noncomputable def par9_38 : Par := par9_37.with 110 (memoF par8 1000 110 tab110_4)
theorem parOk9_38 : ParOk par9_38 := memo_with (base := par) parOk8 rfl rfl parOk9_37 rfl rfl ok110_4
noncomputable def par9_39 : Par := par9_38.with 116 (memoF par8 1000 116 tab116_5)
theorem parOk9_39 : ParOk par9_39 := memo_with (base := par) parOk8 rfl rfl parOk9_38 rfl rfl ok116_5
noncomputable def par9_40 : Par := par9_39.with 117 (memoF par8 1000 117 tab117_3)
theorem parOk9_40 : ParOk par9_40 := memo_with (base := par) parOk8 rfl rfl parOk9_39 rfl rfl ok117_3
noncomputable def par9_41 : Par := par9_40.with 119 (memoF par8 1000 119 tab119_1)
theorem parOk9_41 : ParOk par9_41 := memo_with (base := par) parOk8 rfl rfl parOk9_40 rfl rfl ok119_1
noncomputable def par9_42 : Par := par9_41.with 120 (memoF par8 1000 120 tab120_2)
theorem parOk9_42 : ParOk par9_42 := memo_with (base := par) parOk8 rfl rfl parOk9_41 rfl rfl ok120_2
noncomputable def par9_43 : Par := par9_42.with 168 (memoF par8 1000 168 tab168_0)
theorem parOk9_43 : ParOk par9_43 := memo_with (base := par) parOk8 rfl rfl parOk9_42 rfl rfl ok168_0
noncomputable def par9_44 : Par := par9_43.with 170 (memoF par8 1000 170 tab170_1)
theorem parOk9_44 : ParOk par9_44 := memo_with (base := par) parOk8 rfl rfl parOk9_43 rfl rfl ok170_1
noncomputable def par9_45 : Par := par9_44.with 171 (memoF par8 1000 171 tab171_0)
theorem parOk9_45 : ParOk par9_45 := memo_with (base := par) parOk8 rfl rfl parOk9_44 rfl rfl ok171_0
noncomputable def par9_46 : Par := par9_45.with 172 (memoF par8 1000 172 tab172_0)
theorem parOk9_46 : ParOk par9_46 := memo_with (base := par) parOk8 rfl rfl parOk9_45 rfl rfl ok172_0
noncomputable def par9_47 : Par := par9_46.with 176 (memoF par8 1000 176 tab176_8)
theorem parOk9_47 : ParOk par9_47 := memo_with (base := par) parOk8 rfl rfl parOk9_46 rfl rfl ok176_8
noncomputable def par9_48 : Par := par9_47.with 180 (memoF par8 1000 180 tab180_3)
theorem parOk9_48 : ParOk par9_48 := memo_with (base := par) parOk8 rfl rfl parOk9_47 rfl rfl ok180_3
noncomputable def par9_49 : Par := par9_48.with 182 (memoF par8 1000 182 tab182_3)
theorem parOk9_49 : ParOk par9_49 := memo_with (base := par) parOk8 rfl rfl parOk9_48 rfl rfl ok182_3
noncomputable def par9_50 : Par := par9_49.with 183 (memoF par8 1000 183 tab183_6)
theorem parOk9_50 : ParOk par9_50 := memo_with (base := par) parOk8 rfl rfl parOk9_49 rfl rfl ok183_6
noncomputable def par9_51 : Par := par9_50.with 184 (memoF par8 1000 184 tab184_5)
theorem parOk9_51 : ParOk par9_51 := memo_with (base := par) parOk8 rfl rfl parOk9_50 rfl rfl ok184_5
noncomputable def par9_52 : Par := par9_51.with 185 (memoF par8 1000 185 tab185_2)
theorem parOk9_52 : ParOk par9_52 := memo_with (base := par) parOk8 rfl rfl parOk9_51 rfl rfl ok185_2
noncomputable def par9_53 : Par := par9_52.with 193 (memoF par8 1000 193 tab193_3)
theorem parOk9_53 : ParOk par9_53 := memo_with (base := par) parOk8 rfl rfl parOk9_52 rfl rfl ok193_3
noncomputable def par9_54 : Par := par9_53.with 230 (memoF par8 1000 230 tab230_0)
theorem parOk9_54 : ParOk par9_54 := memo_with (base := par) parOk8 rfl rfl parOk9_53 rfl rfl ok230_0
noncomputable def par9_55 : Par := par9_54.with 237 (memoF par8 1000 237 tab237_0)
theorem parOk9_55 : ParOk par9_55 := memo_with (base := par) parOk8 rfl rfl parOk9_54 rfl rfl ok237_0
noncomputable def par9_56 : Par := par9_55.with 239 (memoF par8 1000 239 tab239_0)
theorem parOk9_56 : ParOk par9_56 := memo_with (base := par) parOk8 rfl rfl parOk9_55 rfl rfl ok239_0
noncomputable def par9_57 : Par := par9_56.with 244 (memoF par8 1000 244 tab244_1)
theorem parOk9_57 : ParOk par9_57 := memo_with (base := par) parOk8 rfl rfl parOk9_56 rfl rfl ok244_1
noncomputable def par9_58 : Par := par9_57.with 247 (memoF par8 1000 247 tab247_1)
theorem parOk9_58 : ParOk par9_58 := memo_with (base := par) parOk8 rfl rfl parOk9_57 rfl rfl ok247_1
noncomputable def par9_59 : Par := par9_58.with 250 (memoF par8 1000 250 tab250_0)
theorem parOk9_59 : ParOk par9_59 := memo_with (base := par) parOk8 rfl rfl parOk9_58 rfl rfl ok250_0
noncomputable def par9_60 : Par := par9_59.with 251 (memoF par8 1000 251 tab251_2)
theorem parOk9_60 : ParOk par9_60 := memo_with (base := par) parOk8 rfl rfl parOk9_59 rfl rfl ok251_2
noncomputable def par9_61 : Par := par9_60.with 291 (memoF par8 1000 291 tab291_0)
theorem parOk9_61 : ParOk par9_61 := memo_with (base := par) parOk8 rfl rfl parOk9_60 rfl rfl ok291_0
noncomputable def par9_62 : Par := par9_61.with 296 (memoF par8 1000 296 tab296_4)
theorem parOk9_62 : ParOk par9_62 := memo_with (base := par) parOk8 rfl rfl parOk9_61 rfl rfl ok296_4
noncomputable def par9_63 : Par := par9_62.with 307 (memoF par8 1000 307 tab307_0)
theorem parOk9_63 : ParOk par9_63 := memo_with (base := par) parOk8 rfl rfl parOk9_62 rfl rfl ok307_0
noncomputable def par9_64 : Par := par9_63.with 311 (memoF par8 1000 311 tab311_0)
theorem parOk9_64 : ParOk par9_64 := memo_with (base := par) parOk8 rfl rfl parOk9_63 rfl rfl ok311_0
noncomputable def par9_65 : Par := par9_64.with 313 (memoF par8 1000 313 tab313_1)
theorem parOk9_65 : ParOk par9_65 := memo_with (base := par) parOk8 rfl rfl parOk9_64 rfl rfl ok313_1
noncomputable def par9_66 : Par := par9_65.with 332 (memoF par8 1000 332 tab332_2)
theorem parOk9_66 : ParOk par9_66 := memo_with (base := par) parOk8 rfl rfl parOk9_65 rfl rfl ok332_2
noncomputable def par9_67 : Par := par9_66.with 333 (memoF par8 1000 333 tab333_3)
theorem parOk9_67 : ParOk par9_67 := memo_with (base := par) parOk8 rfl rfl parOk9_66 rfl rfl ok333_3
noncomputable def par9_68 : Par := par9_67.with 335 (memoF par8 1000 335 tab335_1)
theorem parOk9_68 : ParOk par9_68 := memo_with (base := par) parOk8 rfl rfl parOk9_67 rfl rfl ok335_1
noncomputable def par9 : Par := par9_68.with 344 (memoF par8 1000 344 tab344_0)
theorem parOk9 : ParOk par9 := memo_with (base := par) parOk8 rfl rfl parOk9_68 rfl rfl ok344_0
noncomputable def e301 : List V × V := ([.agg [.int .i64 (0), .int .i64 (16), .bool true, .slice true 0 [], .slice false 5 [.agg [.int .i64 (0), .int .i64 (4), .bool false, (gu8 [0, 0, 0, 0, 0, 0, 0, 0, 0, 0, 0, 0, 0, 0, 0, 0, 0, 0, 0, 0, 0, 0, 0, 0, 0, 0, 0, 0, 0, 0, 0, 0]), .slice true 0 []], .agg [.int .i64 (0), .int .i64 (16), .bool true, .slice true 0 [], .slice false 5 [.agg [.int .i64 (0), .int .i64 (16), .bool true, .slice true 0 [], .slice false 5 [.agg [.int .i64 (2), .int .i64 (4), .bool true, .slice true 0 [], .slice false 5 [.agg [.int .i64 (0), .int .i64 (16), .bool true, .slice true 0 [], .slice false 5 [.agg [.int .i64 (0), .int .i64 (17), .bool true, .slice true 0 [], .slice false 5 [.agg [.int .i64 (0), .int .i64 (16), .bool true, .slice true 0 [], .slice false 5 [.agg [.int .i64 (0), .int .i64 (6), .bool false, (gu8 [85, 4, 3]), .slice true 0 []], .agg [.int .i64 (0), .int .i64 (12), .bool false, (gu8 [97]), .slice true 0 []]]]]]]]]]]], .agg [.int .i64 (0), .int .i64 (2), .bool false, (gu8 [1]), .slice true 0 []]]]]]], .tup [.agg [.int .i64 (0), .int .i64 (16), .bool true, .slice true 0 [], .slice false 5 [.agg [.int .i64 (0), .int .i64 (4), .bool false, (gu8 [0, 0, 0, 0, 0, 0, 0, 0, 0, 0, 0, 0, 0, 0, 0, 0, 0, 0, 0, 0, 0, 0, 0, 0, 0, 0, 0, 0, 0, 0, 0, 0]), .slice true 0 []], .agg [.int .i64 (0), .int .i64 (16), .bool true, .slice true 0 [], .slice false 5 [.agg [.int .i64 (0), .int .i64 (16), .bool true, .slice true 0 [], .slice false 5 [.agg [.int .i64 (2), .int .i64 (4), .bool true, .slice true 0 [], .slice false 5 [.agg [.int .i64 (0), .int .i64 (16), .bool true, .slice true 0 [], .slice false 5 [.agg [.int .i64 (0), .int .i64 (17), .bool true, .slice true 0 [], .slice false 5 [.agg [.int .i64 (0), .int .i64 (16), .bool true, .slice true 0 [], .slice false 5 [.agg [.int .i64 (0), .int .i64 (6), .bool false, (gu8 [85, 4, 3]), .slice true 0 []], .agg [.int .i64 (0), .int .i64 (12), .bool false, (gu8 [97]), .slice true 0 []]]]]]]]]]]], .agg [.int .i64 (0), .int .i64 (2), .bool false, (gu8 [1]), .slice true 0 []]]]]], .int .i64 (0)])
theorem m301 : NatAt par 67 e301.1 e301.2 := .base (par := par) (par' := par9) rfl rfl (.of_eval (n := 1000) parOk9 (by kernel_rfl))
noncomputable def e302 : List V × V := ([.agg [.int .i64 (0), .int .i64 (16), .bool true, .slice true 0 [], .slice false 5 [.agg [.int .i64 (0), .int .i64 (6), .bool false, (gu8 [42, 134, 72, 134, 247, 13, 1, 9, 16, 2, 47]), .slice true 0 []], .agg [.int .i64 (0), .int .i64 (17), .bool true, .slice true 0 [], .slice false 5 [.agg [.int .i64 (0), .int .i64 (16), .bool true, .slice true 0 [], .slice false 5 [.agg [.int .i64 (0), .int .i64 (16), .bool true, .slice true 0 [], .slice false 5 [.agg [.int .i64 (0), .int .i64 (16), .bool true, .slice true 0 [], .slice false 5 [.agg [.int .i64 (0), .int .i64 (4), .bool false, (gu8 [0, 0, 0, 0, 0, 0, 0, 0, 0, 0, 0, 0, 0, 0, 0, 0, 0, 0, 0, 0, 0, 0, 0, 0, 0, 0, 0, 0, 0, 0, 0, 0]), .slice true 0 []], .agg [.int .i64 (0), .int .i64 (16), .bool true, .slice true 0 [], .slice false 5 [.agg [.int .i64 (0), .int .i64 (16), .bool true, .slice true 0 [], .slice false 5 [.agg [.int .i64 (2), .int .i64 (4), .bool true, .slice true 0 [], .slice false 5 [.agg [.int .i64 (0), .int .i64 (16), .bool true, .slice true 0 [], .slice false 5 [.agg [.int .i64 (0), .int .i64 (17), .bool true, .slice true 0 [], .slice false 5 [.agg [.int .i64 (0), .int .i64 (16), .bool true, .slice true 0 [], .slice false 5 [.agg [.int .i64 (0), .int .i64 (6), .bool false, (gu8 [85, 4, 3]), .slice true 0 []], .agg [.int .i64 (0), .int .i64 (12), .bool false, (gu8 [97]), .slice true 0 []]]]]]]]]]]], .agg [.int .i64 (0), .int .i64 (2), .bool false, (gu8 [1]), .slice true 0 []]]]]]]]]]]]]]], .tup [.int .i64 (16), .int .i64 (12)])
theorem m302 : NatAt par 176 e302.1 e302.2 := .base (par := par) (par' := par9) rfl rfl (.of_eval (n := 1000) parOk9 (by kernel_rfl))
noncomputable def e303 : List V × V := ([.agg [.int .i64 (0), .int .i64 (16), .bool true, .slice true 0 [], .slice false 5 [.agg [.int .i64 (0), .int .i64 (16), .bool true, .slice true 0 [], .slice false 5 [.agg [.int .i64 (0), .int .i64 (6), .bool false, (gu8 [96, 134, 72, 1, 101, 3, 4, 2, 3]), .slice true 0 []]]], .agg [.int .i64 (0), .int .i64 (4), .bool false, (gu8 [0, 0, 0, 0, 0, 0, 0, 0, 0, 0, 0, 0, 0, 0, 0, 0, 0, 0, 0, 0, 0, 0, 0, 0, 0, 0, 0, 0, 0, 0, 0, 0, 0, 0, 0, 0, 0, 0, 0, 0, 0, 0, 0, 0, 0, 0, 0, 0, 0, 0, 0, 0, 0, 0, 0, 0, 0, 0, 0, 0, 0, 0, 0, 0]), .slice true 0 []], .agg [.int .i64 (0), .int .i64 (16), .bool true, .slice true 0 [], .slice false 5 [.agg [.int .i64 (0), .int .i64 (16), .bool true, .slice true 0 [], .slice false 5 [.agg [.int .i64 (2), .int .i64 (4), .bool true, .slice true 0 [], .slice false 5 [.agg [.int .i64 (0), .int .i64 (16), .bool true, .slice true 0 [], .slice false 5 [.agg [.int .i64 (0), .int .i64 (17), .bool true, .slice true 0 [], .slice false 5 [.agg [.int .i64 (0), .int .i64 (16), .bool true, .slice true 0 [], .slice false 5 [.agg [.int .i64 (0), .int .i64 (6), .bool false, (gu8 [85, 4, 3]), .slice true 0 []], .agg [.int .i64 (0), .int .i64 (12), .bool false, (gu8 [97]), .slice true 0 []]]]]]]]]]]], .agg [.int .i64 (0), .int .i64 (2), .bool false, (gu8 [1]), .slice true 0 []]]]]]], .tup [.agg [.int .i64 (0), .int .i64 (16), .bool true, .slice true 0 [], .slice false 5 [.agg [.int .i64 (0), .int .i64 (16), .bool true, .slice true 0 [], .slice false 5 [.agg [.int .i64 (0), .int .i64 (6), .bool false, (gu8 [96, 134, 72, 1, 101, 3, 4, 2, 3]), .slice true 0 []]]], .agg [.int .i64 (0), .int .i64 (4), .bool false, (gu8 [0, 0, 0, 0, 0, 0, 0, 0, 0, 0, 0, 0, 0, 0, 0, 0, 0, 0, 0, 0, 0, 0, 0, 0, 0, 0, 0, 0, 0, 0, 0, 0, 0, 0, 0, 0, 0, 0, 0, 0, 0, 0, 0, 0, 0, 0, 0, 0, 0, 0, 0, 0, 0, 0, 0, 0, 0, 0, 0, 0, 0, 0, 0, 0]), .slice true 0 []], .agg [.int .i64 (0), .int .i64 (16), .bool true, .slice true 0 [], .slice false 5 [.agg [.int .i64 (0), .int .i64 (16), .bool true, .slice true 0 [], .slice false 5 [.agg [.int .i64 (2), .int .i64 (4), .bool true, .slice true 0 [], .slice false 5 [.agg [.int .i64 (0), .int .i64 (16), .bool true, .slice true 0 [], .slice false 5 [.agg [.int .i64 (0), .int .i64 (17), .bool true, .slice true 0 [], .slice false 5 [.agg [.int .i64 (0), .int .i64 (16), .bool true, .slice true 0 [], .slice false 5 [.agg [.int .i64 (0), .int .i64 (6), .bool false, (gu8 [85, 4, 3]), .slice true 0 []], .agg [.int .i64 (0), .int .i64 (12), .bool false, (gu8 [97]), .slice true 0 []]]]]]]]]]]], .agg [.int .i64 (0), .int .i64 (2), .bool false, (gu8 [1]), .slice true 0 []]]]]], .int .i64 (0)])
theorem m303 : NatAt par 67 e303.1 e303.2 := .base (par := par) (par' := par9) rfl rfl (.of_eval (n := 1000) parOk9 (by kernel_rfl))
noncomputable def tab67_9 : List (List V × V) := e301 :: e303 :: []
theorem ok67_9 : MemoOk par 67 tab67_9 := .cons m301 <| .cons m303 <| .nil
noncomputable def tab176_9 : List (List V × V) := e302 :: tab176_8
theorem ok176_9 : MemoOk par 176 tab176_9 := .cons m302 <| ok176_8
noncomputable def par10_0 : Par := par.with 7 (memoF par9 1000 7 tab7_2)
theorem parOk10_0 : ParOk par10_0 := memo_with (base := par) parOk9 rfl rfl parOk rfl rfl ok7_2
noncomputable def par10_1 : Par := par10_0.with 11 (memoF par9 1000 11 tab11_0)
theorem parOk10_1 : ParOk par10_1 := memo_with (base := par) parOk9 rfl rfl parOk10_0 rfl rfl ok11_0
noncomputable def par10_2 : Par := par10_1.with 14 (memoF par9 1000 14 tab14_4)
theorem parOk10_2 : ParOk par10_2 := memo_with (base := par) parOk9 rfl rfl parOk10_1 rfl rfl ok14_4
noncomputable def par10_3 : Par := par10_2.with 27 (memoF par9 1000 27 tab27_8)
theorem parOk10_3 : ParOk par10_3 := memo_with (base := par) parOk9 rfl rfl parOk10_2 rfl rfl ok27_8
noncomputable def par10_4 : Par := par10_3.with 28 (memoF par9 1000 28 tab28_7)
theorem parOk10_4 : ParOk par10_4 := memo_with (base := par) parOk9 rfl rfl parOk10_3 rfl rfl ok28_7
noncomputable def par10_5 : Par := par10_4.with 29 (memoF par9 1000 29 tab29_7)
theorem parOk10_5 : ParOk par10_5 := memo_with (base := par) parOk9 rfl rfl parOk10_4 rfl rfl ok29_7
noncomputable def par10_6 : Par := par10_5.with 30 (memoF par9 1000 30 tab30_8)
theorem parOk10_6 : ParOk par10_6 := memo_with (base := par) parOk9 rfl rfl parOk10_5 rfl rfl ok30_8
noncomputable def par10_7 : Par := par10_6.with 31 (memoF par9 1000 31 tab31_2)
theorem parOk10_7 : ParOk par10_7 := memo_with (base := par) parOk9 rfl rfl parOk10_6 rfl rfl ok31_2
noncomputable def par10_8 : Par := par10_7.with 32 (memoF par9 1000 32 tab32_7)
theorem parOk10_8 : ParOk par10_8 := memo_with (base := par) parOk9 rfl rfl parOk10_7 rfl rfl ok32_7
noncomputable def par10_9 : Par := par10_8.with 35 (memoF par9 1000 35 tab35_1)
theorem parOk10_9 : ParOk par10_9 := memo_with (base := par) parOk9 rfl rfl parOk10_8 rfl rfl ok35_1
noncomputable def par10_10 : Par := par10_9.with 36 (memoF par9 1000 36 tab36_5)
theorem parOk10_10 : ParOk par10_10 := memo_with (base := par) parOk9 rfl rfl parOk10_9 rfl rfl ok36_5
noncomputable def par10_11 : Par := par10_10.with 45 (memoF par9 1000 45 tab45_0)
theorem parOk10_11 : ParOk par10_11 := memo_with (base := par) parOk9 rfl rfl parOk10_10 rfl rfl ok45_0
noncomputable def par10_12 : Par := par10_11.with 48 (memoF par9 1000 48 tab48_3)
theorem parOk10_12 : ParOk par10_12 := memo_with (base := par) parOk9 rfl rfl parOk10_11 rfl rfl ok48_3
noncomputable def par10_13 : Par := par10_12.with 49 (memoF par9 1000 49 tab49_2)
theorem parOk10_13 : ParOk par10_13 := memo_with (base := par) parOk9 rfl rfl parOk10_12 rfl rfl ok49_2
noncomputable def par10_14 : Par := par10_13.with 51 (memoF par9 1000 51 tab51_5)
theorem parOk10_14 : ParOk par10_14 := memo_with (base := par) parOk9 rfl rfl parOk10_13 rfl rfl ok51_5
noncomputable def par10_15 : Par := par10_14.with 53 (memoF par9 1000 53 tab53_6)
theorem parOk10_15 : ParOk par10_15 := memo_with (base := par) parOk9 rfl rfl parOk10_14 rfl rfl ok53_6
noncomputable def par10_16 : Par := par10_15.with 54 (memoF par9 1000 54 tab54_7)
theorem parOk10_16 : ParOk par10_16 := memo_with (base := par) parOk9 rfl rfl parOk10_15 rfl rfl ok54_7
noncomputable def par10_17 : Par := par10_16.with 56 (memoF par9 1000 56 tab56_1)
theorem parOk10_17 : ParOk par10_17 := memo_with (base := par) parOk9 rfl rfl parOk10_16 rfl rfl ok56_1
noncomputable def par10_18 : Par := par10_17.with 57 (memoF par9 1000 57 tab57_6)
theorem parOk10_18 : ParOk par10_18 := memo_with (base := par) parOk9 rfl rfl parOk10_17 rfl rfl ok57_6
noncomputable def par10_19 : Par := par10_18.with 58 (memoF par9 1000 58 tab58_1)
theorem parOk10_19 : ParOk par10_19 := memo_with (base := par) parOk9 rfl rfl parOk10_18 rfl rfl ok58_1
noncomputable def par10_20 : Par := par10_19.with 59 (memoF par9 1000 59 tab59_5)
theorem parOk10_20 : ParOk par10_20 := memo_with (base := par) parOk9 rfl rfl parOk10_19 rfl rfl ok59_5
noncomputable def par10_21 : Par := par10_20.with 63 (memoF par9 1000 63 tab63_1)
theorem parOk10_21 : ParOk par10_21 := memo_with (base := par) parOk9 rfl rfl parOk10_20 rfl rfl ok63_1
noncomputable def par10_22 : Par := par10_21.with 64 (memoF par9 1000 64 tab64_6)
theorem parOk10_22 : ParOk par10_22 := memo_with (base := par) parOk9 rfl rfl parOk10_21 rfl rfl ok64_6
noncomputable def par10_23 : Par := par10_22.with 65 (memoF par9 1000 65 tab65_5)
theorem parOk10_23 : ParOk par10_23 := memo_with (base := par) parOk9 rfl rfl parOk10_22 rfl rfl ok65_5
noncomputable def par10_24 : Par := par10_23.with 66 (memoF par9 1000 66 tab66_2)
theorem parOk10_24 : ParOk par10_24 := memo_with (base := par) parOk9 rfl rfl parOk10_23 rfl rfl ok66_2
noncomputable def par10_25 : Par := par10_24.with 67 (memoF par9 1000 67 tab67_9)
theorem parOk10_25 : ParOk par10_25 := memo_with (base := par) parOk9 rfl rfl parOk10_24 rfl rfl ok67_9
noncomputable def par10_26 : Par := par10_25.with 69 (memoF par9 1000 69 tab69_6)
theorem parOk10_26 : ParOk par10_26 := memo_with (base := par) parOk9 rfl rfl parOk10_25 rfl rfl ok69_6
noncomputable def par10_27 : Par := par10_26.with 70 (memoF par9 1000 70 tab70_1)
theorem parOk10_27 : ParOk par10_27 := memo_with (base := par) parOk9 rfl rfl parOk10_26 rfl rfl ok70_1
noncomputable def par10_28 : Par := par10_27.with 71 (memoF par9 1000 71 tab71_0)
theorem parOk10_28 : ParOk par10_28 := memo_with (base := par) parOk9 rfl rfl parOk10_27 rfl rfl ok71_0
noncomputable def par10_29 : Par := par10_28.with 74 (memoF par9 1000 74 tab74_0)
theorem parOk10_29 : ParOk par10_29 := memo_with (base := par) parOk9 rfl rfl parOk10_28 rfl rfl ok74_0
noncomputable def par10_30 : Par := par10_29.with 75 (memoF par9 1000 75 tab75_8)
theorem parOk10_30 : ParOk par10_30 := memo_with (base := par) parOk9 rfl rfl parOk10_29 rfl rfl ok75_8
noncomputable def par10_31 : Par := par10_30.with 98 (memoF par9 1000 98 tab98_1)
theorem parOk10_31 : ParOk par10_31 := memo_with (base := par) parOk9 rfl rfl parOk10_30 rfl rfl ok98_1
noncomputable def par10_32 : Par := par10_31.with 99 (memoF par9 1000 99 tab99_2)
theorem parOk10_32 : ParOk par10_32 := memo_with (base := par) parOk9 rfl rfl parOk10_31 rfl rfl ok99_2
noncomputable def par10_33 : Par := par10_32.with 100 (memoF par9 1000 100 tab100_1)
theorem parOk10_33 : ParOk par10_33 := memo_with (base := par) parOk9 rfl rfl parOk10_32 rfl rfl ok100_1
noncomputable def par10_34 : Par := par10_33.with 103 (memoF par9 1000 103 tab103_4)
theorem parOk10_34 : ParOk par10_34 := memo_with (base := par) parOk9 rfl rfl parOk10_33 rfl rfl ok103_4
noncomputable def par10_35 : Par := par10_34.with 104 (memoF par9 1000 104 tab104_5)
theorem parOk10_35 : ParOk par10_35 := memo_with (base := par) parOk9 rfl rfl parOk10_34 rfl rfl ok104_5
noncomputable def par10_36 : Par := par10_35.with 105 (memoF par9 1000 105 tab105_6)
theorem parOk10_36 : ParOk par10_36 := memo_with (base := par) parOk9 rfl rfl parOk10_35 rfl rfl ok105_6
noncomputable def par10_37 : Par := par10_36.with 106 (memoF par9 1000 106 tab106_5)
theorem parOk10_37 : ParOk par10_37 := memo_with (base := par) parOk9 rfl rfl parOk10_36 rfl rfl ok106_5
noncomputable def par10_38 : Par := par10_37.with 107 (memoF par9 1000 107 tab107_4)
theorem parOk10_38 : ParOk par10_38 := memo_with (base := par) parOk9 rfl rfl parOk10_37 rfl rfl ok107_4
noncomputable def par10_39 : Par := par10_38.with 110 (memoF par9 1000 110 tab110_4)
theorem parOk10_39 : ParOk par10_39 := memo_with (base := par) parOk9 rfl rfl parOk10_38 rfl rfl ok110_4
noncomputable def par10_40 : Par := par10_39.with 116 (memoF par9 1000 116 tab116_5)
theorem parOk10_40 : ParOk par10_40 := memo_with (base := par) parOk9 rfl rfl parOk10_39 rfl rfl ok116_5
noncomputable def par10_41 : Par := par10_40.with 117 (memoF par9 1000 117 tab117_3)
theorem parOk10_41 : ParOk par10_41 := memo_with (base := par) parOk9 rfl rfl parOk10_40 rfl rfl ok117_3
noncomputable def par10_42 : Par := par10_41.with 119 (memoF par9 1000 119 tab119_1)
theorem parOk10_42 : ParOk par10_42 := memo_with (base := par) parOk9 rfl rfl parOk10_41 rfl rfl ok119_1
noncomputable def par10_43 : Par := par10_42.with 120 (memoF par9 1000 120 tab120_2)
theorem parOk10_43 : ParOk par10_43 := memo_with (base := par) parOk9 rfl rfl parOk10_42 rfl rfl ok120_2
noncomputable def par10_44 : Par := par10_43.with 168 (memoF par9 1000 168 tab168_0)
theorem parOk10_44 : ParOk par10_44 := memo_with (base := par) parOk9 rfl rfl parOk10_43 rfl rfl ok168_0
noncomputable def par10_45 : Par := par10_44.with 170 (memoF par9 1000 170 tab170_1)
theorem parOk10_45 : ParOk par10_45 := memo_with (base := par) parOk9 rfl rfl parOk10_44 rfl rfl ok170_1
noncomputable def par10_46 : Par := par10_45.with 171 (memoF par9 1000 171 tab171_0)
theorem parOk10_46 : ParOk par10_46 := memo_with (base := par) parOk9 rfl rfl parOk10_45 rfl rfl ok171_0
noncomputable def par10_47 : Par := par10_46.with 172 (memoF par9 1000 172 tab172_0)
theorem parOk10_47 : ParOk par10_47 := memo_with (base := par) parOk9 rfl rfl parOk10_46 rfl rfl ok172_0
noncomputable def par10_48 : Par := par10_47.with 176 (memoF par9 1000 176 tab176_9)
theorem parOk10_48 : ParOk par10_48 := memo_with (base := par) parOk9 rfl rfl parOk10_47 rfl rfl ok176_9
noncomputable def par10_49 : Par := par10_48.with 180 (memoF par9 1000 180 tab180_3)
theorem parOk10_49 : ParOk par10_49 := memo_with (base := par) parOk9 rfl rfl parOk10_48 rfl rfl ok180_3
noncomputable def par10_50 : Par := par10_49.with 182 (memoF par9 1000 182 tab182_3)
theorem parOk10_50 : ParOk par10_50 := memo_with (base := par) parOk9 rfl rfl parOk10_49 rfl rfl ok182_3
noncomputable def par10_51 : Par := par10_50.with 183 (memoF par9 1000 183 tab183_6)
theorem parOk10_51 : ParOk par10_51 := memo_with (base := par) parOk9 rfl rfl parOk10_50 rfl rfl ok183_6
noncomputable def par10_52 : Par := par10_51.with 184 (memoF par9 1000 184 tab184_5)
theorem parOk10_52 : ParOk par10_52 := memo_with (base := par) parOk9 rfl rfl parOk10_51 rfl rfl ok184_5
noncomputable def par10_53 : Par := par10_52.with 185 (memoF par9 1000 185 tab185_2)
theorem parOk10_53 : ParOk par10_53 := memo_with (base := par) parOk9 rfl rfl parOk10_52 rfl rfl ok185_2
noncomputable def par10_54 : Par := par10_53.with 193 (memoF par9 1000 193 tab193_3)
theorem parOk10_54 : ParOk par10_54 := memo_with (base := par) parOk9 rfl rfl parOk10_53 rfl rfl ok193_3
noncomputable def par10_55 : Par := par10_54.with 230 (memoF par9 1000 230 tab230_0)
theorem parOk10_55 : ParOk par10_55 := memo_with (base := par) parOk9 rfl rfl parOk10_54 rfl rfl ok230_0
noncomputable def par10_56 : Par := par10_55.with 237 (memoF par9 1000 237 tab237_0)
theorem parOk10_56 : ParOk par10_56 := memo_with (base := par) parOk9 rfl rfl parOk10_55 rfl rfl ok237_0
noncomputable def par10_57 : Par := par10_56.with 239 (memoF par9 1000 239 tab239_0)
theorem parOk10_57 : ParOk par10_57 := memo_with (base := par) parOk9 rfl rfl parOk10_56 rfl rfl ok239_0
noncomputable def par10_58 : Par := par10_57.with 244 (memoF par9 1000 244 tab244_1)
theorem parOk10_58 : ParOk par10_58 := memo_with (base := par) parOk9 rfl rfl parOk10_57 rfl rfl ok244_1
noncomputable def par10_59 : Par := par10_58.with 247 (memoF par9 1000 247 tab247_1)
theorem parOk10_59 : ParOk par10_59 := memo_with (base := par) parOk9 rfl rfl parOk10_58 rfl rfl ok247_1
noncomputable def par10_60 : Par := par10_59.with 250 (memoF par9 1000 250 tab250_0)
theorem parOk10_60 : ParOk par10_60 := memo_with (base := par) parOk9 rfl rfl parOk10_59 rfl rfl ok250_0
noncomputable def par10_61 : Par := par10_60.with 251 (memoF par9 1000 251 tab251_2)
theorem parOk10_61 : ParOk par10_61 := memo_with (base := par) parOk9 rfl rfl parOk10_60 rfl rfl ok251_2
noncomputable def par10_62 : Par := par10_61.with 291 (memoF par9 1000 291 tab291_0)
theorem parOk10_62 : ParOk par10_62 := memo_with (base := par) parOk9 rfl rfl parOk10_61 rfl rfl ok291_0
noncomputable def par10_63 : Par := par10_62.with 296 (memoF par9 1000 296 tab296_4)
theorem parOk10_63 : ParOk par10_63 := memo_with (base := par) parOk9 rfl rfl parOk10_62 rfl rfl ok296_4
noncomputable def par10_64 : Par := par10_63.with 307 (memoF par9 1000 307 tab307_0)
theorem parOk10_64 : ParOk par10_64 := memo_with (base := par) parOk9 rfl rfl parOk10_63 rfl rfl ok307_0
noncomputable def par10_65 : Par := par10_64.with 311 (memoF par9 1000 311 tab311_0)
theorem parOk10_65 : ParOk par10_65 := memo_with (base := par) parOk9 rfl rfl parOk10_64 rfl rfl ok311_0
noncomputable def par10_66 : Par := par10_65.with 313 (memoF par9 1000 313 tab313_1)
theorem parOk10_66 : ParOk par10_66 := memo_with (base := par) parOk9 rfl rfl parOk10_65 rfl rfl ok313_1
noncomputable def par10_67 : Par := par10_66.with 332 (memoF par9 1000 332 tab332_2)
theorem parOk10_67 : ParOk par10_67 := memo_with (base := par) parOk9 rfl rfl parOk10_66 rfl rfl ok332_2
noncomputable def par10_68 : Par := par10_67.with 333 (memoF par9 1000 333 tab333_3)
theorem parOk10_68 : ParOk par10_68 := memo_with (base := par) parOk9 rfl rfl parOk10_67 rfl rfl ok333_3
noncomputable def par10_69 : Par := par10_68.with 335 (memoF par9 1000 335 tab335_1)
theorem parOk10_69 : ParOk par10_69 := memo_with (base := par) parOk9 rfl rfl parOk10_68 rfl rfl ok335_1
noncomputable def par10 : Par := par10_69.with 344 (memoF par9 1000 344 tab344_0)
theorem parOk10 : ParOk par10 := memo_with (base := par) parOk9 rfl rfl parOk10_69 rfl rfl ok344_0
noncomputable def e304 : List V × V := ([.agg [.int .i64 (2), (gu8 [0, 0, 0, 0, 0, 0, 0, 0, 0, 0, 0, 0, 0, 0, 0, 0, 0, 0, 0, 0, 0, 0, 0, 0, 0, 0, 0, 0, 0, 0, 0, 0]), .slice false 3 [.agg [.int .i64 (1), .str [97], .bool false]], (gu8 [1])]], .tup [.agg [.int .i64 (0), .int .i64 (16), .bool true, .slice true 0 [], .slice false 5 [.agg [.int .i64 (0), .int .i64 (4), .bool false, (gu8 [0, 0, 0, 0, 0, 0, 0, 0, 0, 0, 0, 0, 0, 0, 0, 0, 0, 0, 0, 0, 0, 0, 0, 0, 0, 0, 0, 0, 0, 0, 0, 0]), .slice true 0 []], .agg [.int .i64 (0), .int .i64 (16), .bool true, .slice true 0 [], .slice false 5 [.agg [.int .i64 (0), .int .i64 (16), .bool true, .slice true 0 [], .slice false 5 [.agg [.int .i64 (2), .int .i64 (4), .bool true, .slice true 0 [], .slice false 5 [.agg [.int .i64 (0), .int .i64 (16), .bool true, .slice true 0 [], .slice false 5 [.agg [.int .i64 (0), .int .i64 (17), .bool true, .slice true 0 [], .slice false 5 [.agg [.int .i64 (0), .int .i64 (16), .bool true, .slice true 0 [], .slice false 5 [.agg [.int .i64 (0), .int .i64 (6), .bool false, (gu8 [85, 4, 3]), .slice true 0 []], .agg [.int .i64 (0), .int .i64 (12), .bool false, (gu8 [97]), .slice true 0 []]]]]]]]]]]], .agg [.int .i64 (0), .int .i64 (2), .bool false, (gu8 [1]), .slice true 0 []]]]]], .int .i64 (0)])
theorem m304 : NatAt par 29 e304.1 e304.2 := .base (par := par) (par' := par10) rfl rfl (.of_eval (n := 1000) parOk10 (by kernel_rfl))
noncomputable def e305 : List V × V := ([.agg [.int .i64 (0), .int .i64 (17), .bool true, .slice true 0 [], .slice false 5 [.agg [.int .i64 (0), .int .i64 (16), .bool true, .slice true 0 [], .slice false 5 [.agg [.int .i64 (0), .int .i64 (6), .bool false, (gu8 [42, 134, 72, 134, 247, 13, 1, 9, 4]), .slice true 0 []], .agg [.int .i64 (0), .int .i64 (17), .bool true, .slice true 0 [], .slice false 5 [.agg [.int .i64 (0), .int .i64 (4), .bool false, (gu8 [0, 0, 0, 0, 0, 0, 0, 0, 0, 0, 0, 0, 0, 0, 0, 0, 0, 0, 0, 0, 0, 0, 0, 0, 0, 0, 0, 0, 0, 0, 0, 0, 0, 0, 0, 0, 0, 0, 0, 0, 0, 0, 0, 0, 0, 0, 0, 0, 0, 0, 0, 0, 0, 0, 0, 0, 0, 0, 0, 0, 0, 0, 0, 0]), .slice true 0 []]]]]], .agg [.int .i64 (0), .int .i64 (16), .bool true, .slice true 0 [], .slice false 5 [.agg [.int .i64 (0), .int .i64 (6), .bool false, (gu8 [42, 134, 72, 134, 247, 13, 1, 9, 3]), .slice true 0 []], .agg [.int .i64 (0), .int .i64 (17), .bool true, .slice true 0 [], .slice false 5 [.agg [.int .i64 (0), .int .i64 (6), .bool false, (gu8 [42, 134, 72, 134, 247, 13, 1, 7, 1]), .slice true 0 []]]]]], .agg [.int .i64 (0), .int .i64 (16), .bool true, .slice true 0 [], .slice false 5 [.agg [.int .i64 (0), .int .i64 (6), .bool false, (gu8 [42, 134, 72, 134, 247, 13, 1, 9, 16, 2, 47]), .slice true 0 []], .agg [.int .i64 (0), .int .i64 (17), .bool true, .slice true 0 [], .slice false 5 [.agg [.int .i64 (0), .int .i64 (16), .bool true, .slice true 0 [], .slice false 5 [.agg [.int .i64 (0), .int .i64 (16), .bool true, .slice true 0 [], .slice false 5 [.agg [.int .i64 (0), .int .i64 (16), .bool true, .slice true 0 [], .slice false 5 [.agg [.int .i64 (0), .int .i64 (4), .bool false, (gu8 [0, 0, 0, 0, 0, 0, 0, 0, 0, 0, 0, 0, 0, 0, 0, 0, 0, 0, 0, 0, 0, 0, 0, 0, 0, 0, 0, 0, 0, 0, 0, 0]), .slice true 0 []], .agg [.int .i64 (0), .int .i64 (16), .bool true, .slice true 0 [], .slice false 5 [.agg [.int .i64 (0), .int .i64 (16), .bool true, .slice true 0 [], .slice false 5 [.agg [.int .i64 (2), .int .i64 (4), .bool true, .slice true 0 [], .slice false 5 [.agg [.int .i64 (0), .int .i64 (16), .bool true, .slice true 0 [], .slice false 5 [.agg [.int .i64 (0), .int .i64 (17), .bool true, .slice true 0 [], .slice false 5 [.agg [.int .i64 (0), .int .i64 (16), .bool true, .slice true 0 [], .slice false 5 [.agg [.int .i64 (0), .int .i64 (6), .bool false, (gu8 [85, 4, 3]), .slice true 0 []], .agg [.int .i64 (0), .int .i64 (12), .bool false, (gu8 [97]), .slice true 0 []]]]]]]]]]]], .agg [.int .i64 (0), .int .i64 (2), .bool false, (gu8 [1]), .slice true 0 []]]]]]]]]]]]]], .agg [.int .i64 (0), .int .i64 (16), .bool true, .slice true 0 [], .slice false 5 [.agg [.int .i64 (0), .int .i64 (6), .bool false, (gu8 [42, 134, 72, 134, 247, 13, 1, 9, 5]), .slice true 0 []], .agg [.int .i64 (0), .int .i64 (17), .bool true, .slice true 0 [], .slice false 5 [.agg [.int .i64 (0), .int .i64 (23), .bool false, (gu8 [55, 48, 48, 49, 48, 49, 48, 48, 48, 48, 48, 49, 90]), .slice true 0 []]]]]], .agg [.int .i64 (0), .int .i64 (16), .bool true, .slice true 0 [], .slice false 5 [.agg [.int .i64 (0), .int .i64 (6), .bool false, (gu8 [42, 3]), .slice true 0 []], .agg [.int .i64 (0), .int .i64 (17), .bool true, .slice true 0 [], .slice false 5 [.agg [.int .i64 (0), .int .i64 (2), .bool false, (gu8 [5]), .slice true 0 []]]]]]]]], .tup [.int .i64 (33), .int .i64 (13)])
theorem m305 : NatAt par 176 e305.1 e305.2 := .base (par := par) (par' := par10) rfl rfl (.of_eval (n := 1000) parOk10 (by kernel_rfl))
noncomputable def e306 : List V × V := ([.agg [.int .i64 (4), (gu8 [0, 0, 0, 0, 0, 0, 0, 0, 0, 0, 0, 0, 0, 0, 0, 0, 0, 0, 0, 0, 0, 0, 0, 0, 0, 0, 0, 0, 0, 0, 0, 0, 0, 0, 0, 0, 0, 0, 0, 0, 0, 0, 0, 0, 0, 0, 0, 0, 0, 0, 0, 0, 0, 0, 0, 0, 0, 0, 0, 0, 0, 0, 0, 0]), .slice false 3 [.agg [.int .i64 (1), .str [97], .bool false]], (gu8 [1])]], .tup [.agg [.int .i64 (0), .int .i64 (16), .bool true, .slice true 0 [], .slice false 5 [.agg [.int .i64 (0), .int .i64 (16), .bool true, .slice true 0 [], .slice false 5 [.agg [.int .i64 (0), .int .i64 (6), .bool false, (gu8 [96, 134, 72, 1, 101, 3, 4, 2, 3]), .slice true 0 []]]], .agg [.int .i64 (0), .int .i64 (4), .bool false, (gu8 [0, 0, 0, 0, 0, 0, 0, 0, 0, 0, 0, 0, 0, 0, 0, 0, 0, 0, 0, 0, 0, 0, 0, 0, 0, 0, 0, 0, 0, 0, 0, 0, 0, 0, 0, 0, 0, 0, 0, 0, 0, 0, 0, 0, 0, 0, 0, 0, 0, 0, 0, 0, 0, 0, 0, 0, 0, 0, 0, 0, 0, 0, 0, 0]), .slice true 0 []], .agg [.int .i64 (0), .int .i64 (16), .bool true, .slice true 0 [], .slice false 5 [.agg [.int .i64 (0), .int .i64 (16), .bool true, .slice true 0 [], .slice false 5 [.agg [.int .i64 (2), .int .i64 (4), .bool true, .slice true 0 [], .slice false 5 [.agg [.int .i64 (0), .int .i64 (16), .bool true, .slice true 0 [], .slice false 5 [.agg [.int .i64 (0), .int .i64 (17), .bool true, .slice true 0 [], .slice false 5 [.agg [.int .i64 (0), .int .i64 (16), .bool true, .slice true 0 [], .slice false 5 [.agg [.int .i64 (0), .int .i64 (6), .bool false, (gu8 [85, 4, 3]), .slice true 0 []], .agg [.int .i64 (0), .int .i64 (12), .bool false, (gu8 [97]), .slice true 0 []]]]]]]]]]]], .agg [.int .i64 (0), .int .i64 (2), .bool false, (gu8 [1]), .slice true 0 []]]]]], .int .i64 (0)])
theorem m306 : NatAt par 29 e306.1 e306.2 := .base (par := par) (par' := par10) rfl rfl (.of_eval (n := 1000) parOk10 (by kernel_rfl))
noncomputable def tab29_10 : List (List V × V) := e304 :: e306 :: tab29_7
theorem ok29_10 : MemoOk par 29 tab29_10 := .cons m304 <| .cons m306 <| ok29_7
noncomputable def tab176_10 : List (List V × V) := e305 :: tab176_9
theorem ok176_10 : MemoOk par 176 tab176_10 := .cons m305 <| ok176_9
noncomputable def par11_0 : Par := par.with 7 (memoF par10 1000 7 tab7_2)
theorem parOk11_0 : ParOk par11_0 := memo_with (base := par) parOk10 rfl rfl parOk rfl rfl ok7_2
noncomputable def par11_1 : Par := par11_0.with 11 (memoF par10 1000 11 tab11_0)
theorem parOk11_1 : ParOk par11_1 := memo_with (base := par) parOk10 rfl rfl parOk11_0 rfl rfl ok11_0
noncomputable def par11_2 : Par := par11_1.with 14 (memoF par10 1000 14 tab14_4)
theorem parOk11_2 : ParOk par11_2 := memo_with (base := par) parOk10 rfl rfl parOk11_1 rfl rfl ok14_4
noncomputable def par11_3 : Par := par11_2.with 27 (memoF par10 1000 27 tab27_8)
theorem parOk11_3 : ParOk par11_3 := memo_with (base := par) parOk10 rfl rfl parOk11_2 rfl rfl ok27_8
noncomputable def par11_4 : Par := par11_3.with 28 (memoF par10 1000 28 tab28_7)
theorem parOk11_4 : ParOk par11_4 := memo_with (base := par) parOk10 rfl rfl parOk11_3 rfl rfl ok28_7
noncomputable def par11_5 : Par := par11_4.with 29 (memoF par10 1000 29 tab29_10)
theorem parOk11_5 : ParOk par11_5 := memo_with (base := par) parOk10 rfl rfl parOk11_4 rfl rfl ok29_10
noncomputable def par11_6 : Par := par11_5.with 30 (memoF par10 1000 30 tab30_8)
theorem parOk11_6 : ParOk par11_6 := memo_with (base := par) parOk10 rfl rfl parOk11_5 rfl rfl ok30_8
noncomputable def par11_7 : Par := par11_6.with 31 (memoF par10 1000 31 tab31_2)
theorem parOk11_7 : ParOk par11_7 := memo_with (base := par) parOk10 rfl rfl parOk11_6 rfl rfl ok31_2
noncomputable def par11_8 : Par := par11_7.with 32 (memoF par10 1000 32 tab32_7)
theorem parOk11_8 : ParOk par11_8 := memo_with (base := par) parOk10 rfl rfl parOk11_7 rfl rfl ok32_7
noncomputable def par11_9 : Par := par11_8.with 35 (memoF par10 1000 35 tab35_1)
theorem parOk11_9 : ParOk par11_9 := memo_with (base := par) parOk10 rfl rfl parOk11_8 rfl rfl ok35_1
noncomputable def par11_10 : Par := par11_9.with 36 (memoF par10 1000 36 tab36_5)
theorem parOk11_10 : ParOk par11_10 := memo_with (base := par) parOk10 rfl rfl parOk11_9 rfl rfl ok36_5
noncomputable def par11_11 : Par := par11_10.with 45 (memoF par10 1000 45 tab45_0)
theorem parOk11_11 : ParOk par11_11 := memo_with (base := par) parOk10 rfl rfl parOk11_10 rfl rfl ok45_0
noncomputable def par11_12 : Par := par11_11.with 48 (memoF par10 1000 48 tab48_3)
theorem parOk11_12 : ParOk par11_12 := memo_with (base := par) parOk10 rfl rfl parOk11_11 rfl rfl ok48_3
noncomputable def par11_13 : Par := par11_12.with 49 (memoF par10 1000 49 tab49_2)
theorem parOk11_13 : ParOk par11_13 := memo_with (base := par) parOk10 rfl rfl parOk11_12 rfl rfl ok49_2
noncomputable def par11_14 : Par := par11_13.with 51 (memoF par10 1000 51 tab51_5)
theorem parOk11_14 : ParOk par11_14 := memo_with (base := par) parOk10 rfl rfl parOk11_13 rfl rfl ok51_5
noncomputable def par11_15 : Par := par11_14.with 53 (memoF par10 1000 53 tab53_6)
theorem parOk11_15 : ParOk par11_15 := memo_with (base := par) parOk10 rfl rfl parOk11_14 rfl rfl ok53_6
noncomputable def par11_16 : Par := par11_15.with 54 (memoF par10 1000 54 tab54_7)
theorem parOk11_16 : ParOk par11_16 := memo_with (base := par) parOk10 rfl rfl parOk11_15 rfl rfl ok54_7
noncomputable def par11_17 : Par := par11_16.with 56 (memoF par10 1000 56 tab56_1)
theorem parOk11_17 : ParOk par11_17 := memo_with (base := par) parOk10 rfl rfl parOk11_16 rfl rfl ok56_1
noncomputable def par11_18 : Par := par11_17.with 57 (memoF par10 1000 57 tab57_6)
theorem parOk11_18 : ParOk par11_18 := memo_with (base := par) parOk10 rfl rfl parOk11_17 rfl rfl ok57_6
noncomputable def par11_19 : Par := par11_18.with 58 (memoF par10 1000 58 tab58_1)
theorem parOk11_19 : ParOk par11_19 := memo_with (base := par) parOk10 rfl rfl parOk11_18 rfl rfl ok58_1
noncomputable def par11_20 : Par := par11_19.with 59 (memoF par10 1000 59 tab59_5)
theorem parOk11_20 : ParOk par11_20 := memo_with (base := par) parOk10 rfl rfl parOk11_19 rfl rfl ok59_5
noncomputable def par11_21 : Par := par11_20.with 63 (memoF par10 1000 63 tab63_1)
theorem parOk11_21 : ParOk par11_21 := memo_with (base := par) parOk10 rfl rfl parOk11_20 rfl rfl ok63_1
noncomputable def par11_22 : Par := par11_21.with 64 (memoF par10 1000 64 tab64_6)
theorem parOk11_22 : ParOk par11_22 := memo_with (base := par) parOk10 rfl rfl parOk11_21 rfl rfl ok64_6
noncomputable def par11_23 : Par := par11_22.with 65 (memoF par10 1000 65 tab65_5)
theorem parOk11_23 : ParOk par11_23 := memo_with (base := par) parOk10 rfl rfl parOk11_22 rfl rfl ok65_5
noncomputable def par11_24 : Par := par11_23.with 66 (memoF par10 1000 66 tab66_2)
theorem parOk11_24 : ParOk par11_24 := memo_with (base := par) parOk10 rfl rfl parOk11_23 rfl rfl ok66_2
noncomputable def par11_25 : Par := par11_24.with 67 (memoF par10 1000 67 tab67_9)
theorem parOk11_25 : ParOk par11_25 := memo_with (base := par) parOk10 rfl rfl parOk11_24 rfl rfl ok67_9
noncomputable def par11_26 : Par := par11_25.with 69 (memoF par10 1000 69 tab69_6)
theorem parOk11_26 : ParOk par11_26 := memo_with (base := par) parOk10 rfl rfl parOk11_25 rfl rfl ok69_6
noncomputable def par11_27 : Par := par11_26.with 70 (memoF par10 1000 70 tab70_1)
theorem parOk11_27 : ParOk par11_27 := memo_with (base := par) parOk10 rfl rfl parOk11_26 rfl rfl ok70_1
noncomputable def par11_28 : Par := par11_27.with 71 (memoF par10 1000 71 tab71_0)
theorem parOk11_28 : ParOk par11_28 := memo_with (base := par) parOk10 rfl rfl parOk11_27 rfl rfl ok71_0
noncomputable def par11_29 : Par := par11_28.with 74 (memoF par10 1000 74 tab74_0)
theorem parOk11_29 : ParOk par11_29 := memo_with (base := par) parOk10 rfl rfl parOk11_28 rfl rfl ok74_0
noncomputable def par11_30 : Par := par11_29.with 75 (memoF par10 1000 75 tab75_8)
theorem parOk11_30 : ParOk par11_30 := memo_with (base := par) parOk10 rfl rfl parOk11_29 rfl rfl ok75_8
noncomputable def par11_31 : Par := par11_30.with 98 (memoF par10 1000 98 tab98_1)
theorem parOk11_31 : ParOk par11_31 := memo_with (base := par) parOk10 rfl rfl parOk11_30 rfl rfl ok98_1
noncomputable def par11_32 : Par := par11_31.with 99 (memoF par10 1000 99 tab99_2)
theorem parOk11_32 : ParOk par11_32 := memo_with (base := par) parOk10 rfl rfl parOk11_31 rfl rfl ok99_2
noncomputable def par11_33 : Par := par11_32.with 100 (memoF par10 1000 100 tab100_1)
theorem parOk11_33 : ParOk par11_33 := memo_with (base := par) parOk10 rfl rfl parOk11_32 rfl rfl ok100_1
noncomputable def par11_34 : Par := par11_33.with 103 (memoF par10 1000 103 tab103_4)
theorem parOk11_34 : ParOk par11_34 := memo_with (base := par) parOk10 rfl rfl parOk11_33 rfl rfl ok103_4
noncomputable def par11_35 : Par := par11_34.with 104 (memoF par10 1000 104 tab104_5)
theorem parOk11_35 : ParOk par11_35 := memo_with (base := par) parOk10 rfl rfl parOk11_34 rfl rfl ok104_5
noncomputable def par11_36 : Par := par11_35.with 105 (memoF par10 1000 105 tab105_6)
theorem parOk11_36 : ParOk par11_36 := memo_with (base := par) parOk10 rfl rfl parOk11_35 rfl rfl ok105_6
noncomputable def par11_37 : Par := par11_36.with 106 (memoF par10 1000 106 tab106_5)
theorem parOk11_37 : ParOk par11_37 := memo_with (base := par) parOk10 rfl rfl parOk11_36 rfl rfl ok106_5
noncomputable def par11_38 : Par := par11_37.with 107 (memoF par10 1000 107 tab107_4)
theorem parOk11_38 : ParOk par11_38 := memo_with (base := par) parOk10 rfl rfl parOk11_37 rfl rfl ok107_4
noncomputable def par11_39 : Par := par11_38.with 110 (memoF par10 1000 110 tab110_4)
theorem parOk11_39 : ParOk par11_39 := memo_with (base := par) parOk10 rfl rfl parOk11_38 rfl rfl ok110_4
noncomputable def par11_40 : Par := par11_39.with 116 (memoF par10 1000 116 tab116_5)
theorem parOk11_40 : ParOk par11_40 := memo_with (base := par) parOk10 rfl rfl parOk11_39 rfl rfl ok116_5
noncomputable def par11_41 : Par := par11_40.with 117 (memoF par10 1000 117 tab117_3)
theorem parOk11_41 : ParOk par11_41 := memo_with (base := par) parOk10 rfl rfl parOk11_40 rfl rfl ok117_3
noncomputable def par11_42 : Par := par11_41.with 119 (memoF par10 1000 119 tab119_1)
theorem parOk11_42 : ParOk par11_42 := memo_with (base := par) parOk10 rfl rfl parOk11_41 rfl rfl ok119_1
noncomputable def par11_43 : Par := par11_42.with 120 (memoF par10 1000 120 tab120_2)
theorem parOk11_43 : ParOk par11_43 := memo_with (base := par) parOk10 rfl rfl parOk11_42 rfl rfl ok120_2
noncomputable def par11_44 : Par := par11_43.with 168 (memoF par10 1000 168 tab168_0)
theorem parOk11_44 : ParOk par11_44 := memo_with (base := par) parOk10 rfl rfl parOk11_43 rfl rfl ok168_0
noncomputable def par11_45 : Par := par11_44.with 170 (memoF par10 1000 170 tab170_1)
theorem parOk11_45 : ParOk par11_45 := memo_with (base := par) parOk10 rfl rfl parOk11_44 rfl rfl ok170_1
noncomputable def par11_46 : Par := par11_45.with 171 (memoF par10 1000 171 tab171_0)
theorem parOk11_46 : ParOk par11_46 := memo_with (base := par) parOk10 rfl rfl parOk11_45 rfl rfl ok171_0
noncomputable def par11_47 : Par := par11_46.with 172 (memoF par10 1000 172 tab172_0)
theorem parOk11_47 : ParOk par11_47 := memo_with (base := par) parOk10 rfl rfl parOk11_46 rfl rfl ok172_0
noncomputable def par11_48 : Par := par11_47.with 176 (memoF par10 1000 176 tab176_10)
theorem parOk11_48 : ParOk par11_48 := memo_with (base := par) parOk10 rfl rfl parOk11_47 rfl rfl ok176_10
noncomputable def par11_49 : Par := par11_48.with 180 (memoF par10 1000 180 tab180_3)
theorem parOk11_49 : ParOk par11_49 := memo_with (base := par) parOk10 rfl rfl parOk11_48 rfl rfl ok180_3
noncomputable def par11_50 : Par := par11_49.with 182 (memoF par10 1000 182 tab182_3)
theorem parOk11_50 : ParOk par11_50 := memo_with (base := par) parOk10 rfl rfl parOk11_49 rfl rfl ok182_3
noncomputable def par11_51 : Par := par11_50.with 183 (memoF par10 1000 183 tab183_6)
theorem parOk11_51 : ParOk par11_51 := memo_with (base := par) parOk10 rfl rfl parOk11_50 rfl rfl ok183_6
noncomputable def par11_52 : Par := par11_51.with 184 (memoF par10 1000 184 tab184_5)
theorem parOk11_52 : ParOk par11_52 := memo_with (base := par) parOk10 rfl rfl parOk11_51 rfl rfl ok184_5
noncomputable def par11_53 : Par := par11_52.with 185 (memoF par10 1000 185 tab185_2)
theorem parOk11_53 : ParOk par11_53 := memo_with (base := par) parOk10 rfl rfl parOk11_52 rfl rfl ok185_2
noncomputable def par11_54 : Par := par11_53.with 193 (memoF par10 1000 193 tab193_3)
theorem parOk11_54 : ParOk par11_54 := memo_with (base := par) parOk10 rfl rfl parOk11_53 rfl rfl ok193_3
noncomputable def par11_55 : Par := par11_54.with 230 (memoF par10 1000 230 tab230_0)
theorem parOk11_55 : ParOk par11_55 := memo_with (base := par) parOk10 rfl rfl parOk11_54 rfl rfl ok230_0
noncomputable def par11_56 : Par := par11_55.with 237 (memoF par10 1000 237 tab237_0)
theorem parOk11_56 : ParOk par11_56 := memo_with (base := par) parOk10 rfl rfl parOk11_55 rfl rfl ok237_0
noncomputable def par11_57 : Par := par11_56.with 239 (memoF par10 1000 239 tab239_0)
theorem parOk11_57 : ParOk par11_57 := memo_with (base := par) parOk10 rfl rfl parOk11_56 rfl rfl ok239_0
noncomputable def par11_58 : Par := par11_57.with 244 (memoF par10 1000 244 tab244_1)
theorem parOk11_58 : ParOk par11_58 := memo_with (base := par) parOk10 rfl rfl parOk11_57 rfl rfl ok244_1
noncomputable def par11_59 : Par := par11_58.with 247 (memoF par10 1000 247 tab247_1)
theorem parOk11_59 : ParOk par11_59 := memo_with (base := par) parOk10 rfl rfl parOk11_58 rfl rfl ok247_1
noncomputable def par11_60 : Par := par11_59.with 250 (memoF par10 1000 250 tab250_0)
theorem parOk11_60 : ParOk par11_60 := memo_with (base := par) parOk10 rfl rfl parOk11_59 rfl rfl ok250_0
noncomputable def par11_61 : Par := par11_60.with 251 (memoF par10 1000 251 tab251_2)
theorem parOk11_61 : ParOk par11_61 := memo_with (base := par) parOk10 rfl rfl parOk11_60 rfl rfl ok251_2
noncomputable def par11_62 : Par := par11_61.with 291 (memoF par10 1000 291 tab291_0)
theorem parOk11_62 : ParOk par11_62 := memo_with (base := par) parOk10 rfl rfl parOk11_61 rfl rfl ok291_0
noncomputable def par11_63 : Par := par11_62.with 296 (memoF par10 1000 296 tab296_4)
theorem parOk11_63 : ParOk par11_63 := memo_with (base := par) parOk10 rfl rfl parOk11_62 rfl rfl ok296_4
noncomputable def par11_64 : Par := par11_63.with 307 (memoF par10 1000 307 tab307_0)
theorem parOk11_64 : ParOk par11_64 := memo_with (base := par) parOk10 rfl rfl parOk11_63 rfl rfl ok307_0
noncomputable def par11_65 : Par := par11_64.with 311 (memoF par10 1000 311 tab311_0)
theorem parOk11_65 : ParOk par11_65 := memo_with (base := par) parOk10 rfl rfl parOk11_64 rfl rfl ok311_0
noncomputable def par11_66 : Par := par11_65.with 313 (memoF par10 1000 313 tab313_1)
theorem parOk11_66 : ParOk par11_66 := memo_with (base := par) parOk10 rfl rfl parOk11_65 rfl rfl ok313_1
noncomputable def par11_67 : Par := par11_66.with 332 (memoF par10 1000 332 tab332_2)
theorem parOk11_67 : ParOk par11_67 := memo_with (base := par) parOk10 rfl rfl parOk11_66 rfl rfl ok332_2
noncomputable def par11_68 : Par := par11_67.with 333 (memoF par10 1000 333 tab333_3)
theorem parOk11_68 : ParOk par11_68 := memo_with (base := par) parOk10 rfl rfl parOk11_67 rfl rfl ok333_3
noncomputable def par11_69 : Par := par11_68.with 335 (memoF par10 1000 335 tab335_1)
theorem parOk11_69 : ParOk par11_69 := memo_with (base := par) parOk10 rfl rfl parOk11_68 rfl rfl ok335_1
noncomputable def par11 : Par := par11_69.with 344 (memoF par10 1000 344 tab344_0)
theorem parOk11 : ParOk par11 := memo_with (base := par) parOk10 rfl rfl parOk11_69 rfl rfl ok344_0
noncomputable def e307 : List V × V := ([.agg [.int .i64 (0), .int .i64 (17), .bool true, .slice true 0 [], .slice false 5 [.agg [.int .i64 (0), .int .i64 (16), .bool true, .slice true 0 [], .slice false 5 [.agg [.int .i64 (0), .int .i64 (6), .bool false, (gu8 [42, 134, 72, 134, 247, 13, 1, 9, 4]), .slice true 0 []], .agg [.int .i64 (0), .int .i64 (17), .bool true, .slice true 0 [], .slice false 5 [.agg [.int .i64 (0), .int .i64 (4), .bool false, (gu8 [0, 0, 0, 0, 0, 0, 0, 0, 0, 0, 0, 0, 0, 0, 0, 0, 0, 0, 0, 0, 0, 0, 0, 0, 0, 0, 0, 0, 0, 0, 0, 0, 0, 0, 0, 0, 0, 0, 0, 0, 0, 0, 0, 0, 0, 0, 0, 0, 0, 0, 0, 0, 0, 0, 0, 0, 0, 0, 0, 0, 0, 0, 0, 0]), .slice true 0 []]]]]], .agg [.int .i64 (0), .int .i64 (16), .bool true, .slice true 0 [], .slice false 5 [.agg [.int .i64 (0), .int .i64 (6), .bool false, (gu8 [42, 134, 72, 134, 247, 13, 1, 9, 3]), .slice true 0 []], .agg [.int .i64 (0), .int .i64 (17), .bool true, .slice true 0 [], .slice false 5 [.agg [.int .i64 (0), .int .i64 (6), .bool false, (gu8 [42, 134, 72, 134, 247, 13, 1, 7, 1]), .slice true 0 []]]]]], .agg [.int .i64 (0), .int .i64 (16), .bool true, .slice true 0 [], .slice false 5 [.agg [.int .i64 (0), .int .i64 (6), .bool false, (gu8 [42, 134, 72, 134, 247, 13, 1, 9, 16, 2, 47]), .slice true 0 []], .agg [.int .i64 (0), .int .i64 (17), .bool true, .slice true 0 [], .slice false 5 [.agg [.int .i64 (0), .int .i64 (16), .bool true, .slice true 0 [], .slice false 5 [.agg [.int .i64 (0), .int .i64 (16), .bool true, .slice true 0 [], .slice false 5 [.agg [.int .i64 (0), .int .i64 (16), .bool true, .slice true 0 [], .slice false 5 [.agg [.int .i64 (0), .int .i64 (4), .bool false, (gu8 [0, 0, 0, 0, 0, 0, 0, 0, 0, 0, 0, 0, 0, 0, 0, 0, 0, 0, 0, 0, 0, 0, 0, 0, 0, 0, 0, 0, 0, 0, 0, 0]), .slice true 0 []], .agg [.int .i64 (0), .int .i64 (16), .bool true, .slice true 0 [], .slice false 5 [.agg [.int .i64 (0), .int .i64 (16), .bool true, .slice true 0 [], .slice false 5 [.agg [.int .i64 (2), .int .i64 (4), .bool true, .slice true 0 [], .slice false 5 [.agg [.int .i64 (0), .int .i64 (16), .bool true, .slice true 0 [], .slice false 5 [.agg [.int .i64 (0), .int .i64 (17), .bool true, .slice true 0 [], .slice false 5 [.agg [.int .i64 (0), .int .i64 (16), .bool true, .slice true 0 [], .slice false 5 [.agg [.int .i64 (0), .int .i64 (6), .bool false, (gu8 [85, 4, 3]), .slice true 0 []], .agg [.int .i64 (0), .int .i64 (12), .bool false, (gu8 [97]), .slice true 0 []]]]]]]]]]]], .agg [.int .i64 (0), .int .i64 (2), .bool false, (gu8 [1]), .slice true 0 []]]]]]]]]]]]]], .agg [.int .i64 (0), .int .i64 (16), .bool true, .slice true 0 [], .slice false 5 [.agg [.int .i64 (0), .int .i64 (6), .bool false, (gu8 [42, 134, 72, 134, 247, 13, 1, 9, 5]), .slice true 0 []], .agg [.int .i64 (0), .int .i64 (17), .bool true, .slice true 0 [], .slice false 5 [.agg [.int .i64 (0), .int .i64 (23), .bool false, (gu8 [55, 48, 48, 49, 48, 49, 48, 48, 48, 48, 48, 49, 90]), .slice true 0 []]]]]], .agg [.int .i64 (0), .int .i64 (16), .bool true, .slice true 0 [], .slice false 5 [.agg [.int .i64 (0), .int .i64 (6), .bool false, (gu8 [42, 3]), .slice true 0 []], .agg [.int .i64 (0), .int .i64 (17), .bool true, .slice true 0 [], .slice false 5 [.agg [.int .i64 (0), .int .i64 (2), .bool false, (gu8 [5]), .slice true 0 []]]]]]]]], .tup [.int .i64 (0), .int .i64 (-1)])
theorem m307 : NatAt par 105 e307.1 e307.2 := .base (par := par) (par' := par11) rfl rfl (.of_eval (n := 1000) parOk11 (by kernel_rfl))
noncomputable def e308 : List V × V := ([.agg [.int .i64 (0), .int .i64 (16), .bool true, .slice true 0 [], .slice false 5 [.agg [.int .i64 (0), .int .i64 (4), .bool false, (gu8 [0, 0, 0, 0, 0, 0, 0, 0, 0, 0, 0, 0, 0, 0, 0, 0, 0, 0, 0, 0, 0, 0, 0, 0, 0, 0, 0, 0, 0, 0, 0, 0]), .slice true 0 []], .agg [.int .i64 (0), .int .i64 (16), .bool true, .slice true 0 [], .slice false 5 [.agg [.int .i64 (0), .int .i64 (16), .bool true, .slice true 0 [], .slice false 5 [.agg [.int .i64 (2), .int .i64 (4), .bool true, .slice true 0 [], .slice false 5 [.agg [.int .i64 (0), .int .i64 (16), .bool true, .slice true 0 [], .slice false 5 [.agg [.int .i64 (0), .int .i64 (17), .bool true, .slice true 0 [], .slice false 5 [.agg [.int .i64 (0), .int .i64 (16), .bool true, .slice true 0 [], .slice false 5 [.agg [.int .i64 (0), .int .i64 (6), .bool false, (gu8 [85, 4, 3]), .slice true 0 []], .agg [.int .i64 (0), .int .i64 (12), .bool false, (gu8 [97]), .slice true 0 []]]]]]]]]]]], .agg [.int .i64 (0), .int .i64 (2), .bool false, (gu8 [1]), .slice true 0 []]]]]]], .tup [.agg [.int .i64 (2), (gu8 [0, 0, 0, 0, 0, 0, 0, 0, 0, 0, 0, 0, 0, 0, 0, 0, 0, 0, 0, 0, 0, 0, 0, 0, 0, 0, 0, 0, 0, 0, 0, 0]), .slice false 3 [.agg [.int .i64 (1), .str [97], .bool false]], (gu8 [1])], .int .i64 (0)])
theorem m308 : NatAt par 30 e308.1 e308.2 := .base (par := par) (par' := par11) rfl rfl (.of_eval (n := 1000) parOk11 (by kernel_rfl))
noncomputable def tab30_11 : List (List V × V) := e308 :: tab30_8
theorem ok30_11 : MemoOk par 30 tab30_11 := .cons m308 <| ok30_8
noncomputable def tab105_11 : List (List V × V) := e307 :: tab105_6
theorem ok105_11 : MemoOk par 105 tab105_11 := .cons m307 <| ok105_6
noncomputable def par12_0 : Par := par.with 7 (memoF par11 1000 7 tab7_2)
theorem parOk12_0 : ParOk par12_0 := memo_with (base := par) parOk11 rfl rfl parOk rfl rfl ok7_2
noncomputable def par12_1 : Par := par12_0.with 11 (memoF par11 1000 11 tab11_0)
theorem parOk12_1 : ParOk par12_1 := memo_with (base := par) parOk11 rfl rfl parOk12_0 rfl rfl ok11_0
noncomputable def par12_2 : Par := par12_1.with 14 (memoF par11 1000 14 tab14_4)
theorem parOk12_2 : ParOk par12_2 := memo_with (base := par) parOk11 rfl rfl parOk12_1 rfl rfl ok14_4
noncomputable def par12_3 : Par := par12_2.with 27 (memoF par11 1000 27 tab27_8)
theorem parOk12_3 : ParOk par12_3 := memo_with (base := par) parOk11 rfl rfl parOk12_2 rfl rfl ok27_8
noncomputable def par12_4 : Par := par12_3.with 28 (memoF par11 1000 28 tab28_7)
theorem parOk12_4 : ParOk par12_4 := memo_with (base := par) parOk11 rfl rfl parOk12_3 rfl rfl ok28_7
noncomputable def par12_5 : Par := par12_4.with 29 (memoF par11 1000 29 tab29_10)
theorem parOk12_5 : ParOk par12_5 := memo_with (base := par) parOk11 rfl rfl parOk12_4 rfl rfl ok29_10
noncomputable def par12_6 : Par := par12_5.with 30 (memoF par11 1000 30 tab30_11)
theorem parOk12_6 : ParOk par12_6 := memo_with (base := par) parOk11 rfl rfl parOk12_5 rfl rfl ok30_11
noncomputable def par12_7 : Par := par12_6.with 31 (memoF par11 1000 31 tab31_2)
theorem parOk12_7 : ParOk par12_7 := memo_with (base := par) parOk11 rfl rfl parOk12_6 rfl rfl ok31_2
noncomputable def par12_8 : Par := par12_7.with 32 (memoF par11 1000 32 tab32_7)
theorem parOk12_8 : ParOk par12_8 := memo_with (base := par) parOk11 rfl rfl parOk12_7 rfl rfl ok32_7
noncomputable def par12_9 : Par := par12_8.with 35 (memoF par11 1000 35 tab35_1)
theorem parOk12_9 : ParOk par12_9 := memo_with (base := par) parOk11 rfl rfl parOk12_8 rfl rfl ok35_1
noncomputable def par12_10 : Par := par12_9.with 36 (memoF par11 1000 36 tab36_5)
theorem parOk12_10 : ParOk par12_10 := memo_with (base := par) parOk11 rfl rfl parOk12_9 rfl rfl ok36_5
noncomputable def par12_11 : Par := par12_10.with 45 (memoF par11 1000 45 tab45_0)
theorem parOk12_11 : ParOk par12_11 := memo_with (base := par) parOk11 rfl rfl parOk12_10 rfl rfl ok45_0
noncomputable def par12_12 : Par := par12_11.with 48 (memoF par11 1000 48 tab48_3)
theorem parOk12_12 : ParOk par12_12 := memo_with (base := par) parOk11 rfl rfl parOk12_11 rfl rfl ok48_3
noncomputable def par12_13 : Par := par12_12.with 49 (memoF par11 1000 49 tab49_2)
theorem parOk12_13 : ParOk par12_13 := memo_with (base := par) parOk11 rfl rfl parOk12_12 rfl rfl ok49_2
noncomputable def par12_14 : Par := par12_13.with 51 (memoF par11 1000 51 tab51_5)
theorem parOk12_14 : ParOk par12_14 := memo_with (base := par) parOk11 rfl rfl parOk12_13 rfl rfl ok51_5
noncomputable def par12_15 : Par := par12_14.with 53 (memoF par11 1000 53 tab53_6)
theorem parOk12_15 : ParOk par12_15 := memo_with (base := par) parOk11 rfl rfl parOk12_14 rfl rfl ok53_6
noncomputable def par12_16 : Par := par12_15.with 54 (memoF par11 1000 54 tab54_7)
theorem parOk12_16 : ParOk par12_16 := memo_with (base := par) parOk11 rfl rfl parOk12_15 rfl rfl ok54_7
noncomputable def par12_17 : Par := par12_16.with 56 (memoF par11 1000 56 tab56_1)
theorem parOk12_17 : ParOk par12_17 := memo_with (base := par) parOk11 rfl rfl parOk12_16 rfl rfl ok56_1
noncomputable def par12_18 : Par := par12_17.with 57 (memoF par11 1000 57 tab57_6)
theorem parOk12_18 : ParOk par12_18 := memo_with (base := par) parOk11 rfl rfl parOk12_17 rfl rfl ok57_6
noncomputable def par12_19 : Par := par12_18.with 58 (memoF par11 1000 58 tab58_1)
theorem parOk12_19 : ParOk par12_19 := memo_with (base := par) parOk11 rfl rfl parOk12_18 rfl rfl ok58_1
noncomputable def par12_20 : Par := par12_19.with 59 (memoF par11 1000 59 tab59_5)
theorem parOk12_20 : ParOk par12_20 := memo_with (base := par) parOk11 rfl rfl parOk12_19 rfl rfl ok59_5
noncomputable def par12_21 : Par := par12_20.with 63 (memoF par11 1000 63 tab63_1)
theorem parOk12_21 : ParOk par12_21 := memo_with (base := par) parOk11 rfl rfl parOk12_20 rfl rfl ok63_1
noncomputable def par12_22 : Par := par12_21.with 64 (memoF par11 1000 64 tab64_6)
theorem parOk12_22 : ParOk par12_22 := memo_with (base := par) parOk11 rfl rfl parOk12_21 rfl rfl ok64_6
noncomputable def par12_23 : Par := par12_22.with 65 (memoF par11 1000 65 tab65_5)
theorem parOk12_23 : ParOk par12_23 := memo_with (base := par) parOk11 rfl rfl parOk12_22 rfl rfl ok65_5
noncomputable def par12_24 : Par := par12_23.with 66 (memoF par11 1000 66 tab66_2)
theorem parOk12_24 : ParOk par12_24 := memo_with (base := par) parOk11 rfl rfl parOk12_23 rfl rfl ok66_2
noncomputable def par12_25 : Par := par12_24.with 67 (memoF par11 1000 67 tab67_9)
theorem parOk12_25 : ParOk par12_25 := memo_with (base := par) parOk11 rfl rfl parOk12_24 rfl rfl ok67_9
noncomputable def par12_26 : Par := par12_25.with 69 (memoF par11 1000 69 tab69_6)
theorem parOk12_26 : ParOk par12_26 := memo_with (base := par) parOk11 rfl rfl parOk12_25 rfl rfl ok69_6
noncomputable def par12_27 : Par := par12_26.with 70 (memoF par11 1000 70 tab70_1)
theorem parOk12_27 : ParOk par12_27 := memo_with (base := par) parOk11 rfl rfl parOk12_26 rfl rfl ok70_1
noncomputable def par12_28 : Par := par12_27.with 71 (memoF par11 1000 71 tab71_0)
theorem parOk12_28 : ParOk par12_28 := memo_with (base := par) parOk11 rfl rfl parOk12_27 rfl rfl ok71_0
noncomputable def par12_29 : Par := par12_28.with 74 (memoF par11 1000 74 tab74_0)
theorem parOk12_29 : ParOk par12_29 := memo_with (base := par) parOk11 rfl rfl parOk12_28 rfl rfl ok74_0
noncomputable def par12_30 : Par := par12_29.with 75 (memoF par11 1000 75 tab75_8)
theorem parOk12_30 : ParOk par12_30 := memo_with (base := par) parOk11 rfl rfl parOk12_29 rfl rfl ok75_8
noncomputable def par12_31 : Par := par12_30.with 98 (memoF par11 1000 98 tab98_1)
theorem parOk12_31 : ParOk par12_31 := memo_with (base := par) parOk11 rfl rfl parOk12_30 rfl rfl ok98_1
noncomputable def par12_32 : Par := par12_31.with 99 (memoF par11 1000 99 tab99_2)
theorem parOk12_32 : ParOk par12_32 := memo_with (base := par) parOk11 rfl rfl parOk12_31 rfl rfl ok99_2
noncomputable def par12_33 : Par := par12_32.with 100 (memoF par11 1000 100 tab100_1)
theorem parOk12_33 : ParOk par12_33 := memo_with (base := par) parOk11 rfl rfl parOk12_32 rfl rfl ok100_1
noncomputable def par12_34 : Par := par12_33.with 103 (memoF par11 1000 103 tab103_4)
theorem parOk12_34 : ParOk par12_34 := memo_with (base := par) parOk11 rfl rfl parOk12_33 rfl rfl ok103_4
noncomputable def par12_35 : Par := par12_34.with 104 (memoF par11 1000 104 tab104_5)
theorem parOk12_35 : ParOk par12_35 := memo_with (base := par) parOk11 rfl rfl parOk12_34 rfl rfl ok104_5
noncomputable def par12_36 : Par := par12_35.with 105 (memoF par11 1000 105 tab105_11)
theorem parOk12_36 : ParOk par12_36 := memo_with (base := par) parOk11 rfl rfl parOk12_35 rfl rfl ok105_11
noncomputable def par12_37 : Par := par12_36.with 106 (memoF par11 1000 106 tab106_5)
theorem parOk12_37 : ParOk par12_37 := memo_with (base := par) parOk11 rfl rfl parOk12_36 rfl rfl ok106_5
noncomputable def par12_38 : Par := par12_37.with 107 (memoF par11 1000 107 tab107_4)
theorem parOk12_38 : ParOk par12_38 := memo_with (base := par) parOk11 rfl rfl parOk12_37 rfl rfl ok107_4
noncomputable def par12_39 : Par := par12_38.with 110 (memoF par11 1000 110 tab110_4)
theorem parOk12_39 : ParOk par12_39 := memo_with (base := par) parOk11 rfl rfl parOk12_38 rfl rfl ok110_4
noncomputable def par12_40 : Par := par12_39.with 116 (memoF par11 1000 116 tab116_5)
theorem parOk12_40 : ParOk par12_40 := memo_with (base := par) parOk11 rfl rfl parOk12_39 rfl rfl ok116_5
noncomputable def par12_41 : Par := par12_40.with 117 (memoF par11 1000 117 tab117_3)
theorem parOk12_41 : ParOk par12_41 := memo_with (base := par) parOk11 rfl rfl parOk12_40 rfl rfl ok117_3
noncomputable def par12_42 : Par := par12_41.with 119 (memoF par11 1000 119 tab119_1)
theorem parOk12_42 : ParOk par12_42 := memo_with (base := par) parOk11 rfl rfl parOk12_41 rfl rfl ok119_1
noncomputable def par12_43 : Par := par12_42.with 120 (memoF par11 1000 120 tab120_2)
theorem parOk12_43 : ParOk par12_43 := memo_with (base := par) parOk11 rfl rfl parOk12_42 rfl rfl ok120_2
noncomputable def par12_44 : Par := par12_43.with 168 (memoF par11 1000 168 tab168_0)
theorem parOk12_44 : ParOk par12_44 := memo_with (base := par) parOk11 rfl rfl parOk12_43 rfl rfl ok168_0
noncomputable def par12_45 : Par := par12_44.with 170 (memoF par11 1000 170 tab170_1)
theorem parOk12_45 : ParOk par12_45 := memo_with (base := par) parOk11 rfl rfl parOk12_44 rfl rfl ok170_1
noncomputable def par12_46 : Par := par12_45.with 171 (memoF par11 1000 171 tab171_0)
theorem parOk12_46 : ParOk par12_46 := memo_with (base := par) parOk11 rfl rfl parOk12_45 rfl rfl ok171_0
noncomputable def par12_47 : Par := par12_46.with 172 (memoF par11 1000 172 tab172_0)
theorem parOk12_47 : ParOk par12_47 := memo_with (base := par) parOk11 rfl rfl parOk12_46 rfl rfl ok172_0
noncomputable def par12_48 : Par := par12_47.with 176 (memoF par11 1000 176 tab176_10)
theorem parOk12_48 : ParOk par12_48 := memo_with (base := par) parOk11 rfl rfl parOk12_47 rfl rfl ok176_10
noncomputable def par12_49 : Par := par12_48.with 180 (memoF par11 1000 180 tab180_3)
theorem parOk12_49 : ParOk par12_49 := memo_with (base := par) parOk11 rfl rfl parOk12_48 rfl rfl ok180_3
noncomputable def par12_50 : Par := par12_49.with 182 (memoF par11 1000 182 tab182_3)
theorem parOk12_50 : ParOk par12_50 := memo_with (base := par) parOk11 rfl rfl parOk12_49 rfl rfl ok182_3
noncomputable def par12_51 : Par := par12_50.with 183 (memoF par11 1000 183 tab183_6)
theorem parOk12_51 : ParOk par12_51 := memo_with (base := par) parOk11 rfl rfl parOk12_50 rfl rfl ok183_6
noncomputable def par12_52 : Par := par12_51.with 184 (memoF par11 1000 184 tab184_5)
theorem parOk12_52 : ParOk par12_52 := memo_with (base := par) parOk11 rfl rfl parOk12_51 rfl rfl ok184_5
noncomputable def par12_53 : Par := par12_52.with 185 (memoF par11 1000 185 tab185_2)
theorem parOk12_53 : ParOk par12_53 := memo_with (base := par) parOk11 rfl rfl parOk12_52 rfl rfl ok185_2
noncomputable def par12_54 : Par := par12_53.with 193 (memoF par11 1000 193 tab193_3)
theorem parOk12_54 : ParOk par12_54 := memo_with (base := par) parOk11 rfl rfl parOk12_53 rfl rfl ok193_3
noncomputable def par12_55 : Par := par12_54.with 230 (memoF par11 1000 230 tab230_0)
theorem parOk12_55 : ParOk par12_55 := memo_with (base := par) parOk11 rfl rfl parOk12_54 rfl rfl ok230_0
noncomputable def par12_56 : Par := par12_55.with 237 (memoF par11 1000 237 tab237_0)
theorem parOk12_56 : ParOk par12_56 := memo_with (base := par) parOk11 rfl rfl parOk12_55 rfl rfl ok237_0
noncomputable def par12_57 : Par := par12_56.with 239 (memoF par11 1000 239 tab239_0)
theorem parOk12_57 : ParOk par12_57 := memo_with (base := par) parOk11 rfl rfl parOk12_56 rfl rfl ok239_0
noncomputable def par12_58 : Par := par12_57.with 244 (memoF par11 1000 244 tab244_1)
theorem parOk12_58 : ParOk par12_58 := memo_with (base := par) parOk11 rfl rfl parOk12_57 rfl rfl ok244_1
noncomputable def par12_59 : Par := par12_58.with 247 (memoF par11 1000 247 tab247_1)
theorem parOk12_59 : ParOk par12_59 := memo_with (base := par) parOk11 rfl rfl parOk12_58 rfl rfl ok247_1
noncomputable def par12_60 : Par := par12_59.with 250 (memoF par11 1000 250 tab250_0)
theorem parOk12_60 : ParOk par12_60 := memo_with (base := par) parOk11 rfl rfl parOk12_59 rfl rfl ok250_0
noncomputable def par12_61 : Par := par12_60.with 251 (memoF par11 1000 251 tab251_2)
theorem parOk12_61 : ParOk par12_61 := memo_with (base := par) parOk11 rfl rfl parOk12_60 rfl rfl ok251_2
noncomputable def par12_62 : Par := par12_61.with 291 (memoF par11 1000 291 tab291_0)
theorem parOk12_62 : ParOk par12_62 := memo_with (base := par) parOk11 rfl rfl parOk12_61 rfl rfl ok291_0
noncomputable def par12_63 : Par := par12_62.with 296 (memoF par11 1000 296 tab296_4)
theorem parOk12_63 : ParOk par12_63 := memo_with (base := par) parOk11 rfl rfl parOk12_62 rfl rfl ok296_4
noncomputable def par12_64 : Par := par12_63.with 307 (memoF par11 1000 307 tab307_0)
theorem parOk12_64 : ParOk par12_64 := memo_with (base := par) parOk11 rfl rfl parOk12_63 rfl rfl ok307_0
noncomputable def par12_65 : Par := par12_64.with 311 (memoF par11 1000 311 tab311_0)
theorem parOk12_65 : ParOk par12_65 := memo_with (base := par) parOk11 rfl rfl parOk12_64 rfl rfl ok311_0
noncomputable def par12_66 : Par := par12_65.with 313 (memoF par11 1000 313 tab313_1)
theorem parOk12_66 : ParOk par12_66 := memo_with (base := par) parOk11 rfl rfl parOk12_65 rfl rfl ok313_1
noncomputable def par12_67 : Par := par12_66.with 332 (memoF par11 1000 332 tab332_2)
theorem parOk12_67 : ParOk par12_67 := memo_with (base := par) parOk11 rfl rfl parOk12_66 rfl rfl ok332_2
noncomputable def par12_68 : Par := par12_67.with 333 (memoF par11 1000 333 tab333_3)
theorem parOk12_68 : ParOk par12_68 := memo_with (base := par) parOk11 rfl rfl parOk12_67 rfl rfl ok333_3
noncomputable def par12_69 : Par := par12_68.with 335 (memoF par11 1000 335 tab335_1)
theorem parOk12_69 : ParOk par12_69 := memo_with (base := par) parOk11 rfl rfl parOk12_68 rfl rfl ok335_1
noncomputable def par12 : Par := par12_69.with 344 (memoF par11 1000 344 tab344_0)
theorem parOk12 : ParOk par12 := memo_with (base := par) parOk11 rfl rfl parOk12_69 rfl rfl ok344_0
noncomputable def e309 : List V × V := ([.agg [.int .i64 (0), .int .i64 (17), .bool true, .slice true 0 [], .slice false 5 [.agg [.int .i64 (0), .int .i64 (16), .bool true, .slice true 0 [], .slice false 5 [.agg [.int .i64 (0), .int .i64 (6), .bool false, (gu8 [42, 134, 72, 134, 247, 13, 1, 9, 4]), .slice true 0 []], .agg [.int .i64 (0), .int .i64 (17), .bool true, .slice true 0 [], .slice false 5 [.agg [.int .i64 (0), .int .i64 (4), .bool false, (gu8 [0, 0, 0, 0, 0, 0, 0, 0, 0, 0, 0, 0, 0, 0, 0, 0, 0, 0, 0, 0, 0, 0, 0, 0, 0, 0, 0, 0, 0, 0, 0, 0, 0, 0, 0, 0, 0, 0, 0, 0, 0, 0, 0, 0, 0, 0, 0, 0, 0, 0, 0, 0, 0, 0, 0, 0, 0, 0, 0, 0, 0, 0, 0, 0]), .slice true 0 []]]]]], .agg [.int .i64 (0), .int .i64 (16), .bool true, .slice true 0 [], .slice false 5 [.agg [.int .i64 (0), .int .i64 (6), .bool false, (gu8 [42, 134, 72, 134, 247, 13, 1, 9, 3]), .slice true 0 []], .agg [.int .i64 (0), .int .i64 (17), .bool true, .slice true 0 [], .slice false 5 [.agg [.int .i64 (0), .int .i64 (6), .bool false, (gu8 [42, 134, 72, 134, 247, 13, 1, 7, 1]), .slice true 0 []]]]]], .agg [.int .i64 (0), .int .i64 (16), .bool true, .slice true 0 [], .slice false 5 [.agg [.int .i64 (0), .int .i64 (6), .bool false, (gu8 [42, 134, 72, 134, 247, 13, 1, 9, 16, 2, 47]), .slice true 0 []], .agg [.int .i64 (0), .int .i64 (17), .bool true, .slice true 0 [], .slice false 5 [.agg [.int .i64 (0), .int .i64 (16), .bool true, .slice true 0 [], .slice false 5 [.agg [.int .i64 (0), .int .i64 (16), .bool true, .slice true 0 [], .slice false 5 [.agg [.int .i64 (0), .int .i64 (16), .bool true, .slice true 0 [], .slice false 5 [.agg [.int .i64 (0), .int .i64 (4), .bool false, (gu8 [0, 0, 0, 0, 0, 0, 0, 0, 0, 0, 0, 0, 0, 0, 0, 0, 0, 0, 0, 0, 0, 0, 0, 0, 0, 0, 0, 0, 0, 0, 0, 0]), .slice true 0 []], .agg [.int .i64 (0), .int .i64 (16), .bool true, .slice true 0 [], .slice false 5 [.agg [.int .i64 (0), .int .i64 (16), .bool true, .slice true 0 [], .slice false 5 [.agg [.int .i64 (2), .int .i64 (4), .bool true, .slice true 0 [], .slice false 5 [.agg [.int .i64 (0), .int .i64 (16), .bool true, .slice true 0 [], .slice false 5 [.agg [.int .i64 (0), .int .i64 (17), .bool true, .slice true 0 [], .slice false 5 [.agg [.int .i64 (0), .int .i64 (16), .bool true, .slice true 0 [], .slice false 5 [.agg [.int .i64 (0), .int .i64 (6), .bool false, (gu8 [85, 4, 3]), .slice true 0 []], .agg [.int .i64 (0), .int .i64 (12), .bool false, (gu8 [97]), .slice true 0 []]]]]]]]]]]], .agg [.int .i64 (0), .int .i64 (2), .bool false, (gu8 [1]), .slice true 0 []]]]]]]]]]]]]], .agg [.int .i64 (0), .int .i64 (16), .bool true, .slice true 0 [], .slice false 5 [.agg [.int .i64 (0), .int .i64 (6), .bool false, (gu8 [42, 134, 72, 134, 247, 13, 1, 9, 5]), .slice true 0 []], .agg [.int .i64 (0), .int .i64 (17), .bool true, .slice true 0 [], .slice false 5 [.agg [.int .i64 (0), .int .i64 (23), .bool false, (gu8 [55, 48, 48, 49, 48, 49, 48, 48, 48, 48, 48, 49, 90]), .slice true 0 []]]]]], .agg [.int .i64 (0), .int .i64 (16), .bool true, .slice true 0 [], .slice false 5 [.agg [.int .i64 (0), .int .i64 (6), .bool false, (gu8 [42, 3]), .slice true 0 []], .agg [.int .i64 (0), .int .i64 (17), .bool true, .slice true 0 [], .slice false 5 [.agg [.int .i64 (0), .int .i64 (2), .bool false, (gu8 [5]), .slice true 0 []]]]]]]]], .int .i64 (0))
theorem m309 : NatAt par 54 e309.1 e309.2 := .base (par := par) (par' := par12) rfl rfl (.of_eval (n := 1000) parOk12 (by kernel_rfl))
noncomputable def tab54_12 : List (List V × V) := e309 :: tab54_7
theorem ok54_12 : MemoOk par 54 tab54_12 := .cons m309 <| ok54_7
noncomputable def par13_0 : Par := par.with 7 (memoF par12 1000 7 tab7_2)
theorem parOk13_0 : ParOk par13_0 := memo_with (base := par) parOk12 rfl rfl parOk rfl rfl ok7_2
noncomputable def par13_1 : Par := par13_0.with 11 (memoF par12 1000 11 tab11_0)
theorem parOk13_1 : ParOk par13_1 := memo_with (base := par) parOk12 rfl rfl parOk13_0 rfl rfl ok11_0
noncomputable def par13_2 : Par := par13_1.with 14 (memoF par12 1000 14 tab14_4)
theorem parOk13_2 : ParOk par13_2 := memo_with (base := par) parOk12 rfl rfl parOk13_1 rfl rfl ok14_4
noncomputable def par13_3 : Par := par13_2.with 27 (memoF par12 1000 27 tab27_8)
theorem parOk13_3 : ParOk par13_3 := memo_with (base := par) parOk12 rfl rfl parOk13_2 rfl rfl ok27_8
noncomputable def par13_4 : Par := par13_3.with 28 (memoF par12 1000 28 tab28_7)
theorem parOk13_4 : ParOk par13_4 := memo_with (base := par) parOk12 rfl rfl parOk13_3 rfl rfl ok28_7
noncomputable def par13_5 : Par := par13_4.with 29 (memoF par12 1000 29 tab29_10)
theorem parOk13_5 : ParOk par13_5 := memo_with (base := par) parOk12 rfl rfl parOk13_4 rfl rfl ok29_10
noncomputable def par13_6 : Par := par13_5.with 30 (memoF par12 1000 30 tab30_11)
theorem parOk13_6 : ParOk par13_6 := memo_with (base := par) parOk12 rfl rfl parOk13_5 rfl rfl ok30_11
noncomputable def par13_7 : Par := par13_6.with 31 (memoF par12 1000 31 tab31_2)
theorem parOk13_7 : ParOk par13_7 := memo_with (base := par) parOk12 rfl rfl parOk13_6 rfl rfl ok31_2
noncomputable def par13_8 : Par := par13_7.with 32 (memoF par12 1000 32 tab32_7)
theorem parOk13_8 : ParOk par13_8 := memo_with (base := par) parOk12 rfl rfl parOk13_7 rfl rfl ok32_7
noncomputable def par13_9 : Par := par13_8.with 35 (memoF par12 1000 35 tab35_1)
theorem parOk13_9 : ParOk par13_9 := memo_with (base := par) parOk12 rfl rfl parOk13_8 rfl rfl ok35_1
noncomputable def par13_10 : Par := par13_9.with 36 (memoF par12 1000 36 tab36_5)
theorem parOk13_10 : ParOk par13_10 := memo_with (base := par) parOk12 rfl rfl parOk13_9 rfl rfl ok36_5
noncomputable def par13_11 : Par := par13_10.with 45 (memoF par12 1000 45 tab45_0)
theorem parOk13_11 : ParOk par13_11 := memo_with (base := par) parOk12 rfl rfl parOk13_10 rfl rfl ok45_0
noncomputable def par13_12 : Par := par13_11.with 48 (memoF par12 1000 48 tab48_3)
theorem parOk13_12 : ParOk par13_12 := memo_with (base := par) parOk12 rfl rfl parOk13_11 rfl rfl ok48_3
noncomputable def par13_13 : Par := par13_12.with 49 (memoF par12 1000 49 tab49_2)
theorem parOk13_13 : ParOk par13_13 := memo_with (base := par) parOk12 rfl rfl parOk13_12 rfl rfl ok49_2
noncomputable def par13_14 : Par := par13_13.with 51 (memoF par12 1000 51 tab51_5)
theorem parOk13_14 : ParOk par13_14 := memo_with (base := par) parOk12 rfl rfl parOk13_13 rfl rfl ok51_5
noncomputable def par13_15 : Par := par13_14.with 53 (memoF par12 1000 53 tab53_6)
theorem parOk13_15 : ParOk par13_15 := memo_with (base := par) parOk12 rfl rfl parOk13_14 rfl rfl ok53_6
noncomputable def par13_16 : Par := par13_15.with 54 (memoF par12 1000 54 tab54_12)
theorem parOk13_16 : ParOk par13_16 := memo_with (base := par) parOk12 rfl rfl parOk13_15 rfl rfl ok54_12
noncomputable def par13_17 : Par := par13_16.with 56 (memoF par12 1000 56 tab56_1)
theorem parOk13_17 : ParOk par13_17 := memo_with (base := par) parOk12 rfl rfl parOk13_16 rfl rfl ok56_1
noncomputable def par13_18 : Par := par13_17.with 57 (memoF par12 1000 57 tab57_6)
theorem parOk13_18 : ParOk par13_18 := memo_with (base := par) parOk12 rfl rfl parOk13_17 rfl rfl ok57_6
noncomputable def par13_19 : Par := par13_18.with 58 (memoF par12 1000 58 tab58_1)
theorem parOk13_19 : ParOk par13_19 := memo_with (base := par) parOk12 rfl rfl parOk13_18 rfl rfl ok58_1
noncomputable def par13_20 : Par := par13_19.with 59 (memoF par12 1000 59 tab59_5)
theorem parOk13_20 : ParOk par13_20 := memo_with (base := par) parOk12 rfl rfl parOk13_19 rfl rfl ok59_5
noncomputable def par13_21 : Par := par13_20.with 63 (memoF par12 1000 63 tab63_1)
theorem parOk13_21 : ParOk par13_21 := memo_with (base := par) parOk12 rfl rfl parOk13_20 rfl rfl ok63_1
noncomputable def par13_22 : Par := par13_21.with 64 (memoF par12 1000 64 tab64_6)
theorem parOk13_22 : ParOk par13_22 := memo_with (base := par) parOk12 rfl rfl parOk13_21 rfl rfl ok64_6
noncomputable def par13_23 : Par := par13_22.with 65 (memoF par12 1000 65 tab65_5)
theorem parOk13_23 : ParOk par13_23 := memo_with (base := par) parOk12 rfl rfl parOk13_22 rfl rfl ok65_5
noncomputable def par13_24 : Par := par13_23.with 66 (memoF par12 1000 66 tab66_2)
theorem parOk13_24 : ParOk par13_24 := memo_with (base := par) parOk12 rfl rfl parOk13_23 rfl rfl ok66_2
noncomputable def par13_25 : Par := par13_24.with 67 (memoF par12 1000 67 tab67_9)
theorem parOk13_25 : ParOk par13_25 := memo_with (base := par) parOk12 rfl rfl parOk13_24 rfl rfl ok67_9
noncomputable def par13_26 : Par := par13_25.with 69 (memoF par12 1000 69 tab69_6)
theorem parOk13_26 : ParOk par13_26 := memo_with (base := par) parOk12 rfl rfl parOk13_25 rfl rfl ok69_6
noncomputable def par13_27 : Par := par13_26.with 70 (memoF par12 1000 70 tab70_1)
theorem parOk13_27 : ParOk par13_27 := memo_with (base := par) parOk12 rfl rfl parOk13_26 rfl rfl ok70_1
noncomputable def par13_28 : Par := par13_27.with 71 (memoF par12 1000 71 tab71_0)
theorem parOk13_28 : ParOk par13_28 := memo_with (base := par) parOk12 rfl rfl parOk13_27 rfl rfl ok71_0
noncomputable def par13_29 : Par := par13_28.with 74 (memoF par12 1000 74 tab74_0)
theorem parOk13_29 : ParOk par13_29 := memo_with (base := par) parOk12 rfl rfl parOk13_28 rfl rfl ok74_0
noncomputable def par13_30 : Par := par13_29.with 75 (memoF par12 1000 75 tab75_8)
theorem parOk13_30 : ParOk par13_30 := memo_with (base := par) parOk12 rfl rfl parOk13_29 rfl rfl ok75_8
noncomputable def par13_31 : Par := par13_30.with 98 (memoF par12 1000 98 tab98_1)
theorem parOk13_31 : ParOk par13_31 := memo_with (base := par) parOk12 rfl rfl parOk13_30 rfl rfl ok98_1
noncomputable def par13_32 : Par := par13_31.with 99 (memoF par12 1000 99 tab99_2)
theorem parOk13_32 : ParOk par13_32 := memo_with (base := par) parOk12 rfl rfl parOk13_31 rfl rfl ok99_2
noncomputable def par13_33 : Par := par13_32.with 100 (memoF par12 1000 100 tab100_1)
theorem parOk13_33 : ParOk par13_33 := memo_with (base := par) parOk12 rfl rfl parOk13_32 rfl rfl ok100_1
noncomputable def par13_34 : Par := par13_33.with 103 (memoF par12 1000 103 tab103_4)
theorem parOk13_34 : ParOk par13_34 := memo_with (base := par) parOk12 rfl rfl parOk13_33 rfl rfl ok103_4
noncomputable def par13_35 : Par := par13_34.with 104 (memoF par12 1000 104 tab104_5)
theorem parOk13_35 : ParOk par13_35 := memo_with (base := par) parOk12 rfl rfl parOk13_34 rfl rfl ok104_5
noncomputable def par13_36 : Par := par13_35.with 105 (memoF par12 1000 105 tab105_11)
theorem parOk13_36 : ParOk par13_36 := memo_with (base := par) parOk12 rfl rfl parOk13_35 rfl rfl ok105_11
noncomputable def par13_37 : Par := par13_36.with 106 (memoF par12 1000 106 tab106_5)
theorem parOk13_37 : ParOk par13_37 := memo_with (base := par) parOk12 rfl rfl parOk13_36 rfl rfl ok106_5
noncomputable def par13_38 : Par := par13_37.with 107 (memoF par12 1000 107 tab107_4)
theorem parOk13_38 : ParOk par13_38 := memo_with (base := par) parOk12 rfl rfl parOk13_37 rfl rfl ok107_4
noncomputable def par13_39 : Par := par13_38.with 110 (memoF par12 1000 110 tab110_4)
theorem parOk13_39 : ParOk par13_39 := memo_with (base := par) parOk12 rfl rfl parOk13_38 rfl rfl ok110_4
noncomputable def par13_40 : Par := par13_39.with 116 (memoF par12 1000 116 tab116_5)
theorem parOk13_40 : ParOk par13_40 := memo_with (base := par) parOk12 rfl rfl parOk13_39 rfl rfl ok116_5
noncomputable def par13_41 : Par := par13_40.with 117 (memoF par12 1000 117 tab117_3)
theorem parOk13_41 : ParOk par13_41 := memo_with (base := par) parOk12 rfl rfl parOk13_40 rfl rfl ok117_3
noncomputable def par13_42 : Par := par13_41.with 119 (memoF par12 1000 119 tab119_1)
theorem parOk13_42 : ParOk par13_42 := memo_with (base := par) parOk12 rfl rfl parOk13_41 rfl rfl ok119_1
noncomputable def par13_43 : Par := par13_42.with 120 (memoF par12 1000 120 tab120_2)
theorem parOk13_43 : ParOk par13_43 := memo_with (base := par) parOk12 rfl rfl parOk13_42 rfl rfl ok120_2
noncomputable def par13_44 : Par := par13_43.with 168 (memoF par12 1000 168 tab168_0)
theorem parOk13_44 : ParOk par13_44 := memo_with (base := par) parOk12 rfl rfl parOk13_43 rfl rfl ok168_0
noncomputable def par13_45 : Par := par13_44.with 170 (memoF par12 1000 170 tab170_1)
theorem parOk13_45 : ParOk par13_45 := memo_with (base := par) parOk12 rfl rfl parOk13_44 rfl rfl ok170_1
noncomputable def par13_46 : Par := par13_45.with 171 (memoF par12 1000 171 tab171_0)
theorem parOk13_46 : ParOk par13_46 := memo_with (base := par) parOk12 rfl rfl parOk13_45 rfl rfl ok171_0
noncomputable def par13_47 : Par := par13_46.with 172 (memoF par12 1000 172 tab172_0)
theorem parOk13_47 : ParOk par13_47 := memo_with (base := par) parOk12 rfl rfl parOk13_46 rfl rfl ok172_0
noncomputable def par13_48 : Par := par13_47.with 176 (memoF par12 1000 176 tab176_10)
theorem parOk13_48 : ParOk par13_48 := memo_with (base := par) parOk12 rfl rfl parOk13_47 rfl rfl ok176_10
noncomputable def par13_49 : Par := par13_48.with 180 (memoF par12 1000 180 tab180_3)
theorem parOk13_49 : ParOk par13_49 := memo_with (base := par) parOk12 rfl rfl parOk13_48 rfl rfl ok180_3
noncomputable def par13_50 : Par := par13_49.with 182 (memoF par12 1000 182 tab182_3)
theorem parOk13_50 : ParOk par13_50 := memo_with (base := par) parOk12 rfl rfl parOk13_49 rfl rfl ok182_3
noncomputable def par13_51 : Par := par13_50.with 183 (memoF par12 1000 183 tab183_6)
theorem parOk13_51 : ParOk par13_51 := memo_with (base := par) parOk12 rfl rfl parOk13_50 rfl rfl ok183_6
noncomputable def par13_52 : Par := par13_51.with 184 (memoF par12 1000 184 tab184_5)
theorem parOk13_52 : ParOk par13_52 := memo_with (base := par) parOk12 rfl rfl parOk13_51 rfl rfl ok184_5
noncomputable def par13_53 : Par := par13_52.with 185 (memoF par12 1000 185 tab185_2)
theorem parOk13_53 : ParOk par13_53 := memo_with (base := par) parOk12 rfl rfl parOk13_52 rfl rfl ok185_2
noncomputable def par13_54 : Par := par13_53.with 193 (memoF par12 1000 193 tab193_3)
theorem parOk13_54 : ParOk par13_54 := memo_with (base := par) parOk12 rfl rfl parOk13_53 rfl rfl ok193_3
noncomputable def par13_55 : Par := par13_54.with 230 (memoF par12 1000 230 tab230_0)
theorem parOk13_55 : ParOk par13_55 := memo_with (base := par) parOk12 rfl rfl parOk13_54 rfl rfl ok230_0
noncomputable def par13_56 : Par := par13_55.with 237 (memoF par12 1000 237 tab237_0)
theorem parOk13_56 : ParOk par13_56 := memo_with (base := par) parOk12 rfl rfl parOk13_55 rfl rfl ok237_0
noncomputable def par13_57 : Par := par13_56.with 239 (memoF par12 1000 239 tab239_0)
theorem parOk13_57 : ParOk par13_57 := memo_with (base := par) parOk12 rfl rfl parOk13_56 rfl rfl ok239_0
noncomputable def par13_58 : Par := par13_57.with 244 (memoF par12 1000 244 tab244_1)
theorem parOk13_58 : ParOk par13_58 := memo_with (base := par) parOk12 rfl rfl parOk13_57 rfl rfl ok244_1
noncomputable def par13_59 : Par := par13_58.with 247 (memoF par12 1000 247 tab247_1)
theorem parOk13_59 : ParOk par13_59 := memo_with (base := par) parOk12 rfl rfl parOk13_58 rfl rfl ok247_1
noncomputable def par13_60 : Par := par13_59.with 250 (memoF par12 1000 250 tab250_0)
theorem parOk13_60 : ParOk par13_60 := memo_with (base := par) parOk12 rfl rfl parOk13_59 rfl rfl ok250_0
noncomputable def par13_61 : Par := par13_60.with 251 (memoF par12 1000 251 tab251_2)
theorem parOk13_61 : ParOk par13_61 := memo_with (base := par) parOk12 rfl rfl parOk13_60 rfl rfl ok251_2
noncomputable def par13_62 : Par := par13_61.with 291 (memoF par12 1000 291 tab291_0)
theorem parOk13_62 : ParOk par13_62 := memo_with (base := par) parOk12 rfl rfl parOk13_61 rfl rfl ok291_0
noncomputable def par13_63 : Par := par13_62.with 296 (memoF par12 1000 296 tab296_4)
theorem parOk13_63 : ParOk par13_63 := memo_with (base := par) parOk12 rfl rfl parOk13_62 rfl rfl ok296_4
noncomputable def par13_64 : Par := par13_63.with 307 (memoF par12 1000 307 tab307_0)
theorem parOk13_64 : ParOk par13_64 := memo_with (base := par) parOk12 rfl rfl parOk13_63 rfl rfl ok307_0
noncomputable def par13_65 : Par := par13_64.with 311 (memoF par12 1000 311 tab311_0)
theorem parOk13_65 : ParOk par13_65 := memo_with (base := par) parOk12 rfl rfl parOk13_64 rfl rfl ok311_0
noncomputable def par13_66 : Par := par13_65.with 313 (memoF par12 1000 313 tab313_1)
theorem parOk13_66 : ParOk par13_66 := memo_with (base := par) parOk12 rfl rfl parOk13_65 rfl rfl ok313_1
noncomputable def par13_67 : Par := par13_66.with 332 (memoF par12 1000 332 tab332_2)
theorem parOk13_67 : ParOk par13_67 := memo_with (base := par) parOk12 rfl rfl parOk13_66 rfl rfl ok332_2
noncomputable def par13_68 : Par := par13_67.with 333 (memoF par12 1000 333 tab333_3)
theorem parOk13_68 : ParOk par13_68 := memo_with (base := par) parOk12 rfl rfl parOk13_67 rfl rfl ok333_3
noncomputable def par13_69 : Par := par13_68.with 335 (memoF par12 1000 335 tab335_1)
theorem parOk13_69 : ParOk par13_69 := memo_with (base := par) parOk12 rfl rfl parOk13_68 rfl rfl ok335_1
noncomputable def par13 : Par := par13_69.with 344 (memoF par12 1000 344 tab344_0)
theorem parOk13 : ParOk par13 := memo_with (base := par) parOk12 rfl rfl parOk13_69 rfl rfl ok344_0
noncomputable def e310 : List V × V := ([.agg [.int .i64 (0), .int .i64 (17), .bool true, .slice true 0 [], .slice false 5 [.agg [.int .i64 (0), .int .i64 (16), .bool true, .slice true 0 [], .slice false 5 [.agg [.int .i64 (0), .int .i64 (6), .bool false, (gu8 [42, 134, 72, 134, 247, 13, 1, 9, 4]), .slice true 0 []], .agg [.int .i64 (0), .int .i64 (17), .bool true, .slice true 0 [], .slice false 5 [.agg [.int .i64 (0), .int .i64 (4), .bool false, (gu8 [0, 0, 0, 0, 0, 0, 0, 0, 0, 0, 0, 0, 0, 0, 0, 0, 0, 0, 0, 0, 0, 0, 0, 0, 0, 0, 0, 0, 0, 0, 0, 0, 0, 0, 0, 0, 0, 0, 0, 0, 0, 0, 0, 0, 0, 0, 0, 0, 0, 0, 0, 0, 0, 0, 0, 0, 0, 0, 0, 0, 0, 0, 0, 0]), .slice true 0 []]]]]], .agg [.int .i64 (0), .int .i64 (16), .bool true, .slice true 0 [], .slice false 5 [.agg [.int .i64 (0), .int .i64 (6), .bool false, (gu8 [42, 134, 72, 134, 247, 13, 1, 9, 3]), .slice true 0 []], .agg [.int .i64 (0), .int .i64 (17), .bool true, .slice true 0 [], .slice false 5 [.agg [.int .i64 (0), .int .i64 (6), .bool false, (gu8 [42, 134, 72, 134, 247, 13, 1, 7, 1]), .slice true 0 []]]]]], .agg [.int .i64 (0), .int .i64 (16), .bool true, .slice true 0 [], .slice false 5 [.agg [.int .i64 (0), .int .i64 (6), .bool false, (gu8 [42, 134, 72, 134, 247, 13, 1, 9, 16, 2, 47]), .slice true 0 []], .agg [.int .i64 (0), .int .i64 (17), .bool true, .slice true 0 [], .slice false 5 [.agg [.int .i64 (0), .int .i64 (16), .bool true, .slice true 0 [], .slice false 5 [.agg [.int .i64 (0), .int .i64 (16), .bool true, .slice true 0 [], .slice false 5 [.agg [.int .i64 (0), .int .i64 (16), .bool true, .slice true 0 [], .slice false 5 [.agg [.int .i64 (0), .int .i64 (4), .bool false, (gu8 [0, 0, 0, 0, 0, 0, 0, 0, 0, 0, 0, 0, 0, 0, 0, 0, 0, 0, 0, 0, 0, 0, 0, 0, 0, 0, 0, 0, 0, 0, 0, 0]), .slice true 0 []], .agg [.int .i64 (0), .int .i64 (16), .bool true, .slice true 0 [], .slice false 5 [.agg [.int .i64 (0), .int .i64 (16), .bool true, .slice true 0 [], .slice false 5 [.agg [.int .i64 (2), .int .i64 (4), .bool true, .slice true 0 [], .slice false 5 [.agg [.int .i64 (0), .int .i64 (16), .bool true, .slice true 0 [], .slice false 5 [.agg [.int .i64 (0), .int .i64 (17), .bool true, .slice true 0 [], .slice false 5 [.agg [.int .i64 (0), .int .i64 (16), .bool true, .slice true 0 [], .slice false 5 [.agg [.int .i64 (0), .int .i64 (6), .bool false, (gu8 [85, 4, 3]), .slice true 0 []], .agg [.int .i64 (0), .int .i64 (12), .bool false, (gu8 [97]), .slice true 0 []]]]]]]]]]]], .agg [.int .i64 (0), .int .i64 (2), .bool false, (gu8 [1]), .slice true 0 []]]]]]]]]]]]]], .agg [.int .i64 (0), .int .i64 (16), .bool true, .slice true 0 [], .slice false 5 [.agg [.int .i64 (0), .int .i64 (6), .bool false, (gu8 [42, 134, 72, 134, 247, 13, 1, 9, 5]), .slice true 0 []], .agg [.int .i64 (0), .int .i64 (17), .bool true, .slice true 0 [], .slice false 5 [.agg [.int .i64 (0), .int .i64 (23), .bool false, (gu8 [55, 48, 48, 49, 48, 49, 48, 48, 48, 48, 48, 49, 90]), .slice true 0 []]]]]], .agg [.int .i64 (0), .int .i64 (16), .bool true, .slice true 0 [], .slice false 5 [.agg [.int .i64 (0), .int .i64 (6), .bool false, (gu8 [42, 3]), .slice true 0 []], .agg [.int .i64 (0), .int .i64 (17), .bool true, .slice true 0 [], .slice false 5 [.agg [.int .i64 (0), .int .i64 (2), .bool false, (gu8 [5]), .slice true 0 []]]]]]]]], .tup [.int .i64 (231), .int .i64 (0)])
theorem m310 : NatAt par 75 e310.1 e310.2 := .base (par := par) (par' := par13) rfl rfl (.of_eval (n := 1000) parOk13 (by kernel_rfl))
noncomputable def tab75_13 : List (List V × V) := e310 :: tab75_8
theorem ok75_13 : MemoOk par 75 tab75_13 := .cons m310 <| ok75_8
noncomputable def par14_0 : Par := par.with 7 (memoF par13 1000 7 tab7_2)
theorem parOk14_0 : ParOk par14_0 := memo_with (base := par) parOk13 rfl rfl parOk rfl rfl ok7_2
noncomputable def par14_1 : Par := par14_0.with 11 (memoF par13 1000 11 tab11_0)
theorem parOk14_1 : ParOk par14_1 := memo_with (base := par) parOk13 rfl rfl parOk14_0 rfl rfl ok11_0
noncomputable def par14_2 : Par := par14_1.with 14 (memoF par13 1000 14 tab14_4)
theorem parOk14_2 : ParOk par14_2 := memo_with (base := par) parOk13 rfl rfl parOk14_1 rfl rfl ok14_4
noncomputable def par14_3 : Par := par14_2.with 27 (memoF par13 1000 27 tab27_8)
theorem parOk14_3 : ParOk par14_3 := memo_with (base := par) parOk13 rfl rfl parOk14_2 rfl rfl ok27_8
noncomputable def par14_4 : Par := par14_3.with 28 (memoF par13 1000 28 tab28_7)
theorem parOk14_4 : ParOk par14_4 := memo_with (base := par) parOk13 rfl rfl parOk14_3 rfl rfl ok28_7
noncomputable def par14_5 : Par := par14_4.with 29 (memoF par13 1000 29 tab29_10)
theorem parOk14_5 : ParOk par14_5 := memo_with (base := par) parOk13 rfl rfl parOk14_4 rfl rfl ok29_10
noncomputable def par14_6 : Par := par14_5.with 30 (memoF par13 1000 30 tab30_11)
theorem parOk14_6 : ParOk par14_6 := memo_with (base := par) parOk13 rfl rfl parOk14_5 rfl rfl ok30_11
noncomputable def par14_7 : Par := par14_6.with 31 (memoF par13 1000 31 tab31_2)
theorem parOk14_7 : ParOk par14_7 := memo_with (base := par) parOk13 rfl rfl parOk14_6 rfl rfl ok31_2
noncomputable def par14_8 : Par := par14_7.with 32 (memoF par13 1000 32 tab32_7)
theorem parOk14_8 : ParOk par14_8 := memo_with (base := par) parOk13 rfl rfl parOk14_7 rfl rfl ok32_7
noncomputable def par14_9 : Par := par14_8.with 35 (memoF par13 1000 35 tab35_1)
theorem parOk14_9 : ParOk par14_9 := memo_with (base := par) parOk13 rfl rfl parOk14_8 rfl rfl ok35_1
noncomputable def par14_10 : Par := par14_9.with 36 (memoF par13 1000 36 tab36_5)
theorem parOk14_10 : ParOk par14_10 := memo_with (base := par) parOk13 rfl rfl parOk14_9 rfl rfl ok36_5
noncomputable def par14_11 : Par := par14_10.with 45 (memoF par13 1000 45 tab45_0)
theorem parOk14_11 : ParOk par14_11 := memo_with (base := par) parOk13 rfl rfl parOk14_10 rfl rfl ok45_0
noncomputable def par14_12 : Par := par14_11.with 48 (memoF par13 1000 48 tab48_3)
theorem parOk14_12 : ParOk par14_12 := memo_with (base := par) parOk13 rfl rfl parOk14_11 rfl rfl ok48_3
noncomputable def par14_13 : Par := par14_12.with 49 (memoF par13 1000 49 tab49_2)
theorem parOk14_13 : ParOk par14_13 := memo_with (base := par) parOk13 rfl rfl parOk14_12 rfl rfl ok49_2
noncomputable def par14_14 : Par := par14_13.with 51 (memoF par13 1000 51 tab51_5)
theorem parOk14_14 : ParOk par14_14 := memo_with (base := par) parOk13 rfl rfl parOk14_13 rfl rfl ok51_5
noncomputable def par14_15 : Par := par14_14.with 53 (memoF par13 1000 53 tab53_6)
theorem parOk14_15 : ParOk par14_15 := memo_with (base := par) parOk13 rfl rfl parOk14_14 rfl rfl ok53_6
noncomputable def par14_16 : Par := par14_15.with 54 (memoF par13 1000 54 tab54_12)
theorem parOk14_16 : ParOk par14_16 := memo_with (base := par) parOk13 rfl rfl parOk14_15 rfl rfl ok54_12
noncomputable def par14_17 : Par := par14_16.with 56 (memoF par13 1000 56 tab56_1)
theorem parOk14_17 : ParOk par14_17 := memo_with (base := par) parOk13 rfl rfl parOk14_16 rfl rfl ok56_1
noncomputable def par14_18 : Par := par14_17.with 57 (memoF par13 1000 57 tab57_6)
theorem parOk14_18 : ParOk par14_18 := memo_with (base := par) parOk13 rfl rfl parOk14_17 rfl rfl ok57_6
noncomputable def par14_19 : Par := par14_18.with 58 (memoF par13 1000 58 tab58_1)
theorem parOk14_19 : ParOk par14_19 := memo_with (base := par) parOk13 rfl rfl parOk14_18 rfl rfl ok58_1
noncomputable def par14_20 : Par := par14_19.with 59 (memoF par13 1000 59 tab59_5)
theorem parOk14_20 : ParOk par14_20 := memo_with (base := par) parOk13 rfl rfl parOk14_19 rfl rfl ok59_5
noncomputable def par14_21 : Par := par14_20.with 63 (memoF par13 1000 63 tab63_1)
theorem parOk14_21 : ParOk par14_21 := memo_with (base := par) parOk13 rfl rfl parOk14_20 rfl rfl ok63_1
noncomputable def par14_22 : Par := par14_21.with 64 (memoF par13 1000 64 tab64_6)
theorem parOk14_22 : ParOk par14_22 := memo_with (base := par) parOk13 rfl rfl parOk14_21 rfl rfl ok64_6
noncomputable def par14_23 : Par := par14_22.with 65 (memoF par13 1000 65 tab65_5)
theorem parOk14_23 : ParOk par14_23 := memo_with (base := par) parOk13 rfl rfl parOk14_22 rfl rfl ok65_5
noncomputable def par14_24 : Par := par14_23.with 66 (memoF par13 1000 66 tab66_2)
theorem parOk14_24 : ParOk par14_24 := memo_with (base := par) parOk13 rfl rfl parOk14_23 rfl rfl ok66_2
noncomputable def par14_25 : Par := par14_24.with 67 (memoF par13 1000 67 tab67_9)
theorem parOk14_25 : ParOk par14_25 := memo_with (base := par) parOk13 rfl rfl parOk14_24 rfl rfl ok67_9
noncomputable def par14_26 : Par := par14_25.with 69 (memoF par13 1000 69 tab69_6)
theorem parOk14_26 : ParOk par14_26 := memo_with (base := par) parOk13 rfl rfl parOk14_25 rfl rfl ok69_6
noncomputable def par14_27 : Par := par14_26.with 70 (memoF par13 1000 70 tab70_1)
theorem parOk14_27 : ParOk par14_27 := memo_with (base := par) parOk13 rfl rfl parOk14_26 rfl rfl ok70_1
noncomputable def par14_28 : Par := par14_27.with 71 (memoF par13 1000 71 tab71_0)
theorem parOk14_28 : ParOk par14_28 := memo_with (base := par) parOk13 rfl rfl parOk14_27 rfl rfl ok71_0
noncomputable def par14_29 : Par := par14_28.with 74 (memoF par13 1000 74 tab74_0)
theorem parOk14_29 : ParOk par14_29 := memo_with (base := par) parOk13 rfl rfl parOk14_28 rfl rfl ok74_0
noncomputable def par14_30 : Par := par14_29.with 75 (memoF par13 1000 75 tab75_13)
theorem parOk14_30 : ParOk par14_30 := memo_with (base := par) parOk13 rfl rfl parOk14_29 rfl rfl ok75_13
noncomputable def par14_31 : Par := par14_30.with 98 (memoF par13 1000 98 tab98_1)
theorem parOk14_31 : ParOk par14_31 := memo_with (base := par) parOk13 rfl rfl parOk14_30 rfl rfl ok98_1
noncomputable def par14_32 : Par := par14_31.with 99 (memoF par13 1000 99 tab99_2)
theorem parOk14_32 : ParOk par14_32 := memo_with (base := par) parOk13 rfl rfl parOk14_31 rfl rfl ok99_2
noncomputable def par14_33 : Par := par14_32.with 100 (memoF par13 1000 100 tab100_1)
theorem parOk14_33 : ParOk par14_33 := memo_with (base := par) parOk13 rfl rfl parOk14_32 rfl rfl ok100_1
noncomputable def par14_34 : Par := par14_33.with 103 (memoF par13 1000 103 tab103_4)
theorem parOk14_34 : ParOk par14_34 := memo_with (base := par) parOk13 rfl rfl parOk14_33 rfl rfl ok103_4
noncomputable def par14_35 : Par := par14_34.with 104 (memoF par13 1000 104 tab104_5)
theorem parOk14_35 : ParOk par14_35 := memo_with (base := par) parOk13 rfl rfl parOk14_34 rfl rfl ok104_5
noncomputable def par14_36 : Par := par14_35.with 105 (memoF par13 1000 105 tab105_11)
theorem parOk14_36 : ParOk par14_36 := memo_with (base := par) parOk13 rfl rfl parOk14_35 rfl rfl ok105_11
noncomputable def par14_37 : Par := par14_36.with 106 (memoF par13 1000 106 tab106_5)
theorem parOk14_37 : ParOk par14_37 := memo_with (base := par) parOk13 rfl rfl parOk14_36 rfl rfl ok106_5
noncomputable def par14_38 : Par := par14_37.with 107 (memoF par13 1000 107 tab107_4)
theorem parOk14_38 : ParOk par14_38 := memo_with (base := par) parOk13 rfl rfl parOk14_37 rfl rfl ok107_4
noncomputable def par14_39 : Par := par14_38.with 110 (memoF par13 1000 110 tab110_4)
theorem parOk14_39 : ParOk par14_39 := memo_with (base := par) parOk13 rfl rfl parOk14_38 rfl rfl ok110_4
noncomputable def par14_40 : Par := par14_39.with 116 (memoF par13 1000 116 tab116_5)
theorem parOk14_40 : ParOk par14_40 := memo_with (base := par) parOk13 rfl rfl parOk14_39 rfl rfl ok116_5
noncomputable def par14_41 : Par := par14_40.with 117 (memoF par13 1000 117 tab117_3)
theorem parOk14_41 : ParOk par14_41 := memo_with (base := par) parOk13 rfl rfl parOk14_40 rfl rfl ok117_3
noncomputable def par14_42 : Par := par14_41.with 119 (memoF par13 1000 119 tab119_1)
theorem parOk14_42 : ParOk par14_42 := memo_with (base := par) parOk13 rfl rfl parOk14_41 rfl rfl ok119_1
noncomputable def par14_43 : Par := par14_42.with 120 (memoF par13 1000 120 tab120_2)
theorem parOk14_43 : ParOk par14_43 := memo_with (base := par) parOk13 rfl rfl parOk14_42 rfl rfl ok120_2
noncomputable def par14_44 : Par := par14_43.with 168 (memoF par13 1000 168 tab168_0)
theorem parOk14_44 : ParOk par14_44 := memo_with (base := par) parOk13 rfl rfl parOk14_43 rfl rfl ok168_0
noncomputable def par14_45 : Par := par14_44.with 170 (memoF par13 1000 170 tab170_1)
theorem parOk14_45 : ParOk par14_45 := memo_with (base := par) parOk13 rfl rfl parOk14_44 rfl rfl ok170_1
noncomputable def par14_46 : Par := par14_45.with 171 (memoF par13 1000 171 tab171_0)
theorem parOk14_46 : ParOk par14_46 := memo_with (base := par) parOk13 rfl rfl parOk14_45 rfl rfl ok171_0
noncomputable def par14_47 : Par := par14_46.with 172 (memoF par13 1000 172 tab172_0)
theorem parOk14_47 : ParOk par14_47 := memo_with (base := par) parOk13 rfl rfl parOk14_46 rfl rfl ok172_0
noncomputable def par14_48 : Par := par14_47.with 176 (memoF par13 1000 176 tab176_10)
theorem parOk14_48 : ParOk par14_48 := memo_with (base := par) parOk13 rfl rfl parOk14_47 rfl rfl ok176_10
noncomputable def par14_49 : Par := par14_48.with 180 (memoF par13 1000 180 tab180_3)
theorem parOk14_49 : ParOk par14_49 := memo_with (base := par) parOk13 rfl rfl parOk14_48 rfl rfl ok180_3
noncomputable def par14_50 : Par := par14_49.with 182 (memoF par13 1000 182 tab182_3)
theorem parOk14_50 : ParOk par14_50 := memo_with (base := par) parOk13 rfl rfl parOk14_49 rfl rfl ok182_3
noncomputable def par14_51 : Par := par14_50.with 183 (memoF par13 1000 183 tab183_6)
theorem parOk14_51 : ParOk par14_51 := memo_with (base := par) parOk13 rfl rfl parOk14_50 rfl rfl ok183_6
noncomputable def par14_52 : Par := par14_51.with 184 (memoF par13 1000 184 tab184_5)
theorem parOk14_52 : ParOk par14_52 := memo_with (base := par) parOk13 rfl rfl parOk14_51 rfl rfl ok184_5
noncomputable def par14_53 : Par := par14_52.with 185 (memoF par13 1000 185 tab185_2)
theorem parOk14_53 : ParOk par14_53 := memo_with (base := par) parOk13 rfl rfl parOk14_52 rfl rfl ok185_2
noncomputable def par14_54 : Par := par14_53.with 193 (memoF par13 1000 193 tab193_3)
theorem parOk14_54 : ParOk par14_54 := memo_with (base := par) parOk13 rfl rfl parOk14_53 rfl rfl ok193_3
noncomputable def par14_55 : Par := par14_54.with 230 (memoF par13 1000 230 tab230_0)
theorem parOk14_55 : ParOk par14_55 := memo_with (base := par) parOk13 rfl rfl parOk14_54 rfl rfl ok230_0
noncomputable def par14_56 : Par := par14_55.with 237 (memoF par13 1000 237 tab237_0)
theorem parOk14_56 : ParOk par14_56 := memo_with (base := par) parOk13 rfl rfl parOk14_55 rfl rfl ok237_0
noncomputable def par14_57 : Par := par14_56.with 239 (memoF par13 1000 239 tab239_0)
theorem parOk14_57 : ParOk par14_57 := memo_with (base := par) parOk13 rfl rfl parOk14_56 rfl rfl ok239_0
noncomputable def par14_58 : Par := par14_57.with 244 (memoF par13 1000 244 tab244_1)
theorem parOk14_58 : ParOk par14_58 := memo_with (base := par) parOk13 rfl rfl parOk14_57 rfl rfl ok244_1
noncomputable def par14_59 : Par := par14_58.with 247 (memoF par13 1000 247 tab247_1)
theorem parOk14_59 : ParOk par14_59 := memo_with (base := par) parOk13 rfl rfl parOk14_58 rfl rfl ok247_1
noncomputable def par14_60 : Par := par14_59.with 250 (memoF par13 1000 250 tab250_0)
theorem parOk14_60 : ParOk par14_60 := memo_with (base := par) parOk13 rfl rfl parOk14_59 rfl rfl ok250_0
noncomputable def par14_61 : Par := par14_60.with 251 (memoF par13 1000 251 tab251_2)
theorem parOk14_61 : ParOk par14_61 := memo_with (base := par) parOk13 rfl rfl parOk14_60 rfl rfl ok251_2
noncomputable def par14_62 : Par := par14_61.with 291 (memoF par13 1000 291 tab291_0)
theorem parOk14_62 : ParOk par14_62 := memo_with (base := par) parOk13 rfl rfl parOk14_61 rfl rfl ok291_0
noncomputable def par14_63 : Par := par14_62.with 296 (memoF par13 1000 296 tab296_4)
theorem parOk14_63 : ParOk par14_63 := memo_with (base := par) parOk13 rfl rfl parOk14_62 rfl rfl ok296_4
noncomputable def par14_64 : Par := par14_63.with 307 (memoF par13 1000 307 tab307_0)
theorem parOk14_64 : ParOk par14_64 := memo_with (base := par) parOk13 rfl rfl parOk14_63 rfl rfl ok307_0
noncomputable def par14_65 : Par := par14_64.with 311 (memoF par13 1000 311 tab311_0)
theorem parOk14_65 : ParOk par14_65 := memo_with (base := par) parOk13 rfl rfl parOk14_64 rfl rfl ok311_0
noncomputable def par14_66 : Par := par14_65.with 313 (memoF par13 1000 313 tab313_1)
theorem parOk14_66 : ParOk par14_66 := memo_with (base := par) parOk13 rfl rfl parOk14_65 rfl rfl ok313_1
noncomputable def par14_67 : Par := par14_66.with 332 (memoF par13 1000 332 tab332_2)
theorem parOk14_67 : ParOk par14_67 := memo_with (base := par) parOk13 rfl rfl parOk14_66 rfl rfl ok332_2
noncomputable def par14_68 : Par := par14_67.with 333 (memoF par13 1000 333 tab333_3)
theorem parOk14_68 : ParOk par14_68 := memo_with (base := par) parOk13 rfl rfl parOk14_67 rfl rfl ok333_3
noncomputable def par14_69 : Par := par14_68.with 335 (memoF par13 1000 335 tab335_1)
theorem parOk14_69 : ParOk par14_69 := memo_with (base := par) parOk13 rfl rfl parOk14_68 rfl rfl ok335_1
noncomputable def par14 : Par := par14_69.with 344 (memoF par13 1000 344 tab344_0)
theorem parOk14 : ParOk par14 := memo_with (base := par) parOk13 rfl rfl parOk14_69 rfl rfl ok344_0
end Go.Proofs.YtjofohhnkdbfbaaGreatDoor
