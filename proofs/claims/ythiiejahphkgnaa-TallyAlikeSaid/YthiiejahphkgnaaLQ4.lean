/- The machine that the proofs walk by, and what the functions compute: part 4 of the common texts. No condition. (Own work.) -/
import Derived.Test.YthiiejahphkgnaaLQ3
set_option linter.unusedVariables false
set_option linter.unusedSimpArgs false
/- What the functions do, printed by program (own work) out of the loaded program. -/
namespace Go.AM.T
open Go Go.AM
noncomputable section
def ty_int : TypeId := 3
def ty_bool : TypeId := 4
def ty_uint8 : TypeId := 5
def ty_string : TypeId := 9
def ty_Sint : TypeId := 22
def ty_2_Sint : TypeId := 23
def ty_ref07_Division : TypeId := 27
def ty_tally_Division : TypeId := 36
def ty_tally_Range : TypeId := 39
def ty_Suint8 : TypeId := 50
def ty_tally_Numbers : TypeId := 66
def ty_tally_Pair : TypeId := 71
def ty_tally_Proxy : TypeId := 73
def ty_tally_looked : TypeId := 78
def ty_ref07_Pair : TypeId := 82
def ty_ref07_Proxy : TypeId := 83
def ty_tally_truth : TypeId := 88
def ty_Stally_told : TypeId := 99
def ty_func_Sint_int_int_bool : TypeId := 101
def ty_func_Sint_bool : TypeId := 110
def ty_func_int_bool_2 : TypeId := 112
def ty_func_tally_truth_bool : TypeId := 113
def ty_func_tally_truth_int_bool : TypeId := 114
def ty_tally_rule : TypeId := 119
def ty_tally_told : TypeId := 127
def ty_func_tally_Division_bool : TypeId := 134
def ty_map_int_bool : TypeId := 147
def ty_func_tally_Proxy_bool : TypeId := 149
def z_tally_looked : List RV := ([.lit (.int .i64 0), .nil, .nil, .nil, .nil, .nil, .nil, .lit (.int .u8 0), .lit (.int .i64 0), .lit (.int .i64 0), .lit (.int .u8 0)] ++ List.replicate 40 (.lit (.bool false)) ++ List.replicate 40 (.nil))
def z_tally_truth : List RV := (List.replicate 40 (.lit (.int .u8 0)))
def z_tally_told : List RV := (List.replicate 41 (.lit (.int .u8 0)))
def fn_law07_TallyAlike : FuncId := 4
def fn_law07_wakes : FuncId := 10
def fn_tally_Doubts : FuncId := 11
def fn_law07_Division : FuncId := 12
def fn_tally_Bounds : FuncId := 13
def fn_law07_fault : FuncId := 14
def fn_law07_ints : FuncId := 15
def fn_ref07_Doubts : FuncId := 16
def fn_law07_open : FuncId := 17
def fn_law07_Few : FuncId := 20
def fn_ref07_Right : FuncId := 21
def fn_law07_list : FuncId := 22
def fn_tally_Allowed : FuncId := 23
def fn_tally_Ask : FuncId := 24
def fn_tally_Clash : FuncId := 25
def fn_law07_ready : FuncId := 26
def fn_ref07_Has : FuncId := 28
def fn_ref07_Clash : FuncId := 30
def fn_law07_votes : FuncId := 33
def fn_law07_lobbies : FuncId := 35
def fn_tally_begin : FuncId := 37
def fn_tally_looked_doubts : FuncId := 38
def fn_tally_open : FuncId := 39
def fn_tally_looked_truths : FuncId := 40
def fn_tally_looked_numbers : FuncId := 41
def fn_tally_least : FuncId := 42
def fn_tally_greatest : FuncId := 43
def fn_ref07_May : FuncId := 44
def fn_ref07_In : FuncId := 46
def fn_ref07_list : FuncId := 47
def fn_tally_looked_outcome : FuncId := 48
def fn_slices_Contains_Suint8_uint8 : FuncId := 49
def fn_slices_Sort_Suint8_uint8 : FuncId := 50
def fn_tally_looked_all : FuncId := 51
def fn_tally_Ask_1 : FuncId := 52
def fn_slices_Clone_Sint_int : FuncId := 53
def fn_tally_decide : FuncId := 54
def fn_tally_Division_valid : FuncId := 55
def fn_tally_Division_look : FuncId := 56
def fn_tally_looked_clash : FuncId := 57
def fn_ref07_On : FuncId := 58
def fn_tally_rising : FuncId := 62
def fn_tally_all_int : FuncId := 63
def fn_slices_Contains_Sint_int : FuncId := 65
def fn_tally_looked_truths_1 : FuncId := 66
def fn_tally_looked_truths_1_1 : FuncId := 67
def fn_tally_looked_numbers_1 : FuncId := 68
def fn_slices_Min_Sint_int : FuncId := 69
def fn_slices_Max_Sint_int : FuncId := 70
def fn_ref07_Rising : FuncId := 71
def fn_tally_rules : FuncId := 72
def fn_slices_Index_Suint8_uint8 : FuncId := 73
def fn_slices_pdqsortOrdered_uint8 : FuncId := 74
def fn_math_bits_Len : FuncId := 75
def fn_tally_within : FuncId := 76
def fn_tally_all_Sint : FuncId := 77
def fn_tally_Division_listed : FuncId := 78
def fn_tally_Division_bound : FuncId := 79
def fn_tally_Division_votes : FuncId := 80
def fn_slices_ContainsFunc_Sint_int : FuncId := 83
def fn_tally_all_int_1 : FuncId := 84
def fn_slices_Index_Sint_int : FuncId := 85
def fn_tally_rules_1 : FuncId := 86
def fn_tally_rules_2 : FuncId := 87
def fn_tally_rules_3 : FuncId := 88
def fn_tally_rules_4 : FuncId := 89
def fn_slices_insertionSortOrdered_uint8 : FuncId := 90
def fn_slices_heapSortOrdered_uint8 : FuncId := 91
def fn_slices_breakPatternsOrdered_uint8 : FuncId := 92
def fn_slices_choosePivotOrdered_uint8 : FuncId := 93
def fn_slices_reverseRangeOrdered_uint8 : FuncId := 94
def fn_slices_partialInsertionSortOrdered_uint8 : FuncId := 95
def fn_cmp_Less_uint8 : FuncId := 96
def fn_slices_partitionEqualOrdered_uint8 : FuncId := 97
def fn_slices_partitionOrdered_uint8 : FuncId := 98
def fn_math_bits_Len32 : FuncId := 99
def fn_math_bits_Len64 : FuncId := 100
def fn_slices_ContainsFunc_SSint_Sint : FuncId := 101
def fn_tally_all_Sint_1 : FuncId := 102
def fn_tally_Division_member : FuncId := 103
def fn_tally_all_tally_Proxy : FuncId := 104
def fn_tally_Division_bound_1 : FuncId := 105
def fn_tally_on : FuncId := 106
def fn_slices_IndexFunc_Sint_int : FuncId := 108
def fn_cmp_isNaN_uint8 : FuncId := 114
def fn_slices_IndexFunc_SSint_Sint : FuncId := 115
def fn_slices_ContainsFunc_Stally_Proxy_tally_Proxy : FuncId := 116
def fn_tally_all_tally_Proxy_1 : FuncId := 117
def fn_slices_IndexFunc_Stally_Proxy_tally_Proxy : FuncId := 119
@[simp] def r_law07_TallyAlike_0 : List AI := [⟨none, some 148, .mov (.t 17)⟩,
  ⟨none, some 149, .bin .eql (.t 148) (.k (.lit (.int .i64 0)))⟩,
  ⟨none, some 150, .mov (.t 149)⟩,
  ⟨some (150, true), some 151, .mov (.t 20)⟩,
  ⟨some (150, true), some 152, .bin .eql (.t 151) (.k (.lit (.int .i64 0)))⟩,
  ⟨none, some 153, .pick (.t 150) (.t 152) (.k (.lit (.bool false)))⟩,
  ⟨none, some 154, .mov (.t 153)⟩,
  ⟨some (154, true), some 155, .mov (.t 22)⟩,
  ⟨some (154, true), some 156, .bin .eql (.t 155) (.k (.lit (.int .i64 0)))⟩,
  ⟨none, some 157, .pick (.t 154) (.t 156) (.k (.lit (.bool false)))⟩,
  ⟨none, some 158, .mov (.t 157)⟩,
  ⟨some (158, true), some 159, .mov (.t 24)⟩,
  ⟨some (158, true), some 160, .bin .eql (.t 159) (.k (.lit (.int .i64 0)))⟩,
  ⟨none, some 161, .pick (.t 158) (.t 160) (.k (.lit (.bool false)))⟩,
  ⟨none, some 162, .mov (.t 161)⟩,
  ⟨some (162, true), some 163, .load 2 true (.t 15)⟩,
  ⟨some (162, true), some 164, .load 2 true (.t 18)⟩,
  ⟨some (162, true), some 165, .eqs false [.i, .i] (.t 163) (.t 164)⟩,
  ⟨none, some 166, .pick (.t 162) (.t 165) (.k (.lit (.bool false)))⟩,
  ⟨none, some 167, .mov (.t 166)⟩,
  ⟨some (167, true), some 168, .load 2 true (.t 16)⟩,
  ⟨some (167, true), some 169, .load 2 true (.t 19)⟩,
  ⟨some (167, true), some 170, .eqs false [.i, .i] (.t 168) (.t 169)⟩,
  ⟨none, some 171, .pick (.t 167) (.t 170) (.k (.lit (.bool false)))⟩,
  ⟨none, some 172, .mov (.t 171)⟩,
  ⟨some (172, true), some 173, .mov (.t 21)⟩,
  ⟨some (172, true), some 174, .mov (.t 23)⟩,
  ⟨some (172, true), some 175, .call (.k (.fn fn_law07_ints [] [])) [(.t 173), (.t 174)]⟩,
  ⟨none, some 176, .pick (.t 172) (.t 175) (.k (.lit (.bool false)))⟩,
  ⟨none, some 177, .mov (.t 176)⟩,
  ⟨some (177, true), some 178, .call (.k (.fn fn_law07_wakes [] [])) []⟩,
  ⟨none, some 179, .pick (.t 177) (.t 178) (.k (.lit (.bool false)))⟩,
  ⟨none, some 4, .mov (.t 179)⟩]
@[simp] def r_law07_TallyAlike_1 : List AI := [⟨none, some 144, .load 11 true (.t 14)⟩,
  ⟨none, some 145, .call (.k (.fn fn_tally_Ask [] [])) [(.t 144)]⟩,
  ⟨none, some 143, .mov (.t 145)⟩,
  ⟨none, some 146, .ext 0 (.t 143)⟩,
  ⟨none, some 147, .ext 1 (.t 143)⟩,
  ⟨none, some 23, .mov (.t 146)⟩,
  ⟨none, some 24, .mov (.t 147)⟩]
@[simp] def r_law07_TallyAlike_2 : List AI := [⟨none, some 138, .load 11 true (.t 2)⟩,
  ⟨none, some 139, .call (.k (.fn fn_law07_Division [] [])) [(.t 138)]⟩,
  ⟨none, some 140, .call (.k (.fn fn_tally_Ask [] [])) [(.t 139)]⟩,
  ⟨none, some 137, .mov (.t 140)⟩,
  ⟨none, some 141, .ext 0 (.t 137)⟩,
  ⟨none, some 142, .ext 1 (.t 137)⟩,
  ⟨none, some 21, .mov (.t 141)⟩,
  ⟨none, some 22, .mov (.t 142)⟩]
@[simp] def r_law07_TallyAlike_3 : List AI := [⟨none, some 132, .load 11 true (.t 14)⟩,
  ⟨none, some 133, .call (.k (.fn fn_tally_Bounds [] [])) [(.t 132)]⟩,
  ⟨none, some 131, .mov (.t 133)⟩,
  ⟨none, some 134, .ext 0 (.t 131)⟩,
  ⟨none, some 135, .ext 1 (.t 131)⟩,
  ⟨none, some 136, .ext 2 (.t 131)⟩,
  ⟨none, some 18, .alloc ty_tally_Range [.lit (.int .i64 0), .lit (.int .i64 0)]⟩,
  ⟨none, some 19, .alloc ty_tally_Range [.lit (.int .i64 0), .lit (.int .i64 0)]⟩,
  ⟨none, none, .store 2 (.t 18) (.t 134)⟩,
  ⟨none, none, .store 2 (.t 19) (.t 135)⟩,
  ⟨none, some 20, .mov (.t 136)⟩]
@[simp] def r_law07_TallyAlike_4 : List AI := [⟨none, some 125, .load 11 true (.t 2)⟩,
  ⟨none, some 126, .call (.k (.fn fn_law07_Division [] [])) [(.t 125)]⟩,
  ⟨none, some 127, .call (.k (.fn fn_tally_Bounds [] [])) [(.t 126)]⟩,
  ⟨none, some 124, .mov (.t 127)⟩,
  ⟨none, some 128, .ext 0 (.t 124)⟩,
  ⟨none, some 129, .ext 1 (.t 124)⟩,
  ⟨none, some 130, .ext 2 (.t 124)⟩,
  ⟨none, some 15, .alloc ty_tally_Range [.lit (.int .i64 0), .lit (.int .i64 0)]⟩,
  ⟨none, some 16, .alloc ty_tally_Range [.lit (.int .i64 0), .lit (.int .i64 0)]⟩,
  ⟨none, none, .store 2 (.t 15) (.t 128)⟩,
  ⟨none, none, .store 2 (.t 16) (.t 129)⟩,
  ⟨none, some 17, .mov (.t 130)⟩]
@[simp] def r_law07_TallyAlike_5 : List AI := [⟨none, some 104, .padd 1 (.t 14)⟩,
  ⟨none, some 105, .idxA 2 1 (.t 104) (.k (.lit (.int .i64 1)))⟩,
  ⟨none, some 106, .load 1 false (.t 105)⟩,
  ⟨none, some 107, .padd 1 (.t 14)⟩,
  ⟨none, some 108, .idxA 2 1 (.t 107) (.k (.lit (.int .i64 0)))⟩,
  ⟨none, some 109, .load 1 false (.t 108)⟩,
  ⟨none, some 110, .padd 1 (.t 14)⟩,
  ⟨none, some 111, .idxA 2 1 (.t 110) (.k (.lit (.int .i64 0)))⟩,
  ⟨none, none, .store 1 (.t 111) (.t 106)⟩,
  ⟨none, some 112, .padd 1 (.t 14)⟩,
  ⟨none, some 113, .idxA 2 1 (.t 112) (.k (.lit (.int .i64 1)))⟩,
  ⟨none, none, .store 1 (.t 113) (.t 109)⟩]
@[simp] def r_law07_TallyAlike_6 : List AI := [⟨none, some 114, .padd 3 (.t 14)⟩,
  ⟨none, some 115, .idxA 2 1 (.t 114) (.k (.lit (.int .i64 1)))⟩,
  ⟨none, some 116, .load 1 false (.t 115)⟩,
  ⟨none, some 117, .padd 3 (.t 14)⟩,
  ⟨none, some 118, .idxA 2 1 (.t 117) (.k (.lit (.int .i64 0)))⟩,
  ⟨none, some 119, .load 1 false (.t 118)⟩,
  ⟨none, some 120, .padd 3 (.t 14)⟩,
  ⟨none, some 121, .idxA 2 1 (.t 120) (.k (.lit (.int .i64 0)))⟩,
  ⟨none, none, .store 1 (.t 121) (.t 116)⟩,
  ⟨none, some 122, .padd 3 (.t 14)⟩,
  ⟨none, some 123, .idxA 2 1 (.t 122) (.k (.lit (.int .i64 1)))⟩,
  ⟨none, none, .store 1 (.t 123) (.t 119)⟩]
@[simp] def r_law07_TallyAlike_7 : List AI := [⟨none, some 103, .mov (.t 1)⟩]
@[simp] def r_law07_TallyAlike_8 : List AI := [⟨none, some 101, .load 11 true (.t 2)⟩,
  ⟨none, some 102, .call (.k (.fn fn_law07_Division [] [])) [(.t 101)]⟩,
  ⟨none, some 14, .alloc ty_tally_Division [.lit (.int .i64 0), .nil, .nil, .nil, .nil, .nil, .nil, .lit (.int .u8 0), .lit (.int .i64 0), .lit (.int .i64 0), .lit (.int .u8 0)]⟩,
  ⟨none, none, .store 11 (.t 14) (.t 102)⟩]
@[simp] def r_law07_TallyAlike_9 : List AI := [⟨none, some 100, .call (.k (.fn fn_law07_wakes [] [])) []⟩,
  ⟨none, some 4, .mov (.t 100)⟩]
@[simp] def r_law07_TallyAlike_10 : List AI := [⟨none, some 97, .load 11 true (.t 2)⟩,
  ⟨none, some 98, .call (.k (.fn fn_law07_ready [] [])) [(.t 97)]⟩,
  ⟨none, some 99, .not (.t 98)⟩]
@[simp] def r_law07_TallyAlike_11 : List AI := [⟨none, some 4, .mov (.k (.lit (.bool false)))⟩]
@[simp] def r_law07_TallyAlike_12 : List AI := [⟨none, some 65, .mov (.t 9)⟩,
  ⟨none, some 66, .bin .neq (.t 65) (.k (.lit (.int .i64 0)))⟩,
  ⟨none, some 67, .mov (.t 66)⟩,
  ⟨some (67, false), some 68, .mov (.t 11)⟩,
  ⟨some (67, false), some 69, .bin .neq (.t 68) (.k (.lit (.int .i64 0)))⟩,
  ⟨none, some 70, .pick (.t 67) (.k (.lit (.bool true))) (.t 69)⟩,
  ⟨none, some 71, .mov (.t 70)⟩,
  ⟨some (71, false), some 72, .mov (.t 6)⟩,
  ⟨some (71, false), some 73, .lenS (.t 72)⟩,
  ⟨some (71, false), some 74, .bin .neq (.t 73) (.k (.lit (.int .i64 0)))⟩,
  ⟨none, some 75, .pick (.t 71) (.k (.lit (.bool true))) (.t 74)⟩,
  ⟨none, some 76, .mov (.t 75)⟩,
  ⟨some (76, false), some 77, .mov (.t 8)⟩,
  ⟨some (76, false), some 78, .lenS (.t 77)⟩,
  ⟨some (76, false), some 79, .bin .neq (.t 78) (.k (.lit (.int .i64 1)))⟩,
  ⟨none, some 80, .pick (.t 76) (.k (.lit (.bool true))) (.t 79)⟩,
  ⟨none, some 81, .mov (.t 80)⟩,
  ⟨some (81, false), some 82, .mov (.t 10)⟩,
  ⟨some (81, false), some 83, .lenS (.t 82)⟩,
  ⟨some (81, false), some 84, .bin .neq (.t 83) (.k (.lit (.int .i64 0)))⟩,
  ⟨none, some 85, .pick (.t 81) (.k (.lit (.bool true))) (.t 84)⟩]
@[simp] def r_law07_TallyAlike_13 : List AI := [⟨none, some 61, .load 11 true (.t 5)⟩,
  ⟨none, some 62, .call (.k (.fn fn_tally_Ask [] [])) [(.t 61)]⟩,
  ⟨none, some 60, .mov (.t 62)⟩,
  ⟨none, some 63, .ext 0 (.t 60)⟩,
  ⟨none, some 64, .ext 1 (.t 60)⟩,
  ⟨none, some 10, .mov (.t 63)⟩,
  ⟨none, some 11, .mov (.t 64)⟩]
@[simp] def r_law07_TallyAlike_14 : List AI := [⟨none, some 56, .load 11 true (.t 5)⟩,
  ⟨none, some 57, .call (.k (.fn fn_tally_Allowed [] [])) [(.t 56)]⟩,
  ⟨none, some 55, .mov (.t 57)⟩,
  ⟨none, some 58, .ext 0 (.t 55)⟩,
  ⟨none, some 59, .ext 1 (.t 55)⟩,
  ⟨none, some 8, .mov (.t 58)⟩,
  ⟨none, some 9, .mov (.t 59)⟩]
@[simp] def r_law07_TallyAlike_15 : List AI := [⟨none, some 4, .mov (.k (.lit (.bool false)))⟩]
@[simp] def r_law07_TallyAlike_16 : List AI := [⟨none, some 91, .mov (.t 7)⟩,
  ⟨none, some 92, .bin .neq (.t 91) (.k (.lit (.int .i64 9)))⟩,
  ⟨none, some 93, .mov (.t 92)⟩,
  ⟨some (93, false), some 94, .mov (.t 13)⟩,
  ⟨some (93, false), some 95, .bin .neq (.t 94) (.k (.lit (.int .i64 0)))⟩,
  ⟨none, some 96, .pick (.t 93) (.k (.lit (.bool true))) (.t 95)⟩]
@[simp] def r_law07_TallyAlike_17 : List AI := [⟨none, some 87, .load 11 true (.t 5)⟩,
  ⟨none, some 88, .call (.k (.fn fn_tally_Clash [] [])) [(.t 87)]⟩,
  ⟨none, some 86, .mov (.t 88)⟩,
  ⟨none, some 89, .ext 0 (.t 86)⟩,
  ⟨none, some 90, .ext 1 (.t 86)⟩,
  ⟨none, some 12, .mov (.t 89)⟩,
  ⟨none, some 13, .mov (.t 90)⟩]
@[simp] def r_law07_TallyAlike_18 : List AI := [⟨none, some 53, .mov (.t 7)⟩,
  ⟨none, some 54, .bin .eql (.t 53) (.k (.lit (.int .i64 0)))⟩]
@[simp] def r_law07_TallyAlike_19 : List AI := [⟨none, some 49, .load 11 true (.t 5)⟩,
  ⟨none, some 50, .call (.k (.fn fn_tally_Doubts [] [])) [(.t 49)]⟩,
  ⟨none, some 48, .mov (.t 50)⟩,
  ⟨none, some 51, .ext 0 (.t 48)⟩,
  ⟨none, some 52, .ext 1 (.t 48)⟩,
  ⟨none, some 6, .mov (.t 51)⟩,
  ⟨none, some 7, .mov (.t 52)⟩]
@[simp] def r_law07_TallyAlike_20 : List AI := [⟨none, some 36, .padd 1 (.t 2)⟩,
  ⟨none, some 37, .idxA 2 1 (.t 36) (.k (.lit (.int .i64 0)))⟩,
  ⟨none, some 38, .load 1 false (.t 37)⟩,
  ⟨none, some 39, .call (.k (.fn fn_law07_list [] [])) [(.t 38)]⟩,
  ⟨none, some 40, .padd 3 (.t 2)⟩,
  ⟨none, some 41, .idxA 2 1 (.t 40) (.k (.lit (.int .i64 0)))⟩,
  ⟨none, some 42, .load 1 false (.t 41)⟩,
  ⟨none, some 43, .call (.k (.fn fn_law07_list [] [])) [(.t 42)]⟩,
  ⟨none, some 44, .padd 1 (.t 5)⟩,
  ⟨none, some 45, .idxA 2 1 (.t 44) (.k (.lit (.int .i64 1)))⟩,
  ⟨none, none, .store 1 (.t 45) (.t 39)⟩,
  ⟨none, some 46, .padd 3 (.t 5)⟩,
  ⟨none, some 47, .idxA 2 1 (.t 46) (.k (.lit (.int .i64 1)))⟩,
  ⟨none, none, .store 1 (.t 47) (.t 43)⟩]
@[simp] def r_law07_TallyAlike_21 : List AI := [⟨none, some 34, .load 11 true (.t 2)⟩,
  ⟨none, some 35, .call (.k (.fn fn_law07_Division [] [])) [(.t 34)]⟩,
  ⟨none, some 5, .alloc ty_tally_Division [.lit (.int .i64 0), .nil, .nil, .nil, .nil, .nil, .nil, .lit (.int .u8 0), .lit (.int .i64 0), .lit (.int .i64 0), .lit (.int .u8 0)]⟩,
  ⟨none, none, .store 11 (.t 5) (.t 35)⟩]
@[simp] def r_law07_TallyAlike_22 : List AI := [⟨none, some 33, .call (.k (.fn fn_law07_wakes [] [])) []⟩,
  ⟨none, some 4, .mov (.t 33)⟩]
@[simp] def r_law07_TallyAlike_23 : List AI := [⟨none, some 25, .load 11 true (.t 2)⟩,
  ⟨none, some 26, .call (.k (.fn fn_law07_Few [] [])) [(.t 25)]⟩,
  ⟨none, some 27, .not (.t 26)⟩,
  ⟨none, some 28, .mov (.t 27)⟩,
  ⟨some (28, false), some 29, .load 11 true (.t 2)⟩,
  ⟨some (28, false), some 30, .call (.k (.fn fn_ref07_Right [] [])) [(.t 29)]⟩,
  ⟨some (28, false), some 31, .not (.t 30)⟩,
  ⟨none, some 32, .pick (.t 28) (.k (.lit (.bool true))) (.t 31)⟩]
@[simp] def r_law07_TallyAlike_24 : List AI := [⟨none, some 2, .box ty_ref07_Division (.t 0)⟩,
  ⟨none, some 4, .mov (.k (.lit (.bool false)))⟩]
def a_law07_TallyAlike : AFn := { nparams := 2, res := [.tmp 4], body :=
 (.seq (.seq (.reg r_law07_TallyAlike_24) (.keep [1, 2]))
 (.seq (.seq (.seq (.reg r_law07_TallyAlike_23) (.keep [1, 2, 32]))
 (.cond (.t 32)
 (.seq (.seq (.reg r_law07_TallyAlike_22) (.keep [4]))
 .ret)
 .skip))
 (.seq (.seq (.reg r_law07_TallyAlike_21) (.keep [1, 2, 5]))
 (.seq (.seq (.draw r_law07_TallyAlike_20 0 [(3, 6)] [0, 1, 2, 3, 4, 5, 6, 7, 8, 9, 10, 11, 12, 13]) (.keep [1, 2, 5]))
 (.seq (.seq (.reg r_law07_TallyAlike_19) (.keep [1, 2, 5, 6, 7]))
 (.seq (.seq (.seq (.reg r_law07_TallyAlike_18) (.keep [1, 2, 5, 6, 7, 54]))
 (.cond (.t 54)
 (.seq (.seq (.reg r_law07_TallyAlike_14) (.keep [1, 2, 5, 6, 8, 9]))
 (.seq (.seq (.reg r_law07_TallyAlike_13) (.keep [1, 2, 6, 8, 9, 10, 11]))
 (.seq (.seq (.reg r_law07_TallyAlike_12) (.keep [1, 2, 85]))
 (.cond (.t 85)
 (.seq (.reg r_law07_TallyAlike_11)
 .ret)
 .skip))))
 (.seq (.seq (.reg r_law07_TallyAlike_17) (.keep [1, 2, 7, 13]))
 (.seq (.seq (.reg r_law07_TallyAlike_16) (.keep [1, 2, 96]))
 (.cond (.t 96)
 (.seq (.reg r_law07_TallyAlike_15)
 .ret)
 .skip)))))
 (.seq (.seq (.seq (.reg r_law07_TallyAlike_10) (.keep [1, 2, 99]))
 (.cond (.t 99)
 (.seq (.seq (.reg r_law07_TallyAlike_9) (.keep [4]))
 .ret)
 .skip))
 (.seq (.seq (.reg r_law07_TallyAlike_8) (.keep [1, 2, 14]))
 (.seq (.seq (.reg r_law07_TallyAlike_7)
 (.cond (.t 103)
 (.seq (.reg r_law07_TallyAlike_5) (.keep [2, 14]))
 (.seq (.reg r_law07_TallyAlike_6) (.keep [2, 14]))))
 (.seq (.seq (.reg r_law07_TallyAlike_4) (.keep [2, 14, 15, 16, 17]))
 (.seq (.seq (.reg r_law07_TallyAlike_3) (.keep [2, 14, 15, 16, 17, 18, 19, 20]))
 (.seq (.seq (.reg r_law07_TallyAlike_2) (.keep [14, 15, 16, 17, 18, 19, 20, 21, 22]))
 (.seq (.seq (.reg r_law07_TallyAlike_1) (.keep [15, 16, 17, 18, 19, 20, 21, 22, 23, 24]))
 (.seq (.seq (.reg r_law07_TallyAlike_0) (.keep [4]))
 .ret)))))))))))))) }
@[simp] def r_law07_wakes_0 : List AI := [⟨none, some 31, .mov (.t 2)⟩,
  ⟨none, some 32, .bin .eql (.t 31) (.k (.lit (.int .i64 0)))⟩,
  ⟨none, some 33, .mov (.t 32)⟩,
  ⟨some (33, true), some 34, .mov (.t 5)⟩,
  ⟨some (33, true), some 35, .bin .eql (.t 34) (.k (.lit (.int .i64 0)))⟩,
  ⟨none, some 36, .pick (.t 33) (.t 35) (.k (.lit (.bool false)))⟩,
  ⟨none, some 37, .mov (.t 36)⟩,
  ⟨some (37, true), some 38, .mov (.t 7)⟩,
  ⟨some (37, true), some 39, .bin .eql (.t 38) (.k (.lit (.int .i64 0)))⟩,
  ⟨none, some 40, .pick (.t 37) (.t 39) (.k (.lit (.bool false)))⟩,
  ⟨none, some 41, .mov (.t 40)⟩,
  ⟨some (41, true), some 42, .mov (.t 9)⟩,
  ⟨some (41, true), some 43, .bin .eql (.t 42) (.k (.lit (.int .i64 0)))⟩,
  ⟨none, some 44, .pick (.t 41) (.t 43) (.k (.lit (.bool false)))⟩,
  ⟨none, some 45, .mov (.t 44)⟩,
  ⟨some (45, true), some 46, .mov (.t 1)⟩,
  ⟨some (45, true), some 47, .slit ty_int [.lit (.int .i64 0)] 2 1 [(0, 1, (.k (.lit (.int .i64 2)))), (1, 1, (.k (.lit (.int .i64 3))))]⟩,
  ⟨some (45, true), some 48, .call (.k (.fn fn_law07_ints [] [])) [(.t 46), (.t 47)]⟩,
  ⟨none, some 49, .pick (.t 45) (.t 48) (.k (.lit (.bool false)))⟩,
  ⟨none, some 50, .mov (.t 49)⟩,
  ⟨some (50, true), some 51, .load 2 true (.t 3)⟩,
  ⟨some (50, true), some 52, .build [.lit (.int .i64 0), .lit (.int .i64 0)] [(0, 1, (.k (.lit (.int .i64 2)))), (1, 1, (.k (.lit (.int .i64 4))))]⟩,
  ⟨some (50, true), some 53, .eqs false [.i, .i] (.t 51) (.t 52)⟩,
  ⟨none, some 54, .pick (.t 50) (.t 53) (.k (.lit (.bool false)))⟩,
  ⟨none, some 55, .mov (.t 54)⟩,
  ⟨some (55, true), some 56, .load 2 true (.t 4)⟩,
  ⟨some (55, true), some 57, .build [.lit (.int .i64 0), .lit (.int .i64 0)] [(0, 1, (.k (.lit (.int .i64 2)))), (1, 1, (.k (.lit (.int .i64 3))))]⟩,
  ⟨some (55, true), some 58, .eqs false [.i, .i] (.t 56) (.t 57)⟩,
  ⟨none, some 59, .pick (.t 55) (.t 58) (.k (.lit (.bool false)))⟩,
  ⟨none, some 60, .mov (.t 59)⟩,
  ⟨some (60, true), some 61, .mov (.t 6)⟩,
  ⟨some (60, true), some 62, .slit ty_uint8 [.lit (.int .u8 0)] 2 1 [(0, 1, (.k (.lit (.int .u8 0)))), (1, 1, (.k (.lit (.int .u8 1))))]⟩,
  ⟨some (60, true), some 63, .call (.k (.fn fn_law07_votes [] [])) [(.t 61), (.t 62)]⟩,
  ⟨none, some 64, .pick (.t 60) (.t 63) (.k (.lit (.bool false)))⟩,
  ⟨none, some 65, .mov (.t 64)⟩,
  ⟨some (65, true), some 66, .mov (.t 8)⟩,
  ⟨some (65, true), some 67, .slit ty_int [.lit (.int .i64 0)] 1 1 [(0, 1, (.k (.lit (.int .i64 3))))]⟩,
  ⟨some (65, true), some 68, .call (.k (.fn fn_law07_ints [] [])) [(.t 66), (.t 67)]⟩,
  ⟨none, some 69, .pick (.t 65) (.t 68) (.k (.lit (.bool false)))⟩,
  ⟨none, some 0, .mov (.t 69)⟩]
@[simp] def r_law07_wakes_1 : List AI := [⟨none, some 27, .call (.k (.fn fn_law07_lobbies [] [])) []⟩,
  ⟨none, some 28, .call (.k (.fn fn_tally_Ask [] [])) [(.t 27)]⟩,
  ⟨none, some 26, .mov (.t 28)⟩,
  ⟨none, some 29, .ext 0 (.t 26)⟩,
  ⟨none, some 30, .ext 1 (.t 26)⟩,
  ⟨none, some 8, .mov (.t 29)⟩,
  ⟨none, some 9, .mov (.t 30)⟩]
@[simp] def r_law07_wakes_2 : List AI := [⟨none, some 22, .call (.k (.fn fn_law07_lobbies [] [])) []⟩,
  ⟨none, some 23, .call (.k (.fn fn_tally_Allowed [] [])) [(.t 22)]⟩,
  ⟨none, some 21, .mov (.t 23)⟩,
  ⟨none, some 24, .ext 0 (.t 21)⟩,
  ⟨none, some 25, .ext 1 (.t 21)⟩,
  ⟨none, some 6, .mov (.t 24)⟩,
  ⟨none, some 7, .mov (.t 25)⟩]
@[simp] def r_law07_wakes_3 : List AI := [⟨none, some 16, .call (.k (.fn fn_law07_lobbies [] [])) []⟩,
  ⟨none, some 17, .call (.k (.fn fn_tally_Bounds [] [])) [(.t 16)]⟩,
  ⟨none, some 15, .mov (.t 17)⟩,
  ⟨none, some 18, .ext 0 (.t 15)⟩,
  ⟨none, some 19, .ext 1 (.t 15)⟩,
  ⟨none, some 20, .ext 2 (.t 15)⟩,
  ⟨none, some 3, .alloc ty_tally_Range [.lit (.int .i64 0), .lit (.int .i64 0)]⟩,
  ⟨none, some 4, .alloc ty_tally_Range [.lit (.int .i64 0), .lit (.int .i64 0)]⟩,
  ⟨none, none, .store 2 (.t 3) (.t 18)⟩,
  ⟨none, none, .store 2 (.t 4) (.t 19)⟩,
  ⟨none, some 5, .mov (.t 20)⟩]
@[simp] def r_law07_wakes_4 : List AI := [⟨none, some 11, .call (.k (.fn fn_law07_lobbies [] [])) []⟩,
  ⟨none, some 12, .call (.k (.fn fn_tally_Doubts [] [])) [(.t 11)]⟩,
  ⟨none, some 10, .mov (.t 12)⟩,
  ⟨none, some 13, .ext 0 (.t 10)⟩,
  ⟨none, some 14, .ext 1 (.t 10)⟩,
  ⟨none, some 1, .mov (.t 13)⟩,
  ⟨none, some 2, .mov (.t 14)⟩]
@[simp] def r_law07_wakes_5 : List AI := [⟨none, some 0, .mov (.k (.lit (.bool false)))⟩]
def a_law07_wakes : AFn := { nparams := 0, res := [.tmp 0], body :=
 (.seq (.reg r_law07_wakes_5)
 (.seq (.seq (.reg r_law07_wakes_4) (.keep [1, 2]))
 (.seq (.seq (.reg r_law07_wakes_3) (.keep [1, 2, 3, 4, 5]))
 (.seq (.seq (.reg r_law07_wakes_2) (.keep [1, 2, 3, 4, 5, 6, 7]))
 (.seq (.seq (.reg r_law07_wakes_1) (.keep [1, 2, 3, 4, 5, 6, 7, 8, 9]))
 (.seq (.seq (.reg r_law07_wakes_0) (.keep [0]))
 .ret)))))) }
@[simp] def r_tally_Doubts_0 : List AI := [⟨none, some 14, .load 91 true (.t 4)⟩,
  ⟨none, some 15, .call (.k (.fn fn_tally_looked_doubts [] [])) [(.t 14)]⟩,
  ⟨none, some 2, .mov (.t 15)⟩,
  ⟨none, some 3, .mov (.k (.lit (.int .i64 0)))⟩]
@[simp] def r_tally_Doubts_1 : List AI := [⟨none, some 13, .mov (.t 5)⟩,
  ⟨none, some 2, .mov (.k (.nil))⟩,
  ⟨none, some 3, .mov (.t 13)⟩]
@[simp] def r_tally_Doubts_2 : List AI := [⟨none, some 11, .mov (.t 5)⟩,
  ⟨none, some 12, .bin .neq (.t 11) (.k (.lit (.int .i64 0)))⟩]
@[simp] def r_tally_Doubts_3 : List AI := [⟨none, some 7, .load 11 true (.t 1)⟩,
  ⟨none, some 8, .call (.k (.fn fn_tally_begin [] [])) [(.t 7)]⟩,
  ⟨none, some 6, .mov (.t 8)⟩,
  ⟨none, some 9, .ext 0 (.t 6)⟩,
  ⟨none, some 10, .ext 1 (.t 6)⟩,
  ⟨none, some 4, .alloc ty_tally_looked z_tally_looked⟩,
  ⟨none, none, .store 91 (.t 4) (.t 9)⟩,
  ⟨none, some 5, .mov (.t 10)⟩]
@[simp] def r_tally_Doubts_4 : List AI := [⟨none, some 1, .box ty_tally_Division (.t 0)⟩,
  ⟨none, some 2, .mov (.k (.nil))⟩,
  ⟨none, some 3, .mov (.k (.lit (.int .i64 0)))⟩]
def a_tally_Doubts : AFn := { nparams := 1, res := [.tmp 2, .tmp 3], body :=
 (.seq (.seq (.reg r_tally_Doubts_4) (.keep [1]))
 (.seq (.seq (.reg r_tally_Doubts_3) (.keep [4, 5]))
 (.seq (.seq (.seq (.reg r_tally_Doubts_2) (.keep [4, 5, 12]))
 (.cond (.t 12)
 (.seq (.seq (.reg r_tally_Doubts_1) (.keep [2, 3]))
 .ret)
 .skip))
 (.seq (.seq (.reg r_tally_Doubts_0) (.keep [2, 3]))
 .ret)))) }
@[simp] def r_law07_Division_0 : List AI := [⟨none, some 88, .load 11 true (.t 3)⟩,
  ⟨none, none, .store 11 (.t 2) (.t 88)⟩]
@[simp] def r_law07_Division_1 : List AI := [⟨none, some 68, .mov (.t 6)⟩,
  ⟨none, some 69, .bin .add (.t 68) (.k (.lit (.int .i64 1)))⟩,
  ⟨none, some 6, .mov (.t 69)⟩]
@[simp] def r_law07_Division_2 : List AI := [⟨none, some 70, .padd 6 (.t 3)⟩,
  ⟨none, some 71, .load 1 false (.t 70)⟩,
  ⟨none, some 72, .padd 6 (.t 1)⟩,
  ⟨none, some 73, .load 1 false (.t 72)⟩,
  ⟨none, some 74, .mov (.t 6)⟩,
  ⟨none, some 75, .idxS 2 (.t 73) (.t 74)⟩,
  ⟨none, some 76, .padd 0 (.t 75)⟩,
  ⟨none, some 77, .load 1 false (.t 76)⟩,
  ⟨none, some 78, .padd 6 (.t 1)⟩,
  ⟨none, some 79, .load 1 false (.t 78)⟩,
  ⟨none, some 80, .mov (.t 6)⟩,
  ⟨none, some 81, .idxS 2 (.t 79) (.t 80)⟩,
  ⟨none, some 82, .padd 1 (.t 81)⟩,
  ⟨none, some 83, .load 1 false (.t 82)⟩,
  ⟨none, some 84, .build [.lit (.int .i64 0), .lit (.int .i64 0)] [(0, 1, (.t 77)), (1, 1, (.t 83))]⟩,
  ⟨none, some 85, .slit ty_tally_Proxy [.lit (.int .i64 0), .lit (.int .i64 0)] 1 2 [(0, 2, (.t 84))]⟩,
  ⟨none, some 86, .app ty_tally_Proxy [.lit (.int .i64 0), .lit (.int .i64 0)] 2 16 (.t 71) (.t 85)⟩,
  ⟨none, some 87, .padd 6 (.t 3)⟩,
  ⟨none, none, .store 1 (.t 87) (.t 86)⟩]
@[simp] def r_law07_Division_3 : List AI := [⟨none, some 63, .mov (.t 6)⟩,
  ⟨none, some 64, .padd 6 (.t 1)⟩,
  ⟨none, some 65, .load 1 false (.t 64)⟩,
  ⟨none, some 66, .lenS (.t 65)⟩,
  ⟨none, some 67, .bin .lss (.t 63) (.t 66)⟩]
def l_law07_Division_0 : AC :=
 (.seq (.seq (.seq (.reg r_law07_Division_3) (.keep [1, 2, 3, 6, 67]))
 (.cond (.t 67)
 .skip
 (.exit 4)))
 (.seq (.block 5
 (.seq (.draw r_law07_Division_2 0 [] [0, 1, 2, 3, 4, 5, 6, 7, 8, 9, 10, 11, 12, 13, 14, 15, 16, 17, 18]) (.keep [1, 2, 3, 6])))
 (.seq (.reg r_law07_Division_1) (.keep [1, 2, 3, 6]))))
@[simp] def r_law07_Division_5 : List AI := [⟨none, some 6, .mov (.k (.lit (.int .i64 0)))⟩]
@[simp] def r_law07_Division_6 : List AI := [⟨none, some 43, .mov (.t 5)⟩,
  ⟨none, some 44, .bin .add (.t 43) (.k (.lit (.int .i64 1)))⟩,
  ⟨none, some 5, .mov (.t 44)⟩]
@[simp] def r_law07_Division_7 : List AI := [⟨none, some 45, .padd 5 (.t 3)⟩,
  ⟨none, some 46, .load 1 false (.t 45)⟩,
  ⟨none, some 47, .padd 5 (.t 1)⟩,
  ⟨none, some 48, .load 1 false (.t 47)⟩,
  ⟨none, some 49, .mov (.t 5)⟩,
  ⟨none, some 50, .idxS 2 (.t 48) (.t 49)⟩,
  ⟨none, some 51, .padd 0 (.t 50)⟩,
  ⟨none, some 52, .load 1 false (.t 51)⟩,
  ⟨none, some 53, .padd 5 (.t 1)⟩,
  ⟨none, some 54, .load 1 false (.t 53)⟩,
  ⟨none, some 55, .mov (.t 5)⟩,
  ⟨none, some 56, .idxS 2 (.t 54) (.t 55)⟩,
  ⟨none, some 57, .padd 1 (.t 56)⟩,
  ⟨none, some 58, .load 1 false (.t 57)⟩,
  ⟨none, some 59, .build [.lit (.int .i64 0), .lit (.int .i64 0)] [(0, 1, (.t 52)), (1, 1, (.t 58))]⟩,
  ⟨none, some 60, .slit ty_tally_Pair [.lit (.int .i64 0), .lit (.int .i64 0)] 1 2 [(0, 2, (.t 59))]⟩,
  ⟨none, some 61, .app ty_tally_Pair [.lit (.int .i64 0), .lit (.int .i64 0)] 2 16 (.t 46) (.t 60)⟩,
  ⟨none, some 62, .padd 5 (.t 3)⟩,
  ⟨none, none, .store 1 (.t 62) (.t 61)⟩]
@[simp] def r_law07_Division_8 : List AI := [⟨none, some 38, .mov (.t 5)⟩,
  ⟨none, some 39, .padd 5 (.t 1)⟩,
  ⟨none, some 40, .load 1 false (.t 39)⟩,
  ⟨none, some 41, .lenS (.t 40)⟩,
  ⟨none, some 42, .bin .lss (.t 38) (.t 41)⟩]
def l_law07_Division_1 : AC :=
 (.seq (.seq (.seq (.reg r_law07_Division_8) (.keep [1, 2, 3, 5, 42]))
 (.cond (.t 42)
 .skip
 (.exit 2)))
 (.seq (.block 3
 (.seq (.draw r_law07_Division_7 0 [] [0, 1, 2, 3, 4, 5, 6, 7, 8, 9, 10, 11, 12, 13, 14, 15, 16, 17, 18]) (.keep [1, 2, 3, 5])))
 (.seq (.reg r_law07_Division_6) (.keep [1, 2, 3, 5]))))
@[simp] def r_law07_Division_10 : List AI := [⟨none, some 5, .mov (.k (.lit (.int .i64 0)))⟩]
@[simp] def r_law07_Division_11 : List AI := [⟨none, some 20, .mov (.t 4)⟩,
  ⟨none, some 21, .bin .add (.t 20) (.k (.lit (.int .i64 1)))⟩,
  ⟨none, some 4, .mov (.t 21)⟩]
@[simp] def r_law07_Division_12 : List AI := [⟨none, some 22, .mov (.t 4)⟩,
  ⟨none, some 23, .mov (.t 4)⟩,
  ⟨none, some 24, .mov (.t 4)⟩,
  ⟨none, some 25, .padd 1 (.t 1)⟩,
  ⟨none, some 26, .idxA 2 1 (.t 25) (.t 24)⟩,
  ⟨none, some 27, .load 1 false (.t 26)⟩,
  ⟨none, some 28, .call (.k (.fn fn_law07_list [] [])) [(.t 27)]⟩,
  ⟨none, some 29, .mov (.t 4)⟩,
  ⟨none, some 30, .padd 3 (.t 1)⟩,
  ⟨none, some 31, .idxA 2 1 (.t 30) (.t 29)⟩,
  ⟨none, some 32, .load 1 false (.t 31)⟩,
  ⟨none, some 33, .call (.k (.fn fn_law07_list [] [])) [(.t 32)]⟩,
  ⟨none, some 34, .padd 1 (.t 3)⟩,
  ⟨none, some 35, .idxA 2 1 (.t 34) (.t 22)⟩,
  ⟨none, none, .store 1 (.t 35) (.t 28)⟩,
  ⟨none, some 36, .padd 3 (.t 3)⟩,
  ⟨none, some 37, .idxA 2 1 (.t 36) (.t 23)⟩,
  ⟨none, none, .store 1 (.t 37) (.t 33)⟩]
@[simp] def r_law07_Division_13 : List AI := [⟨none, some 18, .mov (.t 4)⟩,
  ⟨none, some 19, .bin .lss (.t 18) (.k (.lit (.int .i64 2)))⟩]
def l_law07_Division_2 : AC :=
 (.seq (.seq (.seq (.reg r_law07_Division_13) (.keep [1, 2, 3, 4, 19]))
 (.cond (.t 19)
 .skip
 (.exit 0)))
 (.seq (.block 1
 (.seq (.draw r_law07_Division_12 0 [(6, 10)] [0, 2, 3, 4, 5, 6, 7, 8, 9, 10, 11, 12, 13, 14, 1, 15, 16, 17]) (.keep [1, 2, 3, 4])))
 (.seq (.reg r_law07_Division_11) (.keep [1, 2, 3, 4]))))
@[simp] def r_law07_Division_15 : List AI := [⟨none, some 4, .mov (.k (.lit (.int .i64 0)))⟩]
@[simp] def r_law07_Division_16 : List AI := [⟨none, some 7, .padd 0 (.t 1)⟩,
  ⟨none, some 8, .load 1 false (.t 7)⟩,
  ⟨none, some 9, .padd 7 (.t 1)⟩,
  ⟨none, some 10, .load 1 false (.t 9)⟩,
  ⟨none, some 11, .padd 8 (.t 1)⟩,
  ⟨none, some 12, .load 1 false (.t 11)⟩,
  ⟨none, some 13, .padd 9 (.t 1)⟩,
  ⟨none, some 14, .load 1 false (.t 13)⟩,
  ⟨none, some 15, .padd 10 (.t 1)⟩,
  ⟨none, some 16, .load 1 false (.t 15)⟩,
  ⟨none, some 17, .build [.lit (.int .i64 0), .nil, .nil, .nil, .nil, .nil, .nil, .lit (.int .u8 0), .lit (.int .i64 0), .lit (.int .i64 0), .lit (.int .u8 0)] [(0, 1, (.t 8)), (7, 1, (.t 10)), (8, 1, (.t 12)), (9, 1, (.t 14)), (10, 1, (.t 16))]⟩,
  ⟨none, some 3, .alloc ty_tally_Division [.lit (.int .i64 0), .nil, .nil, .nil, .nil, .nil, .nil, .lit (.int .u8 0), .lit (.int .i64 0), .lit (.int .i64 0), .lit (.int .u8 0)]⟩,
  ⟨none, none, .store 11 (.t 3) (.t 17)⟩]
@[simp] def r_law07_Division_17 : List AI := [⟨none, some 1, .box ty_ref07_Division (.t 0)⟩,
  ⟨none, some 2, .alloc ty_tally_Division [.lit (.int .i64 0), .nil, .nil, .nil, .nil, .nil, .nil, .lit (.int .u8 0), .lit (.int .i64 0), .lit (.int .i64 0), .lit (.int .u8 0)]⟩]
def a_law07_Division : AFn := { nparams := 1, res := [.cell 2 11 true], body :=
 (.seq (.reg r_law07_Division_17)
 (.seq (.seq (.reg r_law07_Division_16) (.keep [1, 2, 3]))
 (.seq (.seq (.reg r_law07_Division_15)
 (.block 0
 (.loop [1, 2, 3, 4] l_law07_Division_2)))
 (.seq (.seq (.reg r_law07_Division_10)
 (.block 2
 (.loop [1, 2, 3, 5] l_law07_Division_1)))
 (.seq (.seq (.reg r_law07_Division_5)
 (.block 4
 (.loop [1, 2, 3, 6] l_law07_Division_0)))
 (.seq (.seq (.reg r_law07_Division_0) (.keep [2]))
 .ret)))))) }
@[simp] def r_tally_Bounds_0 : List AI := [⟨none, some 69, .load 2 true (.t 2)⟩,
  ⟨none, some 70, .load 2 true (.t 3)⟩,
  ⟨none, none, .store 2 (.t 2) (.t 69)⟩,
  ⟨none, none, .store 2 (.t 3) (.t 70)⟩,
  ⟨none, some 4, .mov (.k (.lit (.int .i64 0)))⟩]
@[simp] def r_tally_Bounds_1 : List AI := [⟨none, some 68, .load 2 true (.t 9)⟩,
  ⟨none, none, .store 2 (.t 6) (.t 68)⟩]
@[simp] def r_tally_Bounds_2 : List AI := [⟨none, some 28, .padd 0 (.t 9)⟩,
  ⟨none, some 29, .load 1 false (.t 28)⟩,
  ⟨none, some 30, .padd 0 (.t 9)⟩,
  ⟨none, some 31, .load 1 false (.t 30)⟩,
  ⟨none, some 32, .build [.lit (.int .i64 0), .lit (.int .i64 0)] [(0, 1, (.t 29)), (1, 1, (.t 31))]⟩,
  ⟨none, some 33, .padd 1 (.t 9)⟩,
  ⟨none, some 34, .load 1 false (.t 33)⟩,
  ⟨none, some 35, .padd 1 (.t 9)⟩,
  ⟨none, some 36, .load 1 false (.t 35)⟩,
  ⟨none, some 37, .build [.lit (.int .i64 0), .lit (.int .i64 0)] [(0, 1, (.t 34)), (1, 1, (.t 36))]⟩,
  ⟨none, none, .store 2 (.t 2) (.t 32)⟩,
  ⟨none, none, .store 2 (.t 3) (.t 37)⟩,
  ⟨none, none, .store 1 (.t 7) (.k (.lit (.bool false)))⟩]
@[simp] def r_tally_Bounds_3 : List AI := [⟨none, some 55, .padd 0 (.t 3)⟩,
  ⟨none, some 56, .load 1 false (.t 55)⟩,
  ⟨none, some 57, .padd 1 (.t 9)⟩,
  ⟨none, some 58, .load 1 false (.t 57)⟩,
  ⟨none, some 59, .slit ty_int [.lit (.int .i64 0)] 2 1 [(0, 1, (.t 56)), (1, 1, (.t 58))]⟩,
  ⟨none, some 60, .call (.k (.fn fn_tally_least [] [])) [(.t 59)]⟩,
  ⟨none, some 61, .padd 1 (.t 3)⟩,
  ⟨none, some 62, .load 1 false (.t 61)⟩,
  ⟨none, some 63, .padd 1 (.t 9)⟩,
  ⟨none, some 64, .load 1 false (.t 63)⟩,
  ⟨none, some 65, .slit ty_int [.lit (.int .i64 0)] 2 1 [(0, 1, (.t 62)), (1, 1, (.t 64))]⟩,
  ⟨none, some 66, .call (.k (.fn fn_tally_greatest [] [])) [(.t 65)]⟩,
  ⟨none, some 67, .build [.lit (.int .i64 0), .lit (.int .i64 0)] [(0, 1, (.t 60)), (1, 1, (.t 66))]⟩,
  ⟨none, none, .store 2 (.t 3) (.t 67)⟩]
@[simp] def r_tally_Bounds_4 : List AI := [⟨none, some 42, .padd 0 (.t 2)⟩,
  ⟨none, some 43, .load 1 false (.t 42)⟩,
  ⟨none, some 44, .padd 0 (.t 9)⟩,
  ⟨none, some 45, .load 1 false (.t 44)⟩,
  ⟨none, some 46, .slit ty_int [.lit (.int .i64 0)] 2 1 [(0, 1, (.t 43)), (1, 1, (.t 45))]⟩,
  ⟨none, some 47, .call (.k (.fn fn_tally_least [] [])) [(.t 46)]⟩,
  ⟨none, some 48, .padd 1 (.t 2)⟩,
  ⟨none, some 49, .load 1 false (.t 48)⟩,
  ⟨none, some 50, .padd 0 (.t 9)⟩,
  ⟨none, some 51, .load 1 false (.t 50)⟩,
  ⟨none, some 52, .slit ty_int [.lit (.int .i64 0)] 2 1 [(0, 1, (.t 49)), (1, 1, (.t 51))]⟩,
  ⟨none, some 53, .call (.k (.fn fn_tally_greatest [] [])) [(.t 52)]⟩,
  ⟨none, some 54, .build [.lit (.int .i64 0), .lit (.int .i64 0)] [(0, 1, (.t 47)), (1, 1, (.t 53))]⟩,
  ⟨none, none, .store 2 (.t 2) (.t 54)⟩]
@[simp] def r_tally_Bounds_5 : List AI := [⟨none, some 39, .load 2 true (.t 9)⟩,
  ⟨none, some 40, .load 2 true (.t 6)⟩,
  ⟨none, some 41, .eqs true [.i, .i] (.t 39) (.t 40)⟩,
  ⟨none, some 38, .mov (.t 41)⟩]
@[simp] def r_tally_Bounds_6 : List AI := [⟨none, some 27, .load 1 false (.t 7)⟩,
  ⟨none, some 26, .mov (.t 27)⟩]
@[simp] def r_tally_Bounds_7 : List AI := [⟨none, some 23, .load 91 true (.t 5)⟩,
  ⟨none, some 24, .load 40 true (.t 8)⟩,
  ⟨none, some 25, .call (.k (.fn fn_tally_looked_numbers [] [])) [(.t 23), (.t 24)]⟩,
  ⟨none, some 9, .alloc ty_tally_Numbers [.lit (.int .i64 0), .lit (.int .i64 0)]⟩,
  ⟨none, none, .store 2 (.t 9) (.t 25)⟩]
@[simp] def r_tally_Bounds_8 : List AI := [⟨none, some 8, .alloc ty_tally_truth z_tally_truth⟩,
  ⟨none, none, .store 40 (.t 8) (.t 22)⟩]
def s_tally_Bounds_0 : AC :=
 (.reg r_tally_Bounds_8)
def b_tally_Bounds_0 : AC :=
 (.block 1
 (.seq (.seq (.reg r_tally_Bounds_7) (.keep [2, 3, 6, 7, 9]))
 (.seq (.block 2
 (.seq (.seq (.reg r_tally_Bounds_6) (.keep [2, 3, 6, 7, 9, 26]))
 (.cond (.t 26)
 (.seq (.draw r_tally_Bounds_2 0 [(6, 10), (8, 10)] [0, 1, 2, 3, 4, 5, 6, 7, 8, 9, 10, 11, 12]) (.keep [6, 9]))
 (.seq (.seq (.reg r_tally_Bounds_5) (.keep [2, 3, 6, 9, 38]))
 (.cond (.t 38)
 (.seq (.seq (.draw r_tally_Bounds_4 0 [(5, 7), (5, 9)] [0, 1, 2, 3, 4, 5, 6, 7, 8, 9, 10, 11, 12, 13]) (.keep [3, 6, 9]))
 (.seq (.draw r_tally_Bounds_3 0 [(5, 7), (5, 9)] [0, 1, 2, 3, 4, 5, 6, 7, 8, 9, 10, 11, 12, 13]) (.keep [6, 9])))
 .skip)))))
 (.seq (.reg r_tally_Bounds_1) (.keep [])))))
@[simp] def r_tally_Bounds_11 : List AI := [⟨none, some 20, .load 91 true (.t 5)⟩,
  ⟨none, some 21, .call (.k (.fn fn_tally_looked_truths [] [])) [(.t 20)]⟩]
@[simp] def r_tally_Bounds_12 : List AI := [⟨none, some 7, .alloc ty_bool [.lit (.bool false)]⟩,
  ⟨none, none, .store 1 (.t 7) (.k (.lit (.bool true)))⟩]
@[simp] def r_tally_Bounds_13 : List AI := [⟨none, some 6, .alloc ty_tally_Numbers [.lit (.int .i64 0), .lit (.int .i64 0)]⟩]
@[simp] def r_tally_Bounds_14 : List AI := [⟨none, some 17, .build [.lit (.int .i64 0), .lit (.int .i64 0)] []⟩,
  ⟨none, some 18, .build [.lit (.int .i64 0), .lit (.int .i64 0)] []⟩,
  ⟨none, some 19, .mov (.t 4)⟩,
  ⟨none, none, .store 2 (.t 2) (.t 17)⟩,
  ⟨none, none, .store 2 (.t 3) (.t 18)⟩,
  ⟨none, some 4, .mov (.t 19)⟩]
@[simp] def r_tally_Bounds_15 : List AI := [⟨none, some 15, .mov (.t 4)⟩,
  ⟨none, some 16, .bin .neq (.t 15) (.k (.lit (.int .i64 0)))⟩]
@[simp] def r_tally_Bounds_16 : List AI := [⟨none, some 11, .load 11 true (.t 1)⟩,
  ⟨none, some 12, .call (.k (.fn fn_tally_open [] [])) [(.t 11)]⟩,
  ⟨none, some 10, .mov (.t 12)⟩,
  ⟨none, some 13, .ext 0 (.t 10)⟩,
  ⟨none, some 14, .ext 1 (.t 10)⟩,
  ⟨none, some 5, .alloc ty_tally_looked z_tally_looked⟩,
  ⟨none, none, .store 91 (.t 5) (.t 13)⟩,
  ⟨none, some 4, .mov (.t 14)⟩]
@[simp] def r_tally_Bounds_17 : List AI := [⟨none, some 1, .box ty_tally_Division (.t 0)⟩,
  ⟨none, some 2, .alloc ty_tally_Range [.lit (.int .i64 0), .lit (.int .i64 0)]⟩,
  ⟨none, some 3, .alloc ty_tally_Range [.lit (.int .i64 0), .lit (.int .i64 0)]⟩,
  ⟨none, some 4, .mov (.k (.lit (.int .i64 0)))⟩]
def a_tally_Bounds : AFn := { nparams := 1, res := [.cell 2 2 true, .cell 3 2 true, .tmp 4], body :=
 (.seq (.seq (.reg r_tally_Bounds_17) (.keep [1, 2, 3]))
 (.seq (.seq (.reg r_tally_Bounds_16) (.keep [2, 3, 4, 5]))
 (.seq (.seq (.seq (.reg r_tally_Bounds_15) (.keep [2, 3, 4, 5, 16]))
 (.cond (.t 16)
 (.seq (.seq (.reg r_tally_Bounds_14) (.keep [2, 3, 4]))
 .ret)
 .skip))
 (.seq (.reg r_tally_Bounds_13)
 (.seq (.reg r_tally_Bounds_12)
 (.seq (.seq (.seq (.reg r_tally_Bounds_11) (.keep [2, 3, 4, 5, 6, 7, 21]))
 (.block 0
 (.seq (.keep [2, 3, 4, 5, 6, 7, 21]) (.rangeF (.t 21) [22] s_tally_Bounds_0 b_tally_Bounds_0))))
 (.seq (.seq (.draw r_tally_Bounds_0 0 [(1, 2)] [0, 1, 2, 3, 4]) (.keep [2, 3, 4]))
 .ret))))))) }
@[simp] def r_law07_fault_0 : List AI := [⟨none, some 2, .mov (.k (.lit (.int .i64 0)))⟩]
@[simp] def r_law07_fault_1 : List AI := [⟨none, some 2, .mov (.k (.lit (.int .i64 9)))⟩]
@[simp] def r_law07_fault_2 : List AI := [⟨none, some 6, .load 11 true (.t 1)⟩,
  ⟨none, some 7, .call (.k (.fn fn_ref07_Clash [] [])) [(.t 6)]⟩,
  ⟨none, some 8, .bin .geq (.t 7) (.k (.lit (.int .i64 0)))⟩]
@[simp] def r_law07_fault_3 : List AI := [⟨none, some 2, .mov (.k (.lit (.int .i64 1)))⟩]
@[simp] def r_law07_fault_4 : List AI := [⟨none, some 3, .load 11 true (.t 1)⟩,
  ⟨none, some 4, .call (.k (.fn fn_ref07_Right [] [])) [(.t 3)]⟩,
  ⟨none, some 5, .not (.t 4)⟩]
@[simp] def r_law07_fault_5 : List AI := [⟨none, some 1, .box ty_ref07_Division (.t 0)⟩,
  ⟨none, some 2, .mov (.k (.lit (.int .i64 0)))⟩]
def a_law07_fault : AFn := { nparams := 1, res := [.tmp 2], body :=
 (.seq (.seq (.reg r_law07_fault_5) (.keep [1]))
 (.seq (.seq (.seq (.reg r_law07_fault_4) (.keep [1, 5]))
 (.cond (.t 5)
 (.seq (.reg r_law07_fault_3)
 .ret)
 .skip))
 (.seq (.seq (.seq (.reg r_law07_fault_2) (.keep [8]))
 (.cond (.t 8)
 (.seq (.reg r_law07_fault_1)
 .ret)
 .skip))
 (.seq (.reg r_law07_fault_0)
 .ret)))) }
@[simp] def r_law07_ints_0 : List AI := [⟨none, some 4, .mov (.k (.lit (.bool true)))⟩]
@[simp] def r_law07_ints_1 : List AI := [⟨none, some 15, .mov (.t 5)⟩,
  ⟨none, some 16, .bin .add (.t 15) (.k (.lit (.int .i64 1)))⟩,
  ⟨none, some 5, .mov (.t 16)⟩]
@[simp] def r_law07_ints_2 : List AI := [⟨none, some 4, .mov (.k (.lit (.bool false)))⟩]
@[simp] def r_law07_ints_3 : List AI := [⟨none, some 17, .mov (.t 0)⟩,
  ⟨none, some 18, .mov (.t 5)⟩,
  ⟨none, some 19, .idxS 1 (.t 17) (.t 18)⟩,
  ⟨none, some 20, .load 1 false (.t 19)⟩,
  ⟨none, some 21, .mov (.t 1)⟩,
  ⟨none, some 22, .mov (.t 5)⟩,
  ⟨none, some 23, .idxS 1 (.t 21) (.t 22)⟩,
  ⟨none, some 24, .load 1 false (.t 23)⟩,
  ⟨none, some 25, .bin .neq (.t 20) (.t 24)⟩]
@[simp] def r_law07_ints_4 : List AI := [⟨none, some 11, .mov (.t 5)⟩,
  ⟨none, some 12, .mov (.t 0)⟩,
  ⟨none, some 13, .lenS (.t 12)⟩,
  ⟨none, some 14, .bin .lss (.t 11) (.t 13)⟩]
def l_law07_ints_0 : AC :=
 (.seq (.seq (.seq (.reg r_law07_ints_4) (.keep [0, 1, 5, 14]))
 (.cond (.t 14)
 .skip
 (.exit 0)))
 (.seq (.block 1
 (.seq (.seq (.draw r_law07_ints_3 0 [] [0, 1, 2, 3, 4, 5, 6, 7, 8]) (.keep [0, 1, 5, 25]))
 (.cond (.t 25)
 (.seq (.reg r_law07_ints_2)
 .ret)
 .skip)))
 (.seq (.reg r_law07_ints_1) (.keep [0, 1, 5]))))
@[simp] def r_law07_ints_6 : List AI := [⟨none, some 5, .mov (.k (.lit (.int .i64 0)))⟩]
@[simp] def r_law07_ints_7 : List AI := [⟨none, some 4, .mov (.k (.lit (.bool false)))⟩]
@[simp] def r_law07_ints_8 : List AI := [⟨none, some 6, .mov (.t 0)⟩,
  ⟨none, some 7, .lenS (.t 6)⟩,
  ⟨none, some 8, .mov (.t 1)⟩,
  ⟨none, some 9, .lenS (.t 8)⟩,
  ⟨none, some 10, .bin .neq (.t 7) (.t 9)⟩]
@[simp] def r_law07_ints_9 : List AI := [⟨none, some 4, .mov (.k (.lit (.bool false)))⟩]
def a_law07_ints : AFn := { nparams := 2, res := [.tmp 4], body :=
 (.seq (.reg r_law07_ints_9)
 (.seq (.seq (.seq (.reg r_law07_ints_8) (.keep [0, 1, 10]))
 (.cond (.t 10)
 (.seq (.reg r_law07_ints_7)
 .ret)
 .skip))
 (.seq (.seq (.reg r_law07_ints_6)
 (.block 0
 (.loop [0, 1, 5] l_law07_ints_0)))
 (.seq (.reg r_law07_ints_0)
 .ret)))) }
@[simp] def r_ref07_Doubts_0 : List AI := [⟨none, some 30, .mov (.t 3)⟩,
  ⟨none, some 2, .mov (.t 30)⟩]
@[simp] def r_ref07_Doubts_1 : List AI := [⟨none, some 11, .mov (.t 4)⟩,
  ⟨none, some 12, .bin .add (.t 11) (.k (.lit (.int .i64 1)))⟩,
  ⟨none, some 4, .mov (.t 12)⟩]
@[simp] def r_ref07_Doubts_2 : List AI := [⟨none, some 26, .mov (.t 3)⟩,
  ⟨none, some 27, .mov (.t 4)⟩,
  ⟨none, some 28, .slit ty_int [.lit (.int .i64 0)] 1 1 [(0, 1, (.t 27))]⟩,
  ⟨none, some 29, .app ty_int [.lit (.int .i64 0)] 1 8 (.t 26) (.t 28)⟩,
  ⟨none, some 3, .mov (.t 29)⟩]
@[simp] def r_ref07_Doubts_3 : List AI := [⟨none, some 24, .mov (.t 5)⟩,
  ⟨none, some 25, .bin .gtr (.t 24) (.k (.lit (.int .i64 1)))⟩]
@[simp] def r_ref07_Doubts_4 : List AI := [⟨none, some 15, .mov (.t 6)⟩,
  ⟨none, some 16, .bin .add (.t 15) (.k (.lit (.int .i64 1)))⟩,
  ⟨none, some 6, .mov (.t 16)⟩]
@[simp] def r_ref07_Doubts_5 : List AI := [⟨none, some 22, .mov (.t 5)⟩,
  ⟨none, some 23, .bin .add (.t 22) (.k (.lit (.int .i64 1)))⟩,
  ⟨none, some 5, .mov (.t 23)⟩]
@[simp] def r_ref07_Doubts_6 : List AI := [⟨none, some 17, .load 11 true (.t 1)⟩,
  ⟨none, some 18, .mov (.t 4)⟩,
  ⟨none, some 19, .mov (.t 6)⟩,
  ⟨none, some 20, .conv .u8 (.t 19)⟩,
  ⟨none, some 21, .call (.k (.fn fn_ref07_May [] [])) [(.t 17), (.t 18), (.t 20)]⟩]
@[simp] def r_ref07_Doubts_7 : List AI := [⟨none, some 13, .mov (.t 6)⟩,
  ⟨none, some 14, .bin .lss (.t 13) (.k (.lit (.int .i64 3)))⟩]
def l_ref07_Doubts_0 : AC :=
 (.seq (.seq (.seq (.reg r_ref07_Doubts_7) (.keep [1, 3, 4, 5, 6, 14]))
 (.cond (.t 14)
 .skip
 (.exit 2)))
 (.seq (.block 3
 (.seq (.seq (.reg r_ref07_Doubts_6) (.keep [1, 3, 4, 5, 6, 21]))
 (.cond (.t 21)
 (.seq (.reg r_ref07_Doubts_5) (.keep [1, 3, 4, 5, 6]))
 .skip)))
 (.seq (.reg r_ref07_Doubts_4) (.keep [1, 3, 4, 5, 6]))))
@[simp] def r_ref07_Doubts_9 : List AI := [⟨none, some 6, .mov (.k (.lit (.int .i64 0)))⟩]
@[simp] def r_ref07_Doubts_10 : List AI := [⟨none, some 5, .mov (.k (.lit (.int .i64 0)))⟩]
@[simp] def r_ref07_Doubts_11 : List AI := [⟨none, some 7, .mov (.t 4)⟩,
  ⟨none, some 8, .padd 0 (.t 1)⟩,
  ⟨none, some 9, .load 1 false (.t 8)⟩,
  ⟨none, some 10, .bin .lss (.t 7) (.t 9)⟩]
def l_ref07_Doubts_1 : AC :=
 (.seq (.seq (.seq (.reg r_ref07_Doubts_11) (.keep [1, 3, 4, 10]))
 (.cond (.t 10)
 .skip
 (.exit 0)))
 (.seq (.block 1
 (.seq (.reg r_ref07_Doubts_10)
 (.seq (.seq (.reg r_ref07_Doubts_9)
 (.block 2
 (.loop [1, 3, 4, 5, 6] l_ref07_Doubts_0)))
 (.seq (.seq (.reg r_ref07_Doubts_3) (.keep [1, 3, 4, 25]))
 (.cond (.t 25)
 (.seq (.reg r_ref07_Doubts_2) (.keep [1, 3, 4]))
 .skip)))))
 (.seq (.reg r_ref07_Doubts_1) (.keep [1, 3, 4]))))
@[simp] def r_ref07_Doubts_13 : List AI := [⟨none, some 4, .mov (.k (.lit (.int .i64 0)))⟩]
@[simp] def r_ref07_Doubts_14 : List AI := [⟨none, some 3, .mov (.k (.nil))⟩]
@[simp] def r_ref07_Doubts_15 : List AI := [⟨none, some 1, .box ty_ref07_Division (.t 0)⟩,
  ⟨none, some 2, .mov (.k (.nil))⟩]
def a_ref07_Doubts : AFn := { nparams := 1, res := [.tmp 2], body :=
 (.seq (.seq (.reg r_ref07_Doubts_15) (.keep [1]))
 (.seq (.reg r_ref07_Doubts_14)
 (.seq (.seq (.reg r_ref07_Doubts_13)
 (.block 0
 (.loop [1, 3, 4] l_ref07_Doubts_1)))
 (.seq (.seq (.reg r_ref07_Doubts_0) (.keep [2]))
 .ret)))) }
@[simp] def r_law07_open_0 : List AI := [⟨none, some 14, .mov (.t 3)⟩,
  ⟨none, some 2, .mov (.t 14)⟩]
@[simp] def r_law07_open_1 : List AI := [⟨none, some 2, .mov (.k (.lit (.int .i64 3)))⟩]
@[simp] def r_law07_open_2 : List AI := [⟨none, some 6, .mov (.t 3)⟩,
  ⟨none, some 7, .bin .eql (.t 6) (.k (.lit (.int .i64 0)))⟩,
  ⟨none, some 8, .mov (.t 7)⟩,
  ⟨some (8, true), some 9, .load 11 true (.t 1)⟩,
  ⟨some (8, true), some 10, .call (.k (.fn fn_ref07_Doubts [] [])) [(.t 9)]⟩,
  ⟨some (8, true), some 11, .lenS (.t 10)⟩,
  ⟨some (8, true), some 12, .bin .gtr (.t 11) (.k (.lit (.int .i64 8)))⟩,
  ⟨none, some 13, .pick (.t 8) (.t 12) (.k (.lit (.bool false)))⟩]
@[simp] def r_law07_open_3 : List AI := [⟨none, some 4, .load 11 true (.t 1)⟩,
  ⟨none, some 5, .call (.k (.fn fn_law07_fault [] [])) [(.t 4)]⟩,
  ⟨none, some 3, .mov (.t 5)⟩]
@[simp] def r_law07_open_4 : List AI := [⟨none, some 1, .box ty_ref07_Division (.t 0)⟩,
  ⟨none, some 2, .mov (.k (.lit (.int .i64 0)))⟩]
def a_law07_open : AFn := { nparams := 1, res := [.tmp 2], body :=
 (.seq (.seq (.reg r_law07_open_4) (.keep [1]))
 (.seq (.seq (.reg r_law07_open_3) (.keep [1, 3]))
 (.seq (.seq (.seq (.reg r_law07_open_2) (.keep [3, 13]))
 (.cond (.t 13)
 (.seq (.reg r_law07_open_1)
 .ret)
 .skip))
 (.seq (.seq (.reg r_law07_open_0) (.keep [2]))
 .ret)))) }
@[simp] def r_law07_Few_0 : List AI := [⟨none, some 22, .padd 5 (.t 1)⟩,
  ⟨none, some 23, .load 1 false (.t 22)⟩,
  ⟨none, some 24, .lenS (.t 23)⟩,
  ⟨none, some 25, .bin .leq (.t 24) (.k (.lit (.int .i64 12)))⟩,
  ⟨none, some 26, .mov (.t 25)⟩,
  ⟨some (26, true), some 27, .padd 6 (.t 1)⟩,
  ⟨some (26, true), some 28, .load 1 false (.t 27)⟩,
  ⟨some (26, true), some 29, .lenS (.t 28)⟩,
  ⟨some (26, true), some 30, .bin .leq (.t 29) (.k (.lit (.int .i64 12)))⟩,
  ⟨none, some 31, .pick (.t 26) (.t 30) (.k (.lit (.bool false)))⟩,
  ⟨none, some 2, .mov (.t 31)⟩]
@[simp] def r_law07_Few_1 : List AI := [⟨none, some 6, .mov (.t 3)⟩,
  ⟨none, some 7, .bin .add (.t 6) (.k (.lit (.int .i64 1)))⟩,
  ⟨none, some 3, .mov (.t 7)⟩]
@[simp] def r_law07_Few_2 : List AI := [⟨none, some 2, .mov (.k (.lit (.bool false)))⟩]
@[simp] def r_law07_Few_3 : List AI := [⟨none, some 8, .mov (.t 3)⟩,
  ⟨none, some 9, .padd 1 (.t 1)⟩,
  ⟨none, some 10, .idxA 2 1 (.t 9) (.t 8)⟩,
  ⟨none, some 11, .load 1 false (.t 10)⟩,
  ⟨none, some 12, .lenS (.t 11)⟩,
  ⟨none, some 13, .bin .gtr (.t 12) (.k (.lit (.int .i64 45)))⟩,
  ⟨none, some 14, .mov (.t 13)⟩,
  ⟨some (14, false), some 15, .mov (.t 3)⟩,
  ⟨some (14, false), some 16, .padd 3 (.t 1)⟩,
  ⟨some (14, false), some 17, .idxA 2 1 (.t 16) (.t 15)⟩,
  ⟨some (14, false), some 18, .load 1 false (.t 17)⟩,
  ⟨some (14, false), some 19, .lenS (.t 18)⟩,
  ⟨some (14, false), some 20, .bin .gtr (.t 19) (.k (.lit (.int .i64 45)))⟩,
  ⟨none, some 21, .pick (.t 14) (.k (.lit (.bool true))) (.t 20)⟩]
@[simp] def r_law07_Few_4 : List AI := [⟨none, some 4, .mov (.t 3)⟩,
  ⟨none, some 5, .bin .lss (.t 4) (.k (.lit (.int .i64 2)))⟩]
def l_law07_Few_0 : AC :=
 (.seq (.seq (.seq (.reg r_law07_Few_4) (.keep [1, 3, 5]))
 (.cond (.t 5)
 .skip
 (.exit 0)))
 (.seq (.block 1
 (.seq (.seq (.reg r_law07_Few_3) (.keep [1, 3, 21]))
 (.cond (.t 21)
 (.seq (.reg r_law07_Few_2)
 .ret)
 .skip)))
 (.seq (.reg r_law07_Few_1) (.keep [1, 3]))))
@[simp] def r_law07_Few_6 : List AI := [⟨none, some 3, .mov (.k (.lit (.int .i64 0)))⟩]
@[simp] def r_law07_Few_7 : List AI := [⟨none, some 1, .box ty_ref07_Division (.t 0)⟩,
  ⟨none, some 2, .mov (.k (.lit (.bool false)))⟩]
def a_law07_Few : AFn := { nparams := 1, res := [.tmp 2], body :=
 (.seq (.seq (.reg r_law07_Few_7) (.keep [1]))
 (.seq (.seq (.reg r_law07_Few_6)
 (.block 0
 (.loop [1, 3] l_law07_Few_0)))
 (.seq (.seq (.reg r_law07_Few_0) (.keep [2]))
 .ret))) }
@[simp] def r_ref07_Right_0 : List AI := [⟨none, some 2, .mov (.k (.lit (.bool true)))⟩]
@[simp] def r_ref07_Right_1 : List AI := [⟨none, some 150, .mov (.t 8)⟩,
  ⟨none, some 151, .bin .add (.t 150) (.k (.lit (.int .i64 1)))⟩,
  ⟨none, some 8, .mov (.t 151)⟩]
@[simp] def r_ref07_Right_2 : List AI := [⟨none, some 185, .mov (.t 10)⟩,
  ⟨none, some 186, .bin .add (.t 185) (.k (.lit (.int .i64 1)))⟩,
  ⟨none, some 10, .mov (.t 186)⟩]
@[simp] def r_ref07_Right_3 : List AI := [⟨none, some 2, .mov (.k (.lit (.bool false)))⟩]
@[simp] def r_ref07_Right_4 : List AI := [⟨none, some 187, .mov (.t 10)⟩,
  ⟨none, some 188, .mov (.t 8)⟩,
  ⟨none, some 189, .bin .neq (.t 187) (.t 188)⟩,
  ⟨none, some 190, .mov (.t 189)⟩,
  ⟨some (190, true), some 191, .padd 6 (.t 1)⟩,
  ⟨some (190, true), some 192, .load 1 false (.t 191)⟩,
  ⟨some (190, true), some 193, .mov (.t 10)⟩,
  ⟨some (190, true), some 194, .idxS 2 (.t 192) (.t 193)⟩,
  ⟨some (190, true), some 195, .padd 1 (.t 194)⟩,
  ⟨some (190, true), some 196, .load 1 false (.t 195)⟩,
  ⟨some (190, true), some 197, .padd 1 (.t 9)⟩,
  ⟨some (190, true), some 198, .load 1 false (.t 197)⟩,
  ⟨some (190, true), some 199, .bin .eql (.t 196) (.t 198)⟩,
  ⟨none, some 200, .pick (.t 190) (.t 199) (.k (.lit (.bool false)))⟩,
  ⟨none, some 201, .mov (.t 200)⟩,
  ⟨some (201, false), some 202, .padd 6 (.t 1)⟩,
  ⟨some (201, false), some 203, .load 1 false (.t 202)⟩,
  ⟨some (201, false), some 204, .mov (.t 10)⟩,
  ⟨some (201, false), some 205, .idxS 2 (.t 203) (.t 204)⟩,
  ⟨some (201, false), some 206, .padd 0 (.t 205)⟩,
  ⟨some (201, false), some 207, .load 1 false (.t 206)⟩,
  ⟨some (201, false), some 208, .padd 1 (.t 9)⟩,
  ⟨some (201, false), some 209, .load 1 false (.t 208)⟩,
  ⟨some (201, false), some 210, .bin .eql (.t 207) (.t 209)⟩,
  ⟨none, some 211, .pick (.t 201) (.k (.lit (.bool true))) (.t 210)⟩]
@[simp] def r_ref07_Right_5 : List AI := [⟨none, some 180, .mov (.t 10)⟩,
  ⟨none, some 181, .padd 6 (.t 1)⟩,
  ⟨none, some 182, .load 1 false (.t 181)⟩,
  ⟨none, some 183, .lenS (.t 182)⟩,
  ⟨none, some 184, .bin .lss (.t 180) (.t 183)⟩]
def l_ref07_Right_0 : AC :=
 (.seq (.seq (.seq (.reg r_ref07_Right_5) (.keep [1, 8, 9, 10, 184]))
 (.cond (.t 184)
 .skip
 (.exit 8)))
 (.seq (.block 9
 (.seq (.seq (.draw r_ref07_Right_4 0 [] [0, 1, 2, 3, 4, 5, 6, 7, 8, 9, 10, 11, 12, 13, 14, 15, 16, 17, 18, 19, 20, 21, 22, 23, 24]) (.keep [1, 8, 9, 10, 211]))
 (.cond (.t 211)
 (.seq (.reg r_ref07_Right_3)
 .ret)
 .skip)))
 (.seq (.reg r_ref07_Right_2) (.keep [1, 8, 9, 10]))))
@[simp] def r_ref07_Right_7 : List AI := [⟨none, some 10, .mov (.k (.lit (.int .i64 0)))⟩]
@[simp] def r_ref07_Right_8 : List AI := [⟨none, some 2, .mov (.k (.lit (.bool false)))⟩]
@[simp] def r_ref07_Right_9 : List AI := [⟨none, some 157, .padd 0 (.t 9)⟩,
  ⟨none, some 158, .load 1 false (.t 157)⟩,
  ⟨none, some 159, .padd 0 (.t 1)⟩,
  ⟨none, some 160, .load 1 false (.t 159)⟩,
  ⟨none, some 161, .bin .sub (.t 160) (.k (.lit (.int .i64 1)))⟩,
  ⟨none, some 162, .call (.k (.fn fn_ref07_In [] [])) [(.t 158), (.k (.lit (.int .i64 0))), (.t 161)]⟩,
  ⟨none, some 163, .not (.t 162)⟩,
  ⟨none, some 164, .mov (.t 163)⟩,
  ⟨some (164, false), some 165, .padd 1 (.t 9)⟩,
  ⟨some (164, false), some 166, .load 1 false (.t 165)⟩,
  ⟨some (164, false), some 167, .padd 0 (.t 1)⟩,
  ⟨some (164, false), some 168, .load 1 false (.t 167)⟩,
  ⟨some (164, false), some 169, .bin .sub (.t 168) (.k (.lit (.int .i64 1)))⟩,
  ⟨some (164, false), some 170, .call (.k (.fn fn_ref07_In [] [])) [(.t 166), (.k (.lit (.int .i64 0))), (.t 169)]⟩,
  ⟨some (164, false), some 171, .not (.t 170)⟩,
  ⟨none, some 172, .pick (.t 164) (.k (.lit (.bool true))) (.t 171)⟩,
  ⟨none, some 173, .mov (.t 172)⟩,
  ⟨some (173, false), some 174, .padd 0 (.t 9)⟩,
  ⟨some (173, false), some 175, .load 1 false (.t 174)⟩,
  ⟨some (173, false), some 176, .padd 1 (.t 9)⟩,
  ⟨some (173, false), some 177, .load 1 false (.t 176)⟩,
  ⟨some (173, false), some 178, .bin .eql (.t 175) (.t 177)⟩,
  ⟨none, some 179, .pick (.t 173) (.k (.lit (.bool true))) (.t 178)⟩]
@[simp] def r_ref07_Right_10 : List AI := [⟨none, some 152, .padd 6 (.t 1)⟩,
  ⟨none, some 153, .load 1 false (.t 152)⟩,
  ⟨none, some 154, .mov (.t 8)⟩,
  ⟨none, some 155, .idxS 2 (.t 153) (.t 154)⟩,
  ⟨none, some 156, .load 2 true (.t 155)⟩,
  ⟨none, some 9, .alloc ty_ref07_Proxy [.lit (.int .i64 0), .lit (.int .i64 0)]⟩,
  ⟨none, none, .store 2 (.t 9) (.t 156)⟩]
@[simp] def r_ref07_Right_11 : List AI := [⟨none, some 145, .mov (.t 8)⟩,
  ⟨none, some 146, .padd 6 (.t 1)⟩,
  ⟨none, some 147, .load 1 false (.t 146)⟩,
  ⟨none, some 148, .lenS (.t 147)⟩,
  ⟨none, some 149, .bin .lss (.t 145) (.t 148)⟩]
def l_ref07_Right_1 : AC :=
 (.seq (.seq (.seq (.reg r_ref07_Right_11) (.keep [1, 8, 149]))
 (.cond (.t 149)
 .skip
 (.exit 6)))
 (.seq (.block 7
 (.seq (.seq (.reg r_ref07_Right_10) (.keep [1, 8, 9]))
 (.seq (.seq (.seq (.reg r_ref07_Right_9) (.keep [1, 8, 9, 179]))
 (.cond (.t 179)
 (.seq (.reg r_ref07_Right_8)
 .ret)
 .skip))
 (.seq (.reg r_ref07_Right_7)
 (.block 8
 (.loop [1, 8, 9, 10] l_ref07_Right_0))))))
 (.seq (.reg r_ref07_Right_1) (.keep [1, 8]))))
@[simp] def r_ref07_Right_13 : List AI := [⟨none, some 8, .mov (.k (.lit (.int .i64 0)))⟩]
@[simp] def r_ref07_Right_14 : List AI := [⟨none, some 79, .mov (.t 4)⟩,
  ⟨none, some 80, .bin .add (.t 79) (.k (.lit (.int .i64 1)))⟩,
  ⟨none, some 4, .mov (.t 80)⟩]
@[simp] def r_ref07_Right_15 : List AI := [⟨none, some 112, .mov (.t 6)⟩,
  ⟨none, some 113, .bin .add (.t 112) (.k (.lit (.int .i64 1)))⟩,
  ⟨none, some 6, .mov (.t 113)⟩]
@[simp] def r_ref07_Right_16 : List AI := [⟨none, some 2, .mov (.k (.lit (.bool false)))⟩]
@[simp] def r_ref07_Right_17 : List AI := [⟨none, some 119, .padd 0 (.t 5)⟩,
  ⟨none, some 120, .load 1 false (.t 119)⟩,
  ⟨none, some 121, .padd 0 (.t 7)⟩,
  ⟨none, some 122, .load 1 false (.t 121)⟩,
  ⟨none, some 123, .bin .eql (.t 120) (.t 122)⟩,
  ⟨none, some 124, .mov (.t 123)⟩,
  ⟨some (124, false), some 125, .padd 0 (.t 5)⟩,
  ⟨some (124, false), some 126, .load 1 false (.t 125)⟩,
  ⟨some (124, false), some 127, .padd 1 (.t 7)⟩,
  ⟨some (124, false), some 128, .load 1 false (.t 127)⟩,
  ⟨some (124, false), some 129, .bin .eql (.t 126) (.t 128)⟩,
  ⟨none, some 130, .pick (.t 124) (.k (.lit (.bool true))) (.t 129)⟩,
  ⟨none, some 131, .mov (.t 130)⟩,
  ⟨some (131, false), some 132, .padd 1 (.t 5)⟩,
  ⟨some (131, false), some 133, .load 1 false (.t 132)⟩,
  ⟨some (131, false), some 134, .padd 0 (.t 7)⟩,
  ⟨some (131, false), some 135, .load 1 false (.t 134)⟩,
  ⟨some (131, false), some 136, .bin .eql (.t 133) (.t 135)⟩,
  ⟨none, some 137, .pick (.t 131) (.k (.lit (.bool true))) (.t 136)⟩,
  ⟨none, some 138, .mov (.t 137)⟩,
  ⟨some (138, false), some 139, .padd 1 (.t 5)⟩,
  ⟨some (138, false), some 140, .load 1 false (.t 139)⟩,
  ⟨some (138, false), some 141, .padd 1 (.t 7)⟩,
  ⟨some (138, false), some 142, .load 1 false (.t 141)⟩,
  ⟨some (138, false), some 143, .bin .eql (.t 140) (.t 142)⟩,
  ⟨none, some 144, .pick (.t 138) (.k (.lit (.bool true))) (.t 143)⟩]
@[simp] def r_ref07_Right_18 : List AI := [⟨none, some 114, .padd 5 (.t 1)⟩,
  ⟨none, some 115, .load 1 false (.t 114)⟩,
  ⟨none, some 116, .mov (.t 6)⟩,
  ⟨none, some 117, .idxS 2 (.t 115) (.t 116)⟩,
  ⟨none, some 118, .load 2 true (.t 117)⟩,
  ⟨none, some 7, .alloc ty_ref07_Pair [.lit (.int .i64 0), .lit (.int .i64 0)]⟩,
  ⟨none, none, .store 2 (.t 7) (.t 118)⟩]
@[simp] def r_ref07_Right_19 : List AI := [⟨none, some 109, .mov (.t 6)⟩,
  ⟨none, some 110, .mov (.t 4)⟩,
  ⟨none, some 111, .bin .lss (.t 109) (.t 110)⟩]
def l_ref07_Right_2 : AC :=
 (.seq (.seq (.seq (.reg r_ref07_Right_19) (.keep [1, 4, 5, 6, 111]))
 (.cond (.t 111)
 .skip
 (.exit 4)))
 (.seq (.block 5
 (.seq (.seq (.reg r_ref07_Right_18) (.keep [1, 4, 5, 6, 7]))
 (.seq (.seq (.reg r_ref07_Right_17) (.keep [1, 4, 5, 6, 144]))
 (.cond (.t 144)
 (.seq (.reg r_ref07_Right_16)
 .ret)
 .skip))))
 (.seq (.reg r_ref07_Right_15) (.keep [1, 4, 5, 6]))))
@[simp] def r_ref07_Right_21 : List AI := [⟨none, some 6, .mov (.k (.lit (.int .i64 0)))⟩]
@[simp] def r_ref07_Right_22 : List AI := [⟨none, some 2, .mov (.k (.lit (.bool false)))⟩]
@[simp] def r_ref07_Right_23 : List AI := [⟨none, some 86, .padd 0 (.t 5)⟩,
  ⟨none, some 87, .load 1 false (.t 86)⟩,
  ⟨none, some 88, .padd 0 (.t 1)⟩,
  ⟨none, some 89, .load 1 false (.t 88)⟩,
  ⟨none, some 90, .bin .sub (.t 89) (.k (.lit (.int .i64 1)))⟩,
  ⟨none, some 91, .call (.k (.fn fn_ref07_In [] [])) [(.t 87), (.k (.lit (.int .i64 0))), (.t 90)]⟩,
  ⟨none, some 92, .not (.t 91)⟩,
  ⟨none, some 93, .mov (.t 92)⟩,
  ⟨some (93, false), some 94, .padd 1 (.t 5)⟩,
  ⟨some (93, false), some 95, .load 1 false (.t 94)⟩,
  ⟨some (93, false), some 96, .padd 0 (.t 1)⟩,
  ⟨some (93, false), some 97, .load 1 false (.t 96)⟩,
  ⟨some (93, false), some 98, .bin .sub (.t 97) (.k (.lit (.int .i64 1)))⟩,
  ⟨some (93, false), some 99, .call (.k (.fn fn_ref07_In [] [])) [(.t 95), (.k (.lit (.int .i64 0))), (.t 98)]⟩,
  ⟨some (93, false), some 100, .not (.t 99)⟩,
  ⟨none, some 101, .pick (.t 93) (.k (.lit (.bool true))) (.t 100)⟩,
  ⟨none, some 102, .mov (.t 101)⟩,
  ⟨some (102, false), some 103, .padd 0 (.t 5)⟩,
  ⟨some (102, false), some 104, .load 1 false (.t 103)⟩,
  ⟨some (102, false), some 105, .padd 1 (.t 5)⟩,
  ⟨some (102, false), some 106, .load 1 false (.t 105)⟩,
  ⟨some (102, false), some 107, .bin .eql (.t 104) (.t 106)⟩,
  ⟨none, some 108, .pick (.t 102) (.k (.lit (.bool true))) (.t 107)⟩]
@[simp] def r_ref07_Right_24 : List AI := [⟨none, some 81, .padd 5 (.t 1)⟩,
  ⟨none, some 82, .load 1 false (.t 81)⟩,
  ⟨none, some 83, .mov (.t 4)⟩,
  ⟨none, some 84, .idxS 2 (.t 82) (.t 83)⟩,
  ⟨none, some 85, .load 2 true (.t 84)⟩,
  ⟨none, some 5, .alloc ty_ref07_Pair [.lit (.int .i64 0), .lit (.int .i64 0)]⟩,
  ⟨none, none, .store 2 (.t 5) (.t 85)⟩]
@[simp] def r_ref07_Right_25 : List AI := [⟨none, some 74, .mov (.t 4)⟩,
  ⟨none, some 75, .padd 5 (.t 1)⟩,
  ⟨none, some 76, .load 1 false (.t 75)⟩,
  ⟨none, some 77, .lenS (.t 76)⟩,
  ⟨none, some 78, .bin .lss (.t 74) (.t 77)⟩]
def l_ref07_Right_3 : AC :=
 (.seq (.seq (.seq (.reg r_ref07_Right_25) (.keep [1, 4, 78]))
 (.cond (.t 78)
 .skip
 (.exit 2)))
 (.seq (.block 3
 (.seq (.seq (.reg r_ref07_Right_24) (.keep [1, 4, 5]))
 (.seq (.seq (.seq (.reg r_ref07_Right_23) (.keep [1, 4, 5, 108]))
 (.cond (.t 108)
 (.seq (.reg r_ref07_Right_22)
 .ret)
 .skip))
 (.seq (.reg r_ref07_Right_21)
 (.block 4
 (.loop [1, 4, 5, 6] l_ref07_Right_2))))))
 (.seq (.reg r_ref07_Right_14) (.keep [1, 4]))))
@[simp] def r_ref07_Right_27 : List AI := [⟨none, some 4, .mov (.k (.lit (.int .i64 0)))⟩]
@[simp] def r_ref07_Right_28 : List AI := [⟨none, some 56, .mov (.t 3)⟩,
  ⟨none, some 57, .bin .add (.t 56) (.k (.lit (.int .i64 1)))⟩,
  ⟨none, some 3, .mov (.t 57)⟩]
@[simp] def r_ref07_Right_29 : List AI := [⟨none, some 2, .mov (.k (.lit (.bool false)))⟩]
@[simp] def r_ref07_Right_30 : List AI := [⟨none, some 58, .load 11 true (.t 1)⟩,
  ⟨none, some 59, .mov (.t 3)⟩,
  ⟨none, some 60, .padd 1 (.t 1)⟩,
  ⟨none, some 61, .idxA 2 1 (.t 60) (.t 59)⟩,
  ⟨none, some 62, .load 1 false (.t 61)⟩,
  ⟨none, some 63, .call (.k (.fn fn_ref07_list [] [])) [(.t 58), (.t 62)]⟩,
  ⟨none, some 64, .not (.t 63)⟩,
  ⟨none, some 65, .mov (.t 64)⟩,
  ⟨some (65, false), some 66, .load 11 true (.t 1)⟩,
  ⟨some (65, false), some 67, .mov (.t 3)⟩,
  ⟨some (65, false), some 68, .padd 3 (.t 1)⟩,
  ⟨some (65, false), some 69, .idxA 2 1 (.t 68) (.t 67)⟩,
  ⟨some (65, false), some 70, .load 1 false (.t 69)⟩,
  ⟨some (65, false), some 71, .call (.k (.fn fn_ref07_list [] [])) [(.t 66), (.t 70)]⟩,
  ⟨some (65, false), some 72, .not (.t 71)⟩,
  ⟨none, some 73, .pick (.t 65) (.k (.lit (.bool true))) (.t 72)⟩]
@[simp] def r_ref07_Right_31 : List AI := [⟨none, some 54, .mov (.t 3)⟩,
  ⟨none, some 55, .bin .lss (.t 54) (.k (.lit (.int .i64 2)))⟩]
def l_ref07_Right_4 : AC :=
 (.seq (.seq (.seq (.reg r_ref07_Right_31) (.keep [1, 3, 55]))
 (.cond (.t 55)
 .skip
 (.exit 0)))
 (.seq (.block 1
 (.seq (.seq (.draw r_ref07_Right_30 0 [] [0, 1, 2, 3, 4, 5, 6, 7, 8, 9, 10, 11, 12, 13, 14, 15]) (.keep [1, 3, 73]))
 (.cond (.t 73)
 (.seq (.reg r_ref07_Right_29)
 .ret)
 .skip)))
 (.seq (.reg r_ref07_Right_28) (.keep [1, 3]))))
@[simp] def r_ref07_Right_33 : List AI := [⟨none, some 3, .mov (.k (.lit (.int .i64 0)))⟩]
@[simp] def r_ref07_Right_34 : List AI := [⟨none, some 2, .mov (.k (.lit (.bool false)))⟩]
@[simp] def r_ref07_Right_35 : List AI := [⟨none, some 11, .padd 0 (.t 1)⟩,
  ⟨none, some 12, .load 1 false (.t 11)⟩,
  ⟨none, some 13, .call (.k (.fn fn_ref07_In [] [])) [(.t 12), (.k (.lit (.int .i64 1))), (.k (.lit (.int .i64 40)))]⟩,
  ⟨none, some 14, .not (.t 13)⟩,
  ⟨none, some 15, .mov (.t 14)⟩,
  ⟨some (15, false), some 16, .padd 5 (.t 1)⟩,
  ⟨some (15, false), some 17, .load 1 false (.t 16)⟩,
  ⟨some (15, false), some 18, .lenS (.t 17)⟩,
  ⟨some (15, false), some 19, .bin .gtr (.t 18) (.k (.lit (.int .i64 10)))⟩,
  ⟨none, some 20, .pick (.t 15) (.k (.lit (.bool true))) (.t 19)⟩,
  ⟨none, some 21, .mov (.t 20)⟩,
  ⟨some (21, false), some 22, .padd 6 (.t 1)⟩,
  ⟨some (21, false), some 23, .load 1 false (.t 22)⟩,
  ⟨some (21, false), some 24, .lenS (.t 23)⟩,
  ⟨some (21, false), some 25, .bin .gtr (.t 24) (.k (.lit (.int .i64 10)))⟩,
  ⟨none, some 26, .pick (.t 21) (.k (.lit (.bool true))) (.t 25)⟩,
  ⟨none, some 27, .mov (.t 26)⟩,
  ⟨some (27, false), some 28, .padd 7 (.t 1)⟩,
  ⟨some (27, false), some 29, .load 1 false (.t 28)⟩,
  ⟨some (27, false), some 30, .bin .gtr (.t 29) (.k (.lit (.int .u8 2)))⟩,
  ⟨none, some 31, .pick (.t 27) (.k (.lit (.bool true))) (.t 30)⟩,
  ⟨none, some 32, .mov (.t 31)⟩,
  ⟨some (32, false), some 33, .padd 8 (.t 1)⟩,
  ⟨some (32, false), some 34, .load 1 false (.t 33)⟩,
  ⟨some (32, false), some 35, .call (.k (.fn fn_ref07_In [] [])) [(.t 34), (.k (.lit (.int .i64 0))), (.k (.lit (.int .i64 40)))]⟩,
  ⟨some (32, false), some 36, .not (.t 35)⟩,
  ⟨none, some 37, .pick (.t 32) (.k (.lit (.bool true))) (.t 36)⟩,
  ⟨none, some 38, .mov (.t 37)⟩,
  ⟨some (38, false), some 39, .padd 9 (.t 1)⟩,
  ⟨some (38, false), some 40, .load 1 false (.t 39)⟩,
  ⟨some (38, false), some 41, .call (.k (.fn fn_ref07_In [] [])) [(.t 40), (.k (.lit (.int .i64 0))), (.k (.lit (.int .i64 40)))]⟩,
  ⟨some (38, false), some 42, .not (.t 41)⟩,
  ⟨none, some 43, .pick (.t 38) (.k (.lit (.bool true))) (.t 42)⟩,
  ⟨none, some 44, .mov (.t 43)⟩,
  ⟨some (44, false), some 45, .padd 10 (.t 1)⟩,
  ⟨some (44, false), some 46, .load 1 false (.t 45)⟩,
  ⟨some (44, false), some 47, .bin .neq (.t 46) (.k (.lit (.int .u8 1)))⟩,
  ⟨some (44, false), some 48, .mov (.t 47)⟩,
  ⟨some (48, true), some 49, .padd 10 (.t 1)⟩,
  ⟨some (48, true), some 50, .load 1 false (.t 49)⟩,
  ⟨some (48, true), some 51, .bin .neq (.t 50) (.k (.lit (.int .u8 2)))⟩,
  ⟨some (44, false), some 52, .pick (.t 48) (.t 51) (.k (.lit (.bool false)))⟩,
  ⟨none, some 53, .pick (.t 44) (.k (.lit (.bool true))) (.t 52)⟩]
@[simp] def r_ref07_Right_36 : List AI := [⟨none, some 1, .box ty_ref07_Division (.t 0)⟩,
  ⟨none, some 2, .mov (.k (.lit (.bool false)))⟩]
def a_ref07_Right : AFn := { nparams := 1, res := [.tmp 2], body :=
 (.seq (.seq (.reg r_ref07_Right_36) (.keep [1]))
 (.seq (.seq (.seq (.reg r_ref07_Right_35) (.keep [1, 53]))
 (.cond (.t 53)
 (.seq (.reg r_ref07_Right_34)
 .ret)
 .skip))
 (.seq (.seq (.reg r_ref07_Right_33)
 (.block 0
 (.loop [1, 3] l_ref07_Right_4)))
 (.seq (.seq (.reg r_ref07_Right_27)
 (.block 2
 (.loop [1, 4] l_ref07_Right_3)))
 (.seq (.seq (.reg r_ref07_Right_13)
 (.block 6
 (.loop [1, 8] l_ref07_Right_1)))
 (.seq (.reg r_ref07_Right_0)
 .ret)))))) }
@[simp] def r_law07_list_0 : List AI := [⟨none, some 3, .slit ty_int [.lit (.int .i64 0)] 0 1 []⟩,
  ⟨none, some 4, .mov (.t 0)⟩,
  ⟨none, some 5, .app ty_int [.lit (.int .i64 0)] 1 8 (.t 3) (.t 4)⟩,
  ⟨none, some 2, .mov (.t 5)⟩]
@[simp] def r_law07_list_1 : List AI := [⟨none, some 2, .mov (.k (.nil))⟩]
def a_law07_list : AFn := { nparams := 1, res := [.tmp 2], body :=
 (.seq (.reg r_law07_list_1)
 (.seq (.seq (.reg r_law07_list_0) (.keep [2]))
 .ret)) }
@[simp] def r_tally_Allowed_0 : List AI := [⟨none, some 35, .load 1 false (.t 6)⟩,
  ⟨none, some 2, .mov (.t 35)⟩,
  ⟨none, some 3, .mov (.k (.lit (.int .i64 0)))⟩]
@[simp] def r_tally_Allowed_1 : List AI := [⟨none, some 33, .load 1 false (.t 6)⟩,
  ⟨none, some 34, .call (.k (.fn fn_slices_Sort_Suint8_uint8 [] [])) [(.t 33)]⟩]
@[simp] def r_tally_Allowed_2 : List AI := [⟨none, some 29, .load 1 false (.t 6)⟩,
  ⟨none, some 30, .mov (.t 8)⟩,
  ⟨none, some 31, .slit ty_uint8 [.lit (.int .u8 0)] 1 1 [(0, 1, (.t 30))]⟩,
  ⟨none, some 32, .app ty_uint8 [.lit (.int .u8 0)] 1 1 (.t 29) (.t 31)⟩,
  ⟨none, none, .store 1 (.t 6) (.t 32)⟩]
@[simp] def r_tally_Allowed_3 : List AI := [⟨none, some 25, .load 1 false (.t 6)⟩,
  ⟨none, some 26, .mov (.t 8)⟩,
  ⟨none, some 27, .call (.k (.fn fn_slices_Contains_Suint8_uint8 [] [])) [(.t 25), (.t 26)]⟩,
  ⟨none, some 28, .not (.t 27)⟩]
@[simp] def r_tally_Allowed_4 : List AI := [⟨none, some 20, .load 91 true (.t 4)⟩,
  ⟨none, some 21, .load 91 true (.t 4)⟩,
  ⟨none, some 22, .load 40 true (.t 7)⟩,
  ⟨none, some 23, .call (.k (.fn fn_tally_looked_numbers [] [])) [(.t 21), (.t 22)]⟩,
  ⟨none, some 24, .call (.k (.fn fn_tally_looked_outcome [] [])) [(.t 20), (.t 23)]⟩,
  ⟨none, some 8, .mov (.t 24)⟩]
@[simp] def r_tally_Allowed_5 : List AI := [⟨none, some 7, .alloc ty_tally_truth z_tally_truth⟩,
  ⟨none, none, .store 40 (.t 7) (.t 19)⟩]
def s_tally_Allowed_0 : AC :=
 (.reg r_tally_Allowed_5)
def b_tally_Allowed_0 : AC :=
 (.block 1
 (.seq (.seq (.draw r_tally_Allowed_4 0 [(0, 3)] [0, 1, 2, 3, 4, 5]) (.keep [6, 8]))
 (.seq (.seq (.reg r_tally_Allowed_3) (.keep [6, 8, 28]))
 (.cond (.t 28)
 (.seq (.reg r_tally_Allowed_2) (.keep []))
 .skip))))
@[simp] def r_tally_Allowed_8 : List AI := [⟨none, some 17, .load 91 true (.t 4)⟩,
  ⟨none, some 18, .call (.k (.fn fn_tally_looked_truths [] [])) [(.t 17)]⟩]
@[simp] def r_tally_Allowed_9 : List AI := [⟨none, some 6, .alloc ty_Suint8 [.nil]⟩]
@[simp] def r_tally_Allowed_10 : List AI := [⟨none, some 16, .mov (.t 5)⟩,
  ⟨none, some 2, .mov (.k (.nil))⟩,
  ⟨none, some 3, .mov (.t 16)⟩]
@[simp] def r_tally_Allowed_11 : List AI := [⟨none, some 14, .mov (.t 5)⟩,
  ⟨none, some 15, .bin .neq (.t 14) (.k (.lit (.int .i64 0)))⟩]
@[simp] def r_tally_Allowed_12 : List AI := [⟨none, some 10, .load 11 true (.t 1)⟩,
  ⟨none, some 11, .call (.k (.fn fn_tally_open [] [])) [(.t 10)]⟩,
  ⟨none, some 9, .mov (.t 11)⟩,
  ⟨none, some 12, .ext 0 (.t 9)⟩,
  ⟨none, some 13, .ext 1 (.t 9)⟩,
  ⟨none, some 4, .alloc ty_tally_looked z_tally_looked⟩,
  ⟨none, none, .store 91 (.t 4) (.t 12)⟩,
  ⟨none, some 5, .mov (.t 13)⟩]
@[simp] def r_tally_Allowed_13 : List AI := [⟨none, some 1, .box ty_tally_Division (.t 0)⟩,
  ⟨none, some 2, .mov (.k (.nil))⟩,
  ⟨none, some 3, .mov (.k (.lit (.int .i64 0)))⟩]
def a_tally_Allowed : AFn := { nparams := 1, res := [.tmp 2, .tmp 3], body :=
 (.seq (.reg r_tally_Allowed_13)
 (.seq (.seq (.reg r_tally_Allowed_12) (.keep [2, 3, 4, 5]))
 (.seq (.seq (.seq (.reg r_tally_Allowed_11) (.keep [2, 3, 4, 5, 15]))
 (.cond (.t 15)
 (.seq (.seq (.reg r_tally_Allowed_10) (.keep [2, 3]))
 .ret)
 .skip))
 (.seq (.reg r_tally_Allowed_9)
 (.seq (.seq (.seq (.reg r_tally_Allowed_8) (.keep [2, 3, 4, 6, 18]))
 (.block 0
 (.seq (.keep [2, 3, 4, 6, 18]) (.rangeF (.t 18) [19] s_tally_Allowed_0 b_tally_Allowed_0))))
 (.seq (.seq (.reg r_tally_Allowed_1) (.keep [6]))
 (.seq (.seq (.reg r_tally_Allowed_0) (.keep [2, 3]))
 .ret))))))) }
@[simp] def r_tally_Ask_0 : List AI := [⟨none, some 34, .load 1 false (.t 6)⟩,
  ⟨none, some 2, .mov (.t 34)⟩,
  ⟨none, some 3, .mov (.k (.lit (.int .i64 0)))⟩]
@[simp] def r_tally_Ask_1 : List AI := [⟨none, some 33, .bin .add (.t 26) (.k (.lit (.int .i64 1)))⟩,
  ⟨none, some 26, .mov (.t 33)⟩]
@[simp] def r_tally_Ask_2 : List AI := [⟨none, some 32, .load 1 false (.t 8)⟩,
  ⟨none, some 2, .mov (.t 32)⟩,
  ⟨none, some 3, .mov (.k (.lit (.int .i64 0)))⟩]
@[simp] def r_tally_Ask_3 : List AI := [⟨none, some 29, .load 1 false (.t 9)⟩,
  ⟨none, some 30, .mov (.t 10)⟩,
  ⟨none, some 31, .call (.t 29) [(.k (.nil)), (.k (.lit (.int .i64 0))), (.t 30)]⟩]
@[simp] def r_tally_Ask_4 : List AI := [⟨none, some 28, .mov (.t 26)⟩,
  ⟨none, some 10, .mov (.t 28)⟩]
@[simp] def r_tally_Ask_5 : List AI := [⟨none, some 27, .bin .lss (.t 26) (.t 25)⟩]
def l_tally_Ask_0 : AC :=
 (.seq (.reg r_tally_Ask_5)
 (.seq (.cond (.t 27)
 .skip
 (.exit 0))
 (.seq (.block 1
 (.seq (.seq (.reg r_tally_Ask_4) (.keep [6, 8, 9, 10, 25, 26]))
 (.seq (.seq (.reg r_tally_Ask_3) (.keep [6, 8, 9, 25, 26, 31]))
 (.cond (.t 31)
 (.seq (.seq (.reg r_tally_Ask_2) (.keep [2, 3]))
 .ret)
 .skip))))
 (.seq (.reg r_tally_Ask_1) (.keep [6, 8, 9, 25, 26])))))
@[simp] def r_tally_Ask_7 : List AI := [⟨none, some 24, .load 1 false (.t 6)⟩,
  ⟨none, some 25, .lenS (.t 24)⟩,
  ⟨none, some 26, .mov (.k (.lit (.int .i64 0)))⟩]
@[simp] def r_tally_Ask_8 : List AI := [⟨none, some 23, .mkfn fn_tally_Ask_1 [] [(.t 8), (.t 7), (.t 6), (.t 9)]⟩,
  ⟨none, none, .store 1 (.t 9) (.t 23)⟩]
@[simp] def r_tally_Ask_9 : List AI := [⟨none, some 9, .alloc ty_func_Sint_int_int_bool [.lit (.nilFunc)]⟩]
@[simp] def r_tally_Ask_10 : List AI := [⟨none, some 8, .alloc ty_Sint [.nil]⟩]
@[simp] def r_tally_Ask_11 : List AI := [⟨none, some 19, .load 91 true (.t 4)⟩,
  ⟨none, some 20, .call (.k (.fn fn_tally_looked_doubts [] [])) [(.t 19)]⟩,
  ⟨none, some 21, .load 91 true (.t 4)⟩,
  ⟨none, some 22, .call (.k (.fn fn_tally_looked_all [] [])) [(.t 21)]⟩,
  ⟨none, some 6, .slot 0 ty_Sint [.nil]⟩,
  ⟨none, some 7, .slot 1 ty_Stally_told [.nil]⟩,
  ⟨none, none, .store 1 (.t 6) (.t 20)⟩,
  ⟨none, none, .store 1 (.t 7) (.t 22)⟩]
@[simp] def r_tally_Ask_12 : List AI := [⟨none, some 18, .mov (.t 5)⟩,
  ⟨none, some 2, .mov (.k (.nil))⟩,
  ⟨none, some 3, .mov (.t 18)⟩]
@[simp] def r_tally_Ask_13 : List AI := [⟨none, some 16, .mov (.t 5)⟩,
  ⟨none, some 17, .bin .neq (.t 16) (.k (.lit (.int .i64 0)))⟩]
@[simp] def r_tally_Ask_14 : List AI := [⟨none, some 12, .load 11 true (.t 1)⟩,
  ⟨none, some 13, .call (.k (.fn fn_tally_open [] [])) [(.t 12)]⟩,
  ⟨none, some 11, .mov (.t 13)⟩,
  ⟨none, some 14, .ext 0 (.t 11)⟩,
  ⟨none, some 15, .ext 1 (.t 11)⟩,
  ⟨none, some 4, .alloc ty_tally_looked z_tally_looked⟩,
  ⟨none, none, .store 91 (.t 4) (.t 14)⟩,
  ⟨none, some 5, .mov (.t 15)⟩]
@[simp] def r_tally_Ask_15 : List AI := [⟨none, some 1, .box ty_tally_Division (.t 0)⟩,
  ⟨none, some 2, .mov (.k (.nil))⟩,
  ⟨none, some 3, .mov (.k (.lit (.int .i64 0)))⟩]
def a_tally_Ask : AFn := { nparams := 1, res := [.tmp 2, .tmp 3], body :=
 (.seq (.seq (.reg r_tally_Ask_15) (.keep [1]))
 (.seq (.seq (.reg r_tally_Ask_14) (.keep [4, 5]))
 (.seq (.seq (.seq (.reg r_tally_Ask_13) (.keep [4, 5, 17]))
 (.cond (.t 17)
 (.seq (.seq (.reg r_tally_Ask_12) (.keep [2, 3]))
 .ret)
 .skip))
 (.seq (.seq (.draw r_tally_Ask_11 2 [(1, 2), (0, 4), (1, 4), (2, 4), (3, 4), (0, 5), (1, 5), (2, 5), (3, 5), (4, 5)] [0, 1, 2, 3, 4, 5, 6, 7]) (.keep [6, 7]))
 (.seq (.reg r_tally_Ask_10)
 (.seq (.reg r_tally_Ask_9)
 (.seq (.seq (.reg r_tally_Ask_8) (.keep [6, 8, 9]))
 (.seq (.seq (.seq (.reg r_tally_Ask_7) (.keep [6, 8, 9, 25, 26]))
 (.block 0
 (.loop [6, 8, 9, 25, 26] l_tally_Ask_0)))
 (.seq (.seq (.reg r_tally_Ask_0) (.keep [2, 3]))
 .ret))))))))) }
@[simp] def r_tally_Clash_0 : List AI := [⟨none, some 17, .mov (.t 4)⟩,
  ⟨none, some 2, .mov (.t 17)⟩,
  ⟨none, some 3, .mov (.k (.lit (.int .i64 0)))⟩]
@[simp] def r_tally_Clash_1 : List AI := [⟨none, some 2, .mov (.k (.lit (.int .i64 0)))⟩,
  ⟨none, some 3, .mov (.k (.lit (.int .i64 7)))⟩]
@[simp] def r_tally_Clash_2 : List AI := [⟨none, some 15, .mov (.t 5)⟩,
  ⟨none, some 16, .not (.t 15)⟩]
@[simp] def r_tally_Clash_3 : List AI := [⟨none, some 10, .load 11 true (.t 1)⟩,
  ⟨none, some 11, .call (.k (.fn fn_tally_Division_look [] [])) [(.t 10)]⟩,
  ⟨none, some 12, .call (.k (.fn fn_tally_looked_clash [] [])) [(.t 11)]⟩,
  ⟨none, some 9, .mov (.t 12)⟩,
  ⟨none, some 13, .ext 0 (.t 9)⟩,
  ⟨none, some 14, .ext 1 (.t 9)⟩,
  ⟨none, some 4, .mov (.t 13)⟩,
  ⟨none, some 5, .mov (.t 14)⟩]
@[simp] def r_tally_Clash_4 : List AI := [⟨none, some 2, .mov (.k (.lit (.int .i64 0)))⟩,
  ⟨none, some 3, .mov (.k (.lit (.int .i64 1)))⟩]
@[simp] def r_tally_Clash_5 : List AI := [⟨none, some 6, .load 11 true (.t 1)⟩,
  ⟨none, some 7, .call (.k (.fn fn_tally_Division_valid [] [])) [(.t 6)]⟩,
  ⟨none, some 8, .not (.t 7)⟩]
@[simp] def r_tally_Clash_6 : List AI := [⟨none, some 1, .box ty_tally_Division (.t 0)⟩,
  ⟨none, some 2, .mov (.k (.lit (.int .i64 0)))⟩,
  ⟨none, some 3, .mov (.k (.lit (.int .i64 0)))⟩]
def a_tally_Clash : AFn := { nparams := 1, res := [.tmp 2, .tmp 3], body :=
 (.seq (.seq (.reg r_tally_Clash_6) (.keep [1]))
 (.seq (.seq (.seq (.reg r_tally_Clash_5) (.keep [1, 8]))
 (.cond (.t 8)
 (.seq (.reg r_tally_Clash_4)
 .ret)
 .skip))
 (.seq (.seq (.reg r_tally_Clash_3) (.keep [4, 5]))
 (.seq (.seq (.seq (.reg r_tally_Clash_2) (.keep [4, 16]))
 (.cond (.t 16)
 (.seq (.reg r_tally_Clash_1)
 .ret)
 .skip))
 (.seq (.seq (.reg r_tally_Clash_0) (.keep [2, 3]))
 .ret))))) }
@[simp] def r_law07_ready_0 : List AI := [⟨none, some 3, .load 11 true (.t 1)⟩,
  ⟨none, some 4, .call (.k (.fn fn_law07_Few [] [])) [(.t 3)]⟩,
  ⟨none, some 5, .mov (.t 4)⟩,
  ⟨some (5, true), some 6, .load 11 true (.t 1)⟩,
  ⟨some (5, true), some 7, .call (.k (.fn fn_law07_open [] [])) [(.t 6)]⟩,
  ⟨some (5, true), some 8, .bin .eql (.t 7) (.k (.lit (.int .i64 0)))⟩,
  ⟨none, some 9, .pick (.t 5) (.t 8) (.k (.lit (.bool false)))⟩,
  ⟨none, some 2, .mov (.t 9)⟩]
@[simp] def r_law07_ready_1 : List AI := [⟨none, some 1, .box ty_ref07_Division (.t 0)⟩,
  ⟨none, some 2, .mov (.k (.lit (.bool false)))⟩]
def a_law07_ready : AFn := { nparams := 1, res := [.tmp 2], body :=
 (.seq (.seq (.reg r_law07_ready_1) (.keep [1]))
 (.seq (.seq (.reg r_law07_ready_0) (.keep [2]))
 .ret)) }
@[simp] def r_ref07_Has_0 : List AI := [⟨none, some 4, .mov (.k (.lit (.bool false)))⟩]
@[simp] def r_ref07_Has_1 : List AI := [⟨none, some 10, .mov (.t 5)⟩,
  ⟨none, some 11, .bin .add (.t 10) (.k (.lit (.int .i64 1)))⟩,
  ⟨none, some 5, .mov (.t 11)⟩]
@[simp] def r_ref07_Has_2 : List AI := [⟨none, some 4, .mov (.k (.lit (.bool true)))⟩]
@[simp] def r_ref07_Has_3 : List AI := [⟨none, some 12, .mov (.t 0)⟩,
  ⟨none, some 13, .mov (.t 5)⟩,
  ⟨none, some 14, .idxS 1 (.t 12) (.t 13)⟩,
  ⟨none, some 15, .load 1 false (.t 14)⟩,
  ⟨none, some 16, .mov (.t 1)⟩,
  ⟨none, some 17, .bin .eql (.t 15) (.t 16)⟩]
@[simp] def r_ref07_Has_4 : List AI := [⟨none, some 6, .mov (.t 5)⟩,
  ⟨none, some 7, .mov (.t 0)⟩,
  ⟨none, some 8, .lenS (.t 7)⟩,
  ⟨none, some 9, .bin .lss (.t 6) (.t 8)⟩]
def l_ref07_Has_0 : AC :=
 (.seq (.seq (.seq (.reg r_ref07_Has_4) (.keep [0, 1, 5, 9]))
 (.cond (.t 9)
 .skip
 (.exit 0)))
 (.seq (.block 1
 (.seq (.seq (.reg r_ref07_Has_3) (.keep [0, 1, 5, 17]))
 (.cond (.t 17)
 (.seq (.reg r_ref07_Has_2)
 .ret)
 .skip)))
 (.seq (.reg r_ref07_Has_1) (.keep [0, 1, 5]))))
@[simp] def r_ref07_Has_6 : List AI := [⟨none, some 5, .mov (.k (.lit (.int .i64 0)))⟩]
@[simp] def r_ref07_Has_7 : List AI := [⟨none, some 4, .mov (.k (.lit (.bool false)))⟩]
def a_ref07_Has : AFn := { nparams := 2, res := [.tmp 4], body :=
 (.seq (.reg r_ref07_Has_7)
 (.seq (.seq (.reg r_ref07_Has_6)
 (.block 0
 (.loop [0, 1, 5] l_ref07_Has_0)))
 (.seq (.reg r_ref07_Has_0)
 .ret))) }
@[simp] def r_ref07_Clash_0 : List AI := [⟨none, some 2, .mov (.k (.lit (.int .i64 (-1))))⟩]
@[simp] def r_ref07_Clash_1 : List AI := [⟨none, some 8, .mov (.t 3)⟩,
  ⟨none, some 9, .bin .add (.t 8) (.k (.lit (.int .i64 1)))⟩,
  ⟨none, some 3, .mov (.t 9)⟩]
@[simp] def r_ref07_Clash_2 : List AI := [⟨none, some 22, .mov (.t 3)⟩,
  ⟨none, some 2, .mov (.t 22)⟩]
@[simp] def r_ref07_Clash_3 : List AI := [⟨none, some 10, .padd 1 (.t 1)⟩,
  ⟨none, some 11, .load 2 true (.t 10)⟩,
  ⟨none, some 12, .mov (.t 3)⟩,
  ⟨none, some 13, .call (.k (.fn fn_ref07_On [] [])) [(.t 11), (.t 12)]⟩,
  ⟨none, some 14, .bin .eql (.t 13) (.k (.lit (.int .i64 2)))⟩,
  ⟨none, some 15, .mov (.t 14)⟩,
  ⟨some (15, true), some 16, .padd 3 (.t 1)⟩,
  ⟨some (15, true), some 17, .load 2 true (.t 16)⟩,
  ⟨some (15, true), some 18, .mov (.t 3)⟩,
  ⟨some (15, true), some 19, .call (.k (.fn fn_ref07_On [] [])) [(.t 17), (.t 18)]⟩,
  ⟨some (15, true), some 20, .bin .eql (.t 19) (.k (.lit (.int .i64 2)))⟩,
  ⟨none, some 21, .pick (.t 15) (.t 20) (.k (.lit (.bool false)))⟩]
@[simp] def r_ref07_Clash_4 : List AI := [⟨none, some 4, .mov (.t 3)⟩,
  ⟨none, some 5, .padd 0 (.t 1)⟩,
  ⟨none, some 6, .load 1 false (.t 5)⟩,
  ⟨none, some 7, .bin .lss (.t 4) (.t 6)⟩]
def l_ref07_Clash_0 : AC :=
 (.seq (.seq (.seq (.reg r_ref07_Clash_4) (.keep [1, 3, 7]))
 (.cond (.t 7)
 .skip
 (.exit 0)))
 (.seq (.block 1
 (.seq (.seq (.reg r_ref07_Clash_3) (.keep [1, 3, 21]))
 (.cond (.t 21)
 (.seq (.seq (.reg r_ref07_Clash_2) (.keep [2]))
 .ret)
 .skip)))
 (.seq (.reg r_ref07_Clash_1) (.keep [1, 3]))))
@[simp] def r_ref07_Clash_6 : List AI := [⟨none, some 3, .mov (.k (.lit (.int .i64 0)))⟩]
@[simp] def r_ref07_Clash_7 : List AI := [⟨none, some 1, .box ty_ref07_Division (.t 0)⟩,
  ⟨none, some 2, .mov (.k (.lit (.int .i64 0)))⟩]
def a_ref07_Clash : AFn := { nparams := 1, res := [.tmp 2], body :=
 (.seq (.seq (.reg r_ref07_Clash_7) (.keep [1]))
 (.seq (.seq (.reg r_ref07_Clash_6)
 (.block 0
 (.loop [1, 3] l_ref07_Clash_0)))
 (.seq (.reg r_ref07_Clash_0)
 .ret))) }
@[simp] def r_law07_votes_0 : List AI := [⟨none, some 4, .mov (.k (.lit (.bool true)))⟩]
@[simp] def r_law07_votes_1 : List AI := [⟨none, some 15, .mov (.t 5)⟩,
  ⟨none, some 16, .bin .add (.t 15) (.k (.lit (.int .i64 1)))⟩,
  ⟨none, some 5, .mov (.t 16)⟩]
@[simp] def r_law07_votes_2 : List AI := [⟨none, some 4, .mov (.k (.lit (.bool false)))⟩]
@[simp] def r_law07_votes_3 : List AI := [⟨none, some 17, .mov (.t 0)⟩,
  ⟨none, some 18, .mov (.t 5)⟩,
  ⟨none, some 19, .idxS 1 (.t 17) (.t 18)⟩,
  ⟨none, some 20, .load 1 false (.t 19)⟩,
  ⟨none, some 21, .mov (.t 1)⟩,
  ⟨none, some 22, .mov (.t 5)⟩,
  ⟨none, some 23, .idxS 1 (.t 21) (.t 22)⟩,
  ⟨none, some 24, .load 1 false (.t 23)⟩,
  ⟨none, some 25, .bin .neq (.t 20) (.t 24)⟩]
@[simp] def r_law07_votes_4 : List AI := [⟨none, some 11, .mov (.t 5)⟩,
  ⟨none, some 12, .mov (.t 0)⟩,
  ⟨none, some 13, .lenS (.t 12)⟩,
  ⟨none, some 14, .bin .lss (.t 11) (.t 13)⟩]
def l_law07_votes_0 : AC :=
 (.seq (.seq (.seq (.reg r_law07_votes_4) (.keep [0, 1, 5, 14]))
 (.cond (.t 14)
 .skip
 (.exit 0)))
 (.seq (.block 1
 (.seq (.seq (.draw r_law07_votes_3 0 [] [0, 1, 2, 3, 4, 5, 6, 7, 8]) (.keep [0, 1, 5, 25]))
 (.cond (.t 25)
 (.seq (.reg r_law07_votes_2)
 .ret)
 .skip)))
 (.seq (.reg r_law07_votes_1) (.keep [0, 1, 5]))))
@[simp] def r_law07_votes_6 : List AI := [⟨none, some 5, .mov (.k (.lit (.int .i64 0)))⟩]
@[simp] def r_law07_votes_7 : List AI := [⟨none, some 4, .mov (.k (.lit (.bool false)))⟩]
@[simp] def r_law07_votes_8 : List AI := [⟨none, some 6, .mov (.t 0)⟩,
  ⟨none, some 7, .lenS (.t 6)⟩,
  ⟨none, some 8, .mov (.t 1)⟩,
  ⟨none, some 9, .lenS (.t 8)⟩,
  ⟨none, some 10, .bin .neq (.t 7) (.t 9)⟩]
@[simp] def r_law07_votes_9 : List AI := [⟨none, some 4, .mov (.k (.lit (.bool false)))⟩]
def a_law07_votes : AFn := { nparams := 2, res := [.tmp 4], body :=
 (.seq (.reg r_law07_votes_9)
 (.seq (.seq (.seq (.reg r_law07_votes_8) (.keep [0, 1, 10]))
 (.cond (.t 10)
 (.seq (.reg r_law07_votes_7)
 .ret)
 .skip))
 (.seq (.seq (.reg r_law07_votes_6)
 (.block 0
 (.loop [0, 1, 5] l_law07_votes_0)))
 (.seq (.reg r_law07_votes_0)
 .ret)))) }
@[simp] def r_law07_lobbies_0 : List AI := [⟨none, some 1, .slit ty_int [.lit (.int .i64 0)] 3 1 [(0, 1, (.k (.lit (.int .i64 0)))), (1, 1, (.k (.lit (.int .i64 1)))), (2, 1, (.k (.lit (.int .i64 2))))]⟩,
  ⟨none, some 2, .slit ty_int [.lit (.int .i64 0)] 3 1 [(0, 1, (.k (.lit (.int .i64 0)))), (1, 1, (.k (.lit (.int .i64 1)))), (2, 1, (.k (.lit (.int .i64 3))))]⟩,
  ⟨none, some 3, .build [.nil, .nil] [(0, 1, (.t 1)), (1, 1, (.t 2))]⟩,
  ⟨none, some 4, .slit ty_int [.lit (.int .i64 0)] 2 1 [(0, 1, (.k (.lit (.int .i64 4)))), (1, 1, (.k (.lit (.int .i64 5))))]⟩,
  ⟨none, some 5, .slit ty_int [.lit (.int .i64 0)] 2 1 [(0, 1, (.k (.lit (.int .i64 4)))), (1, 1, (.k (.lit (.int .i64 5))))]⟩,
  ⟨none, some 6, .build [.nil, .nil] [(0, 1, (.t 4)), (1, 1, (.t 5))]⟩,
  ⟨none, some 7, .build [.lit (.int .i64 0), .lit (.int .i64 0)] [(0, 1, (.k (.lit (.int .i64 4)))), (1, 1, (.k (.lit (.int .i64 3))))]⟩,
  ⟨none, some 8, .slit ty_tally_Proxy [.lit (.int .i64 0), .lit (.int .i64 0)] 1 2 [(0, 2, (.t 7))]⟩,
  ⟨none, some 9, .build [.lit (.int .i64 0), .nil, .nil, .nil, .nil, .nil, .nil, .lit (.int .u8 0), .lit (.int .i64 0), .lit (.int .i64 0), .lit (.int .u8 0)] [(0, 1, (.k (.lit (.int .i64 6)))), (1, 2, (.t 3)), (3, 2, (.t 6)), (6, 1, (.t 8)), (9, 1, (.k (.lit (.int .i64 3)))), (10, 1, (.k (.lit (.int .u8 2))))]⟩,
  ⟨none, none, .store 11 (.t 0) (.t 9)⟩]
@[simp] def r_law07_lobbies_1 : List AI := [⟨none, some 0, .alloc ty_tally_Division [.lit (.int .i64 0), .nil, .nil, .nil, .nil, .nil, .nil, .lit (.int .u8 0), .lit (.int .i64 0), .lit (.int .i64 0), .lit (.int .u8 0)]⟩]
def a_law07_lobbies : AFn := { nparams := 0, res := [.cell 0 11 true], body :=
 (.seq (.reg r_law07_lobbies_1)
 (.seq (.seq (.reg r_law07_lobbies_0) (.keep [0]))
 .ret)) }
@[simp] def r_tally_begin_0 : List AI := [⟨none, some 20, .load 91 true (.t 4)⟩,
  ⟨none, none, .store 91 (.t 2) (.t 20)⟩,
  ⟨none, some 3, .mov (.k (.lit (.int .i64 0)))⟩]
@[simp] def r_tally_begin_1 : List AI := [⟨none, some 19, .build z_tally_looked []⟩,
  ⟨none, none, .store 91 (.t 2) (.t 19)⟩,
  ⟨none, some 3, .mov (.k (.lit (.int .i64 9)))⟩]
@[simp] def r_tally_begin_2 : List AI := [⟨none, some 18, .mov (.t 6)⟩]
@[simp] def r_tally_begin_3 : List AI := [⟨none, some 14, .load 91 true (.t 4)⟩,
  ⟨none, some 15, .call (.k (.fn fn_tally_looked_clash [] [])) [(.t 14)]⟩,
  ⟨none, some 13, .mov (.t 15)⟩,
  ⟨none, some 16, .ext 0 (.t 13)⟩,
  ⟨none, some 17, .ext 1 (.t 13)⟩,
  ⟨none, some 5, .mov (.t 16)⟩,
  ⟨none, some 6, .mov (.t 17)⟩]
@[simp] def r_tally_begin_4 : List AI := [⟨none, some 11, .load 11 true (.t 1)⟩,
  ⟨none, some 12, .call (.k (.fn fn_tally_Division_look [] [])) [(.t 11)]⟩,
  ⟨none, some 4, .alloc ty_tally_looked z_tally_looked⟩,
  ⟨none, none, .store 91 (.t 4) (.t 12)⟩]
@[simp] def r_tally_begin_5 : List AI := [⟨none, some 10, .build z_tally_looked []⟩,
  ⟨none, none, .store 91 (.t 2) (.t 10)⟩,
  ⟨none, some 3, .mov (.k (.lit (.int .i64 1)))⟩]
@[simp] def r_tally_begin_6 : List AI := [⟨none, some 7, .load 11 true (.t 1)⟩,
  ⟨none, some 8, .call (.k (.fn fn_tally_Division_valid [] [])) [(.t 7)]⟩,
  ⟨none, some 9, .not (.t 8)⟩]
@[simp] def r_tally_begin_7 : List AI := [⟨none, some 1, .box ty_tally_Division (.t 0)⟩,
  ⟨none, some 2, .alloc ty_tally_looked z_tally_looked⟩,
  ⟨none, some 3, .mov (.k (.lit (.int .i64 0)))⟩]
def a_tally_begin : AFn := { nparams := 1, res := [.cell 2 91 true, .tmp 3], body :=
 (.seq (.seq (.reg r_tally_begin_7) (.keep [1, 2]))
 (.seq (.seq (.seq (.reg r_tally_begin_6) (.keep [1, 2, 9]))
 (.cond (.t 9)
 (.seq (.seq (.reg r_tally_begin_5) (.keep [2, 3]))
 .ret)
 .skip))
 (.seq (.seq (.reg r_tally_begin_4) (.keep [2, 4]))
 (.seq (.seq (.seq (.reg r_tally_begin_3) (.keep [2, 4, 6]))
 (.seq (.reg r_tally_begin_2)
 (.cond (.t 18)
 (.seq (.seq (.reg r_tally_begin_1) (.keep [2, 3]))
 .ret)
 .skip)))
 (.seq (.seq (.reg r_tally_begin_0) (.keep [2, 3]))
 .ret))))) }
@[simp] def r_tally_looked_doubts_0 : List AI := [⟨none, some 21, .mov (.t 2)⟩,
  ⟨none, some 2, .mov (.t 21)⟩]
@[simp] def r_tally_looked_doubts_1 : List AI := [⟨none, some 20, .bin .add (.t 7) (.k (.lit (.int .i64 1)))⟩,
  ⟨none, some 7, .mov (.t 20)⟩]
@[simp] def r_tally_looked_doubts_2 : List AI := [⟨none, some 16, .mov (.t 2)⟩,
  ⟨none, some 17, .mov (.t 3)⟩,
  ⟨none, some 18, .slit ty_int [.lit (.int .i64 0)] 1 1 [(0, 1, (.t 17))]⟩,
  ⟨none, some 19, .app ty_int [.lit (.int .i64 0)] 1 8 (.t 16) (.t 18)⟩,
  ⟨none, some 2, .mov (.t 19)⟩]
@[simp] def r_tally_looked_doubts_3 : List AI := [⟨none, some 10, .mov (.t 3)⟩,
  ⟨none, some 11, .padd 51 (.t 1)⟩,
  ⟨none, some 12, .idxA 40 1 (.t 11) (.t 10)⟩,
  ⟨none, some 13, .load 1 false (.t 12)⟩,
  ⟨none, some 14, .lenS (.t 13)⟩,
  ⟨none, some 15, .bin .gtr (.t 14) (.k (.lit (.int .i64 1)))⟩]
@[simp] def r_tally_looked_doubts_4 : List AI := [⟨none, some 9, .mov (.t 7)⟩,
  ⟨none, some 3, .mov (.t 9)⟩]
@[simp] def r_tally_looked_doubts_5 : List AI := [⟨none, some 8, .bin .lss (.t 7) (.t 6)⟩]
def l_tally_looked_doubts_0 : AC :=
 (.seq (.reg r_tally_looked_doubts_5)
 (.seq (.cond (.t 8)
 .skip
 (.exit 0))
 (.seq (.block 1
 (.seq (.seq (.reg r_tally_looked_doubts_4) (.keep [1, 2, 3, 6, 7]))
 (.seq (.seq (.reg r_tally_looked_doubts_3) (.keep [1, 2, 3, 6, 7, 15]))
 (.cond (.t 15)
 (.seq (.reg r_tally_looked_doubts_2) (.keep [1, 2, 6, 7]))
 .skip))))
 (.seq (.reg r_tally_looked_doubts_1) (.keep [1, 2, 6, 7])))))
@[simp] def r_tally_looked_doubts_7 : List AI := [⟨none, some 4, .padd 0 (.t 1)⟩,
  ⟨none, some 5, .padd 0 (.t 4)⟩,
  ⟨none, some 6, .load 1 false (.t 5)⟩,
  ⟨none, some 7, .mov (.k (.lit (.int .i64 0)))⟩]
@[simp] def r_tally_looked_doubts_8 : List AI := [⟨none, some 1, .box ty_tally_looked (.t 0)⟩,
  ⟨none, some 2, .mov (.k (.nil))⟩]
def a_tally_looked_doubts : AFn := { nparams := 1, res := [.tmp 2], body :=
 (.seq (.reg r_tally_looked_doubts_8)
 (.seq (.seq (.seq (.reg r_tally_looked_doubts_7) (.keep [1, 2, 6, 7]))
 (.block 0
 (.loop [1, 2, 6, 7] l_tally_looked_doubts_0)))
 (.seq (.seq (.reg r_tally_looked_doubts_0) (.keep [2]))
 .ret))) }
@[simp] def r_tally_open_0 : List AI := [⟨none, some 20, .load 91 true (.t 4)⟩,
  ⟨none, some 21, .mov (.t 5)⟩,
  ⟨none, none, .store 91 (.t 2) (.t 20)⟩,
  ⟨none, some 3, .mov (.t 21)⟩]
@[simp] def r_tally_open_1 : List AI := [⟨none, some 19, .build z_tally_looked []⟩,
  ⟨none, none, .store 91 (.t 2) (.t 19)⟩,
  ⟨none, some 3, .mov (.k (.lit (.int .i64 3)))⟩]
@[simp] def r_tally_open_2 : List AI := [⟨none, some 11, .mov (.t 5)⟩,
  ⟨none, some 12, .bin .eql (.t 11) (.k (.lit (.int .i64 0)))⟩,
  ⟨none, some 13, .mov (.t 12)⟩,
  ⟨some (13, true), some 14, .load 91 true (.t 4)⟩,
  ⟨some (13, true), some 15, .call (.k (.fn fn_tally_looked_doubts [] [])) [(.t 14)]⟩,
  ⟨some (13, true), some 16, .lenS (.t 15)⟩,
  ⟨some (13, true), some 17, .bin .gtr (.t 16) (.k (.lit (.int .i64 8)))⟩,
  ⟨none, some 18, .pick (.t 13) (.t 17) (.k (.lit (.bool false)))⟩]
@[simp] def r_tally_open_3 : List AI := [⟨none, some 7, .load 11 true (.t 1)⟩,
  ⟨none, some 8, .call (.k (.fn fn_tally_begin [] [])) [(.t 7)]⟩,
  ⟨none, some 6, .mov (.t 8)⟩,
  ⟨none, some 9, .ext 0 (.t 6)⟩,
  ⟨none, some 10, .ext 1 (.t 6)⟩,
  ⟨none, some 4, .alloc ty_tally_looked z_tally_looked⟩,
  ⟨none, none, .store 91 (.t 4) (.t 9)⟩,
  ⟨none, some 5, .mov (.t 10)⟩]
@[simp] def r_tally_open_4 : List AI := [⟨none, some 1, .box ty_tally_Division (.t 0)⟩,
  ⟨none, some 2, .alloc ty_tally_looked z_tally_looked⟩,
  ⟨none, some 3, .mov (.k (.lit (.int .i64 0)))⟩]
def a_tally_open : AFn := { nparams := 1, res := [.cell 2 91 true, .tmp 3], body :=
 (.seq (.seq (.reg r_tally_open_4) (.keep [1, 2]))
 (.seq (.seq (.reg r_tally_open_3) (.keep [2, 4, 5]))
 (.seq (.seq (.seq (.reg r_tally_open_2) (.keep [2, 4, 5, 18]))
 (.cond (.t 18)
 (.seq (.seq (.reg r_tally_open_1) (.keep [2, 3]))
 .ret)
 .skip))
 (.seq (.seq (.reg r_tally_open_0) (.keep [2, 3]))
 .ret)))) }
@[simp] def r_tally_looked_truths_0 : List AI := [⟨none, some 3, .mkfn fn_tally_looked_truths_1 [] [(.t 1)]⟩,
  ⟨none, some 2, .mov (.t 3)⟩]
@[simp] def r_tally_looked_truths_1 : List AI := [⟨none, some 1, .box ty_tally_looked (.t 0)⟩,
  ⟨none, some 2, .mov (.k (.lit .nilFunc))⟩]
def a_tally_looked_truths : AFn := { nparams := 1, res := [.tmp 2], body :=
 (.seq (.seq (.reg r_tally_looked_truths_1) (.keep [1]))
 (.seq (.seq (.reg r_tally_looked_truths_0) (.keep [2]))
 .ret)) }
@[simp] def r_tally_looked_numbers_0 : List AI := [⟨none, some 63, .load 2 true (.t 4)⟩,
  ⟨none, none, .store 2 (.t 4) (.t 63)⟩]
@[simp] def r_tally_looked_numbers_1 : List AI := [⟨none, some 62, .bin .add (.t 31) (.k (.lit (.int .i64 1)))⟩,
  ⟨none, some 31, .mov (.t 62)⟩]
@[simp] def r_tally_looked_numbers_2 : List AI := [⟨none, some 56, .mov (.t 5)⟩,
  ⟨none, some 57, .padd 0 (.t 8)⟩,
  ⟨none, some 58, .load 1 false (.t 57)⟩,
  ⟨none, some 59, .idxA 40 1 (.t 3) (.t 58)⟩,
  ⟨none, some 60, .load 1 false (.t 59)⟩,
  ⟨none, some 61, .call (.t 56) [(.t 60)]⟩]
@[simp] def r_tally_looked_numbers_3 : List AI := [⟨none, some 35, .padd 1 (.t 8)⟩,
  ⟨none, some 36, .load 1 false (.t 35)⟩,
  ⟨none, some 37, .idxA 40 1 (.t 3) (.t 36)⟩,
  ⟨none, some 38, .load 1 false (.t 37)⟩,
  ⟨none, some 39, .bin .eql (.t 38) (.k (.lit (.int .u8 0)))⟩,
  ⟨none, some 40, .mov (.t 39)⟩,
  ⟨some (40, true), some 41, .padd 1 (.t 8)⟩,
  ⟨some (40, true), some 42, .load 1 false (.t 41)⟩,
  ⟨some (40, true), some 43, .padd 11 (.t 2)⟩,
  ⟨some (40, true), some 44, .idxA 40 1 (.t 43) (.t 42)⟩,
  ⟨some (40, true), some 45, .load 1 false (.t 44)⟩,
  ⟨some (40, true), some 46, .not (.t 45)⟩,
  ⟨none, some 47, .pick (.t 40) (.t 46) (.k (.lit (.bool false)))⟩,
  ⟨none, some 48, .mov (.t 47)⟩,
  ⟨some (48, true), some 49, .padd 0 (.t 8)⟩,
  ⟨some (48, true), some 50, .load 1 false (.t 49)⟩,
  ⟨some (48, true), some 51, .padd 11 (.t 2)⟩,
  ⟨some (48, true), some 52, .idxA 40 1 (.t 51) (.t 50)⟩,
  ⟨some (48, true), some 53, .load 1 false (.t 52)⟩,
  ⟨some (48, true), some 54, .not (.t 53)⟩,
  ⟨none, some 55, .pick (.t 48) (.t 54) (.k (.lit (.bool false)))⟩]
@[simp] def r_tally_looked_numbers_4 : List AI := [⟨none, some 33, .idxS 2 (.t 29) (.t 31)⟩,
  ⟨none, some 34, .load 2 true (.t 33)⟩,
  ⟨none, some 8, .alloc ty_tally_Proxy [.lit (.int .i64 0), .lit (.int .i64 0)]⟩,
  ⟨none, none, .store 2 (.t 8) (.t 34)⟩]
@[simp] def r_tally_looked_numbers_5 : List AI := [⟨none, some 32, .bin .lss (.t 31) (.t 30)⟩]
def l_tally_looked_numbers_0 : AC :=
 (.seq (.reg r_tally_looked_numbers_5)
 (.seq (.cond (.t 32)
 .skip
 (.exit 2))
 (.seq (.block 3
 (.seq (.seq (.reg r_tally_looked_numbers_4) (.keep [2, 3, 4, 5, 8, 29, 30, 31]))
 (.seq (.seq (.reg r_tally_looked_numbers_3) (.keep [2, 3, 4, 5, 8, 29, 30, 31, 55]))
 (.cond (.t 55)
 (.seq (.reg r_tally_looked_numbers_2) (.keep [2, 3, 4, 5, 29, 30, 31]))
 .skip))))
 (.seq (.reg r_tally_looked_numbers_1) (.keep [2, 3, 4, 5, 29, 30, 31])))))
@[simp] def r_tally_looked_numbers_7 : List AI := [⟨none, some 27, .padd 0 (.t 2)⟩,
  ⟨none, some 28, .padd 6 (.t 27)⟩,
  ⟨none, some 29, .load 1 false (.t 28)⟩,
  ⟨none, some 30, .lenS (.t 29)⟩,
  ⟨none, some 31, .mov (.k (.lit (.int .i64 0)))⟩]
@[simp] def r_tally_looked_numbers_8 : List AI := [⟨none, some 26, .bin .add (.t 13) (.k (.lit (.int .i64 1)))⟩,
  ⟨none, some 13, .mov (.t 26)⟩]
@[simp] def r_tally_looked_numbers_9 : List AI := [⟨none, some 21, .mov (.t 5)⟩,
  ⟨none, some 22, .mov (.t 6)⟩,
  ⟨none, some 23, .idxA 40 1 (.t 3) (.t 22)⟩,
  ⟨none, some 24, .load 1 false (.t 23)⟩,
  ⟨none, some 25, .call (.t 21) [(.t 24)]⟩]
@[simp] def r_tally_looked_numbers_10 : List AI := [⟨none, some 16, .mov (.t 6)⟩,
  ⟨none, some 17, .padd 11 (.t 2)⟩,
  ⟨none, some 18, .idxA 40 1 (.t 17) (.t 16)⟩,
  ⟨none, some 19, .load 1 false (.t 18)⟩,
  ⟨none, some 20, .not (.t 19)⟩]
@[simp] def r_tally_looked_numbers_11 : List AI := [⟨none, some 15, .mov (.t 13)⟩,
  ⟨none, some 6, .mov (.t 15)⟩]
@[simp] def r_tally_looked_numbers_12 : List AI := [⟨none, some 14, .bin .lss (.t 13) (.t 12)⟩]
def l_tally_looked_numbers_1 : AC :=
 (.seq (.reg r_tally_looked_numbers_12)
 (.seq (.cond (.t 14)
 .skip
 (.exit 0))
 (.seq (.block 1
 (.seq (.seq (.reg r_tally_looked_numbers_11) (.keep [2, 3, 4, 5, 6, 12, 13]))
 (.seq (.seq (.reg r_tally_looked_numbers_10) (.keep [2, 3, 4, 5, 6, 12, 13, 20]))
 (.cond (.t 20)
 (.seq (.reg r_tally_looked_numbers_9) (.keep [2, 3, 4, 5, 12, 13]))
 .skip))))
 (.seq (.reg r_tally_looked_numbers_8) (.keep [2, 3, 4, 5, 12, 13])))))
@[simp] def r_tally_looked_numbers_14 : List AI := [⟨none, some 10, .padd 0 (.t 2)⟩,
  ⟨none, some 11, .padd 0 (.t 10)⟩,
  ⟨none, some 12, .load 1 false (.t 11)⟩,
  ⟨none, some 13, .mov (.k (.lit (.int .i64 0)))⟩]
@[simp] def r_tally_looked_numbers_15 : List AI := [⟨none, some 9, .mkfn fn_tally_looked_numbers_1 [] [(.t 4)]⟩,
  ⟨none, some 5, .mov (.t 9)⟩]
@[simp] def r_tally_looked_numbers_16 : List AI := [⟨none, some 2, .box ty_tally_looked (.t 0)⟩,
  ⟨none, some 3, .box ty_tally_truth (.t 1)⟩,
  ⟨none, some 4, .alloc ty_tally_Numbers [.lit (.int .i64 0), .lit (.int .i64 0)]⟩]
def a_tally_looked_numbers : AFn := { nparams := 2, res := [.cell 4 2 true], body :=
 (.seq (.reg r_tally_looked_numbers_16)
 (.seq (.seq (.reg r_tally_looked_numbers_15) (.keep [2, 3, 4, 5]))
 (.seq (.seq (.seq (.reg r_tally_looked_numbers_14) (.keep [2, 3, 4, 5, 12, 13]))
 (.block 0
 (.loop [2, 3, 4, 5, 12, 13] l_tally_looked_numbers_1)))
 (.seq (.seq (.seq (.reg r_tally_looked_numbers_7) (.keep [2, 3, 4, 5, 29, 30, 31]))
 (.block 2
 (.loop [2, 3, 4, 5, 29, 30, 31] l_tally_looked_numbers_0)))
 (.seq (.seq (.reg r_tally_looked_numbers_0) (.keep [4]))
 .ret))))) }
@[simp] def r_tally_least_0 : List AI := [⟨none, some 3, .mov (.t 0)⟩,
  ⟨none, some 4, .call (.k (.fn fn_slices_Min_Sint_int [] [])) [(.t 3)]⟩,
  ⟨none, some 2, .mov (.t 4)⟩]
@[simp] def r_tally_least_1 : List AI := [⟨none, some 2, .mov (.k (.lit (.int .i64 0)))⟩]
def a_tally_least : AFn := { nparams := 1, res := [.tmp 2], body :=
 (.seq (.reg r_tally_least_1)
 (.seq (.seq (.reg r_tally_least_0) (.keep [2]))
 .ret)) }
@[simp] def r_tally_greatest_0 : List AI := [⟨none, some 3, .mov (.t 0)⟩,
  ⟨none, some 4, .call (.k (.fn fn_slices_Max_Sint_int [] [])) [(.t 3)]⟩,
  ⟨none, some 2, .mov (.t 4)⟩]
@[simp] def r_tally_greatest_1 : List AI := [⟨none, some 2, .mov (.k (.lit (.int .i64 0)))⟩]
def a_tally_greatest : AFn := { nparams := 1, res := [.tmp 2], body :=
 (.seq (.reg r_tally_greatest_1)
 (.seq (.seq (.reg r_tally_greatest_0) (.keep [2]))
 .ret)) }
@[simp] def r_ref07_May_0 : List AI := [⟨none, some 34, .mov (.t 2)⟩,
  ⟨none, some 35, .bin .eql (.t 34) (.k (.lit (.int .u8 2)))⟩,
  ⟨none, some 36, .mov (.t 35)⟩,
  ⟨some (36, true), some 37, .mov (.t 8)⟩,
  ⟨some (36, true), some 38, .bin .gtr (.t 37) (.k (.lit (.int .i64 0)))⟩,
  ⟨none, some 39, .pick (.t 36) (.t 38) (.k (.lit (.bool false)))⟩,
  ⟨none, some 40, .mov (.t 39)⟩,
  ⟨some (40, true), some 41, .mov (.t 7)⟩,
  ⟨some (40, true), some 42, .bin .lss (.t 41) (.k (.lit (.int .i64 2)))⟩,
  ⟨none, some 43, .pick (.t 40) (.t 42) (.k (.lit (.bool false)))⟩,
  ⟨none, some 6, .mov (.t 43)⟩]
@[simp] def r_ref07_May_1 : List AI := [⟨none, some 20, .mov (.t 7)⟩,
  ⟨none, some 21, .bin .lss (.t 20) (.k (.lit (.int .i64 2)))⟩,
  ⟨none, some 22, .mov (.t 21)⟩,
  ⟨some (22, true), some 23, .mov (.t 8)⟩,
  ⟨some (22, true), some 24, .bin .lss (.t 23) (.k (.lit (.int .i64 2)))⟩,
  ⟨none, some 25, .pick (.t 22) (.t 24) (.k (.lit (.bool false)))⟩,
  ⟨none, some 6, .mov (.t 25)⟩]
@[simp] def r_ref07_May_2 : List AI := [⟨none, some 28, .mov (.t 7)⟩,
  ⟨none, some 29, .bin .gtr (.t 28) (.k (.lit (.int .i64 0)))⟩,
  ⟨none, some 30, .mov (.t 29)⟩,
  ⟨some (30, true), some 31, .mov (.t 8)⟩,
  ⟨some (30, true), some 32, .bin .lss (.t 31) (.k (.lit (.int .i64 2)))⟩,
  ⟨none, some 33, .pick (.t 30) (.t 32) (.k (.lit (.bool false)))⟩,
  ⟨none, some 6, .mov (.t 33)⟩]
@[simp] def r_ref07_May_3 : List AI := [⟨none, some 27, .bin .eql (.t 17) (.k (.lit (.int .u8 1)))⟩,
  ⟨none, some 26, .mov (.t 27)⟩]
@[simp] def r_ref07_May_4 : List AI := [⟨none, some 19, .bin .eql (.t 17) (.k (.lit (.int .u8 0)))⟩,
  ⟨none, some 18, .mov (.t 19)⟩]
@[simp] def r_ref07_May_5 : List AI := [⟨none, some 17, .mov (.t 2)⟩]
@[simp] def r_ref07_May_6 : List AI := [⟨none, some 9, .padd 1 (.t 3)⟩,
  ⟨none, some 10, .load 2 true (.t 9)⟩,
  ⟨none, some 11, .mov (.t 1)⟩,
  ⟨none, some 12, .call (.k (.fn fn_ref07_On [] [])) [(.t 10), (.t 11)]⟩,
  ⟨none, some 13, .padd 3 (.t 3)⟩,
  ⟨none, some 14, .load 2 true (.t 13)⟩,
  ⟨none, some 15, .mov (.t 1)⟩,
  ⟨none, some 16, .call (.k (.fn fn_ref07_On [] [])) [(.t 14), (.t 15)]⟩,
  ⟨none, some 7, .mov (.t 12)⟩,
  ⟨none, some 8, .mov (.t 16)⟩]
@[simp] def r_ref07_May_7 : List AI := [⟨none, some 3, .box ty_ref07_Division (.t 0)⟩,
  ⟨none, some 6, .mov (.k (.lit (.bool false)))⟩]
def a_ref07_May : AFn := { nparams := 3, res := [.tmp 6], body :=
 (.seq (.seq (.reg r_ref07_May_7) (.keep [1, 2, 3]))
 (.seq (.seq (.draw r_ref07_May_6 0 [(3, 5)] [0, 1, 2, 3, 4, 5, 6, 7, 8, 9]) (.keep [2, 7, 8]))
 (.seq (.seq (.reg r_ref07_May_5)
 (.block 0
 (.seq (.seq (.reg r_ref07_May_4) (.keep [2, 7, 8, 17, 18]))
 (.cond (.t 18)
 (.seq (.seq (.reg r_ref07_May_1) (.keep [6]))
 .ret)
 (.seq (.seq (.reg r_ref07_May_3) (.keep [2, 7, 8, 26]))
 (.cond (.t 26)
 (.seq (.seq (.reg r_ref07_May_2) (.keep [6]))
 .ret)
 .skip))))))
 (.seq (.seq (.reg r_ref07_May_0) (.keep [6]))
 .ret)))) }
@[simp] def r_ref07_In_0 : List AI := [⟨none, some 7, .mov (.t 0)⟩,
  ⟨none, some 8, .mov (.t 1)⟩,
  ⟨none, some 9, .bin .geq (.t 7) (.t 8)⟩,
  ⟨none, some 10, .mov (.t 9)⟩,
  ⟨some (10, true), some 11, .mov (.t 0)⟩,
  ⟨some (10, true), some 12, .mov (.t 2)⟩,
  ⟨some (10, true), some 13, .bin .leq (.t 11) (.t 12)⟩,
  ⟨none, some 14, .pick (.t 10) (.t 13) (.k (.lit (.bool false)))⟩,
  ⟨none, some 6, .mov (.t 14)⟩]
@[simp] def r_ref07_In_1 : List AI := [⟨none, some 6, .mov (.k (.lit (.bool false)))⟩]
def a_ref07_In : AFn := { nparams := 3, res := [.tmp 6], body :=
 (.seq (.reg r_ref07_In_1)
 (.seq (.seq (.reg r_ref07_In_0) (.keep [6]))
 .ret)) }
@[simp] def r_ref07_list_0 : List AI := [⟨none, some 21, .mov (.t 1)⟩,
  ⟨none, some 22, .call (.k (.fn fn_ref07_Rising [] [])) [(.t 21)]⟩,
  ⟨none, some 4, .mov (.t 22)⟩]
@[simp] def r_ref07_list_1 : List AI := [⟨none, some 10, .mov (.t 5)⟩,
  ⟨none, some 11, .bin .add (.t 10) (.k (.lit (.int .i64 1)))⟩,
  ⟨none, some 5, .mov (.t 11)⟩]
@[simp] def r_ref07_list_2 : List AI := [⟨none, some 4, .mov (.k (.lit (.bool false)))⟩]
@[simp] def r_ref07_list_3 : List AI := [⟨none, some 12, .mov (.t 1)⟩,
  ⟨none, some 13, .mov (.t 5)⟩,
  ⟨none, some 14, .idxS 1 (.t 12) (.t 13)⟩,
  ⟨none, some 15, .load 1 false (.t 14)⟩,
  ⟨none, some 16, .padd 0 (.t 2)⟩,
  ⟨none, some 17, .load 1 false (.t 16)⟩,
  ⟨none, some 18, .bin .sub (.t 17) (.k (.lit (.int .i64 1)))⟩,
  ⟨none, some 19, .call (.k (.fn fn_ref07_In [] [])) [(.t 15), (.k (.lit (.int .i64 0))), (.t 18)]⟩,
  ⟨none, some 20, .not (.t 19)⟩]
@[simp] def r_ref07_list_4 : List AI := [⟨none, some 6, .mov (.t 5)⟩,
  ⟨none, some 7, .mov (.t 1)⟩,
  ⟨none, some 8, .lenS (.t 7)⟩,
  ⟨none, some 9, .bin .lss (.t 6) (.t 8)⟩]
def l_ref07_list_0 : AC :=
 (.seq (.seq (.seq (.reg r_ref07_list_4) (.keep [1, 2, 5, 9]))
 (.cond (.t 9)
 .skip
 (.exit 0)))
 (.seq (.block 1
 (.seq (.seq (.draw r_ref07_list_3 0 [] [0, 1, 2, 3, 4, 5, 6, 7, 8]) (.keep [1, 2, 5, 20]))
 (.cond (.t 20)
 (.seq (.reg r_ref07_list_2)
 .ret)
 .skip)))
 (.seq (.reg r_ref07_list_1) (.keep [1, 2, 5]))))
@[simp] def r_ref07_list_6 : List AI := [⟨none, some 5, .mov (.k (.lit (.int .i64 0)))⟩]
@[simp] def r_ref07_list_7 : List AI := [⟨none, some 2, .box ty_ref07_Division (.t 0)⟩,
  ⟨none, some 4, .mov (.k (.lit (.bool false)))⟩]
def a_ref07_list : AFn := { nparams := 2, res := [.tmp 4], body :=
 (.seq (.seq (.reg r_ref07_list_7) (.keep [1, 2]))
 (.seq (.seq (.reg r_ref07_list_6)
 (.block 0
 (.loop [1, 2, 5] l_ref07_list_0)))
 (.seq (.seq (.reg r_ref07_list_0) (.keep [4]))
 .ret))) }
@[simp] def r_tally_looked_outcome_0 : List AI := [⟨none, some 4, .mov (.k (.lit (.int .u8 0)))⟩]
@[simp] def r_tally_looked_outcome_1 : List AI := [⟨none, some 4, .mov (.k (.lit (.int .u8 2)))⟩]
@[simp] def r_tally_looked_outcome_2 : List AI := [⟨none, some 4, .mov (.k (.lit (.int .u8 1)))⟩]
@[simp] def r_tally_looked_outcome_3 : List AI := [⟨none, some 16, .call (.k (.fn fn_tally_rules [] [])) []⟩,
  ⟨none, some 17, .padd 0 (.t 2)⟩,
  ⟨none, some 18, .padd 7 (.t 17)⟩,
  ⟨none, some 19, .load 1 false (.t 18)⟩,
  ⟨none, some 20, .idxS 1 (.t 16) (.t 19)⟩,
  ⟨none, some 21, .padd 0 (.t 20)⟩,
  ⟨none, some 22, .load 1 false (.t 21)⟩,
  ⟨none, some 23, .padd 0 (.t 2)⟩,
  ⟨none, some 24, .load 11 true (.t 23)⟩,
  ⟨none, some 25, .load 2 true (.t 3)⟩,
  ⟨none, some 26, .call (.t 22) [(.t 24), (.t 25)]⟩,
  ⟨none, some 15, .mov (.t 26)⟩]
@[simp] def r_tally_looked_outcome_4 : List AI := [⟨none, some 6, .padd 0 (.t 3)⟩,
  ⟨none, some 7, .load 1 false (.t 6)⟩,
  ⟨none, some 8, .padd 1 (.t 3)⟩,
  ⟨none, some 9, .load 1 false (.t 8)⟩,
  ⟨none, some 10, .bin .add (.t 7) (.t 9)⟩,
  ⟨none, some 11, .padd 0 (.t 2)⟩,
  ⟨none, some 12, .padd 9 (.t 11)⟩,
  ⟨none, some 13, .load 1 false (.t 12)⟩,
  ⟨none, some 14, .bin .lss (.t 10) (.t 13)⟩,
  ⟨none, some 5, .mov (.t 14)⟩]
@[simp] def r_tally_looked_outcome_5 : List AI := [⟨none, some 2, .box ty_tally_looked (.t 0)⟩,
  ⟨none, some 3, .box ty_tally_Numbers (.t 1)⟩,
  ⟨none, some 4, .mov (.k (.lit (.int .u8 0)))⟩]
def a_tally_looked_outcome : AFn := { nparams := 2, res := [.tmp 4], body :=
 (.seq (.seq (.reg r_tally_looked_outcome_5) (.keep [2, 3]))
 (.seq (.block 0
 (.seq (.seq (.reg r_tally_looked_outcome_4) (.keep [2, 3, 5]))
 (.cond (.t 5)
 (.seq (.reg r_tally_looked_outcome_1)
 .ret)
 (.seq (.seq (.draw r_tally_looked_outcome_3 0 [(0, 3), (0, 8), (0, 9)] [0, 1, 2, 3, 4, 5, 6, 7, 8, 9, 10, 11]) (.keep [15]))
 (.cond (.t 15)
 (.seq (.reg r_tally_looked_outcome_2)
 .ret)
 .skip)))))
 (.seq (.reg r_tally_looked_outcome_0)
 .ret))) }
@[simp] def r_slices_Contains_Suint8_uint8_0 : List AI := [⟨none, some 5, .mov (.t 0)⟩,
  ⟨none, some 6, .mov (.t 1)⟩,
  ⟨none, some 7, .call (.k (.fn fn_slices_Index_Suint8_uint8 [] [])) [(.t 5), (.t 6)]⟩,
  ⟨none, some 8, .bin .geq (.t 7) (.k (.lit (.int .i64 0)))⟩,
  ⟨none, some 4, .mov (.t 8)⟩]
@[simp] def r_slices_Contains_Suint8_uint8_1 : List AI := [⟨none, some 4, .mov (.k (.lit (.bool false)))⟩]
def a_slices_Contains_Suint8_uint8 : AFn := { nparams := 2, res := [.tmp 4], body :=
 (.seq (.reg r_slices_Contains_Suint8_uint8_1)
 (.seq (.seq (.reg r_slices_Contains_Suint8_uint8_0) (.keep [4]))
 .ret)) }
@[simp] def r_slices_Sort_Suint8_uint8_0 : List AI := [⟨none, some 5, .mov (.t 0)⟩,
  ⟨none, some 6, .mov (.t 2)⟩,
  ⟨none, some 7, .mov (.t 2)⟩,
  ⟨none, some 8, .conv .u64 (.t 7)⟩,
  ⟨none, some 9, .call (.k (.fn fn_math_bits_Len [] [])) [(.t 8)]⟩,
  ⟨none, some 10, .call (.k (.fn fn_slices_pdqsortOrdered_uint8 [] [])) [(.t 5), (.k (.lit (.int .i64 0))), (.t 6), (.t 9)]⟩]
@[simp] def r_slices_Sort_Suint8_uint8_1 : List AI := [⟨none, some 3, .mov (.t 0)⟩,
  ⟨none, some 4, .lenS (.t 3)⟩,
  ⟨none, some 2, .mov (.t 4)⟩]
def a_slices_Sort_Suint8_uint8 : AFn := { nparams := 1, res := [], body :=
 (.seq (.seq (.reg r_slices_Sort_Suint8_uint8_1) (.keep [0, 2]))
 (.seq (.reg r_slices_Sort_Suint8_uint8_0) (.keep []))) }
@[simp] def r_tally_looked_all_0 : List AI := [⟨none, some 17, .load 1 false (.t 2)⟩,
  ⟨none, none, .store 1 (.t 2) (.t 17)⟩]
@[simp] def r_tally_looked_all_1 : List AI := [⟨none, some 7, .load 1 false (.t 2)⟩,
  ⟨none, some 8, .load 40 true (.t 3)⟩,
  ⟨none, some 9, .load 91 true (.t 1)⟩,
  ⟨none, some 10, .load 91 true (.t 1)⟩,
  ⟨none, some 11, .load 40 true (.t 3)⟩,
  ⟨none, some 12, .call (.k (.fn fn_tally_looked_numbers [] [])) [(.t 10), (.t 11)]⟩,
  ⟨none, some 13, .call (.k (.fn fn_tally_looked_outcome [] [])) [(.t 9), (.t 12)]⟩,
  ⟨none, some 14, .build z_tally_told [(0, 40, (.t 8)), (40, 1, (.t 13))]⟩,
  ⟨none, some 15, .slit ty_tally_told z_tally_told 1 41 [(0, 41, (.t 14))]⟩,
  ⟨none, some 16, .app ty_tally_told z_tally_told 41 41 (.t 7) (.t 15)⟩,
  ⟨none, none, .store 1 (.t 2) (.t 16)⟩]
@[simp] def r_tally_looked_all_2 : List AI := [⟨none, some 3, .alloc ty_tally_truth z_tally_truth⟩,
  ⟨none, none, .store 40 (.t 3) (.t 6)⟩]
def s_tally_looked_all_0 : AC :=
 (.reg r_tally_looked_all_2)
def b_tally_looked_all_0 : AC :=
 (.block 1
 (.seq (.draw r_tally_looked_all_1 0 [(0, 5), (1, 5), (2, 5), (0, 6), (1, 6)] [0, 1, 2, 3, 4, 5, 6, 7, 8, 9, 10]) (.keep [])))
@[simp] def r_tally_looked_all_5 : List AI := [⟨none, some 4, .load 91 true (.t 1)⟩,
  ⟨none, some 5, .call (.k (.fn fn_tally_looked_truths [] [])) [(.t 4)]⟩]
@[simp] def r_tally_looked_all_6 : List AI := [⟨none, some 1, .box ty_tally_looked (.t 0)⟩,
  ⟨none, some 2, .alloc ty_Stally_told [.nil]⟩]
def a_tally_looked_all : AFn := { nparams := 1, res := [.cell 2 1 false], body :=
 (.seq (.reg r_tally_looked_all_6)
 (.seq (.seq (.seq (.reg r_tally_looked_all_5) (.keep [1, 2, 5]))
 (.block 0
 (.seq (.keep [1, 2, 5]) (.rangeF (.t 5) [6] s_tally_looked_all_0 b_tally_looked_all_0))))
 (.seq (.seq (.reg r_tally_looked_all_0) (.keep [2]))
 .ret))) }
@[simp] def r_tally_Ask_1_0 : List AI := [⟨none, some 10, .mov (.k (.lit (.bool false)))⟩]
@[simp] def r_tally_Ask_1_1 : List AI := [⟨none, some 24, .mov (.t 11)⟩,
  ⟨none, some 25, .bin .add (.t 24) (.k (.lit (.int .i64 1)))⟩,
  ⟨none, some 11, .mov (.t 25)⟩]
@[simp] def r_tally_Ask_1_2 : List AI := [⟨none, some 10, .mov (.k (.lit (.bool true)))⟩]
@[simp] def r_tally_Ask_1_3 : List AI := [⟨none, some 26, .load 1 false (.t 6)⟩,
  ⟨none, some 27, .mov (.t 0)⟩,
  ⟨none, some 28, .load 1 false (.t 5)⟩,
  ⟨none, some 29, .mov (.t 11)⟩,
  ⟨none, some 30, .idxS 1 (.t 28) (.t 29)⟩,
  ⟨none, some 31, .load 1 false (.t 30)⟩,
  ⟨none, some 32, .slit ty_int [.lit (.int .i64 0)] 1 1 [(0, 1, (.t 31))]⟩,
  ⟨none, some 33, .app ty_int [.lit (.int .i64 0)] 1 8 (.t 27) (.t 32)⟩,
  ⟨none, some 34, .mov (.t 11)⟩,
  ⟨none, some 35, .bin .add (.t 34) (.k (.lit (.int .i64 1)))⟩,
  ⟨none, some 36, .mov (.t 2)⟩,
  ⟨none, some 37, .bin .sub (.t 36) (.k (.lit (.int .i64 1)))⟩,
  ⟨none, some 38, .call (.t 26) [(.t 33), (.t 35), (.t 37)]⟩]
@[simp] def r_tally_Ask_1_4 : List AI := [⟨none, some 20, .mov (.t 11)⟩,
  ⟨none, some 21, .load 1 false (.t 5)⟩,
  ⟨none, some 22, .lenS (.t 21)⟩,
  ⟨none, some 23, .bin .lss (.t 20) (.t 22)⟩]
def l_tally_Ask_1_0 : AC :=
 (.seq (.seq (.seq (.reg r_tally_Ask_1_4) (.keep [0, 2, 5, 6, 11, 23]))
 (.cond (.t 23)
 .skip
 (.exit 0)))
 (.seq (.block 1
 (.seq (.seq (.draw r_tally_Ask_1_3 0 [(0, 7)] [0, 1, 2, 3, 4, 5, 6, 7, 8, 9, 10, 11, 12]) (.keep [0, 2, 5, 6, 11, 38]))
 (.cond (.t 38)
 (.seq (.reg r_tally_Ask_1_2)
 .ret)
 .skip)))
 (.seq (.reg r_tally_Ask_1_1) (.keep [0, 2, 5, 6, 11]))))
@[simp] def r_tally_Ask_1_6 : List AI := [⟨none, some 19, .mov (.t 1)⟩,
  ⟨none, some 11, .mov (.t 19)⟩]
@[simp] def r_tally_Ask_1_7 : List AI := [⟨none, some 16, .load 1 false (.t 4)⟩,
  ⟨none, some 17, .mov (.t 0)⟩,
  ⟨none, some 18, .call (.k (.fn fn_tally_decide [] [])) [(.t 16), (.t 17)]⟩,
  ⟨none, some 10, .mov (.t 18)⟩]
@[simp] def r_tally_Ask_1_8 : List AI := [⟨none, some 14, .mov (.t 0)⟩,
  ⟨none, some 15, .call (.k (.fn fn_slices_Clone_Sint_int [] [])) [(.t 14)]⟩,
  ⟨none, none, .store 1 (.t 3) (.t 15)⟩]
@[simp] def r_tally_Ask_1_9 : List AI := [⟨none, some 12, .mov (.t 2)⟩,
  ⟨none, some 13, .bin .eql (.t 12) (.k (.lit (.int .i64 0)))⟩]
@[simp] def r_tally_Ask_1_10 : List AI := [⟨none, some 10, .mov (.k (.lit (.bool false)))⟩]
def a_tally_Ask_1 : AFn := { nparams := 7, res := [.tmp 10], body :=
 (.seq (.reg r_tally_Ask_1_10)
 (.seq (.seq (.seq (.reg r_tally_Ask_1_9) (.keep [0, 1, 2, 3, 4, 5, 6, 13]))
 (.cond (.t 13)
 (.seq (.seq (.reg r_tally_Ask_1_8) (.keep [0, 4]))
 (.seq (.seq (.reg r_tally_Ask_1_7) (.keep [10]))
 .ret))
 .skip))
 (.seq (.seq (.seq (.reg r_tally_Ask_1_6) (.keep [0, 2, 5, 6, 11]))
 (.block 0
 (.loop [0, 2, 5, 6, 11] l_tally_Ask_1_0)))
 (.seq (.reg r_tally_Ask_1_0)
 .ret)))) }
@[simp] def r_slices_Clone_Sint_int_0 : List AI := [⟨none, some 5, .slit ty_int [.lit (.int .i64 0)] 0 1 []⟩,
  ⟨none, some 6, .mov (.t 0)⟩,
  ⟨none, some 7, .app ty_int [.lit (.int .i64 0)] 1 8 (.t 5) (.t 6)⟩,
  ⟨none, some 2, .mov (.t 7)⟩]
@[simp] def r_slices_Clone_Sint_int_1 : List AI := [⟨none, some 2, .mov (.k (.nil))⟩]
@[simp] def r_slices_Clone_Sint_int_2 : List AI := [⟨none, some 3, .mov (.t 0)⟩,
  ⟨none, some 4, .eqnl false (.t 3)⟩]
@[simp] def r_slices_Clone_Sint_int_3 : List AI := [⟨none, some 2, .mov (.k (.nil))⟩]
def a_slices_Clone_Sint_int : AFn := { nparams := 1, res := [.tmp 2], body :=
 (.seq (.reg r_slices_Clone_Sint_int_3)
 (.seq (.seq (.seq (.reg r_slices_Clone_Sint_int_2) (.keep [0, 4]))
 (.cond (.t 4)
 (.seq (.reg r_slices_Clone_Sint_int_1)
 .ret)
 .skip))
 (.seq (.seq (.reg r_slices_Clone_Sint_int_0) (.keep [2]))
 .ret))) }
@[simp] def r_tally_decide_0 : List AI := [⟨none, some 52, .mov (.t 6)⟩,
  ⟨none, some 4, .mov (.t 52)⟩]
@[simp] def r_tally_decide_1 : List AI := [⟨none, some 51, .bin .add (.t 17) (.k (.lit (.int .i64 1)))⟩,
  ⟨none, some 17, .mov (.t 51)⟩]
@[simp] def r_tally_decide_2 : List AI := [⟨none, some 47, .mov (.t 5)⟩,
  ⟨none, some 48, .load 40 true (.t 9)⟩,
  ⟨none, some 49, .padd 40 (.t 8)⟩,
  ⟨none, some 50, .load 1 false (.t 49)⟩,
  ⟨none, none, .mupd (some 40) (.t 47) (.t 48) (.t 50)⟩]
@[simp] def r_tally_decide_3 : List AI := [⟨none, some 6, .mov (.k (.lit (.bool false)))⟩]
@[simp] def r_tally_decide_4 : List AI := [⟨none, some 40, .mov (.t 13)⟩,
  ⟨none, some 41, .mov (.t 40)⟩,
  ⟨some (41, true), some 42, .mov (.t 12)⟩,
  ⟨some (41, true), some 43, .padd 40 (.t 8)⟩,
  ⟨some (41, true), some 44, .load 1 false (.t 43)⟩,
  ⟨some (41, true), some 45, .bin .neq (.t 42) (.t 44)⟩,
  ⟨none, some 46, .pick (.t 41) (.t 45) (.k (.lit (.bool false)))⟩]
@[simp] def r_tally_decide_5 : List AI := [⟨none, some 35, .mov (.t 5)⟩,
  ⟨none, some 36, .load 40 true (.t 9)⟩,
  ⟨none, some 37, .look (some 40) (.lit (.int .u8 0)) true (.t 35) (.t 36)⟩,
  ⟨none, some 34, .mov (.t 37)⟩,
  ⟨none, some 38, .ext 0 (.t 34)⟩,
  ⟨none, some 39, .ext 1 (.t 34)⟩,
  ⟨none, some 12, .mov (.t 38)⟩,
  ⟨none, some 13, .mov (.t 39)⟩]
@[simp] def r_tally_decide_6 : List AI := [⟨none, some 33, .bin .add (.t 23) (.k (.lit (.int .i64 1)))⟩,
  ⟨none, some 23, .mov (.t 33)⟩]
@[simp] def r_tally_decide_7 : List AI := [⟨none, some 27, .mov (.t 11)⟩,
  ⟨none, some 28, .mov (.t 11)⟩,
  ⟨none, some 29, .padd 0 (.t 8)⟩,
  ⟨none, some 30, .idxA 40 1 (.t 29) (.t 28)⟩,
  ⟨none, some 31, .load 1 false (.t 30)⟩,
  ⟨none, some 32, .idxA 40 1 (.t 9) (.t 27)⟩,
  ⟨none, none, .store 1 (.t 32) (.t 31)⟩]
@[simp] def r_tally_decide_8 : List AI := [⟨none, some 25, .idxS 1 (.t 21) (.t 23)⟩,
  ⟨none, some 26, .load 1 false (.t 25)⟩,
  ⟨none, some 11, .mov (.t 26)⟩]
@[simp] def r_tally_decide_9 : List AI := [⟨none, some 24, .bin .lss (.t 23) (.t 22)⟩]
def l_tally_decide_0 : AC :=
 (.seq (.reg r_tally_decide_9)
 (.seq (.cond (.t 24)
 .skip
 (.exit 2))
 (.seq (.block 3
 (.seq (.seq (.reg r_tally_decide_8) (.keep [1, 5, 6, 8, 9, 11, 15, 16, 17, 21, 22, 23]))
 (.seq (.reg r_tally_decide_7) (.keep [1, 5, 6, 8, 9, 15, 16, 17, 21, 22, 23]))))
 (.seq (.reg r_tally_decide_6) (.keep [1, 5, 6, 8, 9, 15, 16, 17, 21, 22, 23])))))
@[simp] def r_tally_decide_11 : List AI := [⟨none, some 21, .mov (.t 1)⟩,
  ⟨none, some 22, .lenS (.t 21)⟩,
  ⟨none, some 23, .mov (.k (.lit (.int .i64 0)))⟩]
@[simp] def r_tally_decide_12 : List AI := [⟨none, some 9, .alloc ty_tally_truth z_tally_truth⟩]
@[simp] def r_tally_decide_13 : List AI := [⟨none, some 19, .idxS 41 (.t 15) (.t 17)⟩,
  ⟨none, some 20, .load 41 true (.t 19)⟩,
  ⟨none, some 8, .alloc ty_tally_told z_tally_told⟩,
  ⟨none, none, .store 41 (.t 8) (.t 20)⟩]
@[simp] def r_tally_decide_14 : List AI := [⟨none, some 18, .bin .lss (.t 17) (.t 16)⟩]
def l_tally_decide_1 : AC :=
 (.seq (.reg r_tally_decide_14)
 (.seq (.cond (.t 18)
 .skip
 (.exit 0))
 (.seq (.block 1
 (.seq (.seq (.reg r_tally_decide_13) (.keep [1, 5, 6, 8, 15, 16, 17]))
 (.seq (.reg r_tally_decide_12)
 (.seq (.seq (.reg r_tally_decide_11)
 (.block 2
 (.loop [1, 5, 6, 8, 9, 15, 16, 17, 21, 22, 23] l_tally_decide_0)))
 (.seq (.seq (.seq (.reg r_tally_decide_5) (.keep [1, 5, 6, 8, 9, 12, 13, 15, 16, 17]))
 (.seq (.seq (.reg r_tally_decide_4) (.keep [1, 5, 6, 8, 9, 15, 16, 17, 46]))
 (.cond (.t 46)
 (.seq (.reg r_tally_decide_3)
 (.exit 0))
 .skip)))
 (.seq (.reg r_tally_decide_2) (.keep [1, 5, 6, 15, 16, 17])))))))
 (.seq (.reg r_tally_decide_1) (.keep [1, 5, 6, 15, 16, 17])))))
@[simp] def r_tally_decide_16 : List AI := [⟨none, some 15, .mov (.t 0)⟩,
  ⟨none, some 16, .lenS (.t 15)⟩,
  ⟨none, some 17, .mov (.k (.lit (.int .i64 0)))⟩]
@[simp] def r_tally_decide_17 : List AI := [⟨none, some 6, .mov (.k (.lit (.bool true)))⟩]
@[simp] def r_tally_decide_18 : List AI := [⟨none, some 14, .mkmap⟩,
  ⟨none, some 5, .mov (.t 14)⟩]
@[simp] def r_tally_decide_19 : List AI := [⟨none, some 4, .mov (.k (.lit (.bool false)))⟩]
def a_tally_decide : AFn := { nparams := 2, res := [.tmp 4], body :=
 (.seq (.reg r_tally_decide_19)
 (.scope (.seq (.seq (.reg r_tally_decide_18) (.keep [0, 1, 5]))
 (.seq (.reg r_tally_decide_17)
 (.seq .label
 (.seq (.seq (.reg r_tally_decide_16)
 (.block 0
 (.loop [1, 5, 6, 15, 16, 17] l_tally_decide_1)))
 (.seq (.seq (.reg r_tally_decide_0) (.keep [4]))
 .ret))))))) }
@[simp] def r_tally_Division_valid_0 : List AI := [⟨none, some 3, .padd 0 (.t 1)⟩,
  ⟨none, some 4, .load 1 false (.t 3)⟩,
  ⟨none, some 5, .call (.k (.fn fn_tally_within [] [])) [(.t 4), (.k (.lit (.int .i64 1))), (.k (.lit (.int .i64 40)))]⟩,
  ⟨none, some 6, .mov (.t 5)⟩,
  ⟨some (6, true), some 7, .padd 1 (.t 1)⟩,
  ⟨some (6, true), some 8, .slcA 2 1 (.t 7) none none⟩,
  ⟨some (6, true), some 9, .load 11 true (.t 1)⟩,
  ⟨some (6, true), some 10, .mkfn fn_tally_Division_listed [(.t 9)] []⟩,
  ⟨some (6, true), some 11, .call (.k (.fn fn_tally_all_Sint [] [])) [(.t 8), (.t 10)]⟩,
  ⟨none, some 12, .pick (.t 6) (.t 11) (.k (.lit (.bool false)))⟩,
  ⟨none, some 13, .mov (.t 12)⟩,
  ⟨some (13, true), some 14, .padd 3 (.t 1)⟩,
  ⟨some (13, true), some 15, .slcA 2 1 (.t 14) none none⟩,
  ⟨some (13, true), some 16, .load 11 true (.t 1)⟩,
  ⟨some (13, true), some 17, .mkfn fn_tally_Division_listed [(.t 16)] []⟩,
  ⟨some (13, true), some 18, .call (.k (.fn fn_tally_all_Sint [] [])) [(.t 15), (.t 17)]⟩,
  ⟨none, some 19, .pick (.t 13) (.t 18) (.k (.lit (.bool false)))⟩,
  ⟨none, some 20, .mov (.t 19)⟩,
  ⟨some (20, true), some 21, .padd 5 (.t 1)⟩,
  ⟨some (20, true), some 22, .load 1 false (.t 21)⟩,
  ⟨some (20, true), some 23, .lenS (.t 22)⟩,
  ⟨some (20, true), some 24, .bin .leq (.t 23) (.k (.lit (.int .i64 10)))⟩,
  ⟨none, some 25, .pick (.t 20) (.t 24) (.k (.lit (.bool false)))⟩,
  ⟨none, some 26, .mov (.t 25)⟩,
  ⟨some (26, true), some 27, .padd 6 (.t 1)⟩,
  ⟨some (26, true), some 28, .load 1 false (.t 27)⟩,
  ⟨some (26, true), some 29, .lenS (.t 28)⟩,
  ⟨some (26, true), some 30, .bin .leq (.t 29) (.k (.lit (.int .i64 10)))⟩,
  ⟨none, some 31, .pick (.t 26) (.t 30) (.k (.lit (.bool false)))⟩,
  ⟨none, some 32, .mov (.t 31)⟩,
  ⟨some (32, true), some 33, .load 11 true (.t 1)⟩,
  ⟨some (32, true), some 34, .call (.k (.fn fn_tally_Division_bound [] [])) [(.t 33)]⟩,
  ⟨none, some 35, .pick (.t 32) (.t 34) (.k (.lit (.bool false)))⟩,
  ⟨none, some 36, .mov (.t 35)⟩,
  ⟨some (36, true), some 37, .padd 7 (.t 1)⟩,
  ⟨some (36, true), some 38, .load 1 false (.t 37)⟩,
  ⟨some (36, true), some 39, .conv .i64 (.t 38)⟩,
  ⟨some (36, true), some 40, .call (.k (.fn fn_tally_rules [] [])) []⟩,
  ⟨some (36, true), some 41, .lenS (.t 40)⟩,
  ⟨some (36, true), some 42, .bin .lss (.t 39) (.t 41)⟩,
  ⟨none, some 43, .pick (.t 36) (.t 42) (.k (.lit (.bool false)))⟩,
  ⟨none, some 44, .mov (.t 43)⟩,
  ⟨some (44, true), some 45, .padd 8 (.t 1)⟩,
  ⟨some (44, true), some 46, .load 1 false (.t 45)⟩,
  ⟨some (44, true), some 47, .call (.k (.fn fn_tally_within [] [])) [(.t 46), (.k (.lit (.int .i64 0))), (.k (.lit (.int .i64 40)))]⟩,
  ⟨none, some 48, .pick (.t 44) (.t 47) (.k (.lit (.bool false)))⟩,
  ⟨none, some 49, .mov (.t 48)⟩,
  ⟨some (49, true), some 50, .padd 9 (.t 1)⟩,
  ⟨some (49, true), some 51, .load 1 false (.t 50)⟩,
  ⟨some (49, true), some 52, .call (.k (.fn fn_tally_within [] [])) [(.t 51), (.k (.lit (.int .i64 0))), (.k (.lit (.int .i64 40)))]⟩,
  ⟨none, some 53, .pick (.t 49) (.t 52) (.k (.lit (.bool false)))⟩,
  ⟨none, some 54, .mov (.t 53)⟩,
  ⟨some (54, true), some 55, .padd 10 (.t 1)⟩,
  ⟨some (54, true), some 56, .load 1 false (.t 55)⟩,
  ⟨some (54, true), some 57, .bin .eql (.t 56) (.k (.lit (.int .u8 1)))⟩,
  ⟨some (54, true), some 58, .mov (.t 57)⟩,
  ⟨some (58, false), some 59, .padd 10 (.t 1)⟩,
  ⟨some (58, false), some 60, .load 1 false (.t 59)⟩,
  ⟨some (58, false), some 61, .bin .eql (.t 60) (.k (.lit (.int .u8 2)))⟩,
  ⟨some (54, true), some 62, .pick (.t 58) (.k (.lit (.bool true))) (.t 61)⟩,
  ⟨none, some 63, .pick (.t 54) (.t 62) (.k (.lit (.bool false)))⟩,
  ⟨none, some 2, .mov (.t 63)⟩]
@[simp] def r_tally_Division_valid_1 : List AI := [⟨none, some 1, .box ty_tally_Division (.t 0)⟩,
  ⟨none, some 2, .mov (.k (.lit (.bool false)))⟩]
def a_tally_Division_valid : AFn := { nparams := 1, res := [.tmp 2], body :=
 (.seq (.seq (.reg r_tally_Division_valid_1) (.keep [1]))
 (.seq (.seq (.draw r_tally_Division_valid_0 0 [(35, 37)] [0, 1, 2, 3, 4, 5, 6, 7, 8, 9, 10, 11, 12, 13, 14, 15, 16, 17, 18, 19, 20, 21, 22, 23, 24, 25, 26, 27, 28, 29, 30, 31, 32, 33, 34, 35, 36, 37, 38, 39, 40, 41, 42, 43, 44, 45, 46, 47, 48, 49, 50, 51, 52, 53, 54, 55, 56, 57, 58, 59, 60, 61]) (.keep [2]))
 .ret)) }
@[simp] def r_tally_Division_look_0 : List AI := [⟨none, some 37, .load 91 true (.t 3)⟩,
  ⟨none, none, .store 91 (.t 2) (.t 37)⟩]
@[simp] def r_tally_Division_look_1 : List AI := [⟨none, some 36, .bin .add (.t 27) (.k (.lit (.int .i64 1)))⟩,
  ⟨none, some 27, .mov (.t 36)⟩]
@[simp] def r_tally_Division_look_2 : List AI := [⟨none, some 30, .mov (.t 6)⟩,
  ⟨none, some 31, .load 11 true (.t 1)⟩,
  ⟨none, some 32, .mov (.t 6)⟩,
  ⟨none, some 33, .call (.k (.fn fn_tally_Division_votes [] [])) [(.t 31), (.t 32)]⟩,
  ⟨none, some 34, .padd 51 (.t 3)⟩,
  ⟨none, some 35, .idxA 40 1 (.t 34) (.t 30)⟩,
  ⟨none, none, .store 1 (.t 35) (.t 33)⟩]
@[simp] def r_tally_Division_look_3 : List AI := [⟨none, some 29, .mov (.t 27)⟩,
  ⟨none, some 6, .mov (.t 29)⟩]
@[simp] def r_tally_Division_look_4 : List AI := [⟨none, some 28, .bin .lss (.t 27) (.t 26)⟩]
def l_tally_Division_look_0 : AC :=
 (.seq (.reg r_tally_Division_look_4)
 (.seq (.cond (.t 28)
 .skip
 (.exit 2))
 (.seq (.block 3
 (.seq (.seq (.reg r_tally_Division_look_3) (.keep [1, 2, 3, 6, 26, 27]))
 (.seq (.reg r_tally_Division_look_2) (.keep [1, 2, 3, 26, 27]))))
 (.seq (.reg r_tally_Division_look_1) (.keep [1, 2, 3, 26, 27])))))
@[simp] def r_tally_Division_look_6 : List AI := [⟨none, some 25, .padd 0 (.t 1)⟩,
  ⟨none, some 26, .load 1 false (.t 25)⟩,
  ⟨none, some 27, .mov (.k (.lit (.int .i64 0)))⟩]
@[simp] def r_tally_Division_look_7 : List AI := [⟨none, some 24, .bin .add (.t 12) (.k (.lit (.int .i64 1)))⟩,
  ⟨none, some 12, .mov (.t 24)⟩]
@[simp] def r_tally_Division_look_8 : List AI := [⟨none, some 16, .padd 0 (.t 5)⟩,
  ⟨none, some 17, .load 1 false (.t 16)⟩,
  ⟨none, some 18, .padd 1 (.t 5)⟩,
  ⟨none, some 19, .load 1 false (.t 18)⟩,
  ⟨none, some 20, .padd 11 (.t 3)⟩,
  ⟨none, some 21, .idxA 40 1 (.t 20) (.t 17)⟩,
  ⟨none, none, .store 1 (.t 21) (.k (.lit (.bool true)))⟩,
  ⟨none, some 22, .padd 11 (.t 3)⟩,
  ⟨none, some 23, .idxA 40 1 (.t 22) (.t 19)⟩,
  ⟨none, none, .store 1 (.t 23) (.k (.lit (.bool true)))⟩]
@[simp] def r_tally_Division_look_9 : List AI := [⟨none, some 14, .idxS 2 (.t 10) (.t 12)⟩,
  ⟨none, some 15, .load 2 true (.t 14)⟩,
  ⟨none, some 5, .alloc ty_tally_Pair [.lit (.int .i64 0), .lit (.int .i64 0)]⟩,
  ⟨none, none, .store 2 (.t 5) (.t 15)⟩]
@[simp] def r_tally_Division_look_10 : List AI := [⟨none, some 13, .bin .lss (.t 12) (.t 11)⟩]
def l_tally_Division_look_1 : AC :=
 (.seq (.reg r_tally_Division_look_10)
 (.seq (.cond (.t 13)
 .skip
 (.exit 0))
 (.seq (.block 1
 (.seq (.seq (.reg r_tally_Division_look_9) (.keep [1, 2, 3, 5, 10, 11, 12]))
 (.seq (.draw r_tally_Division_look_8 0 [(3, 6)] [0, 1, 4, 5, 6, 2, 3, 7, 8, 9]) (.keep [1, 2, 3, 10, 11, 12]))))
 (.seq (.reg r_tally_Division_look_7) (.keep [1, 2, 3, 10, 11, 12])))))
@[simp] def r_tally_Division_look_12 : List AI := [⟨none, some 9, .padd 5 (.t 1)⟩,
  ⟨none, some 10, .load 1 false (.t 9)⟩,
  ⟨none, some 11, .lenS (.t 10)⟩,
  ⟨none, some 12, .mov (.k (.lit (.int .i64 0)))⟩]
@[simp] def r_tally_Division_look_13 : List AI := [⟨none, some 7, .load 11 true (.t 1)⟩,
  ⟨none, some 8, .build z_tally_looked [(0, 11, (.t 7))]⟩,
  ⟨none, some 3, .alloc ty_tally_looked z_tally_looked⟩,
  ⟨none, none, .store 91 (.t 3) (.t 8)⟩]
@[simp] def r_tally_Division_look_14 : List AI := [⟨none, some 1, .box ty_tally_Division (.t 0)⟩,
  ⟨none, some 2, .alloc ty_tally_looked z_tally_looked⟩]
def a_tally_Division_look : AFn := { nparams := 1, res := [.cell 2 91 true], body :=
 (.seq (.reg r_tally_Division_look_14)
 (.seq (.seq (.reg r_tally_Division_look_13) (.keep [1, 2, 3]))
 (.seq (.seq (.seq (.reg r_tally_Division_look_12) (.keep [1, 2, 3, 10, 11, 12]))
 (.block 0
 (.loop [1, 2, 3, 10, 11, 12] l_tally_Division_look_1)))
 (.seq (.seq (.seq (.reg r_tally_Division_look_6) (.keep [1, 2, 3, 26, 27]))
 (.block 2
 (.loop [1, 2, 3, 26, 27] l_tally_Division_look_0)))
 (.seq (.seq (.reg r_tally_Division_look_0) (.keep [2]))
 .ret))))) }
@[simp] def r_tally_looked_clash_0 : List AI := [⟨none, some 19, .mov (.t 2)⟩,
  ⟨none, some 20, .mov (.t 3)⟩,
  ⟨none, some 2, .mov (.t 19)⟩,
  ⟨none, some 3, .mov (.t 20)⟩]
@[simp] def r_tally_looked_clash_1 : List AI := [⟨none, some 18, .bin .add (.t 8) (.k (.lit (.int .i64 1)))⟩,
  ⟨none, some 8, .mov (.t 18)⟩]
@[simp] def r_tally_looked_clash_2 : List AI := [⟨none, some 17, .mov (.t 4)⟩,
  ⟨none, some 2, .mov (.t 17)⟩,
  ⟨none, some 3, .mov (.k (.lit (.bool true)))⟩]
@[simp] def r_tally_looked_clash_3 : List AI := [⟨none, some 11, .mov (.t 4)⟩,
  ⟨none, some 12, .padd 51 (.t 1)⟩,
  ⟨none, some 13, .idxA 40 1 (.t 12) (.t 11)⟩,
  ⟨none, some 14, .load 1 false (.t 13)⟩,
  ⟨none, some 15, .lenS (.t 14)⟩,
  ⟨none, some 16, .bin .eql (.t 15) (.k (.lit (.int .i64 0)))⟩]
@[simp] def r_tally_looked_clash_4 : List AI := [⟨none, some 10, .mov (.t 8)⟩,
  ⟨none, some 4, .mov (.t 10)⟩]
@[simp] def r_tally_looked_clash_5 : List AI := [⟨none, some 9, .bin .lss (.t 8) (.t 7)⟩]
def l_tally_looked_clash_0 : AC :=
 (.seq (.reg r_tally_looked_clash_5)
 (.seq (.cond (.t 9)
 .skip
 (.exit 0))
 (.seq (.block 1
 (.seq (.seq (.reg r_tally_looked_clash_4) (.keep [1, 2, 3, 4, 7, 8]))
 (.seq (.seq (.reg r_tally_looked_clash_3) (.keep [1, 2, 3, 4, 7, 8, 16]))
 (.cond (.t 16)
 (.seq (.seq (.reg r_tally_looked_clash_2) (.keep [2, 3]))
 (.exit 0))
 .skip))))
 (.seq (.reg r_tally_looked_clash_1) (.keep [1, 2, 3, 7, 8])))))
@[simp] def r_tally_looked_clash_7 : List AI := [⟨none, some 5, .padd 0 (.t 1)⟩,
  ⟨none, some 6, .padd 0 (.t 5)⟩,
  ⟨none, some 7, .load 1 false (.t 6)⟩,
  ⟨none, some 8, .mov (.k (.lit (.int .i64 0)))⟩]
@[simp] def r_tally_looked_clash_8 : List AI := [⟨none, some 1, .box ty_tally_looked (.t 0)⟩,
  ⟨none, some 2, .mov (.k (.lit (.int .i64 0)))⟩,
  ⟨none, some 3, .mov (.k (.lit (.bool false)))⟩]
def a_tally_looked_clash : AFn := { nparams := 1, res := [.tmp 2, .tmp 3], body :=
 (.seq (.reg r_tally_looked_clash_8)
 (.scope (.seq .label
 (.seq (.seq (.seq (.reg r_tally_looked_clash_7) (.keep [1, 2, 3, 7, 8]))
 (.block 0
 (.loop [1, 2, 3, 7, 8] l_tally_looked_clash_0)))
 (.seq (.seq (.reg r_tally_looked_clash_0) (.keep [2, 3]))
 .ret))))) }
@[simp] def r_ref07_On_0 : List AI := [⟨none, some 18, .mov (.t 5)⟩,
  ⟨none, some 4, .mov (.t 18)⟩]
@[simp] def r_ref07_On_1 : List AI := [⟨none, some 9, .mov (.t 6)⟩,
  ⟨none, some 10, .bin .add (.t 9) (.k (.lit (.int .i64 1)))⟩,
  ⟨none, some 6, .mov (.t 10)⟩]
@[simp] def r_ref07_On_2 : List AI := [⟨none, some 16, .mov (.t 5)⟩,
  ⟨none, some 17, .bin .add (.t 16) (.k (.lit (.int .i64 1)))⟩,
  ⟨none, some 5, .mov (.t 17)⟩]
@[simp] def r_ref07_On_3 : List AI := [⟨none, some 11, .mov (.t 6)⟩,
  ⟨none, some 12, .idxA 2 1 (.t 2) (.t 11)⟩,
  ⟨none, some 13, .load 1 false (.t 12)⟩,
  ⟨none, some 14, .mov (.t 1)⟩,
  ⟨none, some 15, .call (.k (.fn fn_ref07_Has [] [])) [(.t 13), (.t 14)]⟩]
@[simp] def r_ref07_On_4 : List AI := [⟨none, some 7, .mov (.t 6)⟩,
  ⟨none, some 8, .bin .lss (.t 7) (.k (.lit (.int .i64 2)))⟩]
def l_ref07_On_0 : AC :=
 (.seq (.seq (.seq (.reg r_ref07_On_4) (.keep [1, 2, 5, 6, 8]))
 (.cond (.t 8)
 .skip
 (.exit 0)))
 (.seq (.block 1
 (.seq (.seq (.reg r_ref07_On_3) (.keep [1, 2, 5, 6, 15]))
 (.cond (.t 15)
 (.seq (.reg r_ref07_On_2) (.keep [1, 2, 5, 6]))
 .skip)))
 (.seq (.reg r_ref07_On_1) (.keep [1, 2, 5, 6]))))
@[simp] def r_ref07_On_6 : List AI := [⟨none, some 6, .mov (.k (.lit (.int .i64 0)))⟩]
@[simp] def r_ref07_On_7 : List AI := [⟨none, some 5, .mov (.k (.lit (.int .i64 0)))⟩]
@[simp] def r_ref07_On_8 : List AI := [⟨none, some 2, .box ty_2_Sint (.t 0)⟩,
  ⟨none, some 4, .mov (.k (.lit (.int .i64 0)))⟩]
def a_ref07_On : AFn := { nparams := 2, res := [.tmp 4], body :=
 (.seq (.seq (.reg r_ref07_On_8) (.keep [1, 2]))
 (.seq (.reg r_ref07_On_7)
 (.seq (.seq (.reg r_ref07_On_6)
 (.block 0
 (.loop [1, 2, 5, 6] l_ref07_On_0)))
 (.seq (.seq (.reg r_ref07_On_0) (.keep [4]))
 .ret)))) }
@[simp] def r_tally_rising_0 : List AI := [⟨none, some 2, .mov (.k (.lit (.bool true)))⟩]
@[simp] def r_tally_rising_1 : List AI := [⟨none, some 23, .bin .add (.t 6) (.k (.lit (.int .i64 1)))⟩,
  ⟨none, some 6, .mov (.t 23)⟩]
@[simp] def r_tally_rising_2 : List AI := [⟨none, some 2, .mov (.k (.lit (.bool false)))⟩]
@[simp] def r_tally_rising_3 : List AI := [⟨none, some 9, .mov (.t 3)⟩,
  ⟨none, some 10, .bin .gtr (.t 9) (.k (.lit (.int .i64 0)))⟩,
  ⟨none, some 11, .mov (.t 10)⟩,
  ⟨some (11, true), some 12, .mov (.t 0)⟩,
  ⟨some (11, true), some 13, .mov (.t 3)⟩,
  ⟨some (11, true), some 14, .idxS 1 (.t 12) (.t 13)⟩,
  ⟨some (11, true), some 15, .load 1 false (.t 14)⟩,
  ⟨some (11, true), some 16, .mov (.t 0)⟩,
  ⟨some (11, true), some 17, .mov (.t 3)⟩,
  ⟨some (11, true), some 18, .bin .sub (.t 17) (.k (.lit (.int .i64 1)))⟩,
  ⟨some (11, true), some 19, .idxS 1 (.t 16) (.t 18)⟩,
  ⟨some (11, true), some 20, .load 1 false (.t 19)⟩,
  ⟨some (11, true), some 21, .bin .leq (.t 15) (.t 20)⟩,
  ⟨none, some 22, .pick (.t 11) (.t 21) (.k (.lit (.bool false)))⟩]
@[simp] def r_tally_rising_4 : List AI := [⟨none, some 8, .mov (.t 6)⟩,
  ⟨none, some 3, .mov (.t 8)⟩]
@[simp] def r_tally_rising_5 : List AI := [⟨none, some 7, .bin .lss (.t 6) (.t 5)⟩]
def l_tally_rising_0 : AC :=
 (.seq (.reg r_tally_rising_5)
 (.seq (.cond (.t 7)
 .skip
 (.exit 0))
 (.seq (.block 1
 (.seq (.seq (.reg r_tally_rising_4) (.keep [0, 3, 5, 6]))
 (.seq (.seq (.draw r_tally_rising_3 0 [] [0, 1, 2, 3, 4, 5, 6, 7, 8, 9, 10, 11, 12, 13]) (.keep [0, 5, 6, 22]))
 (.cond (.t 22)
 (.seq (.reg r_tally_rising_2)
 .ret)
 .skip))))
 (.seq (.reg r_tally_rising_1) (.keep [0, 5, 6])))))
@[simp] def r_tally_rising_7 : List AI := [⟨none, some 4, .mov (.t 0)⟩,
  ⟨none, some 5, .lenS (.t 4)⟩,
  ⟨none, some 6, .mov (.k (.lit (.int .i64 0)))⟩]
@[simp] def r_tally_rising_8 : List AI := [⟨none, some 2, .mov (.k (.lit (.bool false)))⟩]
def a_tally_rising : AFn := { nparams := 1, res := [.tmp 2], body :=
 (.seq (.reg r_tally_rising_8)
 (.seq (.seq (.seq (.reg r_tally_rising_7) (.keep [0, 5, 6]))
 (.block 0
 (.loop [0, 5, 6] l_tally_rising_0)))
 (.seq (.reg r_tally_rising_0)
 .ret))) }
@[simp] def r_tally_all_int_0 : List AI := [⟨none, some 5, .mov (.t 0)⟩,
  ⟨none, some 6, .mkfn fn_tally_all_int_1 [] [(.t 3)]⟩,
  ⟨none, some 7, .call (.k (.fn fn_slices_ContainsFunc_Sint_int [] [])) [(.t 5), (.t 6)]⟩,
  ⟨none, some 8, .not (.t 7)⟩,
  ⟨none, some 4, .mov (.t 8)⟩]
@[simp] def r_tally_all_int_1 : List AI := [⟨none, some 3, .box ty_func_int_bool_2 (.t 1)⟩,
  ⟨none, some 4, .mov (.k (.lit (.bool false)))⟩]
def a_tally_all_int : AFn := { nparams := 2, res := [.tmp 4], body :=
 (.seq (.seq (.reg r_tally_all_int_1) (.keep [0, 3]))
 (.seq (.seq (.reg r_tally_all_int_0) (.keep [4]))
 .ret)) }
@[simp] def r_slices_Contains_Sint_int_0 : List AI := [⟨none, some 5, .mov (.t 0)⟩,
  ⟨none, some 6, .mov (.t 1)⟩,
  ⟨none, some 7, .call (.k (.fn fn_slices_Index_Sint_int [] [])) [(.t 5), (.t 6)]⟩,
  ⟨none, some 8, .bin .geq (.t 7) (.k (.lit (.int .i64 0)))⟩,
  ⟨none, some 4, .mov (.t 8)⟩]
@[simp] def r_slices_Contains_Sint_int_1 : List AI := [⟨none, some 4, .mov (.k (.lit (.bool false)))⟩]
def a_slices_Contains_Sint_int : AFn := { nparams := 2, res := [.tmp 4], body :=
 (.seq (.reg r_slices_Contains_Sint_int_1)
 (.seq (.seq (.reg r_slices_Contains_Sint_int_0) (.keep [4]))
 .ret)) }
@[simp] def r_tally_looked_truths_1_0 : List AI := [⟨none, some 5, .load 1 false (.t 3)⟩,
  ⟨none, some 6, .build z_tally_truth []⟩,
  ⟨none, some 7, .call (.t 5) [(.t 6), (.k (.lit (.int .i64 0)))]⟩]
@[simp] def r_tally_looked_truths_1_1 : List AI := [⟨none, some 4, .mkfn fn_tally_looked_truths_1_1 [] [(.t 1), (.t 2), (.t 3)]⟩,
  ⟨none, none, .store 1 (.t 3) (.t 4)⟩]
@[simp] def r_tally_looked_truths_1_2 : List AI := [⟨none, some 3, .alloc ty_func_tally_truth_int_bool [.lit (.nilFunc)]⟩]
@[simp] def r_tally_looked_truths_1_3 : List AI := [⟨none, some 2, .box ty_func_tally_truth_bool (.t 0)⟩]
def a_tally_looked_truths_1 : AFn := { nparams := 2, res := [], body :=
 (.seq (.reg r_tally_looked_truths_1_3)
 (.seq (.reg r_tally_looked_truths_1_2)
 (.seq (.seq (.reg r_tally_looked_truths_1_1) (.keep [3]))
 (.seq (.reg r_tally_looked_truths_1_0) (.keep []))))) }
@[simp] def r_tally_looked_truths_1_1_0 : List AI := [⟨none, some 7, .mov (.k (.lit (.bool true)))⟩]
@[simp] def r_tally_looked_truths_1_1_1 : List AI := [⟨none, some 36, .bin .add (.t 23) (.k (.lit (.int .i64 1)))⟩,
  ⟨none, some 23, .mov (.t 36)⟩]
@[simp] def r_tally_looked_truths_1_1_2 : List AI := [⟨none, some 7, .mov (.k (.lit (.bool false)))⟩]
@[simp] def r_tally_looked_truths_1_1_3 : List AI := [⟨none, some 30, .load 1 false (.t 4)⟩,
  ⟨none, some 31, .load 40 true (.t 5)⟩,
  ⟨none, some 32, .mov (.t 1)⟩,
  ⟨none, some 33, .bin .add (.t 32) (.k (.lit (.int .i64 1)))⟩,
  ⟨none, some 34, .call (.t 30) [(.t 31), (.t 33)]⟩,
  ⟨none, some 35, .not (.t 34)⟩]
@[simp] def r_tally_looked_truths_1_1_4 : List AI := [⟨none, some 27, .mov (.t 1)⟩,
  ⟨none, some 28, .mov (.t 9)⟩,
  ⟨none, some 29, .idxA 40 1 (.t 5) (.t 27)⟩,
  ⟨none, none, .store 1 (.t 29) (.t 28)⟩]
@[simp] def r_tally_looked_truths_1_1_5 : List AI := [⟨none, some 25, .idxS 1 (.t 21) (.t 23)⟩,
  ⟨none, some 26, .load 1 false (.t 25)⟩,
  ⟨none, some 9, .mov (.t 26)⟩]
@[simp] def r_tally_looked_truths_1_1_6 : List AI := [⟨none, some 24, .bin .lss (.t 23) (.t 22)⟩]
def l_tally_looked_truths_1_1_0 : AC :=
 (.seq (.reg r_tally_looked_truths_1_1_6)
 (.seq (.cond (.t 24)
 .skip
 (.exit 0))
 (.seq (.block 1
 (.seq (.seq (.reg r_tally_looked_truths_1_1_5) (.keep [1, 4, 5, 9, 21, 22, 23]))
 (.seq (.seq (.reg r_tally_looked_truths_1_1_4) (.keep [1, 4, 5, 21, 22, 23]))
 (.seq (.seq (.reg r_tally_looked_truths_1_1_3) (.keep [1, 4, 5, 21, 22, 23, 35]))
 (.cond (.t 35)
 (.seq (.reg r_tally_looked_truths_1_1_2)
 .ret)
 .skip)))))
 (.seq (.reg r_tally_looked_truths_1_1_1) (.keep [1, 4, 5, 21, 22, 23])))))
@[simp] def r_tally_looked_truths_1_1_8 : List AI := [⟨none, some 18, .mov (.t 1)⟩,
  ⟨none, some 19, .padd 51 (.t 2)⟩,
  ⟨none, some 20, .idxA 40 1 (.t 19) (.t 18)⟩,
  ⟨none, some 21, .load 1 false (.t 20)⟩,
  ⟨none, some 22, .lenS (.t 21)⟩,
  ⟨none, some 23, .mov (.k (.lit (.int .i64 0)))⟩]
@[simp] def r_tally_looked_truths_1_1_9 : List AI := [⟨none, some 15, .load 1 false (.t 3)⟩,
  ⟨none, some 16, .load 40 true (.t 5)⟩,
  ⟨none, some 17, .call (.t 15) [(.t 16)]⟩,
  ⟨none, some 7, .mov (.t 17)⟩]
@[simp] def r_tally_looked_truths_1_1_10 : List AI := [⟨none, some 10, .mov (.t 1)⟩,
  ⟨none, some 11, .padd 0 (.t 2)⟩,
  ⟨none, some 12, .padd 0 (.t 11)⟩,
  ⟨none, some 13, .load 1 false (.t 12)⟩,
  ⟨none, some 14, .bin .eql (.t 10) (.t 13)⟩]
@[simp] def r_tally_looked_truths_1_1_11 : List AI := [⟨none, some 5, .box ty_tally_truth (.t 0)⟩,
  ⟨none, some 7, .mov (.k (.lit (.bool false)))⟩]
def a_tally_looked_truths_1_1 : AFn := { nparams := 5, res := [.tmp 7], body :=
 (.seq (.seq (.reg r_tally_looked_truths_1_1_11) (.keep [1, 2, 3, 4, 5]))
 (.seq (.seq (.seq (.reg r_tally_looked_truths_1_1_10) (.keep [1, 2, 3, 4, 5, 14]))
 (.cond (.t 14)
 (.seq (.seq (.reg r_tally_looked_truths_1_1_9) (.keep [7]))
 .ret)
 .skip))
 (.seq (.seq (.seq (.reg r_tally_looked_truths_1_1_8) (.keep [1, 4, 5, 21, 22, 23]))
 (.block 0
 (.loop [1, 4, 5, 21, 22, 23] l_tally_looked_truths_1_1_0)))
 (.seq (.reg r_tally_looked_truths_1_1_0)
 .ret)))) }
@[simp] def r_tally_looked_numbers_1_0 : List AI := [⟨none, some 6, .padd 0 (.t 1)⟩,
  ⟨none, some 7, .load 1 false (.t 6)⟩,
  ⟨none, some 8, .bin .add (.t 7) (.k (.lit (.int .i64 1)))⟩,
  ⟨none, some 9, .padd 0 (.t 1)⟩,
  ⟨none, none, .store 1 (.t 9) (.t 8)⟩]
@[simp] def r_tally_looked_numbers_1_1 : List AI := [⟨none, some 12, .padd 1 (.t 1)⟩,
  ⟨none, some 13, .load 1 false (.t 12)⟩,
  ⟨none, some 14, .bin .add (.t 13) (.k (.lit (.int .i64 1)))⟩,
  ⟨none, some 15, .padd 1 (.t 1)⟩,
  ⟨none, none, .store 1 (.t 15) (.t 14)⟩]
@[simp] def r_tally_looked_numbers_1_2 : List AI := [⟨none, some 11, .bin .eql (.t 3) (.k (.lit (.int .u8 2)))⟩,
  ⟨none, some 10, .mov (.t 11)⟩]
@[simp] def r_tally_looked_numbers_1_3 : List AI := [⟨none, some 5, .bin .eql (.t 3) (.k (.lit (.int .u8 1)))⟩,
  ⟨none, some 4, .mov (.t 5)⟩]
@[simp] def r_tally_looked_numbers_1_4 : List AI := [⟨none, some 3, .mov (.t 0)⟩]
def a_tally_looked_numbers_1 : AFn := { nparams := 2, res := [], body :=
 (.seq (.reg r_tally_looked_numbers_1_4)
 (.block 0
 (.seq (.seq (.reg r_tally_looked_numbers_1_3) (.keep [1, 3, 4]))
 (.cond (.t 4)
 (.seq (.reg r_tally_looked_numbers_1_0) (.keep []))
 (.seq (.seq (.reg r_tally_looked_numbers_1_2) (.keep [1, 10]))
 (.cond (.t 10)
 (.seq (.reg r_tally_looked_numbers_1_1) (.keep []))
 .skip)))))) }
@[simp] def r_slices_Min_Sint_int_0 : List AI := [⟨none, some 24, .mov (.t 3)⟩,
  ⟨none, some 2, .mov (.t 24)⟩]
@[simp] def r_slices_Min_Sint_int_1 : List AI := [⟨none, some 16, .mov (.t 4)⟩,
  ⟨none, some 17, .bin .add (.t 16) (.k (.lit (.int .i64 1)))⟩,
  ⟨none, some 4, .mov (.t 17)⟩]
@[simp] def r_slices_Min_Sint_int_2 : List AI := [⟨none, some 18, .mov (.t 3)⟩,
  ⟨none, some 19, .mov (.t 0)⟩,
  ⟨none, some 20, .mov (.t 4)⟩,
  ⟨none, some 21, .idxS 1 (.t 19) (.t 20)⟩,
  ⟨none, some 22, .load 1 false (.t 21)⟩,
  ⟨none, some 23, .min (.t 18) (.t 22)⟩,
  ⟨none, some 3, .mov (.t 23)⟩]
@[simp] def r_slices_Min_Sint_int_3 : List AI := [⟨none, some 12, .mov (.t 4)⟩,
  ⟨none, some 13, .mov (.t 0)⟩,
  ⟨none, some 14, .lenS (.t 13)⟩,
  ⟨none, some 15, .bin .lss (.t 12) (.t 14)⟩]
def l_slices_Min_Sint_int_0 : AC :=
 (.seq (.seq (.seq (.reg r_slices_Min_Sint_int_3) (.keep [0, 3, 4, 15]))
 (.cond (.t 15)
 .skip
 (.exit 0)))
 (.seq (.block 1
 (.seq (.reg r_slices_Min_Sint_int_2) (.keep [0, 3, 4])))
 (.seq (.reg r_slices_Min_Sint_int_1) (.keep [0, 3, 4]))))
@[simp] def r_slices_Min_Sint_int_5 : List AI := [⟨none, some 4, .mov (.k (.lit (.int .i64 1)))⟩]
@[simp] def r_slices_Min_Sint_int_6 : List AI := [⟨none, some 9, .mov (.t 0)⟩,
  ⟨none, some 10, .idxS 1 (.t 9) (.k (.lit (.int .i64 0)))⟩,
  ⟨none, some 11, .load 1 false (.t 10)⟩,
  ⟨none, some 3, .mov (.t 11)⟩]
@[simp] def r_slices_Min_Sint_int_7 : List AI := [⟨none, some 8, .mkif ty_string (.k (.lit (.string ⟨#[115, 108, 105, 99, 101, 115, 46, 77, 105, 110, 58, 32, 101, 109, 112, 116, 121, 32, 108, 105, 115, 116]⟩)))⟩,
  ⟨none, none, .pan (.t 8)⟩]
@[simp] def r_slices_Min_Sint_int_8 : List AI := [⟨none, some 5, .mov (.t 0)⟩,
  ⟨none, some 6, .lenS (.t 5)⟩,
  ⟨none, some 7, .bin .lss (.t 6) (.k (.lit (.int .i64 1)))⟩]
@[simp] def r_slices_Min_Sint_int_9 : List AI := [⟨none, some 2, .mov (.k (.lit (.int .i64 0)))⟩]
def a_slices_Min_Sint_int : AFn := { nparams := 1, res := [.tmp 2], body :=
 (.seq (.reg r_slices_Min_Sint_int_9)
 (.seq (.seq (.seq (.reg r_slices_Min_Sint_int_8) (.keep [0, 7]))
 (.cond (.t 7)
 (.seq (.reg r_slices_Min_Sint_int_7) (.keep [0]))
 .skip))
 (.seq (.seq (.reg r_slices_Min_Sint_int_6) (.keep [0, 3]))
 (.seq (.seq (.reg r_slices_Min_Sint_int_5)
 (.block 0
 (.loop [0, 3, 4] l_slices_Min_Sint_int_0)))
 (.seq (.seq (.reg r_slices_Min_Sint_int_0) (.keep [2]))
 .ret))))) }
@[simp] def r_slices_Max_Sint_int_0 : List AI := [⟨none, some 24, .mov (.t 3)⟩,
  ⟨none, some 2, .mov (.t 24)⟩]
@[simp] def r_slices_Max_Sint_int_1 : List AI := [⟨none, some 16, .mov (.t 4)⟩,
  ⟨none, some 17, .bin .add (.t 16) (.k (.lit (.int .i64 1)))⟩,
  ⟨none, some 4, .mov (.t 17)⟩]
@[simp] def r_slices_Max_Sint_int_2 : List AI := [⟨none, some 18, .mov (.t 3)⟩,
  ⟨none, some 19, .mov (.t 0)⟩,
  ⟨none, some 20, .mov (.t 4)⟩,
  ⟨none, some 21, .idxS 1 (.t 19) (.t 20)⟩,
  ⟨none, some 22, .load 1 false (.t 21)⟩,
  ⟨none, some 23, .max (.t 18) (.t 22)⟩,
  ⟨none, some 3, .mov (.t 23)⟩]
@[simp] def r_slices_Max_Sint_int_3 : List AI := [⟨none, some 12, .mov (.t 4)⟩,
  ⟨none, some 13, .mov (.t 0)⟩,
  ⟨none, some 14, .lenS (.t 13)⟩,
  ⟨none, some 15, .bin .lss (.t 12) (.t 14)⟩]
def l_slices_Max_Sint_int_0 : AC :=
 (.seq (.seq (.seq (.reg r_slices_Max_Sint_int_3) (.keep [0, 3, 4, 15]))
 (.cond (.t 15)
 .skip
 (.exit 0)))
 (.seq (.block 1
 (.seq (.reg r_slices_Max_Sint_int_2) (.keep [0, 3, 4])))
 (.seq (.reg r_slices_Max_Sint_int_1) (.keep [0, 3, 4]))))
@[simp] def r_slices_Max_Sint_int_5 : List AI := [⟨none, some 4, .mov (.k (.lit (.int .i64 1)))⟩]
@[simp] def r_slices_Max_Sint_int_6 : List AI := [⟨none, some 9, .mov (.t 0)⟩,
  ⟨none, some 10, .idxS 1 (.t 9) (.k (.lit (.int .i64 0)))⟩,
  ⟨none, some 11, .load 1 false (.t 10)⟩,
  ⟨none, some 3, .mov (.t 11)⟩]
@[simp] def r_slices_Max_Sint_int_7 : List AI := [⟨none, some 8, .mkif ty_string (.k (.lit (.string ⟨#[115, 108, 105, 99, 101, 115, 46, 77, 97, 120, 58, 32, 101, 109, 112, 116, 121, 32, 108, 105, 115, 116]⟩)))⟩,
  ⟨none, none, .pan (.t 8)⟩]
@[simp] def r_slices_Max_Sint_int_8 : List AI := [⟨none, some 5, .mov (.t 0)⟩,
  ⟨none, some 6, .lenS (.t 5)⟩,
  ⟨none, some 7, .bin .lss (.t 6) (.k (.lit (.int .i64 1)))⟩]
@[simp] def r_slices_Max_Sint_int_9 : List AI := [⟨none, some 2, .mov (.k (.lit (.int .i64 0)))⟩]
def a_slices_Max_Sint_int : AFn := { nparams := 1, res := [.tmp 2], body :=
 (.seq (.reg r_slices_Max_Sint_int_9)
 (.seq (.seq (.seq (.reg r_slices_Max_Sint_int_8) (.keep [0, 7]))
 (.cond (.t 7)
 (.seq (.reg r_slices_Max_Sint_int_7) (.keep [0]))
 .skip))
 (.seq (.seq (.reg r_slices_Max_Sint_int_6) (.keep [0, 3]))
 (.seq (.seq (.reg r_slices_Max_Sint_int_5)
 (.block 0
 (.loop [0, 3, 4] l_slices_Max_Sint_int_0)))
 (.seq (.seq (.reg r_slices_Max_Sint_int_0) (.keep [2]))
 .ret))))) }
@[simp] def r_ref07_Rising_0 : List AI := [⟨none, some 2, .mov (.k (.lit (.bool true)))⟩]
@[simp] def r_ref07_Rising_1 : List AI := [⟨none, some 8, .mov (.t 3)⟩,
  ⟨none, some 9, .bin .add (.t 8) (.k (.lit (.int .i64 1)))⟩,
  ⟨none, some 3, .mov (.t 9)⟩]
@[simp] def r_ref07_Rising_2 : List AI := [⟨none, some 2, .mov (.k (.lit (.bool false)))⟩]
@[simp] def r_ref07_Rising_3 : List AI := [⟨none, some 10, .mov (.t 0)⟩,
  ⟨none, some 11, .mov (.t 3)⟩,
  ⟨none, some 12, .idxS 1 (.t 10) (.t 11)⟩,
  ⟨none, some 13, .load 1 false (.t 12)⟩,
  ⟨none, some 14, .mov (.t 0)⟩,
  ⟨none, some 15, .mov (.t 3)⟩,
  ⟨none, some 16, .bin .sub (.t 15) (.k (.lit (.int .i64 1)))⟩,
  ⟨none, some 17, .idxS 1 (.t 14) (.t 16)⟩,
  ⟨none, some 18, .load 1 false (.t 17)⟩,
  ⟨none, some 19, .bin .leq (.t 13) (.t 18)⟩]
@[simp] def r_ref07_Rising_4 : List AI := [⟨none, some 4, .mov (.t 3)⟩,
  ⟨none, some 5, .mov (.t 0)⟩,
  ⟨none, some 6, .lenS (.t 5)⟩,
  ⟨none, some 7, .bin .lss (.t 4) (.t 6)⟩]
def l_ref07_Rising_0 : AC :=
 (.seq (.seq (.seq (.reg r_ref07_Rising_4) (.keep [0, 3, 7]))
 (.cond (.t 7)
 .skip
 (.exit 0)))
 (.seq (.block 1
 (.seq (.seq (.draw r_ref07_Rising_3 0 [] [0, 1, 2, 3, 4, 5, 6, 7, 8, 9]) (.keep [0, 3, 19]))
 (.cond (.t 19)
 (.seq (.reg r_ref07_Rising_2)
 .ret)
 .skip)))
 (.seq (.reg r_ref07_Rising_1) (.keep [0, 3]))))
@[simp] def r_ref07_Rising_6 : List AI := [⟨none, some 3, .mov (.k (.lit (.int .i64 1)))⟩]
@[simp] def r_ref07_Rising_7 : List AI := [⟨none, some 2, .mov (.k (.lit (.bool false)))⟩]
def a_ref07_Rising : AFn := { nparams := 1, res := [.tmp 2], body :=
 (.seq (.reg r_ref07_Rising_7)
 (.seq (.seq (.reg r_ref07_Rising_6)
 (.block 0
 (.loop [0, 3] l_ref07_Rising_0)))
 (.seq (.reg r_ref07_Rising_0)
 .ret))) }
@[simp] def r_tally_rules_0 : List AI := [⟨none, some 2, .mkfn fn_tally_rules_2 [] [(.t 1)]⟩,
  ⟨none, some 3, .build [.lit (.nilFunc)] [(0, 1, (.t 2))]⟩,
  ⟨none, some 4, .mkfn fn_tally_rules_3 [] [(.t 1)]⟩,
  ⟨none, some 5, .build [.lit (.nilFunc)] [(0, 1, (.t 4))]⟩,
  ⟨none, some 6, .build [.lit (.nilFunc)] [(0, 1, (.k (.fn fn_tally_rules_4 [] [])))]⟩,
  ⟨none, some 7, .slit ty_tally_rule [.lit (.nilFunc)] 3 1 [(0, 1, (.t 3)), (1, 1, (.t 5)), (2, 1, (.t 6))]⟩,
  ⟨none, some 0, .mov (.t 7)⟩]
@[simp] def r_tally_rules_1 : List AI := [⟨none, some 1, .alloc ty_func_tally_Division_bool [.lit (.nilFunc)]⟩,
  ⟨none, none, .store 1 (.t 1) (.k (.fn fn_tally_rules_1 [] []))⟩]
@[simp] def r_tally_rules_2 : List AI := [⟨none, some 0, .mov (.k (.nil))⟩]
def a_tally_rules : AFn := { nparams := 0, res := [.tmp 0], body :=
 (.seq (.reg r_tally_rules_2)
 (.seq (.reg r_tally_rules_1)
 (.seq (.seq (.reg r_tally_rules_0) (.keep [0]))
 .ret))) }
@[simp] def r_slices_Index_Suint8_uint8_0 : List AI := [⟨none, some 4, .mov (.k (.lit (.int .i64 (-1))))⟩]
@[simp] def r_slices_Index_Suint8_uint8_1 : List AI := [⟨none, some 18, .bin .add (.t 8) (.k (.lit (.int .i64 1)))⟩,
  ⟨none, some 8, .mov (.t 18)⟩]
@[simp] def r_slices_Index_Suint8_uint8_2 : List AI := [⟨none, some 17, .mov (.t 5)⟩,
  ⟨none, some 4, .mov (.t 17)⟩]
@[simp] def r_slices_Index_Suint8_uint8_3 : List AI := [⟨none, some 11, .mov (.t 1)⟩,
  ⟨none, some 12, .mov (.t 0)⟩,
  ⟨none, some 13, .mov (.t 5)⟩,
  ⟨none, some 14, .idxS 1 (.t 12) (.t 13)⟩,
  ⟨none, some 15, .load 1 false (.t 14)⟩,
  ⟨none, some 16, .bin .eql (.t 11) (.t 15)⟩]
@[simp] def r_slices_Index_Suint8_uint8_4 : List AI := [⟨none, some 10, .mov (.t 8)⟩,
  ⟨none, some 5, .mov (.t 10)⟩]
@[simp] def r_slices_Index_Suint8_uint8_5 : List AI := [⟨none, some 9, .bin .lss (.t 8) (.t 7)⟩]
def l_slices_Index_Suint8_uint8_0 : AC :=
 (.seq (.reg r_slices_Index_Suint8_uint8_5)
 (.seq (.cond (.t 9)
 .skip
 (.exit 0))
 (.seq (.block 1
 (.seq (.seq (.reg r_slices_Index_Suint8_uint8_4) (.keep [0, 1, 5, 7, 8]))
 (.seq (.seq (.reg r_slices_Index_Suint8_uint8_3) (.keep [0, 1, 5, 7, 8, 16]))
 (.cond (.t 16)
 (.seq (.seq (.reg r_slices_Index_Suint8_uint8_2) (.keep [4]))
 .ret)
 .skip))))
 (.seq (.reg r_slices_Index_Suint8_uint8_1) (.keep [0, 1, 7, 8])))))
@[simp] def r_slices_Index_Suint8_uint8_7 : List AI := [⟨none, some 6, .mov (.t 0)⟩,
  ⟨none, some 7, .lenS (.t 6)⟩,
  ⟨none, some 8, .mov (.k (.lit (.int .i64 0)))⟩]
@[simp] def r_slices_Index_Suint8_uint8_8 : List AI := [⟨none, some 4, .mov (.k (.lit (.int .i64 0)))⟩]
def a_slices_Index_Suint8_uint8 : AFn := { nparams := 2, res := [.tmp 4], body :=
 (.seq (.reg r_slices_Index_Suint8_uint8_8)
 (.seq (.seq (.seq (.reg r_slices_Index_Suint8_uint8_7) (.keep [0, 1, 7, 8]))
 (.block 0
 (.loop [0, 1, 7, 8] l_slices_Index_Suint8_uint8_0)))
 (.seq (.reg r_slices_Index_Suint8_uint8_0)
 .ret))) }
@[simp] def r_slices_pdqsortOrdered_uint8_0 : List AI := [⟨none, some 122, .mov (.t 14)⟩,
  ⟨none, some 123, .bin .add (.t 122) (.k (.lit (.int .i64 1)))⟩,
  ⟨none, some 1, .mov (.t 123)⟩]
@[simp] def r_slices_pdqsortOrdered_uint8_1 : List AI := [⟨none, some 117, .mov (.t 0)⟩,
  ⟨none, some 118, .mov (.t 1)⟩,
  ⟨none, some 119, .mov (.t 14)⟩,
  ⟨none, some 120, .mov (.t 3)⟩,
  ⟨none, some 121, .call (.k (.fn fn_slices_pdqsortOrdered_uint8 [] [])) [(.t 117), (.t 118), (.t 119), (.t 120)]⟩]
@[simp] def r_slices_pdqsortOrdered_uint8_2 : List AI := [⟨none, some 114, .mov (.t 16)⟩,
  ⟨none, some 115, .mov (.t 18)⟩,
  ⟨none, some 116, .bin .geq (.t 114) (.t 115)⟩,
  ⟨none, some 8, .mov (.t 116)⟩]
@[simp] def r_slices_pdqsortOrdered_uint8_3 : List AI := [⟨none, some 133, .mov (.t 14)⟩,
  ⟨none, some 2, .mov (.t 133)⟩]
@[simp] def r_slices_pdqsortOrdered_uint8_4 : List AI := [⟨none, some 127, .mov (.t 0)⟩,
  ⟨none, some 128, .mov (.t 14)⟩,
  ⟨none, some 129, .bin .add (.t 128) (.k (.lit (.int .i64 1)))⟩,
  ⟨none, some 130, .mov (.t 2)⟩,
  ⟨none, some 131, .mov (.t 3)⟩,
  ⟨none, some 132, .call (.k (.fn fn_slices_pdqsortOrdered_uint8 [] [])) [(.t 127), (.t 129), (.t 130), (.t 131)]⟩]
@[simp] def r_slices_pdqsortOrdered_uint8_5 : List AI := [⟨none, some 124, .mov (.t 17)⟩,
  ⟨none, some 125, .mov (.t 18)⟩,
  ⟨none, some 126, .bin .geq (.t 124) (.t 125)⟩,
  ⟨none, some 8, .mov (.t 126)⟩]
@[simp] def r_slices_pdqsortOrdered_uint8_6 : List AI := [⟨none, some 111, .mov (.t 16)⟩,
  ⟨none, some 112, .mov (.t 17)⟩,
  ⟨none, some 113, .bin .lss (.t 111) (.t 112)⟩]
@[simp] def r_slices_pdqsortOrdered_uint8_7 : List AI := [⟨none, some 109, .mov (.t 10)⟩,
  ⟨none, some 110, .bin .quo (.t 109) (.k (.lit (.int .i64 8)))⟩,
  ⟨none, some 18, .mov (.t 110)⟩]
@[simp] def r_slices_pdqsortOrdered_uint8_8 : List AI := [⟨none, some 103, .mov (.t 14)⟩,
  ⟨none, some 104, .mov (.t 1)⟩,
  ⟨none, some 105, .bin .sub (.t 103) (.t 104)⟩,
  ⟨none, some 106, .mov (.t 2)⟩,
  ⟨none, some 107, .mov (.t 14)⟩,
  ⟨none, some 108, .bin .sub (.t 106) (.t 107)⟩,
  ⟨none, some 16, .mov (.t 105)⟩,
  ⟨none, some 17, .mov (.t 108)⟩]
@[simp] def r_slices_pdqsortOrdered_uint8_9 : List AI := [⟨none, some 102, .mov (.t 15)⟩,
  ⟨none, some 9, .mov (.t 102)⟩]
@[simp] def r_slices_pdqsortOrdered_uint8_10 : List AI := [⟨none, some 95, .mov (.t 0)⟩,
  ⟨none, some 96, .mov (.t 1)⟩,
  ⟨none, some 97, .mov (.t 2)⟩,
  ⟨none, some 98, .mov (.t 11)⟩,
  ⟨none, some 99, .call (.k (.fn fn_slices_partitionOrdered_uint8 [] [])) [(.t 95), (.t 96), (.t 97), (.t 98)]⟩,
  ⟨none, some 94, .mov (.t 99)⟩,
  ⟨none, some 100, .ext 0 (.t 94)⟩,
  ⟨none, some 101, .ext 1 (.t 94)⟩,
  ⟨none, some 14, .mov (.t 100)⟩,
  ⟨none, some 15, .mov (.t 101)⟩]
@[simp] def r_slices_pdqsortOrdered_uint8_11 : List AI := [⟨none, some 93, .mov (.t 13)⟩,
  ⟨none, some 1, .mov (.t 93)⟩]
@[simp] def r_slices_pdqsortOrdered_uint8_12 : List AI := [⟨none, some 88, .mov (.t 0)⟩,
  ⟨none, some 89, .mov (.t 1)⟩,
  ⟨none, some 90, .mov (.t 2)⟩,
  ⟨none, some 91, .mov (.t 11)⟩,
  ⟨none, some 92, .call (.k (.fn fn_slices_partitionEqualOrdered_uint8 [] [])) [(.t 88), (.t 89), (.t 90), (.t 91)]⟩,
  ⟨none, some 13, .mov (.t 92)⟩]
@[simp] def r_slices_pdqsortOrdered_uint8_13 : List AI := [⟨none, some 73, .mov (.t 1)⟩,
  ⟨none, some 74, .bin .gtr (.t 73) (.k (.lit (.int .i64 0)))⟩,
  ⟨none, some 75, .mov (.t 74)⟩,
  ⟨some (75, true), some 76, .mov (.t 0)⟩,
  ⟨some (75, true), some 77, .mov (.t 1)⟩,
  ⟨some (75, true), some 78, .bin .sub (.t 77) (.k (.lit (.int .i64 1)))⟩,
  ⟨some (75, true), some 79, .idxS 1 (.t 76) (.t 78)⟩,
  ⟨some (75, true), some 80, .load 1 false (.t 79)⟩,
  ⟨some (75, true), some 81, .mov (.t 0)⟩,
  ⟨some (75, true), some 82, .mov (.t 11)⟩,
  ⟨some (75, true), some 83, .idxS 1 (.t 81) (.t 82)⟩,
  ⟨some (75, true), some 84, .load 1 false (.t 83)⟩,
  ⟨some (75, true), some 85, .call (.k (.fn fn_cmp_Less_uint8 [] [])) [(.t 80), (.t 84)]⟩,
  ⟨some (75, true), some 86, .not (.t 85)⟩,
  ⟨none, some 87, .pick (.t 75) (.t 86) (.k (.lit (.bool false)))⟩]
@[simp] def r_slices_pdqsortOrdered_uint8_14 : List AI := [⟨none, some 69, .mov (.t 0)⟩,
  ⟨none, some 70, .mov (.t 1)⟩,
  ⟨none, some 71, .mov (.t 2)⟩,
  ⟨none, some 72, .call (.k (.fn fn_slices_partialInsertionSortOrdered_uint8 [] [])) [(.t 69), (.t 70), (.t 71)]⟩]
@[simp] def r_slices_pdqsortOrdered_uint8_15 : List AI := [⟨none, some 61, .mov (.t 8)⟩,
  ⟨none, some 62, .mov (.t 61)⟩,
  ⟨some (62, true), some 63, .mov (.t 9)⟩,
  ⟨none, some 64, .pick (.t 62) (.t 63) (.k (.lit (.bool false)))⟩,
  ⟨none, some 65, .mov (.t 64)⟩,
  ⟨some (65, true), some 66, .mov (.t 12)⟩,
  ⟨some (65, true), some 67, .bin .eql (.t 66) (.k (.lit (.int .i64 1)))⟩,
  ⟨none, some 68, .pick (.t 65) (.t 67) (.k (.lit (.bool false)))⟩]
@[simp] def r_slices_pdqsortOrdered_uint8_16 : List AI := [⟨none, some 12, .mov (.k (.lit (.int .i64 1)))⟩]
@[simp] def r_slices_pdqsortOrdered_uint8_17 : List AI := [⟨none, some 55, .mov (.t 2)⟩,
  ⟨none, some 56, .bin .sub (.t 55) (.k (.lit (.int .i64 1)))⟩,
  ⟨none, some 57, .mov (.t 11)⟩,
  ⟨none, some 58, .mov (.t 1)⟩,
  ⟨none, some 59, .bin .sub (.t 57) (.t 58)⟩,
  ⟨none, some 60, .bin .sub (.t 56) (.t 59)⟩,
  ⟨none, some 11, .mov (.t 60)⟩]
@[simp] def r_slices_pdqsortOrdered_uint8_18 : List AI := [⟨none, some 51, .mov (.t 0)⟩,
  ⟨none, some 52, .mov (.t 1)⟩,
  ⟨none, some 53, .mov (.t 2)⟩,
  ⟨none, some 54, .call (.k (.fn fn_slices_reverseRangeOrdered_uint8 [] [])) [(.t 51), (.t 52), (.t 53)]⟩]
@[simp] def r_slices_pdqsortOrdered_uint8_19 : List AI := [⟨none, some 49, .mov (.t 12)⟩,
  ⟨none, some 50, .bin .eql (.t 49) (.k (.lit (.int .i64 2)))⟩]
@[simp] def r_slices_pdqsortOrdered_uint8_20 : List AI := [⟨none, some 43, .mov (.t 0)⟩,
  ⟨none, some 44, .mov (.t 1)⟩,
  ⟨none, some 45, .mov (.t 2)⟩,
  ⟨none, some 46, .call (.k (.fn fn_slices_choosePivotOrdered_uint8 [] [])) [(.t 43), (.t 44), (.t 45)]⟩,
  ⟨none, some 42, .mov (.t 46)⟩,
  ⟨none, some 47, .ext 0 (.t 42)⟩,
  ⟨none, some 48, .ext 1 (.t 42)⟩,
  ⟨none, some 11, .mov (.t 47)⟩,
  ⟨none, some 12, .mov (.t 48)⟩]
@[simp] def r_slices_pdqsortOrdered_uint8_21 : List AI := [⟨none, some 40, .mov (.t 3)⟩,
  ⟨none, some 41, .bin .sub (.t 40) (.k (.lit (.int .i64 1)))⟩,
  ⟨none, some 3, .mov (.t 41)⟩]
@[simp] def r_slices_pdqsortOrdered_uint8_22 : List AI := [⟨none, some 36, .mov (.t 0)⟩,
  ⟨none, some 37, .mov (.t 1)⟩,
  ⟨none, some 38, .mov (.t 2)⟩,
  ⟨none, some 39, .call (.k (.fn fn_slices_breakPatternsOrdered_uint8 [] [])) [(.t 36), (.t 37), (.t 38)]⟩]
@[simp] def r_slices_pdqsortOrdered_uint8_23 : List AI := [⟨none, some 34, .mov (.t 8)⟩,
  ⟨none, some 35, .not (.t 34)⟩]
@[simp] def r_slices_pdqsortOrdered_uint8_24 : List AI := [⟨none, some 30, .mov (.t 0)⟩,
  ⟨none, some 31, .mov (.t 1)⟩,
  ⟨none, some 32, .mov (.t 2)⟩,
  ⟨none, some 33, .call (.k (.fn fn_slices_heapSortOrdered_uint8 [] [])) [(.t 30), (.t 31), (.t 32)]⟩]
@[simp] def r_slices_pdqsortOrdered_uint8_25 : List AI := [⟨none, some 28, .mov (.t 3)⟩,
  ⟨none, some 29, .bin .eql (.t 28) (.k (.lit (.int .i64 0)))⟩]
@[simp] def r_slices_pdqsortOrdered_uint8_26 : List AI := [⟨none, some 24, .mov (.t 0)⟩,
  ⟨none, some 25, .mov (.t 1)⟩,
  ⟨none, some 26, .mov (.t 2)⟩,
  ⟨none, some 27, .call (.k (.fn fn_slices_insertionSortOrdered_uint8 [] [])) [(.t 24), (.t 25), (.t 26)]⟩]
@[simp] def r_slices_pdqsortOrdered_uint8_27 : List AI := [⟨none, some 22, .mov (.t 10)⟩,
  ⟨none, some 23, .bin .leq (.t 22) (.k (.lit (.int .i64 12)))⟩]
@[simp] def r_slices_pdqsortOrdered_uint8_28 : List AI := [⟨none, some 19, .mov (.t 2)⟩,
  ⟨none, some 20, .mov (.t 1)⟩,
  ⟨none, some 21, .bin .sub (.t 19) (.t 20)⟩,
  ⟨none, some 10, .mov (.t 21)⟩]
def l_slices_pdqsortOrdered_uint8_0 : AC :=
 (.block 1
 (.seq (.seq (.reg r_slices_pdqsortOrdered_uint8_28) (.keep [0, 1, 2, 3, 8, 9, 10]))
 (.seq (.seq (.seq (.reg r_slices_pdqsortOrdered_uint8_27) (.keep [0, 1, 2, 3, 8, 9, 10, 23]))
 (.cond (.t 23)
 (.seq (.seq (.reg r_slices_pdqsortOrdered_uint8_26) (.keep []))
 .ret)
 .skip))
 (.seq (.seq (.seq (.reg r_slices_pdqsortOrdered_uint8_25) (.keep [0, 1, 2, 3, 8, 9, 10, 29]))
 (.cond (.t 29)
 (.seq (.seq (.reg r_slices_pdqsortOrdered_uint8_24) (.keep []))
 .ret)
 .skip))
 (.seq (.seq (.seq (.reg r_slices_pdqsortOrdered_uint8_23) (.keep [0, 1, 2, 3, 8, 9, 10, 35]))
 (.cond (.t 35)
 (.seq (.seq (.reg r_slices_pdqsortOrdered_uint8_22) (.keep [0, 1, 2, 3, 8, 9, 10]))
 (.seq (.reg r_slices_pdqsortOrdered_uint8_21) (.keep [0, 1, 2, 3, 8, 9, 10])))
 .skip))
 (.seq (.seq (.reg r_slices_pdqsortOrdered_uint8_20) (.keep [0, 1, 2, 3, 8, 9, 10, 11, 12]))
 (.seq (.seq (.seq (.reg r_slices_pdqsortOrdered_uint8_19) (.keep [0, 1, 2, 3, 8, 9, 10, 11, 12, 50]))
 (.cond (.t 50)
 (.seq (.seq (.reg r_slices_pdqsortOrdered_uint8_18) (.keep [0, 1, 2, 3, 8, 9, 10, 11]))
 (.seq (.seq (.reg r_slices_pdqsortOrdered_uint8_17) (.keep [0, 1, 2, 3, 8, 9, 10, 11]))
 (.reg r_slices_pdqsortOrdered_uint8_16)))
 .skip))
 (.seq (.seq (.seq (.reg r_slices_pdqsortOrdered_uint8_15) (.keep [0, 1, 2, 3, 8, 9, 10, 11, 68]))
 (.cond (.t 68)
 (.seq (.seq (.reg r_slices_pdqsortOrdered_uint8_14) (.keep [0, 1, 2, 3, 8, 9, 10, 11, 72]))
 (.cond (.t 72)
 .ret
 .skip))
 .skip))
 (.seq (.seq (.seq (.draw r_slices_pdqsortOrdered_uint8_13 0 [] [0, 1, 2, 3, 4, 5, 6, 7, 8, 9, 10, 11, 12, 13, 14]) (.keep [0, 1, 2, 3, 8, 9, 10, 11, 87]))
 (.cond (.t 87)
 (.seq (.seq (.reg r_slices_pdqsortOrdered_uint8_12) (.keep [0, 2, 3, 8, 9, 13]))
 (.seq (.seq (.reg r_slices_pdqsortOrdered_uint8_11) (.keep [0, 1, 2, 3, 8, 9]))
 (.exit 1)))
 .skip))
 (.seq (.seq (.reg r_slices_pdqsortOrdered_uint8_10) (.keep [0, 1, 2, 3, 10, 14, 15]))
 (.seq (.seq (.reg r_slices_pdqsortOrdered_uint8_9) (.keep [0, 1, 2, 3, 9, 10, 14]))
 (.seq (.seq (.reg r_slices_pdqsortOrdered_uint8_8) (.keep [0, 1, 2, 3, 9, 10, 14, 16, 17]))
 (.seq (.seq (.reg r_slices_pdqsortOrdered_uint8_7) (.keep [0, 1, 2, 3, 9, 14, 16, 17, 18]))
 (.seq (.seq (.reg r_slices_pdqsortOrdered_uint8_6) (.keep [0, 1, 2, 3, 9, 14, 16, 17, 18, 113]))
 (.cond (.t 113)
 (.seq (.seq (.reg r_slices_pdqsortOrdered_uint8_2) (.keep [0, 1, 2, 3, 8, 9, 14]))
 (.seq (.seq (.reg r_slices_pdqsortOrdered_uint8_1) (.keep [0, 2, 3, 8, 9, 14]))
 (.seq (.reg r_slices_pdqsortOrdered_uint8_0) (.keep [0, 1, 2, 3, 8, 9]))))
 (.seq (.seq (.reg r_slices_pdqsortOrdered_uint8_5) (.keep [0, 1, 2, 3, 8, 9, 14]))
 (.seq (.seq (.reg r_slices_pdqsortOrdered_uint8_4) (.keep [0, 1, 3, 8, 9, 14]))
 (.seq (.reg r_slices_pdqsortOrdered_uint8_3) (.keep [0, 1, 2, 3, 8, 9])))))))))))))))))))
@[simp] def r_slices_pdqsortOrdered_uint8_30 : List AI := [⟨none, some 9, .mov (.k (.lit (.bool true)))⟩]
@[simp] def r_slices_pdqsortOrdered_uint8_31 : List AI := [⟨none, some 8, .mov (.k (.lit (.bool true)))⟩]
def a_slices_pdqsortOrdered_uint8 : AFn := { nparams := 4, res := [], body :=
 (.seq (.reg r_slices_pdqsortOrdered_uint8_31)
 (.seq (.reg r_slices_pdqsortOrdered_uint8_30)
 (.block 0
 (.loop [0, 1, 2, 3, 8, 9] l_slices_pdqsortOrdered_uint8_0)))) }
@[simp] def r_math_bits_Len_0 : List AI := [⟨none, some 6, .mov (.t 0)⟩,
  ⟨none, some 7, .call (.k (.fn fn_math_bits_Len64 [] [])) [(.t 6)]⟩,
  ⟨none, some 2, .mov (.t 7)⟩]
@[simp] def r_math_bits_Len_1 : List AI := [⟨none, some 3, .mov (.t 0)⟩,
  ⟨none, some 4, .conv .u32 (.t 3)⟩,
  ⟨none, some 5, .call (.k (.fn fn_math_bits_Len32 [] [])) [(.t 4)]⟩,
  ⟨none, some 2, .mov (.t 5)⟩]
@[simp] def r_math_bits_Len_2 : List AI := [⟨none, some 2, .mov (.k (.lit (.int .i64 0)))⟩]
def a_math_bits_Len : AFn := { nparams := 1, res := [.tmp 2], body :=
 (.seq (.reg r_math_bits_Len_2)
 (.seq (.cond (.k (.lit (.bool false)))
 (.seq (.seq (.reg r_math_bits_Len_1) (.keep [2]))
 .ret)
 .skip)
 (.seq (.seq (.reg r_math_bits_Len_0) (.keep [2]))
 .ret))) }
@[simp] def r_tally_within_0 : List AI := [⟨none, some 7, .mov (.t 1)⟩,
  ⟨none, some 8, .mov (.t 0)⟩,
  ⟨none, some 9, .bin .leq (.t 7) (.t 8)⟩,
  ⟨none, some 10, .mov (.t 9)⟩,
  ⟨some (10, true), some 11, .mov (.t 0)⟩,
  ⟨some (10, true), some 12, .mov (.t 2)⟩,
  ⟨some (10, true), some 13, .bin .leq (.t 11) (.t 12)⟩,
  ⟨none, some 14, .pick (.t 10) (.t 13) (.k (.lit (.bool false)))⟩,
  ⟨none, some 6, .mov (.t 14)⟩]
@[simp] def r_tally_within_1 : List AI := [⟨none, some 6, .mov (.k (.lit (.bool false)))⟩]
def a_tally_within : AFn := { nparams := 3, res := [.tmp 6], body :=
 (.seq (.reg r_tally_within_1)
 (.seq (.seq (.reg r_tally_within_0) (.keep [6]))
 .ret)) }
@[simp] def r_tally_all_Sint_0 : List AI := [⟨none, some 5, .mov (.t 0)⟩,
  ⟨none, some 6, .mkfn fn_tally_all_Sint_1 [] [(.t 3)]⟩,
  ⟨none, some 7, .call (.k (.fn fn_slices_ContainsFunc_SSint_Sint [] [])) [(.t 5), (.t 6)]⟩,
  ⟨none, some 8, .not (.t 7)⟩,
  ⟨none, some 4, .mov (.t 8)⟩]
@[simp] def r_tally_all_Sint_1 : List AI := [⟨none, some 3, .box ty_func_Sint_bool (.t 1)⟩,
  ⟨none, some 4, .mov (.k (.lit (.bool false)))⟩]
def a_tally_all_Sint : AFn := { nparams := 2, res := [.tmp 4], body :=
 (.seq (.seq (.reg r_tally_all_Sint_1) (.keep [0, 3]))
 (.seq (.seq (.reg r_tally_all_Sint_0) (.keep [4]))
 .ret)) }
@[simp] def r_tally_Division_listed_0 : List AI := [⟨none, some 5, .mov (.t 1)⟩,
  ⟨none, some 6, .load 11 true (.t 2)⟩,
  ⟨none, some 7, .mkfn fn_tally_Division_member [(.t 6)] []⟩,
  ⟨none, some 8, .call (.k (.fn fn_tally_all_int [] [])) [(.t 5), (.t 7)]⟩,
  ⟨none, some 9, .mov (.t 8)⟩,
  ⟨some (9, true), some 10, .mov (.t 1)⟩,
  ⟨some (9, true), some 11, .call (.k (.fn fn_tally_rising [] [])) [(.t 10)]⟩,
  ⟨none, some 12, .pick (.t 9) (.t 11) (.k (.lit (.bool false)))⟩,
  ⟨none, some 4, .mov (.t 12)⟩]
@[simp] def r_tally_Division_listed_1 : List AI := [⟨none, some 2, .box ty_tally_Division (.t 0)⟩,
  ⟨none, some 4, .mov (.k (.lit (.bool false)))⟩]
def a_tally_Division_listed : AFn := { nparams := 2, res := [.tmp 4], body :=
 (.seq (.seq (.reg r_tally_Division_listed_1) (.keep [1, 2]))
 (.seq (.seq (.reg r_tally_Division_listed_0) (.keep [4]))
 .ret)) }
@[simp] def r_tally_Division_bound_0 : List AI := [⟨none, some 92, .padd 6 (.t 1)⟩,
  ⟨none, some 93, .load 1 false (.t 92)⟩,
  ⟨none, some 94, .mkfn fn_tally_Division_bound_1 [] [(.t 4)]⟩,
  ⟨none, some 95, .call (.k (.fn fn_tally_all_tally_Proxy [] [])) [(.t 93), (.t 94)]⟩,
  ⟨none, some 2, .mov (.t 95)⟩]
@[simp] def r_tally_Division_bound_1 : List AI := [⟨none, some 91, .bin .add (.t 59) (.k (.lit (.int .i64 1)))⟩,
  ⟨none, some 59, .mov (.t 91)⟩]
@[simp] def r_tally_Division_bound_2 : List AI := [⟨none, some 88, .load 1 false (.t 4)⟩,
  ⟨none, some 89, .padd 1 (.t 8)⟩,
  ⟨none, some 90, .load 1 false (.t 89)⟩,
  ⟨none, none, .mupd none (.t 88) (.t 90) (.k (.lit (.bool true)))⟩]
@[simp] def r_tally_Division_bound_3 : List AI := [⟨none, some 2, .mov (.k (.lit (.bool false)))⟩]
@[simp] def r_tally_Division_bound_4 : List AI := [⟨none, some 63, .load 11 true (.t 1)⟩,
  ⟨none, some 64, .padd 0 (.t 8)⟩,
  ⟨none, some 65, .load 1 false (.t 64)⟩,
  ⟨none, some 66, .call (.k (.fn fn_tally_Division_member [] [])) [(.t 63), (.t 65)]⟩,
  ⟨none, some 67, .not (.t 66)⟩,
  ⟨none, some 68, .mov (.t 67)⟩,
  ⟨some (68, false), some 69, .load 11 true (.t 1)⟩,
  ⟨some (68, false), some 70, .padd 1 (.t 8)⟩,
  ⟨some (68, false), some 71, .load 1 false (.t 70)⟩,
  ⟨some (68, false), some 72, .call (.k (.fn fn_tally_Division_member [] [])) [(.t 69), (.t 71)]⟩,
  ⟨some (68, false), some 73, .not (.t 72)⟩,
  ⟨none, some 74, .pick (.t 68) (.k (.lit (.bool true))) (.t 73)⟩,
  ⟨none, some 75, .mov (.t 74)⟩,
  ⟨some (75, false), some 76, .padd 0 (.t 8)⟩,
  ⟨some (75, false), some 77, .load 1 false (.t 76)⟩,
  ⟨some (75, false), some 78, .padd 1 (.t 8)⟩,
  ⟨some (75, false), some 79, .load 1 false (.t 78)⟩,
  ⟨some (75, false), some 80, .bin .eql (.t 77) (.t 79)⟩,
  ⟨none, some 81, .pick (.t 75) (.k (.lit (.bool true))) (.t 80)⟩,
  ⟨none, some 82, .mov (.t 81)⟩,
  ⟨some (82, false), some 83, .load 1 false (.t 4)⟩,
  ⟨some (82, false), some 84, .padd 1 (.t 8)⟩,
  ⟨some (82, false), some 85, .load 1 false (.t 84)⟩,
  ⟨some (82, false), some 86, .look none (.lit (.bool false)) false (.t 83) (.t 85)⟩,
  ⟨none, some 87, .pick (.t 82) (.k (.lit (.bool true))) (.t 86)⟩]
@[simp] def r_tally_Division_bound_5 : List AI := [⟨none, some 61, .idxS 2 (.t 57) (.t 59)⟩,
  ⟨none, some 62, .load 2 true (.t 61)⟩,
  ⟨none, some 8, .alloc ty_tally_Proxy [.lit (.int .i64 0), .lit (.int .i64 0)]⟩,
  ⟨none, none, .store 2 (.t 8) (.t 62)⟩]
@[simp] def r_tally_Division_bound_6 : List AI := [⟨none, some 60, .bin .lss (.t 59) (.t 58)⟩]
def l_tally_Division_bound_0 : AC :=
 (.seq (.reg r_tally_Division_bound_6)
 (.seq (.cond (.t 60)
 .skip
 (.exit 2))
 (.seq (.block 3
 (.seq (.seq (.reg r_tally_Division_bound_5) (.keep [1, 4, 8, 57, 58, 59]))
 (.seq (.seq (.seq (.reg r_tally_Division_bound_4) (.keep [1, 4, 8, 57, 58, 59, 87]))
 (.cond (.t 87)
 (.seq (.reg r_tally_Division_bound_3)
 .ret)
 .skip))
 (.seq (.reg r_tally_Division_bound_2) (.keep [1, 4, 57, 58, 59])))))
 (.seq (.reg r_tally_Division_bound_1) (.keep [1, 4, 57, 58, 59])))))
@[simp] def r_tally_Division_bound_8 : List AI := [⟨none, some 56, .padd 6 (.t 1)⟩,
  ⟨none, some 57, .load 1 false (.t 56)⟩,
  ⟨none, some 58, .lenS (.t 57)⟩,
  ⟨none, some 59, .mov (.k (.lit (.int .i64 0)))⟩]
@[simp] def r_tally_Division_bound_9 : List AI := [⟨none, some 55, .bin .add (.t 14) (.k (.lit (.int .i64 1)))⟩,
  ⟨none, some 14, .mov (.t 55)⟩]
@[simp] def r_tally_Division_bound_10 : List AI := [⟨none, some 49, .mov (.t 3)⟩,
  ⟨none, some 50, .padd 0 (.t 6)⟩,
  ⟨none, some 51, .load 1 false (.t 50)⟩,
  ⟨none, some 52, .mov (.t 3)⟩,
  ⟨none, some 53, .padd 1 (.t 6)⟩,
  ⟨none, some 54, .load 1 false (.t 53)⟩,
  ⟨none, none, .mupd none (.t 49) (.t 51) (.k (.lit (.bool true)))⟩,
  ⟨none, none, .mupd none (.t 52) (.t 54) (.k (.lit (.bool true)))⟩]
@[simp] def r_tally_Division_bound_11 : List AI := [⟨none, some 2, .mov (.k (.lit (.bool false)))⟩]
@[simp] def r_tally_Division_bound_12 : List AI := [⟨none, some 18, .load 11 true (.t 1)⟩,
  ⟨none, some 19, .padd 0 (.t 6)⟩,
  ⟨none, some 20, .load 1 false (.t 19)⟩,
  ⟨none, some 21, .call (.k (.fn fn_tally_Division_member [] [])) [(.t 18), (.t 20)]⟩,
  ⟨none, some 22, .not (.t 21)⟩,
  ⟨none, some 23, .mov (.t 22)⟩,
  ⟨some (23, false), some 24, .load 11 true (.t 1)⟩,
  ⟨some (23, false), some 25, .padd 1 (.t 6)⟩,
  ⟨some (23, false), some 26, .load 1 false (.t 25)⟩,
  ⟨some (23, false), some 27, .call (.k (.fn fn_tally_Division_member [] [])) [(.t 24), (.t 26)]⟩,
  ⟨some (23, false), some 28, .not (.t 27)⟩,
  ⟨none, some 29, .pick (.t 23) (.k (.lit (.bool true))) (.t 28)⟩,
  ⟨none, some 30, .mov (.t 29)⟩,
  ⟨some (30, false), some 31, .padd 0 (.t 6)⟩,
  ⟨some (30, false), some 32, .load 1 false (.t 31)⟩,
  ⟨some (30, false), some 33, .padd 1 (.t 6)⟩,
  ⟨some (30, false), some 34, .load 1 false (.t 33)⟩,
  ⟨some (30, false), some 35, .bin .eql (.t 32) (.t 34)⟩,
  ⟨none, some 36, .pick (.t 30) (.k (.lit (.bool true))) (.t 35)⟩,
  ⟨none, some 37, .mov (.t 36)⟩,
  ⟨some (37, false), some 38, .mov (.t 3)⟩,
  ⟨some (37, false), some 39, .padd 0 (.t 6)⟩,
  ⟨some (37, false), some 40, .load 1 false (.t 39)⟩,
  ⟨some (37, false), some 41, .look none (.lit (.bool false)) false (.t 38) (.t 40)⟩,
  ⟨none, some 42, .pick (.t 37) (.k (.lit (.bool true))) (.t 41)⟩,
  ⟨none, some 43, .mov (.t 42)⟩,
  ⟨some (43, false), some 44, .mov (.t 3)⟩,
  ⟨some (43, false), some 45, .padd 1 (.t 6)⟩,
  ⟨some (43, false), some 46, .load 1 false (.t 45)⟩,
  ⟨some (43, false), some 47, .look none (.lit (.bool false)) false (.t 44) (.t 46)⟩,
  ⟨none, some 48, .pick (.t 43) (.k (.lit (.bool true))) (.t 47)⟩]
@[simp] def r_tally_Division_bound_13 : List AI := [⟨none, some 16, .idxS 2 (.t 12) (.t 14)⟩,
  ⟨none, some 17, .load 2 true (.t 16)⟩,
  ⟨none, some 6, .alloc ty_tally_Pair [.lit (.int .i64 0), .lit (.int .i64 0)]⟩,
  ⟨none, none, .store 2 (.t 6) (.t 17)⟩]
@[simp] def r_tally_Division_bound_14 : List AI := [⟨none, some 15, .bin .lss (.t 14) (.t 13)⟩]
def l_tally_Division_bound_1 : AC :=
 (.seq (.reg r_tally_Division_bound_14)
 (.seq (.cond (.t 15)
 .skip
 (.exit 0))
 (.seq (.block 1
 (.seq (.seq (.reg r_tally_Division_bound_13) (.keep [1, 3, 4, 6, 12, 13, 14]))
 (.seq (.seq (.seq (.reg r_tally_Division_bound_12) (.keep [1, 3, 4, 6, 12, 13, 14, 48]))
 (.cond (.t 48)
 (.seq (.reg r_tally_Division_bound_11)
 .ret)
 .skip))
 (.seq (.draw r_tally_Division_bound_10 0 [(5, 6)] [0, 1, 2, 6, 3, 4, 5, 7]) (.keep [1, 3, 4, 12, 13, 14])))))
 (.seq (.reg r_tally_Division_bound_9) (.keep [1, 3, 4, 12, 13, 14])))))
@[simp] def r_tally_Division_bound_16 : List AI := [⟨none, some 11, .padd 5 (.t 1)⟩,
  ⟨none, some 12, .load 1 false (.t 11)⟩,
  ⟨none, some 13, .lenS (.t 12)⟩,
  ⟨none, some 14, .mov (.k (.lit (.int .i64 0)))⟩]
@[simp] def r_tally_Division_bound_17 : List AI := [⟨none, some 9, .mkmap⟩,
  ⟨none, some 10, .mkmap⟩,
  ⟨none, some 4, .alloc ty_map_int_bool [.lit (.map none)]⟩,
  ⟨none, some 3, .mov (.t 9)⟩,
  ⟨none, none, .store 1 (.t 4) (.t 10)⟩]
@[simp] def r_tally_Division_bound_18 : List AI := [⟨none, some 1, .box ty_tally_Division (.t 0)⟩,
  ⟨none, some 2, .mov (.k (.lit (.bool false)))⟩]
def a_tally_Division_bound : AFn := { nparams := 1, res := [.tmp 2], body :=
 (.seq (.seq (.reg r_tally_Division_bound_18) (.keep [1]))
 (.seq (.seq (.reg r_tally_Division_bound_17) (.keep [1, 3, 4]))
 (.seq (.seq (.seq (.reg r_tally_Division_bound_16) (.keep [1, 3, 4, 12, 13, 14]))
 (.block 0
 (.loop [1, 3, 4, 12, 13, 14] l_tally_Division_bound_1)))
 (.seq (.seq (.seq (.reg r_tally_Division_bound_8) (.keep [1, 4, 57, 58, 59]))
 (.block 2
 (.loop [1, 4, 57, 58, 59] l_tally_Division_bound_0)))
 (.seq (.seq (.reg r_tally_Division_bound_0) (.keep [2]))
 .ret))))) }
@[simp] def r_tally_Division_votes_0 : List AI := [⟨none, some 43, .mov (.t 7)⟩,
  ⟨none, some 4, .mov (.t 43)⟩]
@[simp] def r_tally_Division_votes_1 : List AI := [⟨none, some 40, .mov (.t 7)⟩,
  ⟨none, some 41, .slit ty_uint8 [.lit (.int .u8 0)] 1 1 [(0, 1, (.k (.lit (.int .u8 2))))]⟩,
  ⟨none, some 42, .app ty_uint8 [.lit (.int .u8 0)] 1 1 (.t 40) (.t 41)⟩,
  ⟨none, some 7, .mov (.t 42)⟩]
@[simp] def r_tally_Division_votes_2 : List AI := [⟨none, some 34, .mov (.t 6)⟩,
  ⟨none, some 35, .bin .gtr (.t 34) (.k (.lit (.int .i64 0)))⟩,
  ⟨none, some 36, .mov (.t 35)⟩,
  ⟨some (36, true), some 37, .mov (.t 5)⟩,
  ⟨some (36, true), some 38, .bin .lss (.t 37) (.k (.lit (.int .i64 2)))⟩,
  ⟨none, some 39, .pick (.t 36) (.t 38) (.k (.lit (.bool false)))⟩]
@[simp] def r_tally_Division_votes_3 : List AI := [⟨none, some 31, .mov (.t 7)⟩,
  ⟨none, some 32, .slit ty_uint8 [.lit (.int .u8 0)] 1 1 [(0, 1, (.k (.lit (.int .u8 1))))]⟩,
  ⟨none, some 33, .app ty_uint8 [.lit (.int .u8 0)] 1 1 (.t 31) (.t 32)⟩,
  ⟨none, some 7, .mov (.t 33)⟩]
@[simp] def r_tally_Division_votes_4 : List AI := [⟨none, some 25, .mov (.t 5)⟩,
  ⟨none, some 26, .bin .gtr (.t 25) (.k (.lit (.int .i64 0)))⟩,
  ⟨none, some 27, .mov (.t 26)⟩,
  ⟨some (27, true), some 28, .mov (.t 6)⟩,
  ⟨some (27, true), some 29, .bin .lss (.t 28) (.k (.lit (.int .i64 2)))⟩,
  ⟨none, some 30, .pick (.t 27) (.t 29) (.k (.lit (.bool false)))⟩]
@[simp] def r_tally_Division_votes_5 : List AI := [⟨none, some 22, .mov (.t 7)⟩,
  ⟨none, some 23, .slit ty_uint8 [.lit (.int .u8 0)] 1 1 [(0, 1, (.k (.lit (.int .u8 0))))]⟩,
  ⟨none, some 24, .app ty_uint8 [.lit (.int .u8 0)] 1 1 (.t 22) (.t 23)⟩,
  ⟨none, some 7, .mov (.t 24)⟩]
@[simp] def r_tally_Division_votes_6 : List AI := [⟨none, some 16, .mov (.t 5)⟩,
  ⟨none, some 17, .bin .lss (.t 16) (.k (.lit (.int .i64 2)))⟩,
  ⟨none, some 18, .mov (.t 17)⟩,
  ⟨some (18, true), some 19, .mov (.t 6)⟩,
  ⟨some (18, true), some 20, .bin .lss (.t 19) (.k (.lit (.int .i64 2)))⟩,
  ⟨none, some 21, .pick (.t 18) (.t 20) (.k (.lit (.bool false)))⟩]
@[simp] def r_tally_Division_votes_7 : List AI := [⟨none, some 7, .mov (.k (.nil))⟩]
@[simp] def r_tally_Division_votes_8 : List AI := [⟨none, some 8, .padd 1 (.t 2)⟩,
  ⟨none, some 9, .load 2 true (.t 8)⟩,
  ⟨none, some 10, .mov (.t 1)⟩,
  ⟨none, some 11, .call (.k (.fn fn_tally_on [] [])) [(.t 9), (.t 10)]⟩,
  ⟨none, some 12, .padd 3 (.t 2)⟩,
  ⟨none, some 13, .load 2 true (.t 12)⟩,
  ⟨none, some 14, .mov (.t 1)⟩,
  ⟨none, some 15, .call (.k (.fn fn_tally_on [] [])) [(.t 13), (.t 14)]⟩,
  ⟨none, some 5, .mov (.t 11)⟩,
  ⟨none, some 6, .mov (.t 15)⟩]
@[simp] def r_tally_Division_votes_9 : List AI := [⟨none, some 2, .box ty_tally_Division (.t 0)⟩,
  ⟨none, some 4, .mov (.k (.nil))⟩]
def a_tally_Division_votes : AFn := { nparams := 2, res := [.tmp 4], body :=
 (.seq (.seq (.reg r_tally_Division_votes_9) (.keep [1, 2]))
 (.seq (.seq (.draw r_tally_Division_votes_8 0 [(3, 5)] [0, 1, 2, 3, 4, 5, 6, 7, 8, 9]) (.keep [5, 6]))
 (.seq (.reg r_tally_Division_votes_7)
 (.seq (.seq (.seq (.reg r_tally_Division_votes_6) (.keep [5, 6, 7, 21]))
 (.cond (.t 21)
 (.seq (.reg r_tally_Division_votes_5) (.keep [5, 6, 7]))
 .skip))
 (.seq (.seq (.seq (.reg r_tally_Division_votes_4) (.keep [5, 6, 7, 30]))
 (.cond (.t 30)
 (.seq (.reg r_tally_Division_votes_3) (.keep [5, 6, 7]))
 .skip))
 (.seq (.seq (.seq (.reg r_tally_Division_votes_2) (.keep [7, 39]))
 (.cond (.t 39)
 (.seq (.reg r_tally_Division_votes_1) (.keep [7]))
 .skip))
 (.seq (.seq (.reg r_tally_Division_votes_0) (.keep [4]))
 .ret))))))) }
@[simp] def r_slices_ContainsFunc_Sint_int_0 : List AI := [⟨none, some 5, .mov (.t 0)⟩,
  ⟨none, some 6, .mov (.t 1)⟩,
  ⟨none, some 7, .call (.k (.fn fn_slices_IndexFunc_Sint_int [] [])) [(.t 5), (.t 6)]⟩,
  ⟨none, some 8, .bin .geq (.t 7) (.k (.lit (.int .i64 0)))⟩,
  ⟨none, some 4, .mov (.t 8)⟩]
@[simp] def r_slices_ContainsFunc_Sint_int_1 : List AI := [⟨none, some 4, .mov (.k (.lit (.bool false)))⟩]
def a_slices_ContainsFunc_Sint_int : AFn := { nparams := 2, res := [.tmp 4], body :=
 (.seq (.reg r_slices_ContainsFunc_Sint_int_1)
 (.seq (.seq (.reg r_slices_ContainsFunc_Sint_int_0) (.keep [4]))
 .ret)) }
@[simp] def r_tally_all_int_1_0 : List AI := [⟨none, some 4, .load 1 false (.t 1)⟩,
  ⟨none, some 5, .mov (.t 0)⟩,
  ⟨none, some 6, .call (.t 4) [(.t 5)]⟩,
  ⟨none, some 7, .not (.t 6)⟩,
  ⟨none, some 3, .mov (.t 7)⟩]
@[simp] def r_tally_all_int_1_1 : List AI := [⟨none, some 3, .mov (.k (.lit (.bool false)))⟩]
def a_tally_all_int_1 : AFn := { nparams := 2, res := [.tmp 3], body :=
 (.seq (.reg r_tally_all_int_1_1)
 (.seq (.seq (.reg r_tally_all_int_1_0) (.keep [3]))
 .ret)) }
@[simp] def r_slices_Index_Sint_int_0 : List AI := [⟨none, some 4, .mov (.k (.lit (.int .i64 (-1))))⟩]
@[simp] def r_slices_Index_Sint_int_1 : List AI := [⟨none, some 18, .bin .add (.t 8) (.k (.lit (.int .i64 1)))⟩,
  ⟨none, some 8, .mov (.t 18)⟩]
@[simp] def r_slices_Index_Sint_int_2 : List AI := [⟨none, some 17, .mov (.t 5)⟩,
  ⟨none, some 4, .mov (.t 17)⟩]
@[simp] def r_slices_Index_Sint_int_3 : List AI := [⟨none, some 11, .mov (.t 1)⟩,
  ⟨none, some 12, .mov (.t 0)⟩,
  ⟨none, some 13, .mov (.t 5)⟩,
  ⟨none, some 14, .idxS 1 (.t 12) (.t 13)⟩,
  ⟨none, some 15, .load 1 false (.t 14)⟩,
  ⟨none, some 16, .bin .eql (.t 11) (.t 15)⟩]
@[simp] def r_slices_Index_Sint_int_4 : List AI := [⟨none, some 10, .mov (.t 8)⟩,
  ⟨none, some 5, .mov (.t 10)⟩]
@[simp] def r_slices_Index_Sint_int_5 : List AI := [⟨none, some 9, .bin .lss (.t 8) (.t 7)⟩]
def l_slices_Index_Sint_int_0 : AC :=
 (.seq (.reg r_slices_Index_Sint_int_5)
 (.seq (.cond (.t 9)
 .skip
 (.exit 0))
 (.seq (.block 1
 (.seq (.seq (.reg r_slices_Index_Sint_int_4) (.keep [0, 1, 5, 7, 8]))
 (.seq (.seq (.reg r_slices_Index_Sint_int_3) (.keep [0, 1, 5, 7, 8, 16]))
 (.cond (.t 16)
 (.seq (.seq (.reg r_slices_Index_Sint_int_2) (.keep [4]))
 .ret)
 .skip))))
 (.seq (.reg r_slices_Index_Sint_int_1) (.keep [0, 1, 7, 8])))))
@[simp] def r_slices_Index_Sint_int_7 : List AI := [⟨none, some 6, .mov (.t 0)⟩,
  ⟨none, some 7, .lenS (.t 6)⟩,
  ⟨none, some 8, .mov (.k (.lit (.int .i64 0)))⟩]
@[simp] def r_slices_Index_Sint_int_8 : List AI := [⟨none, some 4, .mov (.k (.lit (.int .i64 0)))⟩]
def a_slices_Index_Sint_int : AFn := { nparams := 2, res := [.tmp 4], body :=
 (.seq (.reg r_slices_Index_Sint_int_8)
 (.seq (.seq (.seq (.reg r_slices_Index_Sint_int_7) (.keep [0, 1, 7, 8]))
 (.block 0
 (.loop [0, 1, 7, 8] l_slices_Index_Sint_int_0)))
 (.seq (.reg r_slices_Index_Sint_int_0)
 .ret))) }
@[simp] def r_tally_rules_1_0 : List AI := [⟨none, some 3, .padd 10 (.t 1)⟩,
  ⟨none, some 4, .load 1 false (.t 3)⟩,
  ⟨none, some 5, .bin .eql (.t 4) (.k (.lit (.int .u8 1)))⟩,
  ⟨none, some 2, .mov (.t 5)⟩]
@[simp] def r_tally_rules_1_1 : List AI := [⟨none, some 1, .box ty_tally_Division (.t 0)⟩,
  ⟨none, some 2, .mov (.k (.lit (.bool false)))⟩]
def a_tally_rules_1 : AFn := { nparams := 1, res := [.tmp 2], body :=
 (.seq (.seq (.reg r_tally_rules_1_1) (.keep [1]))
 (.seq (.seq (.reg r_tally_rules_1_0) (.keep [2]))
 .ret)) }
@[simp] def r_tally_rules_2_0 : List AI := [⟨none, some 6, .padd 0 (.t 4)⟩,
  ⟨none, some 7, .load 1 false (.t 6)⟩,
  ⟨none, some 8, .padd 1 (.t 4)⟩,
  ⟨none, some 9, .load 1 false (.t 8)⟩,
  ⟨none, some 10, .bin .gtr (.t 7) (.t 9)⟩,
  ⟨none, some 11, .mov (.t 10)⟩,
  ⟨some (11, false), some 12, .padd 0 (.t 4)⟩,
  ⟨some (11, false), some 13, .load 1 false (.t 12)⟩,
  ⟨some (11, false), some 14, .padd 1 (.t 4)⟩,
  ⟨some (11, false), some 15, .load 1 false (.t 14)⟩,
  ⟨some (11, false), some 16, .bin .eql (.t 13) (.t 15)⟩,
  ⟨some (11, false), some 17, .mov (.t 16)⟩,
  ⟨some (17, true), some 18, .load 1 false (.t 2)⟩,
  ⟨some (17, true), some 19, .load 11 true (.t 3)⟩,
  ⟨some (17, true), some 20, .call (.t 18) [(.t 19)]⟩,
  ⟨some (11, false), some 21, .pick (.t 17) (.t 20) (.k (.lit (.bool false)))⟩,
  ⟨none, some 22, .pick (.t 11) (.k (.lit (.bool true))) (.t 21)⟩,
  ⟨none, some 5, .mov (.t 22)⟩]
@[simp] def r_tally_rules_2_1 : List AI := [⟨none, some 3, .box ty_tally_Division (.t 0)⟩,
  ⟨none, some 4, .box ty_tally_Numbers (.t 1)⟩,
  ⟨none, some 5, .mov (.k (.lit (.bool false)))⟩]
def a_tally_rules_2 : AFn := { nparams := 3, res := [.tmp 5], body :=
 (.seq (.seq (.reg r_tally_rules_2_1) (.keep [2, 3, 4]))
 (.seq (.seq (.reg r_tally_rules_2_0) (.keep [5]))
 .ret)) }
@[simp] def r_tally_rules_3_0 : List AI := [⟨none, some 6, .padd 0 (.t 4)⟩,
  ⟨none, some 7, .load 1 false (.t 6)⟩,
  ⟨none, some 8, .padd 8 (.t 3)⟩,
  ⟨none, some 9, .load 1 false (.t 8)⟩,
  ⟨none, some 10, .bin .geq (.t 7) (.t 9)⟩,
  ⟨none, some 11, .mov (.t 10)⟩,
  ⟨some (11, false), some 12, .padd 0 (.t 4)⟩,
  ⟨some (11, false), some 13, .load 1 false (.t 12)⟩,
  ⟨some (11, false), some 14, .padd 8 (.t 3)⟩,
  ⟨some (11, false), some 15, .load 1 false (.t 14)⟩,
  ⟨some (11, false), some 16, .bin .sub (.t 15) (.k (.lit (.int .i64 1)))⟩,
  ⟨some (11, false), some 17, .bin .eql (.t 13) (.t 16)⟩,
  ⟨some (11, false), some 18, .mov (.t 17)⟩,
  ⟨some (18, true), some 19, .load 1 false (.t 2)⟩,
  ⟨some (18, true), some 20, .load 11 true (.t 3)⟩,
  ⟨some (18, true), some 21, .call (.t 19) [(.t 20)]⟩,
  ⟨some (11, false), some 22, .pick (.t 18) (.t 21) (.k (.lit (.bool false)))⟩,
  ⟨none, some 23, .pick (.t 11) (.k (.lit (.bool true))) (.t 22)⟩,
  ⟨none, some 5, .mov (.t 23)⟩]
@[simp] def r_tally_rules_3_1 : List AI := [⟨none, some 3, .box ty_tally_Division (.t 0)⟩,
  ⟨none, some 4, .box ty_tally_Numbers (.t 1)⟩,
  ⟨none, some 5, .mov (.k (.lit (.bool false)))⟩]
def a_tally_rules_3 : AFn := { nparams := 3, res := [.tmp 5], body :=
 (.seq (.seq (.reg r_tally_rules_3_1) (.keep [2, 3, 4]))
 (.seq (.seq (.reg r_tally_rules_3_0) (.keep [5]))
 .ret)) }
@[simp] def r_tally_rules_4_0 : List AI := [⟨none, some 5, .padd 0 (.t 3)⟩,
  ⟨none, some 6, .load 1 false (.t 5)⟩,
  ⟨none, some 7, .bin .mul (.k (.lit (.int .i64 3))) (.t 6)⟩,
  ⟨none, some 8, .padd 0 (.t 3)⟩,
  ⟨none, some 9, .load 1 false (.t 8)⟩,
  ⟨none, some 10, .padd 1 (.t 3)⟩,
  ⟨none, some 11, .load 1 false (.t 10)⟩,
  ⟨none, some 12, .bin .add (.t 9) (.t 11)⟩,
  ⟨none, some 13, .bin .mul (.k (.lit (.int .i64 2))) (.t 12)⟩,
  ⟨none, some 14, .bin .geq (.t 7) (.t 13)⟩,
  ⟨none, some 15, .mov (.t 14)⟩,
  ⟨some (15, true), some 16, .padd 0 (.t 3)⟩,
  ⟨some (15, true), some 17, .load 1 false (.t 16)⟩,
  ⟨some (15, true), some 18, .bin .geq (.t 17) (.k (.lit (.int .i64 1)))⟩,
  ⟨none, some 19, .pick (.t 15) (.t 18) (.k (.lit (.bool false)))⟩,
  ⟨none, some 4, .mov (.t 19)⟩]
@[simp] def r_tally_rules_4_1 : List AI := [⟨none, some 2, .box ty_tally_Division (.t 0)⟩,
  ⟨none, some 3, .box ty_tally_Numbers (.t 1)⟩,
  ⟨none, some 4, .mov (.k (.lit (.bool false)))⟩]
def a_tally_rules_4 : AFn := { nparams := 2, res := [.tmp 4], body :=
 (.seq (.seq (.reg r_tally_rules_4_1) (.keep [3]))
 (.seq (.seq (.reg r_tally_rules_4_0) (.keep [4]))
 .ret)) }
@[simp] def r_slices_insertionSortOrdered_uint8_0 : List AI := [⟨none, some 13, .mov (.t 6)⟩,
  ⟨none, some 14, .bin .add (.t 13) (.k (.lit (.int .i64 1)))⟩,
  ⟨none, some 6, .mov (.t 14)⟩]
@[simp] def r_slices_insertionSortOrdered_uint8_1 : List AI := [⟨none, some 31, .mov (.t 7)⟩,
  ⟨none, some 32, .bin .sub (.t 31) (.k (.lit (.int .i64 1)))⟩,
  ⟨none, some 7, .mov (.t 32)⟩]
@[simp] def r_slices_insertionSortOrdered_uint8_2 : List AI := [⟨none, some 33, .mov (.t 0)⟩,
  ⟨none, some 34, .mov (.t 7)⟩,
  ⟨none, some 35, .mov (.t 0)⟩,
  ⟨none, some 36, .mov (.t 7)⟩,
  ⟨none, some 37, .bin .sub (.t 36) (.k (.lit (.int .i64 1)))⟩,
  ⟨none, some 38, .mov (.t 0)⟩,
  ⟨none, some 39, .mov (.t 7)⟩,
  ⟨none, some 40, .bin .sub (.t 39) (.k (.lit (.int .i64 1)))⟩,
  ⟨none, some 41, .idxS 1 (.t 38) (.t 40)⟩,
  ⟨none, some 42, .load 1 false (.t 41)⟩,
  ⟨none, some 43, .mov (.t 0)⟩,
  ⟨none, some 44, .mov (.t 7)⟩,
  ⟨none, some 45, .idxS 1 (.t 43) (.t 44)⟩,
  ⟨none, some 46, .load 1 false (.t 45)⟩,
  ⟨none, some 47, .idxS 1 (.t 33) (.t 34)⟩,
  ⟨none, none, .store 1 (.t 47) (.t 42)⟩,
  ⟨none, some 48, .idxS 1 (.t 35) (.t 37)⟩,
  ⟨none, none, .store 1 (.t 48) (.t 46)⟩]
@[simp] def r_slices_insertionSortOrdered_uint8_3 : List AI := [⟨none, some 16, .mov (.t 7)⟩,
  ⟨none, some 17, .mov (.t 1)⟩,
  ⟨none, some 18, .bin .gtr (.t 16) (.t 17)⟩,
  ⟨none, some 19, .mov (.t 18)⟩,
  ⟨some (19, true), some 20, .mov (.t 0)⟩,
  ⟨some (19, true), some 21, .mov (.t 7)⟩,
  ⟨some (19, true), some 22, .idxS 1 (.t 20) (.t 21)⟩,
  ⟨some (19, true), some 23, .load 1 false (.t 22)⟩,
  ⟨some (19, true), some 24, .mov (.t 0)⟩,
  ⟨some (19, true), some 25, .mov (.t 7)⟩,
  ⟨some (19, true), some 26, .bin .sub (.t 25) (.k (.lit (.int .i64 1)))⟩,
  ⟨some (19, true), some 27, .idxS 1 (.t 24) (.t 26)⟩,
  ⟨some (19, true), some 28, .load 1 false (.t 27)⟩,
  ⟨some (19, true), some 29, .call (.k (.fn fn_cmp_Less_uint8 [] [])) [(.t 23), (.t 28)]⟩,
  ⟨none, some 30, .pick (.t 19) (.t 29) (.k (.lit (.bool false)))⟩]
def l_slices_insertionSortOrdered_uint8_0 : AC :=
 (.seq (.seq (.seq (.draw r_slices_insertionSortOrdered_uint8_3 0 [] [0, 1, 2, 3, 4, 5, 6, 7, 8, 9, 10, 11, 12, 13, 14]) (.keep [0, 1, 2, 6, 7, 30]))
 (.cond (.t 30)
 .skip
 (.exit 2)))
 (.seq (.block 3
 (.seq (.draw r_slices_insertionSortOrdered_uint8_2 0 [] [0, 1, 5, 6, 7, 8, 9, 10, 11, 12, 13, 14, 15, 2, 3, 4, 16, 17]) (.keep [0, 1, 2, 6, 7])))
 (.seq (.reg r_slices_insertionSortOrdered_uint8_1) (.keep [0, 1, 2, 6, 7]))))
@[simp] def r_slices_insertionSortOrdered_uint8_5 : List AI := [⟨none, some 15, .mov (.t 6)⟩,
  ⟨none, some 7, .mov (.t 15)⟩]
@[simp] def r_slices_insertionSortOrdered_uint8_6 : List AI := [⟨none, some 10, .mov (.t 6)⟩,
  ⟨none, some 11, .mov (.t 2)⟩,
  ⟨none, some 12, .bin .lss (.t 10) (.t 11)⟩]
def l_slices_insertionSortOrdered_uint8_1 : AC :=
 (.seq (.seq (.seq (.reg r_slices_insertionSortOrdered_uint8_6) (.keep [0, 1, 2, 6, 12]))
 (.cond (.t 12)
 .skip
 (.exit 0)))
 (.seq (.block 1
 (.seq (.seq (.reg r_slices_insertionSortOrdered_uint8_5) (.keep [0, 1, 2, 6, 7]))
 (.block 2
 (.loop [0, 1, 2, 6, 7] l_slices_insertionSortOrdered_uint8_0))))
 (.seq (.reg r_slices_insertionSortOrdered_uint8_0) (.keep [0, 1, 2, 6]))))
@[simp] def r_slices_insertionSortOrdered_uint8_8 : List AI := [⟨none, some 8, .mov (.t 1)⟩,
  ⟨none, some 9, .bin .add (.t 8) (.k (.lit (.int .i64 1)))⟩,
  ⟨none, some 6, .mov (.t 9)⟩]
def a_slices_insertionSortOrdered_uint8 : AFn := { nparams := 3, res := [], body :=
 (.seq (.seq (.reg r_slices_insertionSortOrdered_uint8_8) (.keep [0, 1, 2, 6]))
 (.block 0
 (.loop [0, 1, 2, 6] l_slices_insertionSortOrdered_uint8_1))) }
@[simp] def r_cmp_Less_uint8_0 : List AI := [⟨none, some 5, .mov (.t 0)⟩,
  ⟨none, some 6, .call (.k (.fn fn_cmp_isNaN_uint8 [] [])) [(.t 5)]⟩,
  ⟨none, some 7, .mov (.t 6)⟩,
  ⟨some (7, true), some 8, .mov (.t 1)⟩,
  ⟨some (7, true), some 9, .call (.k (.fn fn_cmp_isNaN_uint8 [] [])) [(.t 8)]⟩,
  ⟨some (7, true), some 10, .not (.t 9)⟩,
  ⟨none, some 11, .pick (.t 7) (.t 10) (.k (.lit (.bool false)))⟩,
  ⟨none, some 12, .mov (.t 11)⟩,
  ⟨some (12, false), some 13, .mov (.t 0)⟩,
  ⟨some (12, false), some 14, .mov (.t 1)⟩,
  ⟨some (12, false), some 15, .bin .lss (.t 13) (.t 14)⟩,
  ⟨none, some 16, .pick (.t 12) (.k (.lit (.bool true))) (.t 15)⟩,
  ⟨none, some 4, .mov (.t 16)⟩]
@[simp] def r_cmp_Less_uint8_1 : List AI := [⟨none, some 4, .mov (.k (.lit (.bool false)))⟩]
def a_cmp_Less_uint8 : AFn := { nparams := 2, res := [.tmp 4], body :=
 (.seq (.reg r_cmp_Less_uint8_1)
 (.seq (.seq (.reg r_cmp_Less_uint8_0) (.keep [4]))
 .ret)) }
@[simp] def r_math_bits_Len32_0 : List AI := [⟨none, some 13, .mov (.t 2)⟩,
  ⟨none, some 14, .mov (.t 0)⟩,
  ⟨none, some 15, .conv .u8 (.t 14)⟩,
  ⟨none, some 16, .idxT (.k (.lit (.string ⟨#[0, 1, 2, 2, 3, 3, 3, 3, 4, 4, 4, 4, 4, 4, 4, 4, 5, 5, 5, 5, 5, 5, 5, 5, 5, 5, 5, 5, 5, 5, 5, 5, 6, 6, 6, 6, 6, 6, 6, 6, 6, 6, 6, 6, 6, 6, 6, 6, 6, 6, 6, 6, 6, 6, 6, 6, 6, 6, 6, 6, 6, 6, 6, 6, 7, 7, 7, 7, 7, 7, 7, 7, 7, 7, 7, 7, 7, 7, 7, 7, 7, 7, 7, 7, 7, 7, 7, 7, 7, 7, 7, 7, 7, 7, 7, 7, 7, 7, 7, 7, 7, 7, 7, 7, 7, 7, 7, 7, 7, 7, 7, 7, 7, 7, 7, 7, 7, 7, 7, 7, 7, 7, 7, 7, 7, 7, 7, 7, 8, 8, 8, 8, 8, 8, 8, 8, 8, 8, 8, 8, 8, 8, 8, 8, 8, 8, 8, 8, 8, 8, 8, 8, 8, 8, 8, 8, 8, 8, 8, 8, 8, 8, 8, 8, 8, 8, 8, 8, 8, 8, 8, 8, 8, 8, 8, 8, 8, 8, 8, 8, 8, 8, 8, 8, 8, 8, 8, 8, 8, 8, 8, 8, 8, 8, 8, 8, 8, 8, 8, 8, 8, 8, 8, 8, 8, 8, 8, 8, 8, 8, 8, 8, 8, 8, 8, 8, 8, 8, 8, 8, 8, 8, 8, 8, 8, 8, 8, 8, 8, 8, 8, 8, 8, 8, 8, 8, 8, 8, 8, 8, 8, 8, 8, 8, 8, 8, 8, 8, 8, 8, 8, 8, 8, 8, 8, 8]⟩))) (.t 15)⟩,
  ⟨none, some 17, .conv .i64 (.t 16)⟩,
  ⟨none, some 18, .bin .add (.t 13) (.t 17)⟩,
  ⟨none, some 2, .mov (.t 18)⟩]
@[simp] def r_math_bits_Len32_1 : List AI := [⟨none, some 11, .mov (.t 2)⟩,
  ⟨none, some 12, .bin .add (.t 11) (.k (.lit (.int .i64 8)))⟩,
  ⟨none, some 2, .mov (.t 12)⟩]
@[simp] def r_math_bits_Len32_2 : List AI := [⟨none, some 9, .mov (.t 0)⟩,
  ⟨none, some 10, .bin .shr (.t 9) (.k (.lit (.int .u64 8)))⟩,
  ⟨none, some 0, .mov (.t 10)⟩]
@[simp] def r_math_bits_Len32_3 : List AI := [⟨none, some 7, .mov (.t 0)⟩,
  ⟨none, some 8, .bin .geq (.t 7) (.k (.lit (.int .u32 256)))⟩]
@[simp] def r_math_bits_Len32_4 : List AI := [⟨none, some 2, .mov (.k (.lit (.int .i64 16)))⟩]
@[simp] def r_math_bits_Len32_5 : List AI := [⟨none, some 5, .mov (.t 0)⟩,
  ⟨none, some 6, .bin .shr (.t 5) (.k (.lit (.int .u64 16)))⟩,
  ⟨none, some 0, .mov (.t 6)⟩]
@[simp] def r_math_bits_Len32_6 : List AI := [⟨none, some 3, .mov (.t 0)⟩,
  ⟨none, some 4, .bin .geq (.t 3) (.k (.lit (.int .u32 65536)))⟩]
@[simp] def r_math_bits_Len32_7 : List AI := [⟨none, some 2, .mov (.k (.lit (.int .i64 0)))⟩]
def a_math_bits_Len32 : AFn := { nparams := 1, res := [.tmp 2], body :=
 (.seq (.reg r_math_bits_Len32_7)
 (.seq (.seq (.seq (.reg r_math_bits_Len32_6) (.keep [0, 2, 4]))
 (.cond (.t 4)
 (.seq (.seq (.reg r_math_bits_Len32_5) (.keep [0]))
 (.reg r_math_bits_Len32_4))
 .skip))
 (.seq (.seq (.seq (.reg r_math_bits_Len32_3) (.keep [0, 2, 8]))
 (.cond (.t 8)
 (.seq (.seq (.reg r_math_bits_Len32_2) (.keep [0, 2]))
 (.seq (.reg r_math_bits_Len32_1) (.keep [0, 2])))
 .skip))
 (.seq (.seq (.reg r_math_bits_Len32_0) (.keep [2]))
 .ret)))) }
@[simp] def r_math_bits_Len64_0 : List AI := [⟨none, some 19, .mov (.t 2)⟩,
  ⟨none, some 20, .mov (.t 0)⟩,
  ⟨none, some 21, .conv .u8 (.t 20)⟩,
  ⟨none, some 22, .idxT (.k (.lit (.string ⟨#[0, 1, 2, 2, 3, 3, 3, 3, 4, 4, 4, 4, 4, 4, 4, 4, 5, 5, 5, 5, 5, 5, 5, 5, 5, 5, 5, 5, 5, 5, 5, 5, 6, 6, 6, 6, 6, 6, 6, 6, 6, 6, 6, 6, 6, 6, 6, 6, 6, 6, 6, 6, 6, 6, 6, 6, 6, 6, 6, 6, 6, 6, 6, 6, 7, 7, 7, 7, 7, 7, 7, 7, 7, 7, 7, 7, 7, 7, 7, 7, 7, 7, 7, 7, 7, 7, 7, 7, 7, 7, 7, 7, 7, 7, 7, 7, 7, 7, 7, 7, 7, 7, 7, 7, 7, 7, 7, 7, 7, 7, 7, 7, 7, 7, 7, 7, 7, 7, 7, 7, 7, 7, 7, 7, 7, 7, 7, 7, 8, 8, 8, 8, 8, 8, 8, 8, 8, 8, 8, 8, 8, 8, 8, 8, 8, 8, 8, 8, 8, 8, 8, 8, 8, 8, 8, 8, 8, 8, 8, 8, 8, 8, 8, 8, 8, 8, 8, 8, 8, 8, 8, 8, 8, 8, 8, 8, 8, 8, 8, 8, 8, 8, 8, 8, 8, 8, 8, 8, 8, 8, 8, 8, 8, 8, 8, 8, 8, 8, 8, 8, 8, 8, 8, 8, 8, 8, 8, 8, 8, 8, 8, 8, 8, 8, 8, 8, 8, 8, 8, 8, 8, 8, 8, 8, 8, 8, 8, 8, 8, 8, 8, 8, 8, 8, 8, 8, 8, 8, 8, 8, 8, 8, 8, 8, 8, 8, 8, 8, 8, 8, 8, 8, 8, 8, 8, 8]⟩))) (.t 21)⟩,
  ⟨none, some 23, .conv .i64 (.t 22)⟩,
  ⟨none, some 24, .bin .add (.t 19) (.t 23)⟩,
  ⟨none, some 2, .mov (.t 24)⟩]
@[simp] def r_math_bits_Len64_1 : List AI := [⟨none, some 17, .mov (.t 2)⟩,
  ⟨none, some 18, .bin .add (.t 17) (.k (.lit (.int .i64 8)))⟩,
  ⟨none, some 2, .mov (.t 18)⟩]
@[simp] def r_math_bits_Len64_2 : List AI := [⟨none, some 15, .mov (.t 0)⟩,
  ⟨none, some 16, .bin .shr (.t 15) (.k (.lit (.int .u64 8)))⟩,
  ⟨none, some 0, .mov (.t 16)⟩]
@[simp] def r_math_bits_Len64_3 : List AI := [⟨none, some 13, .mov (.t 0)⟩,
  ⟨none, some 14, .bin .geq (.t 13) (.k (.lit (.int .u64 256)))⟩]
@[simp] def r_math_bits_Len64_4 : List AI := [⟨none, some 11, .mov (.t 2)⟩,
  ⟨none, some 12, .bin .add (.t 11) (.k (.lit (.int .i64 16)))⟩,
  ⟨none, some 2, .mov (.t 12)⟩]
@[simp] def r_math_bits_Len64_5 : List AI := [⟨none, some 9, .mov (.t 0)⟩,
  ⟨none, some 10, .bin .shr (.t 9) (.k (.lit (.int .u64 16)))⟩,
  ⟨none, some 0, .mov (.t 10)⟩]
@[simp] def r_math_bits_Len64_6 : List AI := [⟨none, some 7, .mov (.t 0)⟩,
  ⟨none, some 8, .bin .geq (.t 7) (.k (.lit (.int .u64 65536)))⟩]
@[simp] def r_math_bits_Len64_7 : List AI := [⟨none, some 2, .mov (.k (.lit (.int .i64 32)))⟩]
@[simp] def r_math_bits_Len64_8 : List AI := [⟨none, some 5, .mov (.t 0)⟩,
  ⟨none, some 6, .bin .shr (.t 5) (.k (.lit (.int .u64 32)))⟩,
  ⟨none, some 0, .mov (.t 6)⟩]
@[simp] def r_math_bits_Len64_9 : List AI := [⟨none, some 3, .mov (.t 0)⟩,
  ⟨none, some 4, .bin .geq (.t 3) (.k (.lit (.int .u64 4294967296)))⟩]
@[simp] def r_math_bits_Len64_10 : List AI := [⟨none, some 2, .mov (.k (.lit (.int .i64 0)))⟩]
def a_math_bits_Len64 : AFn := { nparams := 1, res := [.tmp 2], body :=
 (.seq (.reg r_math_bits_Len64_10)
 (.seq (.seq (.seq (.reg r_math_bits_Len64_9) (.keep [0, 2, 4]))
 (.cond (.t 4)
 (.seq (.seq (.reg r_math_bits_Len64_8) (.keep [0]))
 (.reg r_math_bits_Len64_7))
 .skip))
 (.seq (.seq (.seq (.reg r_math_bits_Len64_6) (.keep [0, 2, 8]))
 (.cond (.t 8)
 (.seq (.seq (.reg r_math_bits_Len64_5) (.keep [0, 2]))
 (.seq (.reg r_math_bits_Len64_4) (.keep [0, 2])))
 .skip))
 (.seq (.seq (.seq (.reg r_math_bits_Len64_3) (.keep [0, 2, 14]))
 (.cond (.t 14)
 (.seq (.seq (.reg r_math_bits_Len64_2) (.keep [0, 2]))
 (.seq (.reg r_math_bits_Len64_1) (.keep [0, 2])))
 .skip))
 (.seq (.seq (.reg r_math_bits_Len64_0) (.keep [2]))
 .ret))))) }
@[simp] def r_slices_ContainsFunc_SSint_Sint_0 : List AI := [⟨none, some 5, .mov (.t 0)⟩,
  ⟨none, some 6, .mov (.t 1)⟩,
  ⟨none, some 7, .call (.k (.fn fn_slices_IndexFunc_SSint_Sint [] [])) [(.t 5), (.t 6)]⟩,
  ⟨none, some 8, .bin .geq (.t 7) (.k (.lit (.int .i64 0)))⟩,
  ⟨none, some 4, .mov (.t 8)⟩]
@[simp] def r_slices_ContainsFunc_SSint_Sint_1 : List AI := [⟨none, some 4, .mov (.k (.lit (.bool false)))⟩]
def a_slices_ContainsFunc_SSint_Sint : AFn := { nparams := 2, res := [.tmp 4], body :=
 (.seq (.reg r_slices_ContainsFunc_SSint_Sint_1)
 (.seq (.seq (.reg r_slices_ContainsFunc_SSint_Sint_0) (.keep [4]))
 .ret)) }
@[simp] def r_tally_all_Sint_1_0 : List AI := [⟨none, some 4, .load 1 false (.t 1)⟩,
  ⟨none, some 5, .mov (.t 0)⟩,
  ⟨none, some 6, .call (.t 4) [(.t 5)]⟩,
  ⟨none, some 7, .not (.t 6)⟩,
  ⟨none, some 3, .mov (.t 7)⟩]
@[simp] def r_tally_all_Sint_1_1 : List AI := [⟨none, some 3, .mov (.k (.lit (.bool false)))⟩]
def a_tally_all_Sint_1 : AFn := { nparams := 2, res := [.tmp 3], body :=
 (.seq (.reg r_tally_all_Sint_1_1)
 (.seq (.seq (.reg r_tally_all_Sint_1_0) (.keep [3]))
 .ret)) }
@[simp] def r_tally_Division_member_0 : List AI := [⟨none, some 5, .mov (.t 1)⟩,
  ⟨none, some 6, .padd 0 (.t 2)⟩,
  ⟨none, some 7, .load 1 false (.t 6)⟩,
  ⟨none, some 8, .bin .sub (.t 7) (.k (.lit (.int .i64 1)))⟩,
  ⟨none, some 9, .call (.k (.fn fn_tally_within [] [])) [(.t 5), (.k (.lit (.int .i64 0))), (.t 8)]⟩,
  ⟨none, some 4, .mov (.t 9)⟩]
@[simp] def r_tally_Division_member_1 : List AI := [⟨none, some 2, .box ty_tally_Division (.t 0)⟩,
  ⟨none, some 4, .mov (.k (.lit (.bool false)))⟩]
def a_tally_Division_member : AFn := { nparams := 2, res := [.tmp 4], body :=
 (.seq (.seq (.reg r_tally_Division_member_1) (.keep [1, 2]))
 (.seq (.seq (.reg r_tally_Division_member_0) (.keep [4]))
 .ret)) }
@[simp] def r_tally_all_tally_Proxy_0 : List AI := [⟨none, some 5, .mov (.t 0)⟩,
  ⟨none, some 6, .mkfn fn_tally_all_tally_Proxy_1 [] [(.t 3)]⟩,
  ⟨none, some 7, .call (.k (.fn fn_slices_ContainsFunc_Stally_Proxy_tally_Proxy [] [])) [(.t 5), (.t 6)]⟩,
  ⟨none, some 8, .not (.t 7)⟩,
  ⟨none, some 4, .mov (.t 8)⟩]
@[simp] def r_tally_all_tally_Proxy_1 : List AI := [⟨none, some 3, .box ty_func_tally_Proxy_bool (.t 1)⟩,
  ⟨none, some 4, .mov (.k (.lit (.bool false)))⟩]
def a_tally_all_tally_Proxy : AFn := { nparams := 2, res := [.tmp 4], body :=
 (.seq (.seq (.reg r_tally_all_tally_Proxy_1) (.keep [0, 3]))
 (.seq (.seq (.reg r_tally_all_tally_Proxy_0) (.keep [4]))
 .ret)) }
@[simp] def r_tally_Division_bound_1_0 : List AI := [⟨none, some 4, .load 1 false (.t 1)⟩,
  ⟨none, some 5, .padd 0 (.t 2)⟩,
  ⟨none, some 6, .load 1 false (.t 5)⟩,
  ⟨none, some 7, .look none (.lit (.bool false)) false (.t 4) (.t 6)⟩,
  ⟨none, some 8, .not (.t 7)⟩,
  ⟨none, some 3, .mov (.t 8)⟩]
@[simp] def r_tally_Division_bound_1_1 : List AI := [⟨none, some 2, .box ty_tally_Proxy (.t 0)⟩,
  ⟨none, some 3, .mov (.k (.lit (.bool false)))⟩]
def a_tally_Division_bound_1 : AFn := { nparams := 2, res := [.tmp 3], body :=
 (.seq (.seq (.reg r_tally_Division_bound_1_1) (.keep [1, 2]))
 (.seq (.seq (.reg r_tally_Division_bound_1_0) (.keep [3]))
 .ret)) }
@[simp] def r_tally_on_0 : List AI := [⟨none, some 17, .mov (.t 4)⟩,
  ⟨none, some 4, .mov (.t 17)⟩]
@[simp] def r_tally_on_1 : List AI := [⟨none, some 16, .bin .add (.t 8) (.k (.lit (.int .i64 1)))⟩,
  ⟨none, some 8, .mov (.t 16)⟩]
@[simp] def r_tally_on_2 : List AI := [⟨none, some 14, .mov (.t 4)⟩,
  ⟨none, some 15, .bin .add (.t 14) (.k (.lit (.int .i64 1)))⟩,
  ⟨none, some 4, .mov (.t 15)⟩]
@[simp] def r_tally_on_3 : List AI := [⟨none, some 11, .mov (.t 6)⟩,
  ⟨none, some 12, .mov (.t 1)⟩,
  ⟨none, some 13, .call (.k (.fn fn_slices_Contains_Sint_int [] [])) [(.t 11), (.t 12)]⟩]
@[simp] def r_tally_on_4 : List AI := [⟨none, some 10, .idxV 2 1 false (.t 7) (.t 8)⟩,
  ⟨none, some 6, .mov (.t 10)⟩]
@[simp] def r_tally_on_5 : List AI := [⟨none, some 9, .bin .lss (.t 8) (.k (.lit (.int .i64 2)))⟩]
def l_tally_on_0 : AC :=
 (.seq (.reg r_tally_on_5)
 (.seq (.cond (.t 9)
 .skip
 (.exit 0))
 (.seq (.block 1
 (.seq (.seq (.reg r_tally_on_4) (.keep [1, 4, 6, 7, 8]))
 (.seq (.seq (.reg r_tally_on_3) (.keep [1, 4, 7, 8, 13]))
 (.cond (.t 13)
 (.seq (.reg r_tally_on_2) (.keep [1, 4, 7, 8]))
 .skip))))
 (.seq (.reg r_tally_on_1) (.keep [1, 4, 7, 8])))))
@[simp] def r_tally_on_7 : List AI := [⟨none, some 7, .load 2 true (.t 2)⟩,
  ⟨none, some 8, .mov (.k (.lit (.int .i64 0)))⟩]
@[simp] def r_tally_on_8 : List AI := [⟨none, some 2, .box ty_2_Sint (.t 0)⟩,
  ⟨none, some 4, .mov (.k (.lit (.int .i64 0)))⟩]
def a_tally_on : AFn := { nparams := 2, res := [.tmp 4], body :=
 (.seq (.reg r_tally_on_8)
 (.seq (.seq (.reg r_tally_on_7)
 (.block 0
 (.loop [1, 4, 7, 8] l_tally_on_0)))
 (.seq (.seq (.reg r_tally_on_0) (.keep [4]))
 .ret))) }
@[simp] def r_slices_IndexFunc_Sint_int_0 : List AI := [⟨none, some 4, .mov (.k (.lit (.int .i64 (-1))))⟩]
@[simp] def r_slices_IndexFunc_Sint_int_1 : List AI := [⟨none, some 18, .bin .add (.t 8) (.k (.lit (.int .i64 1)))⟩,
  ⟨none, some 8, .mov (.t 18)⟩]
@[simp] def r_slices_IndexFunc_Sint_int_2 : List AI := [⟨none, some 17, .mov (.t 5)⟩,
  ⟨none, some 4, .mov (.t 17)⟩]
@[simp] def r_slices_IndexFunc_Sint_int_3 : List AI := [⟨none, some 11, .mov (.t 1)⟩,
  ⟨none, some 12, .mov (.t 0)⟩,
  ⟨none, some 13, .mov (.t 5)⟩,
  ⟨none, some 14, .idxS 1 (.t 12) (.t 13)⟩,
  ⟨none, some 15, .load 1 false (.t 14)⟩,
  ⟨none, some 16, .call (.t 11) [(.t 15)]⟩]
@[simp] def r_slices_IndexFunc_Sint_int_4 : List AI := [⟨none, some 10, .mov (.t 8)⟩,
  ⟨none, some 5, .mov (.t 10)⟩]
@[simp] def r_slices_IndexFunc_Sint_int_5 : List AI := [⟨none, some 9, .bin .lss (.t 8) (.t 7)⟩]
def l_slices_IndexFunc_Sint_int_0 : AC :=
 (.seq (.reg r_slices_IndexFunc_Sint_int_5)
 (.seq (.cond (.t 9)
 .skip
 (.exit 0))
 (.seq (.block 1
 (.seq (.seq (.reg r_slices_IndexFunc_Sint_int_4) (.keep [0, 1, 5, 7, 8]))
 (.seq (.seq (.reg r_slices_IndexFunc_Sint_int_3) (.keep [0, 1, 5, 7, 8, 16]))
 (.cond (.t 16)
 (.seq (.seq (.reg r_slices_IndexFunc_Sint_int_2) (.keep [4]))
 .ret)
 .skip))))
 (.seq (.reg r_slices_IndexFunc_Sint_int_1) (.keep [0, 1, 7, 8])))))
@[simp] def r_slices_IndexFunc_Sint_int_7 : List AI := [⟨none, some 6, .mov (.t 0)⟩,
  ⟨none, some 7, .lenS (.t 6)⟩,
  ⟨none, some 8, .mov (.k (.lit (.int .i64 0)))⟩]
@[simp] def r_slices_IndexFunc_Sint_int_8 : List AI := [⟨none, some 4, .mov (.k (.lit (.int .i64 0)))⟩]
def a_slices_IndexFunc_Sint_int : AFn := { nparams := 2, res := [.tmp 4], body :=
 (.seq (.reg r_slices_IndexFunc_Sint_int_8)
 (.seq (.seq (.seq (.reg r_slices_IndexFunc_Sint_int_7) (.keep [0, 1, 7, 8]))
 (.block 0
 (.loop [0, 1, 7, 8] l_slices_IndexFunc_Sint_int_0)))
 (.seq (.reg r_slices_IndexFunc_Sint_int_0)
 .ret))) }
@[simp] def r_cmp_isNaN_uint8_0 : List AI := [⟨none, some 3, .mov (.t 0)⟩,
  ⟨none, some 4, .mov (.t 0)⟩,
  ⟨none, some 5, .bin .neq (.t 3) (.t 4)⟩,
  ⟨none, some 2, .mov (.t 5)⟩]
@[simp] def r_cmp_isNaN_uint8_1 : List AI := [⟨none, some 2, .mov (.k (.lit (.bool false)))⟩]
def a_cmp_isNaN_uint8 : AFn := { nparams := 1, res := [.tmp 2], body :=
 (.seq (.reg r_cmp_isNaN_uint8_1)
 (.seq (.seq (.reg r_cmp_isNaN_uint8_0) (.keep [2]))
 .ret)) }
@[simp] def r_slices_IndexFunc_SSint_Sint_0 : List AI := [⟨none, some 4, .mov (.k (.lit (.int .i64 (-1))))⟩]
@[simp] def r_slices_IndexFunc_SSint_Sint_1 : List AI := [⟨none, some 18, .bin .add (.t 8) (.k (.lit (.int .i64 1)))⟩,
  ⟨none, some 8, .mov (.t 18)⟩]
@[simp] def r_slices_IndexFunc_SSint_Sint_2 : List AI := [⟨none, some 17, .mov (.t 5)⟩,
  ⟨none, some 4, .mov (.t 17)⟩]
@[simp] def r_slices_IndexFunc_SSint_Sint_3 : List AI := [⟨none, some 11, .mov (.t 1)⟩,
  ⟨none, some 12, .mov (.t 0)⟩,
  ⟨none, some 13, .mov (.t 5)⟩,
  ⟨none, some 14, .idxS 1 (.t 12) (.t 13)⟩,
  ⟨none, some 15, .load 1 false (.t 14)⟩,
  ⟨none, some 16, .call (.t 11) [(.t 15)]⟩]
@[simp] def r_slices_IndexFunc_SSint_Sint_4 : List AI := [⟨none, some 10, .mov (.t 8)⟩,
  ⟨none, some 5, .mov (.t 10)⟩]
@[simp] def r_slices_IndexFunc_SSint_Sint_5 : List AI := [⟨none, some 9, .bin .lss (.t 8) (.t 7)⟩]
def l_slices_IndexFunc_SSint_Sint_0 : AC :=
 (.seq (.reg r_slices_IndexFunc_SSint_Sint_5)
 (.seq (.cond (.t 9)
 .skip
 (.exit 0))
 (.seq (.block 1
 (.seq (.seq (.reg r_slices_IndexFunc_SSint_Sint_4) (.keep [0, 1, 5, 7, 8]))
 (.seq (.seq (.reg r_slices_IndexFunc_SSint_Sint_3) (.keep [0, 1, 5, 7, 8, 16]))
 (.cond (.t 16)
 (.seq (.seq (.reg r_slices_IndexFunc_SSint_Sint_2) (.keep [4]))
 .ret)
 .skip))))
 (.seq (.reg r_slices_IndexFunc_SSint_Sint_1) (.keep [0, 1, 7, 8])))))
@[simp] def r_slices_IndexFunc_SSint_Sint_7 : List AI := [⟨none, some 6, .mov (.t 0)⟩,
  ⟨none, some 7, .lenS (.t 6)⟩,
  ⟨none, some 8, .mov (.k (.lit (.int .i64 0)))⟩]
@[simp] def r_slices_IndexFunc_SSint_Sint_8 : List AI := [⟨none, some 4, .mov (.k (.lit (.int .i64 0)))⟩]
def a_slices_IndexFunc_SSint_Sint : AFn := { nparams := 2, res := [.tmp 4], body :=
 (.seq (.reg r_slices_IndexFunc_SSint_Sint_8)
 (.seq (.seq (.seq (.reg r_slices_IndexFunc_SSint_Sint_7) (.keep [0, 1, 7, 8]))
 (.block 0
 (.loop [0, 1, 7, 8] l_slices_IndexFunc_SSint_Sint_0)))
 (.seq (.reg r_slices_IndexFunc_SSint_Sint_0)
 .ret))) }
@[simp] def r_slices_ContainsFunc_Stally_Proxy_tally_Proxy_0 : List AI := [⟨none, some 5, .mov (.t 0)⟩,
  ⟨none, some 6, .mov (.t 1)⟩,
  ⟨none, some 7, .call (.k (.fn fn_slices_IndexFunc_Stally_Proxy_tally_Proxy [] [])) [(.t 5), (.t 6)]⟩,
  ⟨none, some 8, .bin .geq (.t 7) (.k (.lit (.int .i64 0)))⟩,
  ⟨none, some 4, .mov (.t 8)⟩]
@[simp] def r_slices_ContainsFunc_Stally_Proxy_tally_Proxy_1 : List AI := [⟨none, some 4, .mov (.k (.lit (.bool false)))⟩]
def a_slices_ContainsFunc_Stally_Proxy_tally_Proxy : AFn := { nparams := 2, res := [.tmp 4], body :=
 (.seq (.reg r_slices_ContainsFunc_Stally_Proxy_tally_Proxy_1)
 (.seq (.seq (.reg r_slices_ContainsFunc_Stally_Proxy_tally_Proxy_0) (.keep [4]))
 .ret)) }
@[simp] def r_tally_all_tally_Proxy_1_0 : List AI := [⟨none, some 4, .load 1 false (.t 1)⟩,
  ⟨none, some 5, .load 2 true (.t 2)⟩,
  ⟨none, some 6, .call (.t 4) [(.t 5)]⟩,
  ⟨none, some 7, .not (.t 6)⟩,
  ⟨none, some 3, .mov (.t 7)⟩]
@[simp] def r_tally_all_tally_Proxy_1_1 : List AI := [⟨none, some 2, .box ty_tally_Proxy (.t 0)⟩,
  ⟨none, some 3, .mov (.k (.lit (.bool false)))⟩]
def a_tally_all_tally_Proxy_1 : AFn := { nparams := 2, res := [.tmp 3], body :=
 (.seq (.seq (.reg r_tally_all_tally_Proxy_1_1) (.keep [1, 2]))
 (.seq (.seq (.reg r_tally_all_tally_Proxy_1_0) (.keep [3]))
 .ret)) }
@[simp] def r_slices_IndexFunc_Stally_Proxy_tally_Proxy_0 : List AI := [⟨none, some 4, .mov (.k (.lit (.int .i64 (-1))))⟩]
@[simp] def r_slices_IndexFunc_Stally_Proxy_tally_Proxy_1 : List AI := [⟨none, some 18, .bin .add (.t 8) (.k (.lit (.int .i64 1)))⟩,
  ⟨none, some 8, .mov (.t 18)⟩]
@[simp] def r_slices_IndexFunc_Stally_Proxy_tally_Proxy_2 : List AI := [⟨none, some 17, .mov (.t 5)⟩,
  ⟨none, some 4, .mov (.t 17)⟩]
@[simp] def r_slices_IndexFunc_Stally_Proxy_tally_Proxy_3 : List AI := [⟨none, some 11, .mov (.t 1)⟩,
  ⟨none, some 12, .mov (.t 0)⟩,
  ⟨none, some 13, .mov (.t 5)⟩,
  ⟨none, some 14, .idxS 2 (.t 12) (.t 13)⟩,
  ⟨none, some 15, .load 2 true (.t 14)⟩,
  ⟨none, some 16, .call (.t 11) [(.t 15)]⟩]
@[simp] def r_slices_IndexFunc_Stally_Proxy_tally_Proxy_4 : List AI := [⟨none, some 10, .mov (.t 8)⟩,
  ⟨none, some 5, .mov (.t 10)⟩]
@[simp] def r_slices_IndexFunc_Stally_Proxy_tally_Proxy_5 : List AI := [⟨none, some 9, .bin .lss (.t 8) (.t 7)⟩]
def l_slices_IndexFunc_Stally_Proxy_tally_Proxy_0 : AC :=
 (.seq (.reg r_slices_IndexFunc_Stally_Proxy_tally_Proxy_5)
 (.seq (.cond (.t 9)
 .skip
 (.exit 0))
 (.seq (.block 1
 (.seq (.seq (.reg r_slices_IndexFunc_Stally_Proxy_tally_Proxy_4) (.keep [0, 1, 5, 7, 8]))
 (.seq (.seq (.reg r_slices_IndexFunc_Stally_Proxy_tally_Proxy_3) (.keep [0, 1, 5, 7, 8, 16]))
 (.cond (.t 16)
 (.seq (.seq (.reg r_slices_IndexFunc_Stally_Proxy_tally_Proxy_2) (.keep [4]))
 .ret)
 .skip))))
 (.seq (.reg r_slices_IndexFunc_Stally_Proxy_tally_Proxy_1) (.keep [0, 1, 7, 8])))))
@[simp] def r_slices_IndexFunc_Stally_Proxy_tally_Proxy_7 : List AI := [⟨none, some 6, .mov (.t 0)⟩,
  ⟨none, some 7, .lenS (.t 6)⟩,
  ⟨none, some 8, .mov (.k (.lit (.int .i64 0)))⟩]
@[simp] def r_slices_IndexFunc_Stally_Proxy_tally_Proxy_8 : List AI := [⟨none, some 4, .mov (.k (.lit (.int .i64 0)))⟩]
def a_slices_IndexFunc_Stally_Proxy_tally_Proxy : AFn := { nparams := 2, res := [.tmp 4], body :=
 (.seq (.reg r_slices_IndexFunc_Stally_Proxy_tally_Proxy_8)
 (.seq (.seq (.seq (.reg r_slices_IndexFunc_Stally_Proxy_tally_Proxy_7) (.keep [0, 1, 7, 8]))
 (.block 0
 (.loop [0, 1, 7, 8] l_slices_IndexFunc_Stally_Proxy_tally_Proxy_0)))
 (.seq (.reg r_slices_IndexFunc_Stally_Proxy_tally_Proxy_0)
 .ret))) }
def prog : FuncId → Option AFn
  | 4 => some a_law07_TallyAlike
  | 10 => some a_law07_wakes
  | 11 => some a_tally_Doubts
  | 12 => some a_law07_Division
  | 13 => some a_tally_Bounds
  | 14 => some a_law07_fault
  | 15 => some a_law07_ints
  | 16 => some a_ref07_Doubts
  | 17 => some a_law07_open
  | 20 => some a_law07_Few
  | 21 => some a_ref07_Right
  | 22 => some a_law07_list
  | 23 => some a_tally_Allowed
  | 24 => some a_tally_Ask
  | 25 => some a_tally_Clash
  | 26 => some a_law07_ready
  | 28 => some a_ref07_Has
  | 30 => some a_ref07_Clash
  | 33 => some a_law07_votes
  | 35 => some a_law07_lobbies
  | 37 => some a_tally_begin
  | 38 => some a_tally_looked_doubts
  | 39 => some a_tally_open
  | 40 => some a_tally_looked_truths
  | 41 => some a_tally_looked_numbers
  | 42 => some a_tally_least
  | 43 => some a_tally_greatest
  | 44 => some a_ref07_May
  | 46 => some a_ref07_In
  | 47 => some a_ref07_list
  | 48 => some a_tally_looked_outcome
  | 49 => some a_slices_Contains_Suint8_uint8
  | 50 => some a_slices_Sort_Suint8_uint8
  | 51 => some a_tally_looked_all
  | 53 => some a_slices_Clone_Sint_int
  | 54 => some a_tally_decide
  | 55 => some a_tally_Division_valid
  | 56 => some a_tally_Division_look
  | 57 => some a_tally_looked_clash
  | 58 => some a_ref07_On
  | 62 => some a_tally_rising
  | 63 => some a_tally_all_int
  | 65 => some a_slices_Contains_Sint_int
  | 66 => some a_tally_looked_truths_1
  | 67 => some a_tally_looked_truths_1_1
  | 68 => some a_tally_looked_numbers_1
  | 69 => some a_slices_Min_Sint_int
  | 70 => some a_slices_Max_Sint_int
  | 71 => some a_ref07_Rising
  | 72 => some a_tally_rules
  | 73 => some a_slices_Index_Suint8_uint8
  | 74 => some a_slices_pdqsortOrdered_uint8
  | 75 => some a_math_bits_Len
  | 76 => some a_tally_within
  | 77 => some a_tally_all_Sint
  | 78 => some a_tally_Division_listed
  | 79 => some a_tally_Division_bound
  | 80 => some a_tally_Division_votes
  | 83 => some a_slices_ContainsFunc_Sint_int
  | 84 => some a_tally_all_int_1
  | 85 => some a_slices_Index_Sint_int
  | 86 => some a_tally_rules_1
  | 87 => some a_tally_rules_2
  | 88 => some a_tally_rules_3
  | 89 => some a_tally_rules_4
  | 90 => some a_slices_insertionSortOrdered_uint8
  | 96 => some a_cmp_Less_uint8
  | 99 => some a_math_bits_Len32
  | 100 => some a_math_bits_Len64
  | 101 => some a_slices_ContainsFunc_SSint_Sint
  | 102 => some a_tally_all_Sint_1
  | 103 => some a_tally_Division_member
  | 104 => some a_tally_all_tally_Proxy
  | 105 => some a_tally_Division_bound_1
  | 106 => some a_tally_on
  | 108 => some a_slices_IndexFunc_Sint_int
  | 114 => some a_cmp_isNaN_uint8
  | 115 => some a_slices_IndexFunc_SSint_Sint
  | 116 => some a_slices_ContainsFunc_Stally_Proxy_tally_Proxy
  | 117 => some a_tally_all_tally_Proxy_1
  | 119 => some a_slices_IndexFunc_Stally_Proxy_tally_Proxy
  | _ => none
def C : Cfg := { prog := prog, ext := fun _ => none, keepAll := fun f => f == 66 || f == 67, fz := 1000000 }
theorem prog_law07_TallyAlike : C.prog fn_law07_TallyAlike = some a_law07_TallyAlike := by kernel_rfl
theorem prog_law07_wakes : C.prog fn_law07_wakes = some a_law07_wakes := by kernel_rfl
theorem prog_tally_Doubts : C.prog fn_tally_Doubts = some a_tally_Doubts := by kernel_rfl
theorem prog_law07_Division : C.prog fn_law07_Division = some a_law07_Division := by kernel_rfl
theorem prog_tally_Bounds : C.prog fn_tally_Bounds = some a_tally_Bounds := by kernel_rfl
theorem prog_law07_fault : C.prog fn_law07_fault = some a_law07_fault := by kernel_rfl
theorem prog_law07_ints : C.prog fn_law07_ints = some a_law07_ints := by kernel_rfl
theorem prog_ref07_Doubts : C.prog fn_ref07_Doubts = some a_ref07_Doubts := by kernel_rfl
theorem prog_law07_open : C.prog fn_law07_open = some a_law07_open := by kernel_rfl
theorem prog_law07_Few : C.prog fn_law07_Few = some a_law07_Few := by kernel_rfl
theorem prog_ref07_Right : C.prog fn_ref07_Right = some a_ref07_Right := by kernel_rfl
theorem prog_law07_list : C.prog fn_law07_list = some a_law07_list := by kernel_rfl
theorem prog_tally_Allowed : C.prog fn_tally_Allowed = some a_tally_Allowed := by kernel_rfl
theorem prog_tally_Ask : C.prog fn_tally_Ask = some a_tally_Ask := by kernel_rfl
theorem prog_tally_Clash : C.prog fn_tally_Clash = some a_tally_Clash := by kernel_rfl
theorem prog_law07_ready : C.prog fn_law07_ready = some a_law07_ready := by kernel_rfl
theorem prog_ref07_Has : C.prog fn_ref07_Has = some a_ref07_Has := by kernel_rfl
theorem prog_ref07_Clash : C.prog fn_ref07_Clash = some a_ref07_Clash := by kernel_rfl
theorem prog_law07_votes : C.prog fn_law07_votes = some a_law07_votes := by kernel_rfl
theorem prog_law07_lobbies : C.prog fn_law07_lobbies = some a_law07_lobbies := by kernel_rfl
theorem prog_tally_begin : C.prog fn_tally_begin = some a_tally_begin := by kernel_rfl
theorem prog_tally_looked_doubts : C.prog fn_tally_looked_doubts = some a_tally_looked_doubts := by kernel_rfl
theorem prog_tally_open : C.prog fn_tally_open = some a_tally_open := by kernel_rfl
theorem prog_tally_looked_truths : C.prog fn_tally_looked_truths = some a_tally_looked_truths := by kernel_rfl
theorem prog_tally_looked_numbers : C.prog fn_tally_looked_numbers = some a_tally_looked_numbers := by kernel_rfl
theorem prog_tally_least : C.prog fn_tally_least = some a_tally_least := by kernel_rfl
theorem prog_tally_greatest : C.prog fn_tally_greatest = some a_tally_greatest := by kernel_rfl
theorem prog_ref07_May : C.prog fn_ref07_May = some a_ref07_May := by kernel_rfl
theorem prog_ref07_In : C.prog fn_ref07_In = some a_ref07_In := by kernel_rfl
theorem prog_ref07_list : C.prog fn_ref07_list = some a_ref07_list := by kernel_rfl
theorem prog_tally_looked_outcome : C.prog fn_tally_looked_outcome = some a_tally_looked_outcome := by kernel_rfl
theorem prog_slices_Contains_Suint8_uint8 : C.prog fn_slices_Contains_Suint8_uint8 = some a_slices_Contains_Suint8_uint8 := by kernel_rfl
theorem prog_slices_Sort_Suint8_uint8 : C.prog fn_slices_Sort_Suint8_uint8 = some a_slices_Sort_Suint8_uint8 := by kernel_rfl
theorem prog_tally_looked_all : C.prog fn_tally_looked_all = some a_tally_looked_all := by kernel_rfl
theorem prog_slices_Clone_Sint_int : C.prog fn_slices_Clone_Sint_int = some a_slices_Clone_Sint_int := by kernel_rfl
theorem prog_tally_decide : C.prog fn_tally_decide = some a_tally_decide := by kernel_rfl
theorem prog_tally_Division_valid : C.prog fn_tally_Division_valid = some a_tally_Division_valid := by kernel_rfl
theorem prog_tally_Division_look : C.prog fn_tally_Division_look = some a_tally_Division_look := by kernel_rfl
theorem prog_tally_looked_clash : C.prog fn_tally_looked_clash = some a_tally_looked_clash := by kernel_rfl
theorem prog_ref07_On : C.prog fn_ref07_On = some a_ref07_On := by kernel_rfl
theorem prog_tally_rising : C.prog fn_tally_rising = some a_tally_rising := by kernel_rfl
theorem prog_tally_all_int : C.prog fn_tally_all_int = some a_tally_all_int := by kernel_rfl
theorem prog_slices_Contains_Sint_int : C.prog fn_slices_Contains_Sint_int = some a_slices_Contains_Sint_int := by kernel_rfl
theorem prog_tally_looked_truths_1 : C.prog fn_tally_looked_truths_1 = some a_tally_looked_truths_1 := by kernel_rfl
theorem prog_tally_looked_truths_1_1 : C.prog fn_tally_looked_truths_1_1 = some a_tally_looked_truths_1_1 := by kernel_rfl
theorem prog_tally_looked_numbers_1 : C.prog fn_tally_looked_numbers_1 = some a_tally_looked_numbers_1 := by kernel_rfl
theorem prog_slices_Min_Sint_int : C.prog fn_slices_Min_Sint_int = some a_slices_Min_Sint_int := by kernel_rfl
theorem prog_slices_Max_Sint_int : C.prog fn_slices_Max_Sint_int = some a_slices_Max_Sint_int := by kernel_rfl
theorem prog_ref07_Rising : C.prog fn_ref07_Rising = some a_ref07_Rising := by kernel_rfl
theorem prog_tally_rules : C.prog fn_tally_rules = some a_tally_rules := by kernel_rfl
theorem prog_slices_Index_Suint8_uint8 : C.prog fn_slices_Index_Suint8_uint8 = some a_slices_Index_Suint8_uint8 := by kernel_rfl
theorem prog_slices_pdqsortOrdered_uint8 : C.prog fn_slices_pdqsortOrdered_uint8 = some a_slices_pdqsortOrdered_uint8 := by kernel_rfl
theorem prog_math_bits_Len : C.prog fn_math_bits_Len = some a_math_bits_Len := by kernel_rfl
theorem prog_tally_within : C.prog fn_tally_within = some a_tally_within := by kernel_rfl
theorem prog_tally_all_Sint : C.prog fn_tally_all_Sint = some a_tally_all_Sint := by kernel_rfl
theorem prog_tally_Division_listed : C.prog fn_tally_Division_listed = some a_tally_Division_listed := by kernel_rfl
theorem prog_tally_Division_bound : C.prog fn_tally_Division_bound = some a_tally_Division_bound := by kernel_rfl
theorem prog_tally_Division_votes : C.prog fn_tally_Division_votes = some a_tally_Division_votes := by kernel_rfl
theorem prog_slices_ContainsFunc_Sint_int : C.prog fn_slices_ContainsFunc_Sint_int = some a_slices_ContainsFunc_Sint_int := by kernel_rfl
theorem prog_tally_all_int_1 : C.prog fn_tally_all_int_1 = some a_tally_all_int_1 := by kernel_rfl
theorem prog_slices_Index_Sint_int : C.prog fn_slices_Index_Sint_int = some a_slices_Index_Sint_int := by kernel_rfl
theorem prog_tally_rules_1 : C.prog fn_tally_rules_1 = some a_tally_rules_1 := by kernel_rfl
theorem prog_tally_rules_2 : C.prog fn_tally_rules_2 = some a_tally_rules_2 := by kernel_rfl
theorem prog_tally_rules_3 : C.prog fn_tally_rules_3 = some a_tally_rules_3 := by kernel_rfl
theorem prog_tally_rules_4 : C.prog fn_tally_rules_4 = some a_tally_rules_4 := by kernel_rfl
theorem prog_slices_insertionSortOrdered_uint8 : C.prog fn_slices_insertionSortOrdered_uint8 = some a_slices_insertionSortOrdered_uint8 := by kernel_rfl
theorem prog_cmp_Less_uint8 : C.prog fn_cmp_Less_uint8 = some a_cmp_Less_uint8 := by kernel_rfl
theorem prog_math_bits_Len32 : C.prog fn_math_bits_Len32 = some a_math_bits_Len32 := by kernel_rfl
theorem prog_math_bits_Len64 : C.prog fn_math_bits_Len64 = some a_math_bits_Len64 := by kernel_rfl
theorem prog_slices_ContainsFunc_SSint_Sint : C.prog fn_slices_ContainsFunc_SSint_Sint = some a_slices_ContainsFunc_SSint_Sint := by kernel_rfl
theorem prog_tally_all_Sint_1 : C.prog fn_tally_all_Sint_1 = some a_tally_all_Sint_1 := by kernel_rfl
theorem prog_tally_Division_member : C.prog fn_tally_Division_member = some a_tally_Division_member := by kernel_rfl
theorem prog_tally_all_tally_Proxy : C.prog fn_tally_all_tally_Proxy = some a_tally_all_tally_Proxy := by kernel_rfl
theorem prog_tally_Division_bound_1 : C.prog fn_tally_Division_bound_1 = some a_tally_Division_bound_1 := by kernel_rfl
theorem prog_tally_on : C.prog fn_tally_on = some a_tally_on := by kernel_rfl
theorem prog_slices_IndexFunc_Sint_int : C.prog fn_slices_IndexFunc_Sint_int = some a_slices_IndexFunc_Sint_int := by kernel_rfl
theorem prog_cmp_isNaN_uint8 : C.prog fn_cmp_isNaN_uint8 = some a_cmp_isNaN_uint8 := by kernel_rfl
theorem prog_slices_IndexFunc_SSint_Sint : C.prog fn_slices_IndexFunc_SSint_Sint = some a_slices_IndexFunc_SSint_Sint := by kernel_rfl
theorem prog_slices_ContainsFunc_Stally_Proxy_tally_Proxy : C.prog fn_slices_ContainsFunc_Stally_Proxy_tally_Proxy = some a_slices_ContainsFunc_Stally_Proxy_tally_Proxy := by kernel_rfl
theorem prog_tally_all_tally_Proxy_1 : C.prog fn_tally_all_tally_Proxy_1 = some a_tally_all_tally_Proxy_1 := by kernel_rfl
theorem prog_slices_IndexFunc_Stally_Proxy_tally_Proxy : C.prog fn_slices_IndexFunc_Stally_Proxy_tally_Proxy = some a_slices_IndexFunc_Stally_Proxy_tally_Proxy := by kernel_rfl
end
end Go.AM.T
