/- The machine that the proofs walk by, and what the functions compute: part 4 of the common texts. No condition. (Own work.) -/
import Derived.Test.YthiiejahphkgnaaNQ3
set_option linter.unusedVariables false
set_option linter.unusedSimpArgs false
/- What the functions do, printed by program (own work) out of the loaded program. -/
namespace Go.AM.T
open Go Go.AM
noncomputable section
@[simp] def r_tally_least_0 : List AI := [⟨none, some 3, .mov (.t 0)⟩,
  ⟨none, some 4, .call (.k (.fn fn_slices_Min_Sint_int [] [])) [(.t 3)]⟩,
  ⟨none, some 2, .mov (.t 4)⟩]
@[simp] def r_tally_least_1 : List AI := [⟨none, some 2, .mov (.k (.lit (.int .i64 0)))⟩]
def a_tally_least : AFn := { nparams := 1, res := [.tmp 2], body :=
 (.seq (.reg r_tally_least_1)
 (.seq (.seq (.reg r_tally_least_0) (.keep [2]))
 .ret)) }
@[simp] def r_tally_greatest_0 : List AI := [⟨none, some 3, .mov (.t 0)⟩,
  ⟨none, some 4, .call (.k (.fn fn_slices_Max_Sint_int [] [])) [(.t 3)]⟩,
  ⟨none, some 2, .mov (.t 4)⟩]
@[simp] def r_tally_greatest_1 : List AI := [⟨none, some 2, .mov (.k (.lit (.int .i64 0)))⟩]
def a_tally_greatest : AFn := { nparams := 1, res := [.tmp 2], body :=
 (.seq (.reg r_tally_greatest_1)
 (.seq (.seq (.reg r_tally_greatest_0) (.keep [2]))
 .ret)) }
@[simp] def r_ref07_May_0 : List AI := [⟨none, some 34, .mov (.t 2)⟩,
  ⟨none, some 35, .bin .eql (.t 34) (.k (.lit (.int .u8 2)))⟩,
  ⟨none, some 36, .mov (.t 35)⟩,
  ⟨some (36, true), some 37, .mov (.t 8)⟩,
  ⟨some (36, true), some 38, .bin .gtr (.t 37) (.k (.lit (.int .i64 0)))⟩,
  ⟨none, some 39, .pick (.t 36) (.t 38) (.k (.lit (.bool false)))⟩,
  ⟨none, some 40, .mov (.t 39)⟩,
  ⟨some (40, true), some 41, .mov (.t 7)⟩,
  ⟨some (40, true), some 42, .bin .lss (.t 41) (.k (.lit (.int .i64 2)))⟩,
  ⟨none, some 43, .pick (.t 40) (.t 42) (.k (.lit (.bool false)))⟩,
  ⟨none, some 6, .mov (.t 43)⟩]
@[simp] def r_ref07_May_1 : List AI := [⟨none, some 20, .mov (.t 7)⟩,
  ⟨none, some 21, .bin .lss (.t 20) (.k (.lit (.int .i64 2)))⟩,
  ⟨none, some 22, .mov (.t 21)⟩,
  ⟨some (22, true), some 23, .mov (.t 8)⟩,
  ⟨some (22, true), some 24, .bin .lss (.t 23) (.k (.lit (.int .i64 2)))⟩,
  ⟨none, some 25, .pick (.t 22) (.t 24) (.k (.lit (.bool false)))⟩,
  ⟨none, some 6, .mov (.t 25)⟩]
@[simp] def r_ref07_May_2 : List AI := [⟨none, some 28, .mov (.t 7)⟩,
  ⟨none, some 29, .bin .gtr (.t 28) (.k (.lit (.int .i64 0)))⟩,
  ⟨none, some 30, .mov (.t 29)⟩,
  ⟨some (30, true), some 31, .mov (.t 8)⟩,
  ⟨some (30, true), some 32, .bin .lss (.t 31) (.k (.lit (.int .i64 2)))⟩,
  ⟨none, some 33, .pick (.t 30) (.t 32) (.k (.lit (.bool false)))⟩,
  ⟨none, some 6, .mov (.t 33)⟩]
@[simp] def r_ref07_May_3 : List AI := [⟨none, some 27, .bin .eql (.t 17) (.k (.lit (.int .u8 1)))⟩,
  ⟨none, some 26, .mov (.t 27)⟩]
@[simp] def r_ref07_May_4 : List AI := [⟨none, some 19, .bin .eql (.t 17) (.k (.lit (.int .u8 0)))⟩,
  ⟨none, some 18, .mov (.t 19)⟩]
@[simp] def r_ref07_May_5 : List AI := [⟨none, some 17, .mov (.t 2)⟩]
@[simp] def r_ref07_May_6 : List AI := [⟨none, some 9, .padd 1 (.t 3)⟩,
  ⟨none, some 10, .load 2 true (.t 9)⟩,
  ⟨none, some 11, .mov (.t 1)⟩,
  ⟨none, some 12, .call (.k (.fn fn_ref07_On [] [])) [(.t 10), (.t 11)]⟩,
  ⟨none, some 13, .padd 3 (.t 3)⟩,
  ⟨none, some 14, .load 2 true (.t 13)⟩,
  ⟨none, some 15, .mov (.t 1)⟩,
  ⟨none, some 16, .call (.k (.fn fn_ref07_On [] [])) [(.t 14), (.t 15)]⟩,
  ⟨none, some 7, .mov (.t 12)⟩,
  ⟨none, some 8, .mov (.t 16)⟩]
@[simp] def r_ref07_May_7 : List AI := [⟨none, some 3, .box ty_ref07_Division (.t 0)⟩,
  ⟨none, some 6, .mov (.k (.lit (.bool false)))⟩]
def a_ref07_May : AFn := { nparams := 3, res := [.tmp 6], body :=
 (.seq (.seq (.reg r_ref07_May_7) (.keep [1, 2, 3]))
 (.seq (.seq (.draw r_ref07_May_6 0 [(3, 5)] [0, 1, 2, 3, 4, 5, 6, 7, 8, 9]) (.keep [2, 7, 8]))
 (.seq (.seq (.reg r_ref07_May_5)
 (.block 0
 (.seq (.seq (.reg r_ref07_May_4) (.keep [2, 7, 8, 17, 18]))
 (.cond (.t 18)
 (.seq (.seq (.reg r_ref07_May_1) (.keep [6]))
 .ret)
 (.seq (.seq (.reg r_ref07_May_3) (.keep [2, 7, 8, 26]))
 (.cond (.t 26)
 (.seq (.seq (.reg r_ref07_May_2) (.keep [6]))
 .ret)
 .skip))))))
 (.seq (.seq (.reg r_ref07_May_0) (.keep [6]))
 .ret)))) }
@[simp] def r_ref07_Paired_0 : List AI := [⟨none, some 4, .mov (.k (.lit (.bool false)))⟩]
@[simp] def r_ref07_Paired_1 : List AI := [⟨none, some 11, .mov (.t 5)⟩,
  ⟨none, some 12, .bin .add (.t 11) (.k (.lit (.int .i64 1)))⟩,
  ⟨none, some 5, .mov (.t 12)⟩]
@[simp] def r_ref07_Paired_2 : List AI := [⟨none, some 4, .mov (.k (.lit (.bool true)))⟩]
@[simp] def r_ref07_Paired_3 : List AI := [⟨none, some 13, .padd 5 (.t 2)⟩,
  ⟨none, some 14, .load 1 false (.t 13)⟩,
  ⟨none, some 15, .mov (.t 5)⟩,
  ⟨none, some 16, .idxS 2 (.t 14) (.t 15)⟩,
  ⟨none, some 17, .padd 0 (.t 16)⟩,
  ⟨none, some 18, .load 1 false (.t 17)⟩,
  ⟨none, some 19, .mov (.t 1)⟩,
  ⟨none, some 20, .bin .eql (.t 18) (.t 19)⟩,
  ⟨none, some 21, .mov (.t 20)⟩,
  ⟨some (21, false), some 22, .padd 5 (.t 2)⟩,
  ⟨some (21, false), some 23, .load 1 false (.t 22)⟩,
  ⟨some (21, false), some 24, .mov (.t 5)⟩,
  ⟨some (21, false), some 25, .idxS 2 (.t 23) (.t 24)⟩,
  ⟨some (21, false), some 26, .padd 1 (.t 25)⟩,
  ⟨some (21, false), some 27, .load 1 false (.t 26)⟩,
  ⟨some (21, false), some 28, .mov (.t 1)⟩,
  ⟨some (21, false), some 29, .bin .eql (.t 27) (.t 28)⟩,
  ⟨none, some 30, .pick (.t 21) (.k (.lit (.bool true))) (.t 29)⟩]
@[simp] def r_ref07_Paired_4 : List AI := [⟨none, some 6, .mov (.t 5)⟩,
  ⟨none, some 7, .padd 5 (.t 2)⟩,
  ⟨none, some 8, .load 1 false (.t 7)⟩,
  ⟨none, some 9, .lenS (.t 8)⟩,
  ⟨none, some 10, .bin .lss (.t 6) (.t 9)⟩]
def l_ref07_Paired_0 : AC :=
 (.seq (.seq (.seq (.reg r_ref07_Paired_4) (.keep [1, 2, 5, 10]))
 (.cond (.t 10)
 .skip
 (.exit 0)))
 (.seq (.block 1
 (.seq (.seq (.reg r_ref07_Paired_3) (.keep [1, 2, 5, 30]))
 (.cond (.t 30)
 (.seq (.reg r_ref07_Paired_2)
 .ret)
 .skip)))
 (.seq (.reg r_ref07_Paired_1) (.keep [1, 2, 5]))))
@[simp] def r_ref07_Paired_6 : List AI := [⟨none, some 5, .mov (.k (.lit (.int .i64 0)))⟩]
@[simp] def r_ref07_Paired_7 : List AI := [⟨none, some 2, .box ty_ref07_Division (.t 0)⟩,
  ⟨none, some 4, .mov (.k (.lit (.bool false)))⟩]
def a_ref07_Paired : AFn := { nparams := 2, res := [.tmp 4], body :=
 (.seq (.seq (.reg r_ref07_Paired_7) (.keep [1, 2]))
 (.seq (.seq (.reg r_ref07_Paired_6)
 (.block 0
 (.loop [1, 2, 5] l_ref07_Paired_0)))
 (.seq (.reg r_ref07_Paired_0)
 .ret))) }
@[simp] def r_ref07_In_0 : List AI := [⟨none, some 7, .mov (.t 0)⟩,
  ⟨none, some 8, .mov (.t 1)⟩,
  ⟨none, some 9, .bin .geq (.t 7) (.t 8)⟩,
  ⟨none, some 10, .mov (.t 9)⟩,
  ⟨some (10, true), some 11, .mov (.t 0)⟩,
  ⟨some (10, true), some 12, .mov (.t 2)⟩,
  ⟨some (10, true), some 13, .bin .leq (.t 11) (.t 12)⟩,
  ⟨none, some 14, .pick (.t 10) (.t 13) (.k (.lit (.bool false)))⟩,
  ⟨none, some 6, .mov (.t 14)⟩]
@[simp] def r_ref07_In_1 : List AI := [⟨none, some 6, .mov (.k (.lit (.bool false)))⟩]
def a_ref07_In : AFn := { nparams := 3, res := [.tmp 6], body :=
 (.seq (.reg r_ref07_In_1)
 (.seq (.seq (.reg r_ref07_In_0) (.keep [6]))
 .ret)) }
@[simp] def r_ref07_list_0 : List AI := [⟨none, some 21, .mov (.t 1)⟩,
  ⟨none, some 22, .call (.k (.fn fn_ref07_Rising [] [])) [(.t 21)]⟩,
  ⟨none, some 4, .mov (.t 22)⟩]
@[simp] def r_ref07_list_1 : List AI := [⟨none, some 10, .mov (.t 5)⟩,
  ⟨none, some 11, .bin .add (.t 10) (.k (.lit (.int .i64 1)))⟩,
  ⟨none, some 5, .mov (.t 11)⟩]
@[simp] def r_ref07_list_2 : List AI := [⟨none, some 4, .mov (.k (.lit (.bool false)))⟩]
@[simp] def r_ref07_list_3 : List AI := [⟨none, some 12, .mov (.t 1)⟩,
  ⟨none, some 13, .mov (.t 5)⟩,
  ⟨none, some 14, .idxS 1 (.t 12) (.t 13)⟩,
  ⟨none, some 15, .load 1 false (.t 14)⟩,
  ⟨none, some 16, .padd 0 (.t 2)⟩,
  ⟨none, some 17, .load 1 false (.t 16)⟩,
  ⟨none, some 18, .bin .sub (.t 17) (.k (.lit (.int .i64 1)))⟩,
  ⟨none, some 19, .call (.k (.fn fn_ref07_In [] [])) [(.t 15), (.k (.lit (.int .i64 0))), (.t 18)]⟩,
  ⟨none, some 20, .not (.t 19)⟩]
@[simp] def r_ref07_list_4 : List AI := [⟨none, some 6, .mov (.t 5)⟩,
  ⟨none, some 7, .mov (.t 1)⟩,
  ⟨none, some 8, .lenS (.t 7)⟩,
  ⟨none, some 9, .bin .lss (.t 6) (.t 8)⟩]
def l_ref07_list_0 : AC :=
 (.seq (.seq (.seq (.reg r_ref07_list_4) (.keep [1, 2, 5, 9]))
 (.cond (.t 9)
 .skip
 (.exit 0)))
 (.seq (.block 1
 (.seq (.seq (.draw r_ref07_list_3 0 [] [0, 1, 2, 3, 4, 5, 6, 7, 8]) (.keep [1, 2, 5, 20]))
 (.cond (.t 20)
 (.seq (.reg r_ref07_list_2)
 .ret)
 .skip)))
 (.seq (.reg r_ref07_list_1) (.keep [1, 2, 5]))))
@[simp] def r_ref07_list_6 : List AI := [⟨none, some 5, .mov (.k (.lit (.int .i64 0)))⟩]
@[simp] def r_ref07_list_7 : List AI := [⟨none, some 2, .box ty_ref07_Division (.t 0)⟩,
  ⟨none, some 4, .mov (.k (.lit (.bool false)))⟩]
def a_ref07_list : AFn := { nparams := 2, res := [.tmp 4], body :=
 (.seq (.seq (.reg r_ref07_list_7) (.keep [1, 2]))
 (.seq (.seq (.reg r_ref07_list_6)
 (.block 0
 (.loop [1, 2, 5] l_ref07_list_0)))
 (.seq (.seq (.reg r_ref07_list_0) (.keep [4]))
 .ret))) }
@[simp] def r_tally_looked_outcome_0 : List AI := [⟨none, some 4, .mov (.k (.lit (.int .u8 0)))⟩]
@[simp] def r_tally_looked_outcome_1 : List AI := [⟨none, some 4, .mov (.k (.lit (.int .u8 2)))⟩]
@[simp] def r_tally_looked_outcome_2 : List AI := [⟨none, some 4, .mov (.k (.lit (.int .u8 1)))⟩]
@[simp] def r_tally_looked_outcome_3 : List AI := [⟨none, some 16, .call (.k (.fn fn_tally_rules [] [])) []⟩,
  ⟨none, some 17, .padd 0 (.t 2)⟩,
  ⟨none, some 18, .padd 7 (.t 17)⟩,
  ⟨none, some 19, .load 1 false (.t 18)⟩,
  ⟨none, some 20, .idxS 1 (.t 16) (.t 19)⟩,
  ⟨none, some 21, .padd 0 (.t 20)⟩,
  ⟨none, some 22, .load 1 false (.t 21)⟩,
  ⟨none, some 23, .padd 0 (.t 2)⟩,
  ⟨none, some 24, .load 11 true (.t 23)⟩,
  ⟨none, some 25, .load 2 true (.t 3)⟩,
  ⟨none, some 26, .call (.t 22) [(.t 24), (.t 25)]⟩,
  ⟨none, some 15, .mov (.t 26)⟩]
@[simp] def r_tally_looked_outcome_4 : List AI := [⟨none, some 6, .padd 0 (.t 3)⟩,
  ⟨none, some 7, .load 1 false (.t 6)⟩,
  ⟨none, some 8, .padd 1 (.t 3)⟩,
  ⟨none, some 9, .load 1 false (.t 8)⟩,
  ⟨none, some 10, .bin .add (.t 7) (.t 9)⟩,
  ⟨none, some 11, .padd 0 (.t 2)⟩,
  ⟨none, some 12, .padd 9 (.t 11)⟩,
  ⟨none, some 13, .load 1 false (.t 12)⟩,
  ⟨none, some 14, .bin .lss (.t 10) (.t 13)⟩,
  ⟨none, some 5, .mov (.t 14)⟩]
@[simp] def r_tally_looked_outcome_5 : List AI := [⟨none, some 2, .box ty_tally_looked (.t 0)⟩,
  ⟨none, some 3, .box ty_tally_Numbers (.t 1)⟩,
  ⟨none, some 4, .mov (.k (.lit (.int .u8 0)))⟩]
def a_tally_looked_outcome : AFn := { nparams := 2, res := [.tmp 4], body :=
 (.seq (.seq (.reg r_tally_looked_outcome_5) (.keep [2, 3]))
 (.seq (.block 0
 (.seq (.seq (.reg r_tally_looked_outcome_4) (.keep [2, 3, 5]))
 (.cond (.t 5)
 (.seq (.reg r_tally_looked_outcome_1)
 .ret)
 (.seq (.seq (.draw r_tally_looked_outcome_3 0 [(0, 3), (0, 8), (0, 9)] [0, 1, 2, 3, 4, 5, 6, 7, 8, 9, 10, 11]) (.keep [15]))
 (.cond (.t 15)
 (.seq (.reg r_tally_looked_outcome_2)
 .ret)
 .skip)))))
 (.seq (.reg r_tally_looked_outcome_0)
 .ret))) }
@[simp] def r_slices_Contains_Suint8_uint8_0 : List AI := [⟨none, some 5, .mov (.t 0)⟩,
  ⟨none, some 6, .mov (.t 1)⟩,
  ⟨none, some 7, .call (.k (.fn fn_slices_Index_Suint8_uint8 [] [])) [(.t 5), (.t 6)]⟩,
  ⟨none, some 8, .bin .geq (.t 7) (.k (.lit (.int .i64 0)))⟩,
  ⟨none, some 4, .mov (.t 8)⟩]
@[simp] def r_slices_Contains_Suint8_uint8_1 : List AI := [⟨none, some 4, .mov (.k (.lit (.bool false)))⟩]
def a_slices_Contains_Suint8_uint8 : AFn := { nparams := 2, res := [.tmp 4], body :=
 (.seq (.reg r_slices_Contains_Suint8_uint8_1)
 (.seq (.seq (.reg r_slices_Contains_Suint8_uint8_0) (.keep [4]))
 .ret)) }
@[simp] def r_slices_Sort_Suint8_uint8_0 : List AI := [⟨none, some 5, .mov (.t 0)⟩,
  ⟨none, some 6, .mov (.t 2)⟩,
  ⟨none, some 7, .mov (.t 2)⟩,
  ⟨none, some 8, .conv .u64 (.t 7)⟩,
  ⟨none, some 9, .call (.k (.fn fn_math_bits_Len [] [])) [(.t 8)]⟩,
  ⟨none, some 10, .call (.k (.fn fn_slices_pdqsortOrdered_uint8 [] [])) [(.t 5), (.k (.lit (.int .i64 0))), (.t 6), (.t 9)]⟩]
@[simp] def r_slices_Sort_Suint8_uint8_1 : List AI := [⟨none, some 3, .mov (.t 0)⟩,
  ⟨none, some 4, .lenS (.t 3)⟩,
  ⟨none, some 2, .mov (.t 4)⟩]
def a_slices_Sort_Suint8_uint8 : AFn := { nparams := 1, res := [], body :=
 (.seq (.seq (.reg r_slices_Sort_Suint8_uint8_1) (.keep [0, 2]))
 (.seq (.reg r_slices_Sort_Suint8_uint8_0) (.keep []))) }
@[simp] def r_tally_looked_all_0 : List AI := [⟨none, some 17, .load 1 false (.t 2)⟩,
  ⟨none, none, .store 1 (.t 2) (.t 17)⟩]
@[simp] def r_tally_looked_all_1 : List AI := [⟨none, some 7, .load 1 false (.t 2)⟩,
  ⟨none, some 8, .load 40 true (.t 3)⟩,
  ⟨none, some 9, .load 91 true (.t 1)⟩,
  ⟨none, some 10, .load 91 true (.t 1)⟩,
  ⟨none, some 11, .load 40 true (.t 3)⟩,
  ⟨none, some 12, .call (.k (.fn fn_tally_looked_numbers [] [])) [(.t 10), (.t 11)]⟩,
  ⟨none, some 13, .call (.k (.fn fn_tally_looked_outcome [] [])) [(.t 9), (.t 12)]⟩,
  ⟨none, some 14, .build z_tally_told [(0, 40, (.t 8)), (40, 1, (.t 13))]⟩,
  ⟨none, some 15, .slit ty_tally_told z_tally_told 1 41 [(0, 41, (.t 14))]⟩,
  ⟨none, some 16, .app ty_tally_told z_tally_told 41 41 (.t 7) (.t 15)⟩,
  ⟨none, none, .store 1 (.t 2) (.t 16)⟩]
@[simp] def r_tally_looked_all_2 : List AI := [⟨none, some 3, .alloc ty_tally_truth z_tally_truth⟩,
  ⟨none, none, .store 40 (.t 3) (.t 6)⟩]
def s_tally_looked_all_0 : AC :=
 (.reg r_tally_looked_all_2)
def b_tally_looked_all_0 : AC :=
 (.block 1
 (.seq (.draw r_tally_looked_all_1 0 [(0, 5), (1, 5), (2, 5), (0, 6), (1, 6)] [0, 1, 2, 3, 4, 5, 6, 7, 8, 9, 10]) (.keep [])))
@[simp] def r_tally_looked_all_5 : List AI := [⟨none, some 4, .load 91 true (.t 1)⟩,
  ⟨none, some 5, .call (.k (.fn fn_tally_looked_truths [] [])) [(.t 4)]⟩]
@[simp] def r_tally_looked_all_6 : List AI := [⟨none, some 1, .box ty_tally_looked (.t 0)⟩,
  ⟨none, some 2, .alloc ty_Stally_told [.nil]⟩]
def a_tally_looked_all : AFn := { nparams := 1, res := [.cell 2 1 false], body :=
 (.seq (.reg r_tally_looked_all_6)
 (.seq (.seq (.seq (.reg r_tally_looked_all_5) (.keep [1, 2, 5]))
 (.block 0
 (.seq (.keep [1, 2, 5]) (.rangeF (.t 5) [6] s_tally_looked_all_0 b_tally_looked_all_0))))
 (.seq (.seq (.reg r_tally_looked_all_0) (.keep [2]))
 .ret))) }
@[simp] def r_tally_Ask_1_0 : List AI := [⟨none, some 10, .mov (.k (.lit (.bool false)))⟩]
@[simp] def r_tally_Ask_1_1 : List AI := [⟨none, some 24, .mov (.t 11)⟩,
  ⟨none, some 25, .bin .add (.t 24) (.k (.lit (.int .i64 1)))⟩,
  ⟨none, some 11, .mov (.t 25)⟩]
@[simp] def r_tally_Ask_1_2 : List AI := [⟨none, some 10, .mov (.k (.lit (.bool true)))⟩]
@[simp] def r_tally_Ask_1_3 : List AI := [⟨none, some 26, .load 1 false (.t 6)⟩,
  ⟨none, some 27, .mov (.t 0)⟩,
  ⟨none, some 28, .load 1 false (.t 5)⟩,
  ⟨none, some 29, .mov (.t 11)⟩,
  ⟨none, some 30, .idxS 1 (.t 28) (.t 29)⟩,
  ⟨none, some 31, .load 1 false (.t 30)⟩,
  ⟨none, some 32, .slit ty_int [.lit (.int .i64 0)] 1 1 [(0, 1, (.t 31))]⟩,
  ⟨none, some 33, .app ty_int [.lit (.int .i64 0)] 1 8 (.t 27) (.t 32)⟩,
  ⟨none, some 34, .mov (.t 11)⟩,
  ⟨none, some 35, .bin .add (.t 34) (.k (.lit (.int .i64 1)))⟩,
  ⟨none, some 36, .mov (.t 2)⟩,
  ⟨none, some 37, .bin .sub (.t 36) (.k (.lit (.int .i64 1)))⟩,
  ⟨none, some 38, .call (.t 26) [(.t 33), (.t 35), (.t 37)]⟩]
@[simp] def r_tally_Ask_1_4 : List AI := [⟨none, some 20, .mov (.t 11)⟩,
  ⟨none, some 21, .load 1 false (.t 5)⟩,
  ⟨none, some 22, .lenS (.t 21)⟩,
  ⟨none, some 23, .bin .lss (.t 20) (.t 22)⟩]
def l_tally_Ask_1_0 : AC :=
 (.seq (.seq (.seq (.reg r_tally_Ask_1_4) (.keep [0, 2, 5, 6, 11, 23]))
 (.cond (.t 23)
 .skip
 (.exit 0)))
 (.seq (.block 1
 (.seq (.seq (.draw r_tally_Ask_1_3 0 [(0, 7)] [0, 1, 2, 3, 4, 5, 6, 7, 8, 9, 10, 11, 12]) (.keep [0, 2, 5, 6, 11, 38]))
 (.cond (.t 38)
 (.seq (.reg r_tally_Ask_1_2)
 .ret)
 .skip)))
 (.seq (.reg r_tally_Ask_1_1) (.keep [0, 2, 5, 6, 11]))))
@[simp] def r_tally_Ask_1_6 : List AI := [⟨none, some 19, .mov (.t 1)⟩,
  ⟨none, some 11, .mov (.t 19)⟩]
@[simp] def r_tally_Ask_1_7 : List AI := [⟨none, some 16, .load 1 false (.t 4)⟩,
  ⟨none, some 17, .mov (.t 0)⟩,
  ⟨none, some 18, .call (.k (.fn fn_tally_decide [] [])) [(.t 16), (.t 17)]⟩,
  ⟨none, some 10, .mov (.t 18)⟩]
@[simp] def r_tally_Ask_1_8 : List AI := [⟨none, some 14, .mov (.t 0)⟩,
  ⟨none, some 15, .call (.k (.fn fn_slices_Clone_Sint_int [] [])) [(.t 14)]⟩,
  ⟨none, none, .store 1 (.t 3) (.t 15)⟩]
@[simp] def r_tally_Ask_1_9 : List AI := [⟨none, some 12, .mov (.t 2)⟩,
  ⟨none, some 13, .bin .eql (.t 12) (.k (.lit (.int .i64 0)))⟩]
@[simp] def r_tally_Ask_1_10 : List AI := [⟨none, some 10, .mov (.k (.lit (.bool false)))⟩]
def a_tally_Ask_1 : AFn := { nparams := 7, res := [.tmp 10], body :=
 (.seq (.reg r_tally_Ask_1_10)
 (.seq (.seq (.seq (.reg r_tally_Ask_1_9) (.keep [0, 1, 2, 3, 4, 5, 6, 13]))
 (.cond (.t 13)
 (.seq (.seq (.reg r_tally_Ask_1_8) (.keep [0, 4]))
 (.seq (.seq (.reg r_tally_Ask_1_7) (.keep [10]))
 .ret))
 .skip))
 (.seq (.seq (.seq (.reg r_tally_Ask_1_6) (.keep [0, 2, 5, 6, 11]))
 (.block 0
 (.loop [0, 2, 5, 6, 11] l_tally_Ask_1_0)))
 (.seq (.reg r_tally_Ask_1_0)
 .ret)))) }
@[simp] def r_slices_Clone_Sint_int_0 : List AI := [⟨none, some 5, .slit ty_int [.lit (.int .i64 0)] 0 1 []⟩,
  ⟨none, some 6, .mov (.t 0)⟩,
  ⟨none, some 7, .app ty_int [.lit (.int .i64 0)] 1 8 (.t 5) (.t 6)⟩,
  ⟨none, some 2, .mov (.t 7)⟩]
@[simp] def r_slices_Clone_Sint_int_1 : List AI := [⟨none, some 2, .mov (.k (.nil))⟩]
@[simp] def r_slices_Clone_Sint_int_2 : List AI := [⟨none, some 3, .mov (.t 0)⟩,
  ⟨none, some 4, .eqnl false (.t 3)⟩]
@[simp] def r_slices_Clone_Sint_int_3 : List AI := [⟨none, some 2, .mov (.k (.nil))⟩]
def a_slices_Clone_Sint_int : AFn := { nparams := 1, res := [.tmp 2], body :=
 (.seq (.reg r_slices_Clone_Sint_int_3)
 (.seq (.seq (.seq (.reg r_slices_Clone_Sint_int_2) (.keep [0, 4]))
 (.cond (.t 4)
 (.seq (.reg r_slices_Clone_Sint_int_1)
 .ret)
 .skip))
 (.seq (.seq (.reg r_slices_Clone_Sint_int_0) (.keep [2]))
 .ret))) }
@[simp] def r_tally_decide_0 : List AI := [⟨none, some 52, .mov (.t 6)⟩,
  ⟨none, some 4, .mov (.t 52)⟩]
@[simp] def r_tally_decide_1 : List AI := [⟨none, some 51, .bin .add (.t 17) (.k (.lit (.int .i64 1)))⟩,
  ⟨none, some 17, .mov (.t 51)⟩]
@[simp] def r_tally_decide_2 : List AI := [⟨none, some 47, .mov (.t 5)⟩,
  ⟨none, some 48, .load 40 true (.t 9)⟩,
  ⟨none, some 49, .padd 40 (.t 8)⟩,
  ⟨none, some 50, .load 1 false (.t 49)⟩,
  ⟨none, none, .mupd (some 40) (.t 47) (.t 48) (.t 50)⟩]
@[simp] def r_tally_decide_3 : List AI := [⟨none, some 6, .mov (.k (.lit (.bool false)))⟩]
@[simp] def r_tally_decide_4 : List AI := [⟨none, some 40, .mov (.t 13)⟩,
  ⟨none, some 41, .mov (.t 40)⟩,
  ⟨some (41, true), some 42, .mov (.t 12)⟩,
  ⟨some (41, true), some 43, .padd 40 (.t 8)⟩,
  ⟨some (41, true), some 44, .load 1 false (.t 43)⟩,
  ⟨some (41, true), some 45, .bin .neq (.t 42) (.t 44)⟩,
  ⟨none, some 46, .pick (.t 41) (.t 45) (.k (.lit (.bool false)))⟩]
@[simp] def r_tally_decide_5 : List AI := [⟨none, some 35, .mov (.t 5)⟩,
  ⟨none, some 36, .load 40 true (.t 9)⟩,
  ⟨none, some 37, .look (some 40) (.lit (.int .u8 0)) true (.t 35) (.t 36)⟩,
  ⟨none, some 34, .mov (.t 37)⟩,
  ⟨none, some 38, .ext 0 (.t 34)⟩,
  ⟨none, some 39, .ext 1 (.t 34)⟩,
  ⟨none, some 12, .mov (.t 38)⟩,
  ⟨none, some 13, .mov (.t 39)⟩]
@[simp] def r_tally_decide_6 : List AI := [⟨none, some 33, .bin .add (.t 23) (.k (.lit (.int .i64 1)))⟩,
  ⟨none, some 23, .mov (.t 33)⟩]
@[simp] def r_tally_decide_7 : List AI := [⟨none, some 27, .mov (.t 11)⟩,
  ⟨none, some 28, .mov (.t 11)⟩,
  ⟨none, some 29, .padd 0 (.t 8)⟩,
  ⟨none, some 30, .idxA 40 1 (.t 29) (.t 28)⟩,
  ⟨none, some 31, .load 1 false (.t 30)⟩,
  ⟨none, some 32, .idxA 40 1 (.t 9) (.t 27)⟩,
  ⟨none, none, .store 1 (.t 32) (.t 31)⟩]
@[simp] def r_tally_decide_8 : List AI := [⟨none, some 25, .idxS 1 (.t 21) (.t 23)⟩,
  ⟨none, some 26, .load 1 false (.t 25)⟩,
  ⟨none, some 11, .mov (.t 26)⟩]
@[simp] def r_tally_decide_9 : List AI := [⟨none, some 24, .bin .lss (.t 23) (.t 22)⟩]
def l_tally_decide_0 : AC :=
 (.seq (.reg r_tally_decide_9)
 (.seq (.cond (.t 24)
 .skip
 (.exit 2))
 (.seq (.block 3
 (.seq (.seq (.reg r_tally_decide_8) (.keep [1, 5, 6, 8, 9, 11, 15, 16, 17, 21, 22, 23]))
 (.seq (.reg r_tally_decide_7) (.keep [1, 5, 6, 8, 9, 15, 16, 17, 21, 22, 23]))))
 (.seq (.reg r_tally_decide_6) (.keep [1, 5, 6, 8, 9, 15, 16, 17, 21, 22, 23])))))
@[simp] def r_tally_decide_11 : List AI := [⟨none, some 21, .mov (.t 1)⟩,
  ⟨none, some 22, .lenS (.t 21)⟩,
  ⟨none, some 23, .mov (.k (.lit (.int .i64 0)))⟩]
@[simp] def r_tally_decide_12 : List AI := [⟨none, some 9, .alloc ty_tally_truth z_tally_truth⟩]
@[simp] def r_tally_decide_13 : List AI := [⟨none, some 19, .idxS 41 (.t 15) (.t 17)⟩,
  ⟨none, some 20, .load 41 true (.t 19)⟩,
  ⟨none, some 8, .alloc ty_tally_told z_tally_told⟩,
  ⟨none, none, .store 41 (.t 8) (.t 20)⟩]
@[simp] def r_tally_decide_14 : List AI := [⟨none, some 18, .bin .lss (.t 17) (.t 16)⟩]
def l_tally_decide_1 : AC :=
 (.seq (.reg r_tally_decide_14)
 (.seq (.cond (.t 18)
 .skip
 (.exit 0))
 (.seq (.block 1
 (.seq (.seq (.reg r_tally_decide_13) (.keep [1, 5, 6, 8, 15, 16, 17]))
 (.seq (.reg r_tally_decide_12)
 (.seq (.seq (.reg r_tally_decide_11)
 (.block 2
 (.loop [1, 5, 6, 8, 9, 15, 16, 17, 21, 22, 23] l_tally_decide_0)))
 (.seq (.seq (.seq (.reg r_tally_decide_5) (.keep [1, 5, 6, 8, 9, 12, 13, 15, 16, 17]))
 (.seq (.seq (.reg r_tally_decide_4) (.keep [1, 5, 6, 8, 9, 15, 16, 17, 46]))
 (.cond (.t 46)
 (.seq (.reg r_tally_decide_3)
 (.exit 0))
 .skip)))
 (.seq (.reg r_tally_decide_2) (.keep [1, 5, 6, 15, 16, 17])))))))
 (.seq (.reg r_tally_decide_1) (.keep [1, 5, 6, 15, 16, 17])))))
@[simp] def r_tally_decide_16 : List AI := [⟨none, some 15, .mov (.t 0)⟩,
  ⟨none, some 16, .lenS (.t 15)⟩,
  ⟨none, some 17, .mov (.k (.lit (.int .i64 0)))⟩]
@[simp] def r_tally_decide_17 : List AI := [⟨none, some 6, .mov (.k (.lit (.bool true)))⟩]
@[simp] def r_tally_decide_18 : List AI := [⟨none, some 14, .mkmap⟩,
  ⟨none, some 5, .mov (.t 14)⟩]
@[simp] def r_tally_decide_19 : List AI := [⟨none, some 4, .mov (.k (.lit (.bool false)))⟩]
def a_tally_decide : AFn := { nparams := 2, res := [.tmp 4], body :=
 (.seq (.reg r_tally_decide_19)
 (.scope (.seq (.seq (.reg r_tally_decide_18) (.keep [0, 1, 5]))
 (.seq (.reg r_tally_decide_17)
 (.seq .label
 (.seq (.seq (.reg r_tally_decide_16)
 (.block 0
 (.loop [1, 5, 6, 15, 16, 17] l_tally_decide_1)))
 (.seq (.seq (.reg r_tally_decide_0) (.keep [4]))
 .ret))))))) }
@[simp] def r_tally_Division_valid_0 : List AI := [⟨none, some 3, .padd 0 (.t 1)⟩,
  ⟨none, some 4, .load 1 false (.t 3)⟩,
  ⟨none, some 5, .call (.k (.fn fn_tally_within [] [])) [(.t 4), (.k (.lit (.int .i64 1))), (.k (.lit (.int .i64 40)))]⟩,
  ⟨none, some 6, .mov (.t 5)⟩,
  ⟨some (6, true), some 7, .padd 1 (.t 1)⟩,
  ⟨some (6, true), some 8, .slcA 2 1 (.t 7) none none⟩,
  ⟨some (6, true), some 9, .load 11 true (.t 1)⟩,
  ⟨some (6, true), some 10, .mkfn fn_tally_Division_listed [(.t 9)] []⟩,
  ⟨some (6, true), some 11, .call (.k (.fn fn_tally_all_Sint [] [])) [(.t 8), (.t 10)]⟩,
  ⟨none, some 12, .pick (.t 6) (.t 11) (.k (.lit (.bool false)))⟩,
  ⟨none, some 13, .mov (.t 12)⟩,
  ⟨some (13, true), some 14, .padd 3 (.t 1)⟩,
  ⟨some (13, true), some 15, .slcA 2 1 (.t 14) none none⟩,
  ⟨some (13, true), some 16, .load 11 true (.t 1)⟩,
  ⟨some (13, true), some 17, .mkfn fn_tally_Division_listed [(.t 16)] []⟩,
  ⟨some (13, true), some 18, .call (.k (.fn fn_tally_all_Sint [] [])) [(.t 15), (.t 17)]⟩,
  ⟨none, some 19, .pick (.t 13) (.t 18) (.k (.lit (.bool false)))⟩,
  ⟨none, some 20, .mov (.t 19)⟩,
  ⟨some (20, true), some 21, .padd 5 (.t 1)⟩,
  ⟨some (20, true), some 22, .load 1 false (.t 21)⟩,
  ⟨some (20, true), some 23, .lenS (.t 22)⟩,
  ⟨some (20, true), some 24, .bin .leq (.t 23) (.k (.lit (.int .i64 10)))⟩,
  ⟨none, some 25, .pick (.t 20) (.t 24) (.k (.lit (.bool false)))⟩,
  ⟨none, some 26, .mov (.t 25)⟩,
  ⟨some (26, true), some 27, .padd 6 (.t 1)⟩,
  ⟨some (26, true), some 28, .load 1 false (.t 27)⟩,
  ⟨some (26, true), some 29, .lenS (.t 28)⟩,
  ⟨some (26, true), some 30, .bin .leq (.t 29) (.k (.lit (.int .i64 10)))⟩,
  ⟨none, some 31, .pick (.t 26) (.t 30) (.k (.lit (.bool false)))⟩,
  ⟨none, some 32, .mov (.t 31)⟩,
  ⟨some (32, true), some 33, .load 11 true (.t 1)⟩,
  ⟨some (32, true), some 34, .call (.k (.fn fn_tally_Division_bound [] [])) [(.t 33)]⟩,
  ⟨none, some 35, .pick (.t 32) (.t 34) (.k (.lit (.bool false)))⟩,
  ⟨none, some 36, .mov (.t 35)⟩,
  ⟨some (36, true), some 37, .padd 7 (.t 1)⟩,
  ⟨some (36, true), some 38, .load 1 false (.t 37)⟩,
  ⟨some (36, true), some 39, .conv .i64 (.t 38)⟩,
  ⟨some (36, true), some 40, .call (.k (.fn fn_tally_rules [] [])) []⟩,
  ⟨some (36, true), some 41, .lenS (.t 40)⟩,
  ⟨some (36, true), some 42, .bin .lss (.t 39) (.t 41)⟩,
  ⟨none, some 43, .pick (.t 36) (.t 42) (.k (.lit (.bool false)))⟩,
  ⟨none, some 44, .mov (.t 43)⟩,
  ⟨some (44, true), some 45, .padd 8 (.t 1)⟩,
  ⟨some (44, true), some 46, .load 1 false (.t 45)⟩,
  ⟨some (44, true), some 47, .call (.k (.fn fn_tally_within [] [])) [(.t 46), (.k (.lit (.int .i64 0))), (.k (.lit (.int .i64 40)))]⟩,
  ⟨none, some 48, .pick (.t 44) (.t 47) (.k (.lit (.bool false)))⟩,
  ⟨none, some 49, .mov (.t 48)⟩,
  ⟨some (49, true), some 50, .padd 9 (.t 1)⟩,
  ⟨some (49, true), some 51, .load 1 false (.t 50)⟩,
  ⟨some (49, true), some 52, .call (.k (.fn fn_tally_within [] [])) [(.t 51), (.k (.lit (.int .i64 0))), (.k (.lit (.int .i64 40)))]⟩,
  ⟨none, some 53, .pick (.t 49) (.t 52) (.k (.lit (.bool false)))⟩,
  ⟨none, some 54, .mov (.t 53)⟩,
  ⟨some (54, true), some 55, .padd 10 (.t 1)⟩,
  ⟨some (54, true), some 56, .load 1 false (.t 55)⟩,
  ⟨some (54, true), some 57, .bin .eql (.t 56) (.k (.lit (.int .u8 1)))⟩,
  ⟨some (54, true), some 58, .mov (.t 57)⟩,
  ⟨some (58, false), some 59, .padd 10 (.t 1)⟩,
  ⟨some (58, false), some 60, .load 1 false (.t 59)⟩,
  ⟨some (58, false), some 61, .bin .eql (.t 60) (.k (.lit (.int .u8 2)))⟩,
  ⟨some (54, true), some 62, .pick (.t 58) (.k (.lit (.bool true))) (.t 61)⟩,
  ⟨none, some 63, .pick (.t 54) (.t 62) (.k (.lit (.bool false)))⟩,
  ⟨none, some 2, .mov (.t 63)⟩]
@[simp] def r_tally_Division_valid_1 : List AI := [⟨none, some 1, .box ty_tally_Division (.t 0)⟩,
  ⟨none, some 2, .mov (.k (.lit (.bool false)))⟩]
def a_tally_Division_valid : AFn := { nparams := 1, res := [.tmp 2], body :=
 (.seq (.seq (.reg r_tally_Division_valid_1) (.keep [1]))
 (.seq (.seq (.draw r_tally_Division_valid_0 0 [(35, 37)] [0, 1, 2, 3, 4, 5, 6, 7, 8, 9, 10, 11, 12, 13, 14, 15, 16, 17, 18, 19, 20, 21, 22, 23, 24, 25, 26, 27, 28, 29, 30, 31, 32, 33, 34, 35, 36, 37, 38, 39, 40, 41, 42, 43, 44, 45, 46, 47, 48, 49, 50, 51, 52, 53, 54, 55, 56, 57, 58, 59, 60, 61]) (.keep [2]))
 .ret)) }
@[simp] def r_tally_Division_look_0 : List AI := [⟨none, some 37, .load 91 true (.t 3)⟩,
  ⟨none, none, .store 91 (.t 2) (.t 37)⟩]
@[simp] def r_tally_Division_look_1 : List AI := [⟨none, some 36, .bin .add (.t 27) (.k (.lit (.int .i64 1)))⟩,
  ⟨none, some 27, .mov (.t 36)⟩]
@[simp] def r_tally_Division_look_2 : List AI := [⟨none, some 30, .mov (.t 6)⟩,
  ⟨none, some 31, .load 11 true (.t 1)⟩,
  ⟨none, some 32, .mov (.t 6)⟩,
  ⟨none, some 33, .call (.k (.fn fn_tally_Division_votes [] [])) [(.t 31), (.t 32)]⟩,
  ⟨none, some 34, .padd 51 (.t 3)⟩,
  ⟨none, some 35, .idxA 40 1 (.t 34) (.t 30)⟩,
  ⟨none, none, .store 1 (.t 35) (.t 33)⟩]
@[simp] def r_tally_Division_look_3 : List AI := [⟨none, some 29, .mov (.t 27)⟩,
  ⟨none, some 6, .mov (.t 29)⟩]
@[simp] def r_tally_Division_look_4 : List AI := [⟨none, some 28, .bin .lss (.t 27) (.t 26)⟩]
def l_tally_Division_look_0 : AC :=
 (.seq (.reg r_tally_Division_look_4)
 (.seq (.cond (.t 28)
 .skip
 (.exit 2))
 (.seq (.block 3
 (.seq (.seq (.reg r_tally_Division_look_3) (.keep [1, 2, 3, 6, 26, 27]))
 (.seq (.reg r_tally_Division_look_2) (.keep [1, 2, 3, 26, 27]))))
 (.seq (.reg r_tally_Division_look_1) (.keep [1, 2, 3, 26, 27])))))
@[simp] def r_tally_Division_look_6 : List AI := [⟨none, some 25, .padd 0 (.t 1)⟩,
  ⟨none, some 26, .load 1 false (.t 25)⟩,
  ⟨none, some 27, .mov (.k (.lit (.int .i64 0)))⟩]
@[simp] def r_tally_Division_look_7 : List AI := [⟨none, some 24, .bin .add (.t 12) (.k (.lit (.int .i64 1)))⟩,
  ⟨none, some 12, .mov (.t 24)⟩]
@[simp] def r_tally_Division_look_8 : List AI := [⟨none, some 16, .padd 0 (.t 5)⟩,
  ⟨none, some 17, .load 1 false (.t 16)⟩,
  ⟨none, some 18, .padd 1 (.t 5)⟩,
  ⟨none, some 19, .load 1 false (.t 18)⟩,
  ⟨none, some 20, .padd 11 (.t 3)⟩,
  ⟨none, some 21, .idxA 40 1 (.t 20) (.t 17)⟩,
  ⟨none, none, .store 1 (.t 21) (.k (.lit (.bool true)))⟩,
  ⟨none, some 22, .padd 11 (.t 3)⟩,
  ⟨none, some 23, .idxA 40 1 (.t 22) (.t 19)⟩,
  ⟨none, none, .store 1 (.t 23) (.k (.lit (.bool true)))⟩]
@[simp] def r_tally_Division_look_9 : List AI := [⟨none, some 14, .idxS 2 (.t 10) (.t 12)⟩,
  ⟨none, some 15, .load 2 true (.t 14)⟩,
  ⟨none, some 5, .alloc ty_tally_Pair [.lit (.int .i64 0), .lit (.int .i64 0)]⟩,
  ⟨none, none, .store 2 (.t 5) (.t 15)⟩]
@[simp] def r_tally_Division_look_10 : List AI := [⟨none, some 13, .bin .lss (.t 12) (.t 11)⟩]
def l_tally_Division_look_1 : AC :=
 (.seq (.reg r_tally_Division_look_10)
 (.seq (.cond (.t 13)
 .skip
 (.exit 0))
 (.seq (.block 1
 (.seq (.seq (.reg r_tally_Division_look_9) (.keep [1, 2, 3, 5, 10, 11, 12]))
 (.seq (.draw r_tally_Division_look_8 0 [(3, 6)] [0, 1, 4, 5, 6, 2, 3, 7, 8, 9]) (.keep [1, 2, 3, 10, 11, 12]))))
 (.seq (.reg r_tally_Division_look_7) (.keep [1, 2, 3, 10, 11, 12])))))
@[simp] def r_tally_Division_look_12 : List AI := [⟨none, some 9, .padd 5 (.t 1)⟩,
  ⟨none, some 10, .load 1 false (.t 9)⟩,
  ⟨none, some 11, .lenS (.t 10)⟩,
  ⟨none, some 12, .mov (.k (.lit (.int .i64 0)))⟩]
@[simp] def r_tally_Division_look_13 : List AI := [⟨none, some 7, .load 11 true (.t 1)⟩,
  ⟨none, some 8, .build z_tally_looked [(0, 11, (.t 7))]⟩,
  ⟨none, some 3, .alloc ty_tally_looked z_tally_looked⟩,
  ⟨none, none, .store 91 (.t 3) (.t 8)⟩]
@[simp] def r_tally_Division_look_14 : List AI := [⟨none, some 1, .box ty_tally_Division (.t 0)⟩,
  ⟨none, some 2, .alloc ty_tally_looked z_tally_looked⟩]
def a_tally_Division_look : AFn := { nparams := 1, res := [.cell 2 91 true], body :=
 (.seq (.reg r_tally_Division_look_14)
 (.seq (.seq (.reg r_tally_Division_look_13) (.keep [1, 2, 3]))
 (.seq (.seq (.seq (.reg r_tally_Division_look_12) (.keep [1, 2, 3, 10, 11, 12]))
 (.block 0
 (.loop [1, 2, 3, 10, 11, 12] l_tally_Division_look_1)))
 (.seq (.seq (.seq (.reg r_tally_Division_look_6) (.keep [1, 2, 3, 26, 27]))
 (.block 2
 (.loop [1, 2, 3, 26, 27] l_tally_Division_look_0)))
 (.seq (.seq (.reg r_tally_Division_look_0) (.keep [2]))
 .ret))))) }
@[simp] def r_tally_looked_clash_0 : List AI := [⟨none, some 19, .mov (.t 2)⟩,
  ⟨none, some 20, .mov (.t 3)⟩,
  ⟨none, some 2, .mov (.t 19)⟩,
  ⟨none, some 3, .mov (.t 20)⟩]
@[simp] def r_tally_looked_clash_1 : List AI := [⟨none, some 18, .bin .add (.t 8) (.k (.lit (.int .i64 1)))⟩,
  ⟨none, some 8, .mov (.t 18)⟩]
@[simp] def r_tally_looked_clash_2 : List AI := [⟨none, some 17, .mov (.t 4)⟩,
  ⟨none, some 2, .mov (.t 17)⟩,
  ⟨none, some 3, .mov (.k (.lit (.bool true)))⟩]
@[simp] def r_tally_looked_clash_3 : List AI := [⟨none, some 11, .mov (.t 4)⟩,
  ⟨none, some 12, .padd 51 (.t 1)⟩,
  ⟨none, some 13, .idxA 40 1 (.t 12) (.t 11)⟩,
  ⟨none, some 14, .load 1 false (.t 13)⟩,
  ⟨none, some 15, .lenS (.t 14)⟩,
  ⟨none, some 16, .bin .eql (.t 15) (.k (.lit (.int .i64 0)))⟩]
@[simp] def r_tally_looked_clash_4 : List AI := [⟨none, some 10, .mov (.t 8)⟩,
  ⟨none, some 4, .mov (.t 10)⟩]
@[simp] def r_tally_looked_clash_5 : List AI := [⟨none, some 9, .bin .lss (.t 8) (.t 7)⟩]
def l_tally_looked_clash_0 : AC :=
 (.seq (.reg r_tally_looked_clash_5)
 (.seq (.cond (.t 9)
 .skip
 (.exit 0))
 (.seq (.block 1
 (.seq (.seq (.reg r_tally_looked_clash_4) (.keep [1, 2, 3, 4, 7, 8]))
 (.seq (.seq (.reg r_tally_looked_clash_3) (.keep [1, 2, 3, 4, 7, 8, 16]))
 (.cond (.t 16)
 (.seq (.seq (.reg r_tally_looked_clash_2) (.keep [2, 3]))
 (.exit 0))
 .skip))))
 (.seq (.reg r_tally_looked_clash_1) (.keep [1, 2, 3, 7, 8])))))
@[simp] def r_tally_looked_clash_7 : List AI := [⟨none, some 5, .padd 0 (.t 1)⟩,
  ⟨none, some 6, .padd 0 (.t 5)⟩,
  ⟨none, some 7, .load 1 false (.t 6)⟩,
  ⟨none, some 8, .mov (.k (.lit (.int .i64 0)))⟩]
@[simp] def r_tally_looked_clash_8 : List AI := [⟨none, some 1, .box ty_tally_looked (.t 0)⟩,
  ⟨none, some 2, .mov (.k (.lit (.int .i64 0)))⟩,
  ⟨none, some 3, .mov (.k (.lit (.bool false)))⟩]
def a_tally_looked_clash : AFn := { nparams := 1, res := [.tmp 2, .tmp 3], body :=
 (.seq (.reg r_tally_looked_clash_8)
 (.scope (.seq .label
 (.seq (.seq (.seq (.reg r_tally_looked_clash_7) (.keep [1, 2, 3, 7, 8]))
 (.block 0
 (.loop [1, 2, 3, 7, 8] l_tally_looked_clash_0)))
 (.seq (.seq (.reg r_tally_looked_clash_0) (.keep [2, 3]))
 .ret))))) }
@[simp] def r_ref07_On_0 : List AI := [⟨none, some 18, .mov (.t 5)⟩,
  ⟨none, some 4, .mov (.t 18)⟩]
@[simp] def r_ref07_On_1 : List AI := [⟨none, some 9, .mov (.t 6)⟩,
  ⟨none, some 10, .bin .add (.t 9) (.k (.lit (.int .i64 1)))⟩,
  ⟨none, some 6, .mov (.t 10)⟩]
@[simp] def r_ref07_On_2 : List AI := [⟨none, some 16, .mov (.t 5)⟩,
  ⟨none, some 17, .bin .add (.t 16) (.k (.lit (.int .i64 1)))⟩,
  ⟨none, some 5, .mov (.t 17)⟩]
@[simp] def r_ref07_On_3 : List AI := [⟨none, some 11, .mov (.t 6)⟩,
  ⟨none, some 12, .idxA 2 1 (.t 2) (.t 11)⟩,
  ⟨none, some 13, .load 1 false (.t 12)⟩,
  ⟨none, some 14, .mov (.t 1)⟩,
  ⟨none, some 15, .call (.k (.fn fn_ref07_Has [] [])) [(.t 13), (.t 14)]⟩]
@[simp] def r_ref07_On_4 : List AI := [⟨none, some 7, .mov (.t 6)⟩,
  ⟨none, some 8, .bin .lss (.t 7) (.k (.lit (.int .i64 2)))⟩]
def l_ref07_On_0 : AC :=
 (.seq (.seq (.seq (.reg r_ref07_On_4) (.keep [1, 2, 5, 6, 8]))
 (.cond (.t 8)
 .skip
 (.exit 0)))
 (.seq (.block 1
 (.seq (.seq (.reg r_ref07_On_3) (.keep [1, 2, 5, 6, 15]))
 (.cond (.t 15)
 (.seq (.reg r_ref07_On_2) (.keep [1, 2, 5, 6]))
 .skip)))
 (.seq (.reg r_ref07_On_1) (.keep [1, 2, 5, 6]))))
@[simp] def r_ref07_On_6 : List AI := [⟨none, some 6, .mov (.k (.lit (.int .i64 0)))⟩]
@[simp] def r_ref07_On_7 : List AI := [⟨none, some 5, .mov (.k (.lit (.int .i64 0)))⟩]
@[simp] def r_ref07_On_8 : List AI := [⟨none, some 2, .box ty_2_Sint (.t 0)⟩,
  ⟨none, some 4, .mov (.k (.lit (.int .i64 0)))⟩]
def a_ref07_On : AFn := { nparams := 2, res := [.tmp 4], body :=
 (.seq (.seq (.reg r_ref07_On_8) (.keep [1, 2]))
 (.seq (.reg r_ref07_On_7)
 (.seq (.seq (.reg r_ref07_On_6)
 (.block 0
 (.loop [1, 2, 5, 6] l_ref07_On_0)))
 (.seq (.seq (.reg r_ref07_On_0) (.keep [4]))
 .ret)))) }
@[simp] def r_slices_Clone_Suint8_uint8_0 : List AI := [⟨none, some 5, .slit ty_uint8 [.lit (.int .u8 0)] 0 1 []⟩,
  ⟨none, some 6, .mov (.t 0)⟩,
  ⟨none, some 7, .app ty_uint8 [.lit (.int .u8 0)] 1 1 (.t 5) (.t 6)⟩,
  ⟨none, some 2, .mov (.t 7)⟩]
@[simp] def r_slices_Clone_Suint8_uint8_1 : List AI := [⟨none, some 2, .mov (.k (.nil))⟩]
@[simp] def r_slices_Clone_Suint8_uint8_2 : List AI := [⟨none, some 3, .mov (.t 0)⟩,
  ⟨none, some 4, .eqnl false (.t 3)⟩]
@[simp] def r_slices_Clone_Suint8_uint8_3 : List AI := [⟨none, some 2, .mov (.k (.nil))⟩]
def a_slices_Clone_Suint8_uint8 : AFn := { nparams := 1, res := [.tmp 2], body :=
 (.seq (.reg r_slices_Clone_Suint8_uint8_3)
 (.seq (.seq (.seq (.reg r_slices_Clone_Suint8_uint8_2) (.keep [0, 4]))
 (.cond (.t 4)
 (.seq (.reg r_slices_Clone_Suint8_uint8_1)
 .ret)
 .skip))
 (.seq (.seq (.reg r_slices_Clone_Suint8_uint8_0) (.keep [2]))
 .ret))) }
@[simp] def r_tally_all_uint8_0 : List AI := [⟨none, some 5, .mov (.t 0)⟩,
  ⟨none, some 6, .mkfn fn_tally_all_uint8_1 [] [(.t 3)]⟩,
  ⟨none, some 7, .call (.k (.fn fn_slices_ContainsFunc_Suint8_uint8 [] [])) [(.t 5), (.t 6)]⟩,
  ⟨none, some 8, .not (.t 7)⟩,
  ⟨none, some 4, .mov (.t 8)⟩]
@[simp] def r_tally_all_uint8_1 : List AI := [⟨none, some 3, .box ty_func_uint8_bool (.t 1)⟩,
  ⟨none, some 4, .mov (.k (.lit (.bool false)))⟩]
def a_tally_all_uint8 : AFn := { nparams := 2, res := [.tmp 4], body :=
 (.seq (.seq (.reg r_tally_all_uint8_1) (.keep [0, 3]))
 (.seq (.seq (.reg r_tally_all_uint8_0) (.keep [4]))
 .ret)) }
@[simp] def r_tally_Count_1_0 : List AI := [⟨none, some 3, .mov (.t 0)⟩,
  ⟨none, some 4, .bin .leq (.t 3) (.k (.lit (.int .u8 2)))⟩,
  ⟨none, some 2, .mov (.t 4)⟩]
@[simp] def r_tally_Count_1_1 : List AI := [⟨none, some 2, .mov (.k (.lit (.bool false)))⟩]
def a_tally_Count_1 : AFn := { nparams := 1, res := [.tmp 2], body :=
 (.seq (.reg r_tally_Count_1_1)
 (.seq (.seq (.reg r_tally_Count_1_0) (.keep [2]))
 .ret)) }
@[simp] def r_tally_rising_0 : List AI := [⟨none, some 2, .mov (.k (.lit (.bool true)))⟩]
@[simp] def r_tally_rising_1 : List AI := [⟨none, some 23, .bin .add (.t 6) (.k (.lit (.int .i64 1)))⟩,
  ⟨none, some 6, .mov (.t 23)⟩]
@[simp] def r_tally_rising_2 : List AI := [⟨none, some 2, .mov (.k (.lit (.bool false)))⟩]
@[simp] def r_tally_rising_3 : List AI := [⟨none, some 9, .mov (.t 3)⟩,
  ⟨none, some 10, .bin .gtr (.t 9) (.k (.lit (.int .i64 0)))⟩,
  ⟨none, some 11, .mov (.t 10)⟩,
  ⟨some (11, true), some 12, .mov (.t 0)⟩,
  ⟨some (11, true), some 13, .mov (.t 3)⟩,
  ⟨some (11, true), some 14, .idxS 1 (.t 12) (.t 13)⟩,
  ⟨some (11, true), some 15, .load 1 false (.t 14)⟩,
  ⟨some (11, true), some 16, .mov (.t 0)⟩,
  ⟨some (11, true), some 17, .mov (.t 3)⟩,
  ⟨some (11, true), some 18, .bin .sub (.t 17) (.k (.lit (.int .i64 1)))⟩,
  ⟨some (11, true), some 19, .idxS 1 (.t 16) (.t 18)⟩,
  ⟨some (11, true), some 20, .load 1 false (.t 19)⟩,
  ⟨some (11, true), some 21, .bin .leq (.t 15) (.t 20)⟩,
  ⟨none, some 22, .pick (.t 11) (.t 21) (.k (.lit (.bool false)))⟩]
@[simp] def r_tally_rising_4 : List AI := [⟨none, some 8, .mov (.t 6)⟩,
  ⟨none, some 3, .mov (.t 8)⟩]
@[simp] def r_tally_rising_5 : List AI := [⟨none, some 7, .bin .lss (.t 6) (.t 5)⟩]
def l_tally_rising_0 : AC :=
 (.seq (.reg r_tally_rising_5)
 (.seq (.cond (.t 7)
 .skip
 (.exit 0))
 (.seq (.block 1
 (.seq (.seq (.reg r_tally_rising_4) (.keep [0, 3, 5, 6]))
 (.seq (.seq (.draw r_tally_rising_3 0 [] [0, 1, 2, 3, 4, 5, 6, 7, 8, 9, 10, 11, 12, 13]) (.keep [0, 5, 6, 22]))
 (.cond (.t 22)
 (.seq (.reg r_tally_rising_2)
 .ret)
 .skip))))
 (.seq (.reg r_tally_rising_1) (.keep [0, 5, 6])))))
@[simp] def r_tally_rising_7 : List AI := [⟨none, some 4, .mov (.t 0)⟩,
  ⟨none, some 5, .lenS (.t 4)⟩,
  ⟨none, some 6, .mov (.k (.lit (.int .i64 0)))⟩]
@[simp] def r_tally_rising_8 : List AI := [⟨none, some 2, .mov (.k (.lit (.bool false)))⟩]
def a_tally_rising : AFn := { nparams := 1, res := [.tmp 2], body :=
 (.seq (.reg r_tally_rising_8)
 (.seq (.seq (.seq (.reg r_tally_rising_7) (.keep [0, 5, 6]))
 (.block 0
 (.loop [0, 5, 6] l_tally_rising_0)))
 (.seq (.reg r_tally_rising_0)
 .ret))) }
@[simp] def r_tally_all_int_0 : List AI := [⟨none, some 5, .mov (.t 0)⟩,
  ⟨none, some 6, .mkfn fn_tally_all_int_1 [] [(.t 3)]⟩,
  ⟨none, some 7, .call (.k (.fn fn_slices_ContainsFunc_Sint_int [] [])) [(.t 5), (.t 6)]⟩,
  ⟨none, some 8, .not (.t 7)⟩,
  ⟨none, some 4, .mov (.t 8)⟩]
@[simp] def r_tally_all_int_1 : List AI := [⟨none, some 3, .box ty_func_int_bool_2 (.t 1)⟩,
  ⟨none, some 4, .mov (.k (.lit (.bool false)))⟩]
def a_tally_all_int : AFn := { nparams := 2, res := [.tmp 4], body :=
 (.seq (.seq (.reg r_tally_all_int_1) (.keep [0, 3]))
 (.seq (.seq (.reg r_tally_all_int_0) (.keep [4]))
 .ret)) }
@[simp] def r_tally_ProveAsk_1_0 : List AI := [⟨none, some 4, .load 1 false (.t 1)⟩,
  ⟨none, some 5, .mov (.t 0)⟩,
  ⟨none, some 6, .call (.k (.fn fn_slices_Contains_Sint_int [] [])) [(.t 4), (.t 5)]⟩,
  ⟨none, some 3, .mov (.t 6)⟩]
@[simp] def r_tally_ProveAsk_1_1 : List AI := [⟨none, some 3, .mov (.k (.lit (.bool false)))⟩]
def a_tally_ProveAsk_1 : AFn := { nparams := 2, res := [.tmp 3], body :=
 (.seq (.reg r_tally_ProveAsk_1_1)
 (.seq (.seq (.reg r_tally_ProveAsk_1_0) (.keep [3]))
 .ret)) }
@[simp] def r_slices_Contains_Sint_int_0 : List AI := [⟨none, some 5, .mov (.t 0)⟩,
  ⟨none, some 6, .mov (.t 1)⟩,
  ⟨none, some 7, .call (.k (.fn fn_slices_Index_Sint_int [] [])) [(.t 5), (.t 6)]⟩,
  ⟨none, some 8, .bin .geq (.t 7) (.k (.lit (.int .i64 0)))⟩,
  ⟨none, some 4, .mov (.t 8)⟩]
@[simp] def r_slices_Contains_Sint_int_1 : List AI := [⟨none, some 4, .mov (.k (.lit (.bool false)))⟩]
def a_slices_Contains_Sint_int : AFn := { nparams := 2, res := [.tmp 4], body :=
 (.seq (.reg r_slices_Contains_Sint_int_1)
 (.seq (.seq (.reg r_slices_Contains_Sint_int_0) (.keep [4]))
 .ret)) }
@[simp] def r_tally_looked_truths_1_0 : List AI := [⟨none, some 5, .load 1 false (.t 3)⟩,
  ⟨none, some 6, .build z_tally_truth []⟩,
  ⟨none, some 7, .call (.t 5) [(.t 6), (.k (.lit (.int .i64 0)))]⟩]
@[simp] def r_tally_looked_truths_1_1 : List AI := [⟨none, some 4, .mkfn fn_tally_looked_truths_1_1 [] [(.t 1), (.t 2), (.t 3)]⟩,
  ⟨none, none, .store 1 (.t 3) (.t 4)⟩]
@[simp] def r_tally_looked_truths_1_2 : List AI := [⟨none, some 3, .alloc ty_func_tally_truth_int_bool [.lit (.nilFunc)]⟩]
@[simp] def r_tally_looked_truths_1_3 : List AI := [⟨none, some 2, .box ty_func_tally_truth_bool (.t 0)⟩]
def a_tally_looked_truths_1 : AFn := { nparams := 2, res := [], body :=
 (.seq (.reg r_tally_looked_truths_1_3)
 (.seq (.reg r_tally_looked_truths_1_2)
 (.seq (.seq (.reg r_tally_looked_truths_1_1) (.keep [3]))
 (.seq (.reg r_tally_looked_truths_1_0) (.keep []))))) }
@[simp] def r_tally_looked_truths_1_1_0 : List AI := [⟨none, some 7, .mov (.k (.lit (.bool true)))⟩]
@[simp] def r_tally_looked_truths_1_1_1 : List AI := [⟨none, some 36, .bin .add (.t 23) (.k (.lit (.int .i64 1)))⟩,
  ⟨none, some 23, .mov (.t 36)⟩]
@[simp] def r_tally_looked_truths_1_1_2 : List AI := [⟨none, some 7, .mov (.k (.lit (.bool false)))⟩]
@[simp] def r_tally_looked_truths_1_1_3 : List AI := [⟨none, some 30, .load 1 false (.t 4)⟩,
  ⟨none, some 31, .load 40 true (.t 5)⟩,
  ⟨none, some 32, .mov (.t 1)⟩,
  ⟨none, some 33, .bin .add (.t 32) (.k (.lit (.int .i64 1)))⟩,
  ⟨none, some 34, .call (.t 30) [(.t 31), (.t 33)]⟩,
  ⟨none, some 35, .not (.t 34)⟩]
@[simp] def r_tally_looked_truths_1_1_4 : List AI := [⟨none, some 27, .mov (.t 1)⟩,
  ⟨none, some 28, .mov (.t 9)⟩,
  ⟨none, some 29, .idxA 40 1 (.t 5) (.t 27)⟩,
  ⟨none, none, .store 1 (.t 29) (.t 28)⟩]
@[simp] def r_tally_looked_truths_1_1_5 : List AI := [⟨none, some 25, .idxS 1 (.t 21) (.t 23)⟩,
  ⟨none, some 26, .load 1 false (.t 25)⟩,
  ⟨none, some 9, .mov (.t 26)⟩]
@[simp] def r_tally_looked_truths_1_1_6 : List AI := [⟨none, some 24, .bin .lss (.t 23) (.t 22)⟩]
def l_tally_looked_truths_1_1_0 : AC :=
 (.seq (.reg r_tally_looked_truths_1_1_6)
 (.seq (.cond (.t 24)
 .skip
 (.exit 0))
 (.seq (.block 1
 (.seq (.seq (.reg r_tally_looked_truths_1_1_5) (.keep [1, 4, 5, 9, 21, 22, 23]))
 (.seq (.seq (.reg r_tally_looked_truths_1_1_4) (.keep [1, 4, 5, 21, 22, 23]))
 (.seq (.seq (.reg r_tally_looked_truths_1_1_3) (.keep [1, 4, 5, 21, 22, 23, 35]))
 (.cond (.t 35)
 (.seq (.reg r_tally_looked_truths_1_1_2)
 .ret)
 .skip)))))
 (.seq (.reg r_tally_looked_truths_1_1_1) (.keep [1, 4, 5, 21, 22, 23])))))
@[simp] def r_tally_looked_truths_1_1_8 : List AI := [⟨none, some 18, .mov (.t 1)⟩,
  ⟨none, some 19, .padd 51 (.t 2)⟩,
  ⟨none, some 20, .idxA 40 1 (.t 19) (.t 18)⟩,
  ⟨none, some 21, .load 1 false (.t 20)⟩,
  ⟨none, some 22, .lenS (.t 21)⟩,
  ⟨none, some 23, .mov (.k (.lit (.int .i64 0)))⟩]
@[simp] def r_tally_looked_truths_1_1_9 : List AI := [⟨none, some 15, .load 1 false (.t 3)⟩,
  ⟨none, some 16, .load 40 true (.t 5)⟩,
  ⟨none, some 17, .call (.t 15) [(.t 16)]⟩,
  ⟨none, some 7, .mov (.t 17)⟩]
@[simp] def r_tally_looked_truths_1_1_10 : List AI := [⟨none, some 10, .mov (.t 1)⟩,
  ⟨none, some 11, .padd 0 (.t 2)⟩,
  ⟨none, some 12, .padd 0 (.t 11)⟩,
  ⟨none, some 13, .load 1 false (.t 12)⟩,
  ⟨none, some 14, .bin .eql (.t 10) (.t 13)⟩]
@[simp] def r_tally_looked_truths_1_1_11 : List AI := [⟨none, some 5, .box ty_tally_truth (.t 0)⟩,
  ⟨none, some 7, .mov (.k (.lit (.bool false)))⟩]
def a_tally_looked_truths_1_1 : AFn := { nparams := 5, res := [.tmp 7], body :=
 (.seq (.seq (.reg r_tally_looked_truths_1_1_11) (.keep [1, 2, 3, 4, 5]))
 (.seq (.seq (.seq (.reg r_tally_looked_truths_1_1_10) (.keep [1, 2, 3, 4, 5, 14]))
 (.cond (.t 14)
 (.seq (.seq (.reg r_tally_looked_truths_1_1_9) (.keep [7]))
 .ret)
 .skip))
 (.seq (.seq (.seq (.reg r_tally_looked_truths_1_1_8) (.keep [1, 4, 5, 21, 22, 23]))
 (.block 0
 (.loop [1, 4, 5, 21, 22, 23] l_tally_looked_truths_1_1_0)))
 (.seq (.reg r_tally_looked_truths_1_1_0)
 .ret)))) }
@[simp] def r_tally_looked_numbers_1_0 : List AI := [⟨none, some 6, .padd 0 (.t 1)⟩,
  ⟨none, some 7, .load 1 false (.t 6)⟩,
  ⟨none, some 8, .bin .add (.t 7) (.k (.lit (.int .i64 1)))⟩,
  ⟨none, some 9, .padd 0 (.t 1)⟩,
  ⟨none, none, .store 1 (.t 9) (.t 8)⟩]
@[simp] def r_tally_looked_numbers_1_1 : List AI := [⟨none, some 12, .padd 1 (.t 1)⟩,
  ⟨none, some 13, .load 1 false (.t 12)⟩,
  ⟨none, some 14, .bin .add (.t 13) (.k (.lit (.int .i64 1)))⟩,
  ⟨none, some 15, .padd 1 (.t 1)⟩,
  ⟨none, none, .store 1 (.t 15) (.t 14)⟩]
@[simp] def r_tally_looked_numbers_1_2 : List AI := [⟨none, some 11, .bin .eql (.t 3) (.k (.lit (.int .u8 2)))⟩,
  ⟨none, some 10, .mov (.t 11)⟩]
@[simp] def r_tally_looked_numbers_1_3 : List AI := [⟨none, some 5, .bin .eql (.t 3) (.k (.lit (.int .u8 1)))⟩,
  ⟨none, some 4, .mov (.t 5)⟩]
@[simp] def r_tally_looked_numbers_1_4 : List AI := [⟨none, some 3, .mov (.t 0)⟩]
def a_tally_looked_numbers_1 : AFn := { nparams := 2, res := [], body :=
 (.seq (.reg r_tally_looked_numbers_1_4)
 (.block 0
 (.seq (.seq (.reg r_tally_looked_numbers_1_3) (.keep [1, 3, 4]))
 (.cond (.t 4)
 (.seq (.reg r_tally_looked_numbers_1_0) (.keep []))
 (.seq (.seq (.reg r_tally_looked_numbers_1_2) (.keep [1, 10]))
 (.cond (.t 10)
 (.seq (.reg r_tally_looked_numbers_1_1) (.keep []))
 .skip)))))) }
@[simp] def r_slices_Min_Sint_int_0 : List AI := [⟨none, some 24, .mov (.t 3)⟩,
  ⟨none, some 2, .mov (.t 24)⟩]
@[simp] def r_slices_Min_Sint_int_1 : List AI := [⟨none, some 16, .mov (.t 4)⟩,
  ⟨none, some 17, .bin .add (.t 16) (.k (.lit (.int .i64 1)))⟩,
  ⟨none, some 4, .mov (.t 17)⟩]
@[simp] def r_slices_Min_Sint_int_2 : List AI := [⟨none, some 18, .mov (.t 3)⟩,
  ⟨none, some 19, .mov (.t 0)⟩,
  ⟨none, some 20, .mov (.t 4)⟩,
  ⟨none, some 21, .idxS 1 (.t 19) (.t 20)⟩,
  ⟨none, some 22, .load 1 false (.t 21)⟩,
  ⟨none, some 23, .min (.t 18) (.t 22)⟩,
  ⟨none, some 3, .mov (.t 23)⟩]
@[simp] def r_slices_Min_Sint_int_3 : List AI := [⟨none, some 12, .mov (.t 4)⟩,
  ⟨none, some 13, .mov (.t 0)⟩,
  ⟨none, some 14, .lenS (.t 13)⟩,
  ⟨none, some 15, .bin .lss (.t 12) (.t 14)⟩]
def l_slices_Min_Sint_int_0 : AC :=
 (.seq (.seq (.seq (.reg r_slices_Min_Sint_int_3) (.keep [0, 3, 4, 15]))
 (.cond (.t 15)
 .skip
 (.exit 0)))
 (.seq (.block 1
 (.seq (.reg r_slices_Min_Sint_int_2) (.keep [0, 3, 4])))
 (.seq (.reg r_slices_Min_Sint_int_1) (.keep [0, 3, 4]))))
@[simp] def r_slices_Min_Sint_int_5 : List AI := [⟨none, some 4, .mov (.k (.lit (.int .i64 1)))⟩]
@[simp] def r_slices_Min_Sint_int_6 : List AI := [⟨none, some 9, .mov (.t 0)⟩,
  ⟨none, some 10, .idxS 1 (.t 9) (.k (.lit (.int .i64 0)))⟩,
  ⟨none, some 11, .load 1 false (.t 10)⟩,
  ⟨none, some 3, .mov (.t 11)⟩]
@[simp] def r_slices_Min_Sint_int_7 : List AI := [⟨none, some 8, .mkif ty_string (.k (.lit (.string ⟨#[115, 108, 105, 99, 101, 115, 46, 77, 105, 110, 58, 32, 101, 109, 112, 116, 121, 32, 108, 105, 115, 116]⟩)))⟩,
  ⟨none, none, .pan (.t 8)⟩]
@[simp] def r_slices_Min_Sint_int_8 : List AI := [⟨none, some 5, .mov (.t 0)⟩,
  ⟨none, some 6, .lenS (.t 5)⟩,
  ⟨none, some 7, .bin .lss (.t 6) (.k (.lit (.int .i64 1)))⟩]
@[simp] def r_slices_Min_Sint_int_9 : List AI := [⟨none, some 2, .mov (.k (.lit (.int .i64 0)))⟩]
def a_slices_Min_Sint_int : AFn := { nparams := 1, res := [.tmp 2], body :=
 (.seq (.reg r_slices_Min_Sint_int_9)
 (.seq (.seq (.seq (.reg r_slices_Min_Sint_int_8) (.keep [0, 7]))
 (.cond (.t 7)
 (.seq (.reg r_slices_Min_Sint_int_7) (.keep [0]))
 .skip))
 (.seq (.seq (.reg r_slices_Min_Sint_int_6) (.keep [0, 3]))
 (.seq (.seq (.reg r_slices_Min_Sint_int_5)
 (.block 0
 (.loop [0, 3, 4] l_slices_Min_Sint_int_0)))
 (.seq (.seq (.reg r_slices_Min_Sint_int_0) (.keep [2]))
 .ret))))) }
@[simp] def r_slices_Max_Sint_int_0 : List AI := [⟨none, some 24, .mov (.t 3)⟩,
  ⟨none, some 2, .mov (.t 24)⟩]
@[simp] def r_slices_Max_Sint_int_1 : List AI := [⟨none, some 16, .mov (.t 4)⟩,
  ⟨none, some 17, .bin .add (.t 16) (.k (.lit (.int .i64 1)))⟩,
  ⟨none, some 4, .mov (.t 17)⟩]
@[simp] def r_slices_Max_Sint_int_2 : List AI := [⟨none, some 18, .mov (.t 3)⟩,
  ⟨none, some 19, .mov (.t 0)⟩,
  ⟨none, some 20, .mov (.t 4)⟩,
  ⟨none, some 21, .idxS 1 (.t 19) (.t 20)⟩,
  ⟨none, some 22, .load 1 false (.t 21)⟩,
  ⟨none, some 23, .max (.t 18) (.t 22)⟩,
  ⟨none, some 3, .mov (.t 23)⟩]
@[simp] def r_slices_Max_Sint_int_3 : List AI := [⟨none, some 12, .mov (.t 4)⟩,
  ⟨none, some 13, .mov (.t 0)⟩,
  ⟨none, some 14, .lenS (.t 13)⟩,
  ⟨none, some 15, .bin .lss (.t 12) (.t 14)⟩]
def l_slices_Max_Sint_int_0 : AC :=
 (.seq (.seq (.seq (.reg r_slices_Max_Sint_int_3) (.keep [0, 3, 4, 15]))
 (.cond (.t 15)
 .skip
 (.exit 0)))
 (.seq (.block 1
 (.seq (.reg r_slices_Max_Sint_int_2) (.keep [0, 3, 4])))
 (.seq (.reg r_slices_Max_Sint_int_1) (.keep [0, 3, 4]))))
@[simp] def r_slices_Max_Sint_int_5 : List AI := [⟨none, some 4, .mov (.k (.lit (.int .i64 1)))⟩]
@[simp] def r_slices_Max_Sint_int_6 : List AI := [⟨none, some 9, .mov (.t 0)⟩,
  ⟨none, some 10, .idxS 1 (.t 9) (.k (.lit (.int .i64 0)))⟩,
  ⟨none, some 11, .load 1 false (.t 10)⟩,
  ⟨none, some 3, .mov (.t 11)⟩]
@[simp] def r_slices_Max_Sint_int_7 : List AI := [⟨none, some 8, .mkif ty_string (.k (.lit (.string ⟨#[115, 108, 105, 99, 101, 115, 46, 77, 97, 120, 58, 32, 101, 109, 112, 116, 121, 32, 108, 105, 115, 116]⟩)))⟩,
  ⟨none, none, .pan (.t 8)⟩]
@[simp] def r_slices_Max_Sint_int_8 : List AI := [⟨none, some 5, .mov (.t 0)⟩,
  ⟨none, some 6, .lenS (.t 5)⟩,
  ⟨none, some 7, .bin .lss (.t 6) (.k (.lit (.int .i64 1)))⟩]
@[simp] def r_slices_Max_Sint_int_9 : List AI := [⟨none, some 2, .mov (.k (.lit (.int .i64 0)))⟩]
def a_slices_Max_Sint_int : AFn := { nparams := 1, res := [.tmp 2], body :=
 (.seq (.reg r_slices_Max_Sint_int_9)
 (.seq (.seq (.seq (.reg r_slices_Max_Sint_int_8) (.keep [0, 7]))
 (.cond (.t 7)
 (.seq (.reg r_slices_Max_Sint_int_7) (.keep [0]))
 .skip))
 (.seq (.seq (.reg r_slices_Max_Sint_int_6) (.keep [0, 3]))
 (.seq (.seq (.reg r_slices_Max_Sint_int_5)
 (.block 0
 (.loop [0, 3, 4] l_slices_Max_Sint_int_0)))
 (.seq (.seq (.reg r_slices_Max_Sint_int_0) (.keep [2]))
 .ret))))) }
@[simp] def r_ref07_Rising_0 : List AI := [⟨none, some 2, .mov (.k (.lit (.bool true)))⟩]
@[simp] def r_ref07_Rising_1 : List AI := [⟨none, some 8, .mov (.t 3)⟩,
  ⟨none, some 9, .bin .add (.t 8) (.k (.lit (.int .i64 1)))⟩,
  ⟨none, some 3, .mov (.t 9)⟩]
@[simp] def r_ref07_Rising_2 : List AI := [⟨none, some 2, .mov (.k (.lit (.bool false)))⟩]
@[simp] def r_ref07_Rising_3 : List AI := [⟨none, some 10, .mov (.t 0)⟩,
  ⟨none, some 11, .mov (.t 3)⟩,
  ⟨none, some 12, .idxS 1 (.t 10) (.t 11)⟩,
  ⟨none, some 13, .load 1 false (.t 12)⟩,
  ⟨none, some 14, .mov (.t 0)⟩,
  ⟨none, some 15, .mov (.t 3)⟩,
  ⟨none, some 16, .bin .sub (.t 15) (.k (.lit (.int .i64 1)))⟩,
  ⟨none, some 17, .idxS 1 (.t 14) (.t 16)⟩,
  ⟨none, some 18, .load 1 false (.t 17)⟩,
  ⟨none, some 19, .bin .leq (.t 13) (.t 18)⟩]
@[simp] def r_ref07_Rising_4 : List AI := [⟨none, some 4, .mov (.t 3)⟩,
  ⟨none, some 5, .mov (.t 0)⟩,
  ⟨none, some 6, .lenS (.t 5)⟩,
  ⟨none, some 7, .bin .lss (.t 4) (.t 6)⟩]
def l_ref07_Rising_0 : AC :=
 (.seq (.seq (.seq (.reg r_ref07_Rising_4) (.keep [0, 3, 7]))
 (.cond (.t 7)
 .skip
 (.exit 0)))
 (.seq (.block 1
 (.seq (.seq (.draw r_ref07_Rising_3 0 [] [0, 1, 2, 3, 4, 5, 6, 7, 8, 9]) (.keep [0, 3, 19]))
 (.cond (.t 19)
 (.seq (.reg r_ref07_Rising_2)
 .ret)
 .skip)))
 (.seq (.reg r_ref07_Rising_1) (.keep [0, 3]))))
@[simp] def r_ref07_Rising_6 : List AI := [⟨none, some 3, .mov (.k (.lit (.int .i64 1)))⟩]
@[simp] def r_ref07_Rising_7 : List AI := [⟨none, some 2, .mov (.k (.lit (.bool false)))⟩]
def a_ref07_Rising : AFn := { nparams := 1, res := [.tmp 2], body :=
 (.seq (.reg r_ref07_Rising_7)
 (.seq (.seq (.reg r_ref07_Rising_6)
 (.block 0
 (.loop [0, 3] l_ref07_Rising_0)))
 (.seq (.reg r_ref07_Rising_0)
 .ret))) }
@[simp] def r_tally_rules_0 : List AI := [⟨none, some 2, .mkfn fn_tally_rules_2 [] [(.t 1)]⟩,
  ⟨none, some 3, .build [.lit (.nilFunc)] [(0, 1, (.t 2))]⟩,
  ⟨none, some 4, .mkfn fn_tally_rules_3 [] [(.t 1)]⟩,
  ⟨none, some 5, .build [.lit (.nilFunc)] [(0, 1, (.t 4))]⟩,
  ⟨none, some 6, .build [.lit (.nilFunc)] [(0, 1, (.k (.fn fn_tally_rules_4 [] [])))]⟩,
  ⟨none, some 7, .slit ty_tally_rule [.lit (.nilFunc)] 3 1 [(0, 1, (.t 3)), (1, 1, (.t 5)), (2, 1, (.t 6))]⟩,
  ⟨none, some 0, .mov (.t 7)⟩]
@[simp] def r_tally_rules_1 : List AI := [⟨none, some 1, .alloc ty_func_tally_Division_bool [.lit (.nilFunc)]⟩,
  ⟨none, none, .store 1 (.t 1) (.k (.fn fn_tally_rules_1 [] []))⟩]
@[simp] def r_tally_rules_2 : List AI := [⟨none, some 0, .mov (.k (.nil))⟩]
def a_tally_rules : AFn := { nparams := 0, res := [.tmp 0], body :=
 (.seq (.reg r_tally_rules_2)
 (.seq (.reg r_tally_rules_1)
 (.seq (.seq (.reg r_tally_rules_0) (.keep [0]))
 .ret))) }
@[simp] def r_slices_Index_Suint8_uint8_0 : List AI := [⟨none, some 4, .mov (.k (.lit (.int .i64 (-1))))⟩]
@[simp] def r_slices_Index_Suint8_uint8_1 : List AI := [⟨none, some 18, .bin .add (.t 8) (.k (.lit (.int .i64 1)))⟩,
  ⟨none, some 8, .mov (.t 18)⟩]
@[simp] def r_slices_Index_Suint8_uint8_2 : List AI := [⟨none, some 17, .mov (.t 5)⟩,
  ⟨none, some 4, .mov (.t 17)⟩]
@[simp] def r_slices_Index_Suint8_uint8_3 : List AI := [⟨none, some 11, .mov (.t 1)⟩,
  ⟨none, some 12, .mov (.t 0)⟩,
  ⟨none, some 13, .mov (.t 5)⟩,
  ⟨none, some 14, .idxS 1 (.t 12) (.t 13)⟩,
  ⟨none, some 15, .load 1 false (.t 14)⟩,
  ⟨none, some 16, .bin .eql (.t 11) (.t 15)⟩]
@[simp] def r_slices_Index_Suint8_uint8_4 : List AI := [⟨none, some 10, .mov (.t 8)⟩,
  ⟨none, some 5, .mov (.t 10)⟩]
@[simp] def r_slices_Index_Suint8_uint8_5 : List AI := [⟨none, some 9, .bin .lss (.t 8) (.t 7)⟩]
def l_slices_Index_Suint8_uint8_0 : AC :=
 (.seq (.reg r_slices_Index_Suint8_uint8_5)
 (.seq (.cond (.t 9)
 .skip
 (.exit 0))
 (.seq (.block 1
 (.seq (.seq (.reg r_slices_Index_Suint8_uint8_4) (.keep [0, 1, 5, 7, 8]))
 (.seq (.seq (.reg r_slices_Index_Suint8_uint8_3) (.keep [0, 1, 5, 7, 8, 16]))
 (.cond (.t 16)
 (.seq (.seq (.reg r_slices_Index_Suint8_uint8_2) (.keep [4]))
 .ret)
 .skip))))
 (.seq (.reg r_slices_Index_Suint8_uint8_1) (.keep [0, 1, 7, 8])))))
@[simp] def r_slices_Index_Suint8_uint8_7 : List AI := [⟨none, some 6, .mov (.t 0)⟩,
  ⟨none, some 7, .lenS (.t 6)⟩,
  ⟨none, some 8, .mov (.k (.lit (.int .i64 0)))⟩]
@[simp] def r_slices_Index_Suint8_uint8_8 : List AI := [⟨none, some 4, .mov (.k (.lit (.int .i64 0)))⟩]
def a_slices_Index_Suint8_uint8 : AFn := { nparams := 2, res := [.tmp 4], body :=
 (.seq (.reg r_slices_Index_Suint8_uint8_8)
 (.seq (.seq (.seq (.reg r_slices_Index_Suint8_uint8_7) (.keep [0, 1, 7, 8]))
 (.block 0
 (.loop [0, 1, 7, 8] l_slices_Index_Suint8_uint8_0)))
 (.seq (.reg r_slices_Index_Suint8_uint8_0)
 .ret))) }
@[simp] def r_slices_pdqsortOrdered_uint8_0 : List AI := [⟨none, some 122, .mov (.t 14)⟩,
  ⟨none, some 123, .bin .add (.t 122) (.k (.lit (.int .i64 1)))⟩,
  ⟨none, some 1, .mov (.t 123)⟩]
@[simp] def r_slices_pdqsortOrdered_uint8_1 : List AI := [⟨none, some 117, .mov (.t 0)⟩,
  ⟨none, some 118, .mov (.t 1)⟩,
  ⟨none, some 119, .mov (.t 14)⟩,
  ⟨none, some 120, .mov (.t 3)⟩,
  ⟨none, some 121, .call (.k (.fn fn_slices_pdqsortOrdered_uint8 [] [])) [(.t 117), (.t 118), (.t 119), (.t 120)]⟩]
@[simp] def r_slices_pdqsortOrdered_uint8_2 : List AI := [⟨none, some 114, .mov (.t 16)⟩,
  ⟨none, some 115, .mov (.t 18)⟩,
  ⟨none, some 116, .bin .geq (.t 114) (.t 115)⟩,
  ⟨none, some 8, .mov (.t 116)⟩]
@[simp] def r_slices_pdqsortOrdered_uint8_3 : List AI := [⟨none, some 133, .mov (.t 14)⟩,
  ⟨none, some 2, .mov (.t 133)⟩]
@[simp] def r_slices_pdqsortOrdered_uint8_4 : List AI := [⟨none, some 127, .mov (.t 0)⟩,
  ⟨none, some 128, .mov (.t 14)⟩,
  ⟨none, some 129, .bin .add (.t 128) (.k (.lit (.int .i64 1)))⟩,
  ⟨none, some 130, .mov (.t 2)⟩,
  ⟨none, some 131, .mov (.t 3)⟩,
  ⟨none, some 132, .call (.k (.fn fn_slices_pdqsortOrdered_uint8 [] [])) [(.t 127), (.t 129), (.t 130), (.t 131)]⟩]
@[simp] def r_slices_pdqsortOrdered_uint8_5 : List AI := [⟨none, some 124, .mov (.t 17)⟩,
  ⟨none, some 125, .mov (.t 18)⟩,
  ⟨none, some 126, .bin .geq (.t 124) (.t 125)⟩,
  ⟨none, some 8, .mov (.t 126)⟩]
@[simp] def r_slices_pdqsortOrdered_uint8_6 : List AI := [⟨none, some 111, .mov (.t 16)⟩,
  ⟨none, some 112, .mov (.t 17)⟩,
  ⟨none, some 113, .bin .lss (.t 111) (.t 112)⟩]
@[simp] def r_slices_pdqsortOrdered_uint8_7 : List AI := [⟨none, some 109, .mov (.t 10)⟩,
  ⟨none, some 110, .bin .quo (.t 109) (.k (.lit (.int .i64 8)))⟩,
  ⟨none, some 18, .mov (.t 110)⟩]
@[simp] def r_slices_pdqsortOrdered_uint8_8 : List AI := [⟨none, some 103, .mov (.t 14)⟩,
  ⟨none, some 104, .mov (.t 1)⟩,
  ⟨none, some 105, .bin .sub (.t 103) (.t 104)⟩,
  ⟨none, some 106, .mov (.t 2)⟩,
  ⟨none, some 107, .mov (.t 14)⟩,
  ⟨none, some 108, .bin .sub (.t 106) (.t 107)⟩,
  ⟨none, some 16, .mov (.t 105)⟩,
  ⟨none, some 17, .mov (.t 108)⟩]
@[simp] def r_slices_pdqsortOrdered_uint8_9 : List AI := [⟨none, some 102, .mov (.t 15)⟩,
  ⟨none, some 9, .mov (.t 102)⟩]
@[simp] def r_slices_pdqsortOrdered_uint8_10 : List AI := [⟨none, some 95, .mov (.t 0)⟩,
  ⟨none, some 96, .mov (.t 1)⟩,
  ⟨none, some 97, .mov (.t 2)⟩,
  ⟨none, some 98, .mov (.t 11)⟩,
  ⟨none, some 99, .call (.k (.fn fn_slices_partitionOrdered_uint8 [] [])) [(.t 95), (.t 96), (.t 97), (.t 98)]⟩,
  ⟨none, some 94, .mov (.t 99)⟩,
  ⟨none, some 100, .ext 0 (.t 94)⟩,
  ⟨none, some 101, .ext 1 (.t 94)⟩,
  ⟨none, some 14, .mov (.t 100)⟩,
  ⟨none, some 15, .mov (.t 101)⟩]
@[simp] def r_slices_pdqsortOrdered_uint8_11 : List AI := [⟨none, some 93, .mov (.t 13)⟩,
  ⟨none, some 1, .mov (.t 93)⟩]
@[simp] def r_slices_pdqsortOrdered_uint8_12 : List AI := [⟨none, some 88, .mov (.t 0)⟩,
  ⟨none, some 89, .mov (.t 1)⟩,
  ⟨none, some 90, .mov (.t 2)⟩,
  ⟨none, some 91, .mov (.t 11)⟩,
  ⟨none, some 92, .call (.k (.fn fn_slices_partitionEqualOrdered_uint8 [] [])) [(.t 88), (.t 89), (.t 90), (.t 91)]⟩,
  ⟨none, some 13, .mov (.t 92)⟩]
@[simp] def r_slices_pdqsortOrdered_uint8_13 : List AI := [⟨none, some 73, .mov (.t 1)⟩,
  ⟨none, some 74, .bin .gtr (.t 73) (.k (.lit (.int .i64 0)))⟩,
  ⟨none, some 75, .mov (.t 74)⟩,
  ⟨some (75, true), some 76, .mov (.t 0)⟩,
  ⟨some (75, true), some 77, .mov (.t 1)⟩,
  ⟨some (75, true), some 78, .bin .sub (.t 77) (.k (.lit (.int .i64 1)))⟩,
  ⟨some (75, true), some 79, .idxS 1 (.t 76) (.t 78)⟩,
  ⟨some (75, true), some 80, .load 1 false (.t 79)⟩,
  ⟨some (75, true), some 81, .mov (.t 0)⟩,
  ⟨some (75, true), some 82, .mov (.t 11)⟩,
  ⟨some (75, true), some 83, .idxS 1 (.t 81) (.t 82)⟩,
  ⟨some (75, true), some 84, .load 1 false (.t 83)⟩,
  ⟨some (75, true), some 85, .call (.k (.fn fn_cmp_Less_uint8 [] [])) [(.t 80), (.t 84)]⟩,
  ⟨some (75, true), some 86, .not (.t 85)⟩,
  ⟨none, some 87, .pick (.t 75) (.t 86) (.k (.lit (.bool false)))⟩]
@[simp] def r_slices_pdqsortOrdered_uint8_14 : List AI := [⟨none, some 69, .mov (.t 0)⟩,
  ⟨none, some 70, .mov (.t 1)⟩,
  ⟨none, some 71, .mov (.t 2)⟩,
  ⟨none, some 72, .call (.k (.fn fn_slices_partialInsertionSortOrdered_uint8 [] [])) [(.t 69), (.t 70), (.t 71)]⟩]
@[simp] def r_slices_pdqsortOrdered_uint8_15 : List AI := [⟨none, some 61, .mov (.t 8)⟩,
  ⟨none, some 62, .mov (.t 61)⟩,
  ⟨some (62, true), some 63, .mov (.t 9)⟩,
  ⟨none, some 64, .pick (.t 62) (.t 63) (.k (.lit (.bool false)))⟩,
  ⟨none, some 65, .mov (.t 64)⟩,
  ⟨some (65, true), some 66, .mov (.t 12)⟩,
  ⟨some (65, true), some 67, .bin .eql (.t 66) (.k (.lit (.int .i64 1)))⟩,
  ⟨none, some 68, .pick (.t 65) (.t 67) (.k (.lit (.bool false)))⟩]
@[simp] def r_slices_pdqsortOrdered_uint8_16 : List AI := [⟨none, some 12, .mov (.k (.lit (.int .i64 1)))⟩]
@[simp] def r_slices_pdqsortOrdered_uint8_17 : List AI := [⟨none, some 55, .mov (.t 2)⟩,
  ⟨none, some 56, .bin .sub (.t 55) (.k (.lit (.int .i64 1)))⟩,
  ⟨none, some 57, .mov (.t 11)⟩,
  ⟨none, some 58, .mov (.t 1)⟩,
  ⟨none, some 59, .bin .sub (.t 57) (.t 58)⟩,
  ⟨none, some 60, .bin .sub (.t 56) (.t 59)⟩,
  ⟨none, some 11, .mov (.t 60)⟩]
@[simp] def r_slices_pdqsortOrdered_uint8_18 : List AI := [⟨none, some 51, .mov (.t 0)⟩,
  ⟨none, some 52, .mov (.t 1)⟩,
  ⟨none, some 53, .mov (.t 2)⟩,
  ⟨none, some 54, .call (.k (.fn fn_slices_reverseRangeOrdered_uint8 [] [])) [(.t 51), (.t 52), (.t 53)]⟩]
@[simp] def r_slices_pdqsortOrdered_uint8_19 : List AI := [⟨none, some 49, .mov (.t 12)⟩,
  ⟨none, some 50, .bin .eql (.t 49) (.k (.lit (.int .i64 2)))⟩]
@[simp] def r_slices_pdqsortOrdered_uint8_20 : List AI := [⟨none, some 43, .mov (.t 0)⟩,
  ⟨none, some 44, .mov (.t 1)⟩,
  ⟨none, some 45, .mov (.t 2)⟩,
  ⟨none, some 46, .call (.k (.fn fn_slices_choosePivotOrdered_uint8 [] [])) [(.t 43), (.t 44), (.t 45)]⟩,
  ⟨none, some 42, .mov (.t 46)⟩,
  ⟨none, some 47, .ext 0 (.t 42)⟩,
  ⟨none, some 48, .ext 1 (.t 42)⟩,
  ⟨none, some 11, .mov (.t 47)⟩,
  ⟨none, some 12, .mov (.t 48)⟩]
@[simp] def r_slices_pdqsortOrdered_uint8_21 : List AI := [⟨none, some 40, .mov (.t 3)⟩,
  ⟨none, some 41, .bin .sub (.t 40) (.k (.lit (.int .i64 1)))⟩,
  ⟨none, some 3, .mov (.t 41)⟩]
@[simp] def r_slices_pdqsortOrdered_uint8_22 : List AI := [⟨none, some 36, .mov (.t 0)⟩,
  ⟨none, some 37, .mov (.t 1)⟩,
  ⟨none, some 38, .mov (.t 2)⟩,
  ⟨none, some 39, .call (.k (.fn fn_slices_breakPatternsOrdered_uint8 [] [])) [(.t 36), (.t 37), (.t 38)]⟩]
@[simp] def r_slices_pdqsortOrdered_uint8_23 : List AI := [⟨none, some 34, .mov (.t 8)⟩,
  ⟨none, some 35, .not (.t 34)⟩]
@[simp] def r_slices_pdqsortOrdered_uint8_24 : List AI := [⟨none, some 30, .mov (.t 0)⟩,
  ⟨none, some 31, .mov (.t 1)⟩,
  ⟨none, some 32, .mov (.t 2)⟩,
  ⟨none, some 33, .call (.k (.fn fn_slices_heapSortOrdered_uint8 [] [])) [(.t 30), (.t 31), (.t 32)]⟩]
@[simp] def r_slices_pdqsortOrdered_uint8_25 : List AI := [⟨none, some 28, .mov (.t 3)⟩,
  ⟨none, some 29, .bin .eql (.t 28) (.k (.lit (.int .i64 0)))⟩]
@[simp] def r_slices_pdqsortOrdered_uint8_26 : List AI := [⟨none, some 24, .mov (.t 0)⟩,
  ⟨none, some 25, .mov (.t 1)⟩,
  ⟨none, some 26, .mov (.t 2)⟩,
  ⟨none, some 27, .call (.k (.fn fn_slices_insertionSortOrdered_uint8 [] [])) [(.t 24), (.t 25), (.t 26)]⟩]
@[simp] def r_slices_pdqsortOrdered_uint8_27 : List AI := [⟨none, some 22, .mov (.t 10)⟩,
  ⟨none, some 23, .bin .leq (.t 22) (.k (.lit (.int .i64 12)))⟩]
@[simp] def r_slices_pdqsortOrdered_uint8_28 : List AI := [⟨none, some 19, .mov (.t 2)⟩,
  ⟨none, some 20, .mov (.t 1)⟩,
  ⟨none, some 21, .bin .sub (.t 19) (.t 20)⟩,
  ⟨none, some 10, .mov (.t 21)⟩]
def l_slices_pdqsortOrdered_uint8_0 : AC :=
 (.block 1
 (.seq (.seq (.reg r_slices_pdqsortOrdered_uint8_28) (.keep [0, 1, 2, 3, 8, 9, 10]))
 (.seq (.seq (.seq (.reg r_slices_pdqsortOrdered_uint8_27) (.keep [0, 1, 2, 3, 8, 9, 10, 23]))
 (.cond (.t 23)
 (.seq (.seq (.reg r_slices_pdqsortOrdered_uint8_26) (.keep []))
 .ret)
 .skip))
 (.seq (.seq (.seq (.reg r_slices_pdqsortOrdered_uint8_25) (.keep [0, 1, 2, 3, 8, 9, 10, 29]))
 (.cond (.t 29)
 (.seq (.seq (.reg r_slices_pdqsortOrdered_uint8_24) (.keep []))
 .ret)
 .skip))
 (.seq (.seq (.seq (.reg r_slices_pdqsortOrdered_uint8_23) (.keep [0, 1, 2, 3, 8, 9, 10, 35]))
 (.cond (.t 35)
 (.seq (.seq (.reg r_slices_pdqsortOrdered_uint8_22) (.keep [0, 1, 2, 3, 8, 9, 10]))
 (.seq (.reg r_slices_pdqsortOrdered_uint8_21) (.keep [0, 1, 2, 3, 8, 9, 10])))
 .skip))
 (.seq (.seq (.reg r_slices_pdqsortOrdered_uint8_20) (.keep [0, 1, 2, 3, 8, 9, 10, 11, 12]))
 (.seq (.seq (.seq (.reg r_slices_pdqsortOrdered_uint8_19) (.keep [0, 1, 2, 3, 8, 9, 10, 11, 12, 50]))
 (.cond (.t 50)
 (.seq (.seq (.reg r_slices_pdqsortOrdered_uint8_18) (.keep [0, 1, 2, 3, 8, 9, 10, 11]))
 (.seq (.seq (.reg r_slices_pdqsortOrdered_uint8_17) (.keep [0, 1, 2, 3, 8, 9, 10, 11]))
 (.reg r_slices_pdqsortOrdered_uint8_16)))
 .skip))
 (.seq (.seq (.seq (.reg r_slices_pdqsortOrdered_uint8_15) (.keep [0, 1, 2, 3, 8, 9, 10, 11, 68]))
 (.cond (.t 68)
 (.seq (.seq (.reg r_slices_pdqsortOrdered_uint8_14) (.keep [0, 1, 2, 3, 8, 9, 10, 11, 72]))
 (.cond (.t 72)
 .ret
 .skip))
 .skip))
 (.seq (.seq (.seq (.draw r_slices_pdqsortOrdered_uint8_13 0 [] [0, 1, 2, 3, 4, 5, 6, 7, 8, 9, 10, 11, 12, 13, 14]) (.keep [0, 1, 2, 3, 8, 9, 10, 11, 87]))
 (.cond (.t 87)
 (.seq (.seq (.reg r_slices_pdqsortOrdered_uint8_12) (.keep [0, 2, 3, 8, 9, 13]))
 (.seq (.seq (.reg r_slices_pdqsortOrdered_uint8_11) (.keep [0, 1, 2, 3, 8, 9]))
 (.exit 1)))
 .skip))
 (.seq (.seq (.reg r_slices_pdqsortOrdered_uint8_10) (.keep [0, 1, 2, 3, 10, 14, 15]))
 (.seq (.seq (.reg r_slices_pdqsortOrdered_uint8_9) (.keep [0, 1, 2, 3, 9, 10, 14]))
 (.seq (.seq (.reg r_slices_pdqsortOrdered_uint8_8) (.keep [0, 1, 2, 3, 9, 10, 14, 16, 17]))
 (.seq (.seq (.reg r_slices_pdqsortOrdered_uint8_7) (.keep [0, 1, 2, 3, 9, 14, 16, 17, 18]))
 (.seq (.seq (.reg r_slices_pdqsortOrdered_uint8_6) (.keep [0, 1, 2, 3, 9, 14, 16, 17, 18, 113]))
 (.cond (.t 113)
 (.seq (.seq (.reg r_slices_pdqsortOrdered_uint8_2) (.keep [0, 1, 2, 3, 8, 9, 14]))
 (.seq (.seq (.reg r_slices_pdqsortOrdered_uint8_1) (.keep [0, 2, 3, 8, 9, 14]))
 (.seq (.reg r_slices_pdqsortOrdered_uint8_0) (.keep [0, 1, 2, 3, 8, 9]))))
 (.seq (.seq (.reg r_slices_pdqsortOrdered_uint8_5) (.keep [0, 1, 2, 3, 8, 9, 14]))
 (.seq (.seq (.reg r_slices_pdqsortOrdered_uint8_4) (.keep [0, 1, 3, 8, 9, 14]))
 (.seq (.reg r_slices_pdqsortOrdered_uint8_3) (.keep [0, 1, 2, 3, 8, 9])))))))))))))))))))
@[simp] def r_slices_pdqsortOrdered_uint8_30 : List AI := [⟨none, some 9, .mov (.k (.lit (.bool true)))⟩]
@[simp] def r_slices_pdqsortOrdered_uint8_31 : List AI := [⟨none, some 8, .mov (.k (.lit (.bool true)))⟩]
def a_slices_pdqsortOrdered_uint8 : AFn := { nparams := 4, res := [], body :=
 (.seq (.reg r_slices_pdqsortOrdered_uint8_31)
 (.seq (.reg r_slices_pdqsortOrdered_uint8_30)
 (.block 0
 (.loop [0, 1, 2, 3, 8, 9] l_slices_pdqsortOrdered_uint8_0)))) }
@[simp] def r_math_bits_Len_0 : List AI := [⟨none, some 6, .mov (.t 0)⟩,
  ⟨none, some 7, .call (.k (.fn fn_math_bits_Len64 [] [])) [(.t 6)]⟩,
  ⟨none, some 2, .mov (.t 7)⟩]
@[simp] def r_math_bits_Len_1 : List AI := [⟨none, some 3, .mov (.t 0)⟩,
  ⟨none, some 4, .conv .u32 (.t 3)⟩,
  ⟨none, some 5, .call (.k (.fn fn_math_bits_Len32 [] [])) [(.t 4)]⟩,
  ⟨none, some 2, .mov (.t 5)⟩]
@[simp] def r_math_bits_Len_2 : List AI := [⟨none, some 2, .mov (.k (.lit (.int .i64 0)))⟩]
def a_math_bits_Len : AFn := { nparams := 1, res := [.tmp 2], body :=
 (.seq (.reg r_math_bits_Len_2)
 (.seq (.cond (.k (.lit (.bool false)))
 (.seq (.seq (.reg r_math_bits_Len_1) (.keep [2]))
 .ret)
 .skip)
 (.seq (.seq (.reg r_math_bits_Len_0) (.keep [2]))
 .ret))) }
@[simp] def r_tally_within_0 : List AI := [⟨none, some 7, .mov (.t 1)⟩,
  ⟨none, some 8, .mov (.t 0)⟩,
  ⟨none, some 9, .bin .leq (.t 7) (.t 8)⟩,
  ⟨none, some 10, .mov (.t 9)⟩,
  ⟨some (10, true), some 11, .mov (.t 0)⟩,
  ⟨some (10, true), some 12, .mov (.t 2)⟩,
  ⟨some (10, true), some 13, .bin .leq (.t 11) (.t 12)⟩,
  ⟨none, some 14, .pick (.t 10) (.t 13) (.k (.lit (.bool false)))⟩,
  ⟨none, some 6, .mov (.t 14)⟩]
@[simp] def r_tally_within_1 : List AI := [⟨none, some 6, .mov (.k (.lit (.bool false)))⟩]
def a_tally_within : AFn := { nparams := 3, res := [.tmp 6], body :=
 (.seq (.reg r_tally_within_1)
 (.seq (.seq (.reg r_tally_within_0) (.keep [6]))
 .ret)) }
@[simp] def r_tally_all_Sint_0 : List AI := [⟨none, some 5, .mov (.t 0)⟩,
  ⟨none, some 6, .mkfn fn_tally_all_Sint_1 [] [(.t 3)]⟩,
  ⟨none, some 7, .call (.k (.fn fn_slices_ContainsFunc_SSint_Sint [] [])) [(.t 5), (.t 6)]⟩,
  ⟨none, some 8, .not (.t 7)⟩,
  ⟨none, some 4, .mov (.t 8)⟩]
@[simp] def r_tally_all_Sint_1 : List AI := [⟨none, some 3, .box ty_func_Sint_bool (.t 1)⟩,
  ⟨none, some 4, .mov (.k (.lit (.bool false)))⟩]
def a_tally_all_Sint : AFn := { nparams := 2, res := [.tmp 4], body :=
 (.seq (.seq (.reg r_tally_all_Sint_1) (.keep [0, 3]))
 (.seq (.seq (.reg r_tally_all_Sint_0) (.keep [4]))
 .ret)) }
@[simp] def r_tally_Division_listed_0 : List AI := [⟨none, some 5, .mov (.t 1)⟩,
  ⟨none, some 6, .load 11 true (.t 2)⟩,
  ⟨none, some 7, .mkfn fn_tally_Division_member [(.t 6)] []⟩,
  ⟨none, some 8, .call (.k (.fn fn_tally_all_int [] [])) [(.t 5), (.t 7)]⟩,
  ⟨none, some 9, .mov (.t 8)⟩,
  ⟨some (9, true), some 10, .mov (.t 1)⟩,
  ⟨some (9, true), some 11, .call (.k (.fn fn_tally_rising [] [])) [(.t 10)]⟩,
  ⟨none, some 12, .pick (.t 9) (.t 11) (.k (.lit (.bool false)))⟩,
  ⟨none, some 4, .mov (.t 12)⟩]
@[simp] def r_tally_Division_listed_1 : List AI := [⟨none, some 2, .box ty_tally_Division (.t 0)⟩,
  ⟨none, some 4, .mov (.k (.lit (.bool false)))⟩]
def a_tally_Division_listed : AFn := { nparams := 2, res := [.tmp 4], body :=
 (.seq (.seq (.reg r_tally_Division_listed_1) (.keep [1, 2]))
 (.seq (.seq (.reg r_tally_Division_listed_0) (.keep [4]))
 .ret)) }
@[simp] def r_tally_Division_bound_0 : List AI := [⟨none, some 92, .padd 6 (.t 1)⟩,
  ⟨none, some 93, .load 1 false (.t 92)⟩,
  ⟨none, some 94, .mkfn fn_tally_Division_bound_1 [] [(.t 4)]⟩,
  ⟨none, some 95, .call (.k (.fn fn_tally_all_tally_Proxy [] [])) [(.t 93), (.t 94)]⟩,
  ⟨none, some 2, .mov (.t 95)⟩]
@[simp] def r_tally_Division_bound_1 : List AI := [⟨none, some 91, .bin .add (.t 59) (.k (.lit (.int .i64 1)))⟩,
  ⟨none, some 59, .mov (.t 91)⟩]
@[simp] def r_tally_Division_bound_2 : List AI := [⟨none, some 88, .load 1 false (.t 4)⟩,
  ⟨none, some 89, .padd 1 (.t 8)⟩,
  ⟨none, some 90, .load 1 false (.t 89)⟩,
  ⟨none, none, .mupd none (.t 88) (.t 90) (.k (.lit (.bool true)))⟩]
@[simp] def r_tally_Division_bound_3 : List AI := [⟨none, some 2, .mov (.k (.lit (.bool false)))⟩]
@[simp] def r_tally_Division_bound_4 : List AI := [⟨none, some 63, .load 11 true (.t 1)⟩,
  ⟨none, some 64, .padd 0 (.t 8)⟩,
  ⟨none, some 65, .load 1 false (.t 64)⟩,
  ⟨none, some 66, .call (.k (.fn fn_tally_Division_member [] [])) [(.t 63), (.t 65)]⟩,
  ⟨none, some 67, .not (.t 66)⟩,
  ⟨none, some 68, .mov (.t 67)⟩,
  ⟨some (68, false), some 69, .load 11 true (.t 1)⟩,
  ⟨some (68, false), some 70, .padd 1 (.t 8)⟩,
  ⟨some (68, false), some 71, .load 1 false (.t 70)⟩,
  ⟨some (68, false), some 72, .call (.k (.fn fn_tally_Division_member [] [])) [(.t 69), (.t 71)]⟩,
  ⟨some (68, false), some 73, .not (.t 72)⟩,
  ⟨none, some 74, .pick (.t 68) (.k (.lit (.bool true))) (.t 73)⟩,
  ⟨none, some 75, .mov (.t 74)⟩,
  ⟨some (75, false), some 76, .padd 0 (.t 8)⟩,
  ⟨some (75, false), some 77, .load 1 false (.t 76)⟩,
  ⟨some (75, false), some 78, .padd 1 (.t 8)⟩,
  ⟨some (75, false), some 79, .load 1 false (.t 78)⟩,
  ⟨some (75, false), some 80, .bin .eql (.t 77) (.t 79)⟩,
  ⟨none, some 81, .pick (.t 75) (.k (.lit (.bool true))) (.t 80)⟩,
  ⟨none, some 82, .mov (.t 81)⟩,
  ⟨some (82, false), some 83, .load 1 false (.t 4)⟩,
  ⟨some (82, false), some 84, .padd 1 (.t 8)⟩,
  ⟨some (82, false), some 85, .load 1 false (.t 84)⟩,
  ⟨some (82, false), some 86, .look none (.lit (.bool false)) false (.t 83) (.t 85)⟩,
  ⟨none, some 87, .pick (.t 82) (.k (.lit (.bool true))) (.t 86)⟩]
@[simp] def r_tally_Division_bound_5 : List AI := [⟨none, some 61, .idxS 2 (.t 57) (.t 59)⟩,
  ⟨none, some 62, .load 2 true (.t 61)⟩,
  ⟨none, some 8, .alloc ty_tally_Proxy [.lit (.int .i64 0), .lit (.int .i64 0)]⟩,
  ⟨none, none, .store 2 (.t 8) (.t 62)⟩]
@[simp] def r_tally_Division_bound_6 : List AI := [⟨none, some 60, .bin .lss (.t 59) (.t 58)⟩]
def l_tally_Division_bound_0 : AC :=
 (.seq (.reg r_tally_Division_bound_6)
 (.seq (.cond (.t 60)
 .skip
 (.exit 2))
 (.seq (.block 3
 (.seq (.seq (.reg r_tally_Division_bound_5) (.keep [1, 4, 8, 57, 58, 59]))
 (.seq (.seq (.seq (.reg r_tally_Division_bound_4) (.keep [1, 4, 8, 57, 58, 59, 87]))
 (.cond (.t 87)
 (.seq (.reg r_tally_Division_bound_3)
 .ret)
 .skip))
 (.seq (.reg r_tally_Division_bound_2) (.keep [1, 4, 57, 58, 59])))))
 (.seq (.reg r_tally_Division_bound_1) (.keep [1, 4, 57, 58, 59])))))
@[simp] def r_tally_Division_bound_8 : List AI := [⟨none, some 56, .padd 6 (.t 1)⟩,
  ⟨none, some 57, .load 1 false (.t 56)⟩,
  ⟨none, some 58, .lenS (.t 57)⟩,
  ⟨none, some 59, .mov (.k (.lit (.int .i64 0)))⟩]
@[simp] def r_tally_Division_bound_9 : List AI := [⟨none, some 55, .bin .add (.t 14) (.k (.lit (.int .i64 1)))⟩,
  ⟨none, some 14, .mov (.t 55)⟩]
@[simp] def r_tally_Division_bound_10 : List AI := [⟨none, some 49, .mov (.t 3)⟩,
  ⟨none, some 50, .padd 0 (.t 6)⟩,
  ⟨none, some 51, .load 1 false (.t 50)⟩,
  ⟨none, some 52, .mov (.t 3)⟩,
  ⟨none, some 53, .padd 1 (.t 6)⟩,
  ⟨none, some 54, .load 1 false (.t 53)⟩,
  ⟨none, none, .mupd none (.t 49) (.t 51) (.k (.lit (.bool true)))⟩,
  ⟨none, none, .mupd none (.t 52) (.t 54) (.k (.lit (.bool true)))⟩]
@[simp] def r_tally_Division_bound_11 : List AI := [⟨none, some 2, .mov (.k (.lit (.bool false)))⟩]
@[simp] def r_tally_Division_bound_12 : List AI := [⟨none, some 18, .load 11 true (.t 1)⟩,
  ⟨none, some 19, .padd 0 (.t 6)⟩,
  ⟨none, some 20, .load 1 false (.t 19)⟩,
  ⟨none, some 21, .call (.k (.fn fn_tally_Division_member [] [])) [(.t 18), (.t 20)]⟩,
  ⟨none, some 22, .not (.t 21)⟩,
  ⟨none, some 23, .mov (.t 22)⟩,
  ⟨some (23, false), some 24, .load 11 true (.t 1)⟩,
  ⟨some (23, false), some 25, .padd 1 (.t 6)⟩,
  ⟨some (23, false), some 26, .load 1 false (.t 25)⟩,
  ⟨some (23, false), some 27, .call (.k (.fn fn_tally_Division_member [] [])) [(.t 24), (.t 26)]⟩,
  ⟨some (23, false), some 28, .not (.t 27)⟩,
  ⟨none, some 29, .pick (.t 23) (.k (.lit (.bool true))) (.t 28)⟩,
  ⟨none, some 30, .mov (.t 29)⟩,
  ⟨some (30, false), some 31, .padd 0 (.t 6)⟩,
  ⟨some (30, false), some 32, .load 1 false (.t 31)⟩,
  ⟨some (30, false), some 33, .padd 1 (.t 6)⟩,
  ⟨some (30, false), some 34, .load 1 false (.t 33)⟩,
  ⟨some (30, false), some 35, .bin .eql (.t 32) (.t 34)⟩,
  ⟨none, some 36, .pick (.t 30) (.k (.lit (.bool true))) (.t 35)⟩,
  ⟨none, some 37, .mov (.t 36)⟩,
  ⟨some (37, false), some 38, .mov (.t 3)⟩,
  ⟨some (37, false), some 39, .padd 0 (.t 6)⟩,
  ⟨some (37, false), some 40, .load 1 false (.t 39)⟩,
  ⟨some (37, false), some 41, .look none (.lit (.bool false)) false (.t 38) (.t 40)⟩,
  ⟨none, some 42, .pick (.t 37) (.k (.lit (.bool true))) (.t 41)⟩,
  ⟨none, some 43, .mov (.t 42)⟩,
  ⟨some (43, false), some 44, .mov (.t 3)⟩,
  ⟨some (43, false), some 45, .padd 1 (.t 6)⟩,
  ⟨some (43, false), some 46, .load 1 false (.t 45)⟩,
  ⟨some (43, false), some 47, .look none (.lit (.bool false)) false (.t 44) (.t 46)⟩,
  ⟨none, some 48, .pick (.t 43) (.k (.lit (.bool true))) (.t 47)⟩]
@[simp] def r_tally_Division_bound_13 : List AI := [⟨none, some 16, .idxS 2 (.t 12) (.t 14)⟩,
  ⟨none, some 17, .load 2 true (.t 16)⟩,
  ⟨none, some 6, .alloc ty_tally_Pair [.lit (.int .i64 0), .lit (.int .i64 0)]⟩,
  ⟨none, none, .store 2 (.t 6) (.t 17)⟩]
@[simp] def r_tally_Division_bound_14 : List AI := [⟨none, some 15, .bin .lss (.t 14) (.t 13)⟩]
def l_tally_Division_bound_1 : AC :=
 (.seq (.reg r_tally_Division_bound_14)
 (.seq (.cond (.t 15)
 .skip
 (.exit 0))
 (.seq (.block 1
 (.seq (.seq (.reg r_tally_Division_bound_13) (.keep [1, 3, 4, 6, 12, 13, 14]))
 (.seq (.seq (.seq (.reg r_tally_Division_bound_12) (.keep [1, 3, 4, 6, 12, 13, 14, 48]))
 (.cond (.t 48)
 (.seq (.reg r_tally_Division_bound_11)
 .ret)
 .skip))
 (.seq (.draw r_tally_Division_bound_10 0 [(5, 6)] [0, 1, 2, 6, 3, 4, 5, 7]) (.keep [1, 3, 4, 12, 13, 14])))))
 (.seq (.reg r_tally_Division_bound_9) (.keep [1, 3, 4, 12, 13, 14])))))
@[simp] def r_tally_Division_bound_16 : List AI := [⟨none, some 11, .padd 5 (.t 1)⟩,
  ⟨none, some 12, .load 1 false (.t 11)⟩,
  ⟨none, some 13, .lenS (.t 12)⟩,
  ⟨none, some 14, .mov (.k (.lit (.int .i64 0)))⟩]
@[simp] def r_tally_Division_bound_17 : List AI := [⟨none, some 9, .mkmap⟩,
  ⟨none, some 10, .mkmap⟩,
  ⟨none, some 4, .alloc ty_map_int_bool [.lit (.map none)]⟩,
  ⟨none, some 3, .mov (.t 9)⟩,
  ⟨none, none, .store 1 (.t 4) (.t 10)⟩]
@[simp] def r_tally_Division_bound_18 : List AI := [⟨none, some 1, .box ty_tally_Division (.t 0)⟩,
  ⟨none, some 2, .mov (.k (.lit (.bool false)))⟩]
def a_tally_Division_bound : AFn := { nparams := 1, res := [.tmp 2], body :=
 (.seq (.seq (.reg r_tally_Division_bound_18) (.keep [1]))
 (.seq (.seq (.reg r_tally_Division_bound_17) (.keep [1, 3, 4]))
 (.seq (.seq (.seq (.reg r_tally_Division_bound_16) (.keep [1, 3, 4, 12, 13, 14]))
 (.block 0
 (.loop [1, 3, 4, 12, 13, 14] l_tally_Division_bound_1)))
 (.seq (.seq (.seq (.reg r_tally_Division_bound_8) (.keep [1, 4, 57, 58, 59]))
 (.block 2
 (.loop [1, 4, 57, 58, 59] l_tally_Division_bound_0)))
 (.seq (.seq (.reg r_tally_Division_bound_0) (.keep [2]))
 .ret))))) }
@[simp] def r_tally_Division_votes_0 : List AI := [⟨none, some 43, .mov (.t 7)⟩,
  ⟨none, some 4, .mov (.t 43)⟩]
@[simp] def r_tally_Division_votes_1 : List AI := [⟨none, some 40, .mov (.t 7)⟩,
  ⟨none, some 41, .slit ty_uint8 [.lit (.int .u8 0)] 1 1 [(0, 1, (.k (.lit (.int .u8 2))))]⟩,
  ⟨none, some 42, .app ty_uint8 [.lit (.int .u8 0)] 1 1 (.t 40) (.t 41)⟩,
  ⟨none, some 7, .mov (.t 42)⟩]
@[simp] def r_tally_Division_votes_2 : List AI := [⟨none, some 34, .mov (.t 6)⟩,
  ⟨none, some 35, .bin .gtr (.t 34) (.k (.lit (.int .i64 0)))⟩,
  ⟨none, some 36, .mov (.t 35)⟩,
  ⟨some (36, true), some 37, .mov (.t 5)⟩,
  ⟨some (36, true), some 38, .bin .lss (.t 37) (.k (.lit (.int .i64 2)))⟩,
  ⟨none, some 39, .pick (.t 36) (.t 38) (.k (.lit (.bool false)))⟩]
@[simp] def r_tally_Division_votes_3 : List AI := [⟨none, some 31, .mov (.t 7)⟩,
  ⟨none, some 32, .slit ty_uint8 [.lit (.int .u8 0)] 1 1 [(0, 1, (.k (.lit (.int .u8 1))))]⟩,
  ⟨none, some 33, .app ty_uint8 [.lit (.int .u8 0)] 1 1 (.t 31) (.t 32)⟩,
  ⟨none, some 7, .mov (.t 33)⟩]
@[simp] def r_tally_Division_votes_4 : List AI := [⟨none, some 25, .mov (.t 5)⟩,
  ⟨none, some 26, .bin .gtr (.t 25) (.k (.lit (.int .i64 0)))⟩,
  ⟨none, some 27, .mov (.t 26)⟩,
  ⟨some (27, true), some 28, .mov (.t 6)⟩,
  ⟨some (27, true), some 29, .bin .lss (.t 28) (.k (.lit (.int .i64 2)))⟩,
  ⟨none, some 30, .pick (.t 27) (.t 29) (.k (.lit (.bool false)))⟩]
@[simp] def r_tally_Division_votes_5 : List AI := [⟨none, some 22, .mov (.t 7)⟩,
  ⟨none, some 23, .slit ty_uint8 [.lit (.int .u8 0)] 1 1 [(0, 1, (.k (.lit (.int .u8 0))))]⟩,
  ⟨none, some 24, .app ty_uint8 [.lit (.int .u8 0)] 1 1 (.t 22) (.t 23)⟩,
  ⟨none, some 7, .mov (.t 24)⟩]
@[simp] def r_tally_Division_votes_6 : List AI := [⟨none, some 16, .mov (.t 5)⟩,
  ⟨none, some 17, .bin .lss (.t 16) (.k (.lit (.int .i64 2)))⟩,
  ⟨none, some 18, .mov (.t 17)⟩,
  ⟨some (18, true), some 19, .mov (.t 6)⟩,
  ⟨some (18, true), some 20, .bin .lss (.t 19) (.k (.lit (.int .i64 2)))⟩,
  ⟨none, some 21, .pick (.t 18) (.t 20) (.k (.lit (.bool false)))⟩]
@[simp] def r_tally_Division_votes_7 : List AI := [⟨none, some 7, .mov (.k (.nil))⟩]
@[simp] def r_tally_Division_votes_8 : List AI := [⟨none, some 8, .padd 1 (.t 2)⟩,
  ⟨none, some 9, .load 2 true (.t 8)⟩,
  ⟨none, some 10, .mov (.t 1)⟩,
  ⟨none, some 11, .call (.k (.fn fn_tally_on [] [])) [(.t 9), (.t 10)]⟩,
  ⟨none, some 12, .padd 3 (.t 2)⟩,
  ⟨none, some 13, .load 2 true (.t 12)⟩,
  ⟨none, some 14, .mov (.t 1)⟩,
  ⟨none, some 15, .call (.k (.fn fn_tally_on [] [])) [(.t 13), (.t 14)]⟩,
  ⟨none, some 5, .mov (.t 11)⟩,
  ⟨none, some 6, .mov (.t 15)⟩]
@[simp] def r_tally_Division_votes_9 : List AI := [⟨none, some 2, .box ty_tally_Division (.t 0)⟩,
  ⟨none, some 4, .mov (.k (.nil))⟩]
def a_tally_Division_votes : AFn := { nparams := 2, res := [.tmp 4], body :=
 (.seq (.seq (.reg r_tally_Division_votes_9) (.keep [1, 2]))
 (.seq (.seq (.draw r_tally_Division_votes_8 0 [(3, 5)] [0, 1, 2, 3, 4, 5, 6, 7, 8, 9]) (.keep [5, 6]))
 (.seq (.reg r_tally_Division_votes_7)
 (.seq (.seq (.seq (.reg r_tally_Division_votes_6) (.keep [5, 6, 7, 21]))
 (.cond (.t 21)
 (.seq (.reg r_tally_Division_votes_5) (.keep [5, 6, 7]))
 .skip))
 (.seq (.seq (.seq (.reg r_tally_Division_votes_4) (.keep [5, 6, 7, 30]))
 (.cond (.t 30)
 (.seq (.reg r_tally_Division_votes_3) (.keep [5, 6, 7]))
 .skip))
 (.seq (.seq (.seq (.reg r_tally_Division_votes_2) (.keep [7, 39]))
 (.cond (.t 39)
 (.seq (.reg r_tally_Division_votes_1) (.keep [7]))
 .skip))
 (.seq (.seq (.reg r_tally_Division_votes_0) (.keep [4]))
 .ret))))))) }
@[simp] def r_slices_ContainsFunc_Suint8_uint8_0 : List AI := [⟨none, some 5, .mov (.t 0)⟩,
  ⟨none, some 6, .mov (.t 1)⟩,
  ⟨none, some 7, .call (.k (.fn fn_slices_IndexFunc_Suint8_uint8 [] [])) [(.t 5), (.t 6)]⟩,
  ⟨none, some 8, .bin .geq (.t 7) (.k (.lit (.int .i64 0)))⟩,
  ⟨none, some 4, .mov (.t 8)⟩]
@[simp] def r_slices_ContainsFunc_Suint8_uint8_1 : List AI := [⟨none, some 4, .mov (.k (.lit (.bool false)))⟩]
def a_slices_ContainsFunc_Suint8_uint8 : AFn := { nparams := 2, res := [.tmp 4], body :=
 (.seq (.reg r_slices_ContainsFunc_Suint8_uint8_1)
 (.seq (.seq (.reg r_slices_ContainsFunc_Suint8_uint8_0) (.keep [4]))
 .ret)) }
@[simp] def r_tally_all_uint8_1_0 : List AI := [⟨none, some 4, .load 1 false (.t 1)⟩,
  ⟨none, some 5, .mov (.t 0)⟩,
  ⟨none, some 6, .call (.t 4) [(.t 5)]⟩,
  ⟨none, some 7, .not (.t 6)⟩,
  ⟨none, some 3, .mov (.t 7)⟩]
@[simp] def r_tally_all_uint8_1_1 : List AI := [⟨none, some 3, .mov (.k (.lit (.bool false)))⟩]
def a_tally_all_uint8_1 : AFn := { nparams := 2, res := [.tmp 3], body :=
 (.seq (.reg r_tally_all_uint8_1_1)
 (.seq (.seq (.reg r_tally_all_uint8_1_0) (.keep [3]))
 .ret)) }
@[simp] def r_slices_ContainsFunc_Sint_int_0 : List AI := [⟨none, some 5, .mov (.t 0)⟩,
  ⟨none, some 6, .mov (.t 1)⟩,
  ⟨none, some 7, .call (.k (.fn fn_slices_IndexFunc_Sint_int [] [])) [(.t 5), (.t 6)]⟩,
  ⟨none, some 8, .bin .geq (.t 7) (.k (.lit (.int .i64 0)))⟩,
  ⟨none, some 4, .mov (.t 8)⟩]
@[simp] def r_slices_ContainsFunc_Sint_int_1 : List AI := [⟨none, some 4, .mov (.k (.lit (.bool false)))⟩]
def a_slices_ContainsFunc_Sint_int : AFn := { nparams := 2, res := [.tmp 4], body :=
 (.seq (.reg r_slices_ContainsFunc_Sint_int_1)
 (.seq (.seq (.reg r_slices_ContainsFunc_Sint_int_0) (.keep [4]))
 .ret)) }
@[simp] def r_tally_all_int_1_0 : List AI := [⟨none, some 4, .load 1 false (.t 1)⟩,
  ⟨none, some 5, .mov (.t 0)⟩,
  ⟨none, some 6, .call (.t 4) [(.t 5)]⟩,
  ⟨none, some 7, .not (.t 6)⟩,
  ⟨none, some 3, .mov (.t 7)⟩]
@[simp] def r_tally_all_int_1_1 : List AI := [⟨none, some 3, .mov (.k (.lit (.bool false)))⟩]
def a_tally_all_int_1 : AFn := { nparams := 2, res := [.tmp 3], body :=
 (.seq (.reg r_tally_all_int_1_1)
 (.seq (.seq (.reg r_tally_all_int_1_0) (.keep [3]))
 .ret)) }
@[simp] def r_slices_Index_Sint_int_0 : List AI := [⟨none, some 4, .mov (.k (.lit (.int .i64 (-1))))⟩]
@[simp] def r_slices_Index_Sint_int_1 : List AI := [⟨none, some 18, .bin .add (.t 8) (.k (.lit (.int .i64 1)))⟩,
  ⟨none, some 8, .mov (.t 18)⟩]
@[simp] def r_slices_Index_Sint_int_2 : List AI := [⟨none, some 17, .mov (.t 5)⟩,
  ⟨none, some 4, .mov (.t 17)⟩]
@[simp] def r_slices_Index_Sint_int_3 : List AI := [⟨none, some 11, .mov (.t 1)⟩,
  ⟨none, some 12, .mov (.t 0)⟩,
  ⟨none, some 13, .mov (.t 5)⟩,
  ⟨none, some 14, .idxS 1 (.t 12) (.t 13)⟩,
  ⟨none, some 15, .load 1 false (.t 14)⟩,
  ⟨none, some 16, .bin .eql (.t 11) (.t 15)⟩]
@[simp] def r_slices_Index_Sint_int_4 : List AI := [⟨none, some 10, .mov (.t 8)⟩,
  ⟨none, some 5, .mov (.t 10)⟩]
@[simp] def r_slices_Index_Sint_int_5 : List AI := [⟨none, some 9, .bin .lss (.t 8) (.t 7)⟩]
def l_slices_Index_Sint_int_0 : AC :=
 (.seq (.reg r_slices_Index_Sint_int_5)
 (.seq (.cond (.t 9)
 .skip
 (.exit 0))
 (.seq (.block 1
 (.seq (.seq (.reg r_slices_Index_Sint_int_4) (.keep [0, 1, 5, 7, 8]))
 (.seq (.seq (.reg r_slices_Index_Sint_int_3) (.keep [0, 1, 5, 7, 8, 16]))
 (.cond (.t 16)
 (.seq (.seq (.reg r_slices_Index_Sint_int_2) (.keep [4]))
 .ret)
 .skip))))
 (.seq (.reg r_slices_Index_Sint_int_1) (.keep [0, 1, 7, 8])))))
@[simp] def r_slices_Index_Sint_int_7 : List AI := [⟨none, some 6, .mov (.t 0)⟩,
  ⟨none, some 7, .lenS (.t 6)⟩,
  ⟨none, some 8, .mov (.k (.lit (.int .i64 0)))⟩]
@[simp] def r_slices_Index_Sint_int_8 : List AI := [⟨none, some 4, .mov (.k (.lit (.int .i64 0)))⟩]
def a_slices_Index_Sint_int : AFn := { nparams := 2, res := [.tmp 4], body :=
 (.seq (.reg r_slices_Index_Sint_int_8)
 (.seq (.seq (.seq (.reg r_slices_Index_Sint_int_7) (.keep [0, 1, 7, 8]))
 (.block 0
 (.loop [0, 1, 7, 8] l_slices_Index_Sint_int_0)))
 (.seq (.reg r_slices_Index_Sint_int_0)
 .ret))) }
@[simp] def r_tally_rules_1_0 : List AI := [⟨none, some 3, .padd 10 (.t 1)⟩,
  ⟨none, some 4, .load 1 false (.t 3)⟩,
  ⟨none, some 5, .bin .eql (.t 4) (.k (.lit (.int .u8 1)))⟩,
  ⟨none, some 2, .mov (.t 5)⟩]
@[simp] def r_tally_rules_1_1 : List AI := [⟨none, some 1, .box ty_tally_Division (.t 0)⟩,
  ⟨none, some 2, .mov (.k (.lit (.bool false)))⟩]
def a_tally_rules_1 : AFn := { nparams := 1, res := [.tmp 2], body :=
 (.seq (.seq (.reg r_tally_rules_1_1) (.keep [1]))
 (.seq (.seq (.reg r_tally_rules_1_0) (.keep [2]))
 .ret)) }
@[simp] def r_tally_rules_2_0 : List AI := [⟨none, some 6, .padd 0 (.t 4)⟩,
  ⟨none, some 7, .load 1 false (.t 6)⟩,
  ⟨none, some 8, .padd 1 (.t 4)⟩,
  ⟨none, some 9, .load 1 false (.t 8)⟩,
  ⟨none, some 10, .bin .gtr (.t 7) (.t 9)⟩,
  ⟨none, some 11, .mov (.t 10)⟩,
  ⟨some (11, false), some 12, .padd 0 (.t 4)⟩,
  ⟨some (11, false), some 13, .load 1 false (.t 12)⟩,
  ⟨some (11, false), some 14, .padd 1 (.t 4)⟩,
  ⟨some (11, false), some 15, .load 1 false (.t 14)⟩,
  ⟨some (11, false), some 16, .bin .eql (.t 13) (.t 15)⟩,
  ⟨some (11, false), some 17, .mov (.t 16)⟩,
  ⟨some (17, true), some 18, .load 1 false (.t 2)⟩,
  ⟨some (17, true), some 19, .load 11 true (.t 3)⟩,
  ⟨some (17, true), some 20, .call (.t 18) [(.t 19)]⟩,
  ⟨some (11, false), some 21, .pick (.t 17) (.t 20) (.k (.lit (.bool false)))⟩,
  ⟨none, some 22, .pick (.t 11) (.k (.lit (.bool true))) (.t 21)⟩,
  ⟨none, some 5, .mov (.t 22)⟩]
@[simp] def r_tally_rules_2_1 : List AI := [⟨none, some 3, .box ty_tally_Division (.t 0)⟩,
  ⟨none, some 4, .box ty_tally_Numbers (.t 1)⟩,
  ⟨none, some 5, .mov (.k (.lit (.bool false)))⟩]
def a_tally_rules_2 : AFn := { nparams := 3, res := [.tmp 5], body :=
 (.seq (.seq (.reg r_tally_rules_2_1) (.keep [2, 3, 4]))
 (.seq (.seq (.reg r_tally_rules_2_0) (.keep [5]))
 .ret)) }
@[simp] def r_tally_rules_3_0 : List AI := [⟨none, some 6, .padd 0 (.t 4)⟩,
  ⟨none, some 7, .load 1 false (.t 6)⟩,
  ⟨none, some 8, .padd 8 (.t 3)⟩,
  ⟨none, some 9, .load 1 false (.t 8)⟩,
  ⟨none, some 10, .bin .geq (.t 7) (.t 9)⟩,
  ⟨none, some 11, .mov (.t 10)⟩,
  ⟨some (11, false), some 12, .padd 0 (.t 4)⟩,
  ⟨some (11, false), some 13, .load 1 false (.t 12)⟩,
  ⟨some (11, false), some 14, .padd 8 (.t 3)⟩,
  ⟨some (11, false), some 15, .load 1 false (.t 14)⟩,
  ⟨some (11, false), some 16, .bin .sub (.t 15) (.k (.lit (.int .i64 1)))⟩,
  ⟨some (11, false), some 17, .bin .eql (.t 13) (.t 16)⟩,
  ⟨some (11, false), some 18, .mov (.t 17)⟩,
  ⟨some (18, true), some 19, .load 1 false (.t 2)⟩,
  ⟨some (18, true), some 20, .load 11 true (.t 3)⟩,
  ⟨some (18, true), some 21, .call (.t 19) [(.t 20)]⟩,
  ⟨some (11, false), some 22, .pick (.t 18) (.t 21) (.k (.lit (.bool false)))⟩,
  ⟨none, some 23, .pick (.t 11) (.k (.lit (.bool true))) (.t 22)⟩,
  ⟨none, some 5, .mov (.t 23)⟩]
@[simp] def r_tally_rules_3_1 : List AI := [⟨none, some 3, .box ty_tally_Division (.t 0)⟩,
  ⟨none, some 4, .box ty_tally_Numbers (.t 1)⟩,
  ⟨none, some 5, .mov (.k (.lit (.bool false)))⟩]
def a_tally_rules_3 : AFn := { nparams := 3, res := [.tmp 5], body :=
 (.seq (.seq (.reg r_tally_rules_3_1) (.keep [2, 3, 4]))
 (.seq (.seq (.reg r_tally_rules_3_0) (.keep [5]))
 .ret)) }
@[simp] def r_tally_rules_4_0 : List AI := [⟨none, some 5, .padd 0 (.t 3)⟩,
  ⟨none, some 6, .load 1 false (.t 5)⟩,
  ⟨none, some 7, .bin .mul (.k (.lit (.int .i64 3))) (.t 6)⟩,
  ⟨none, some 8, .padd 0 (.t 3)⟩,
  ⟨none, some 9, .load 1 false (.t 8)⟩,
  ⟨none, some 10, .padd 1 (.t 3)⟩,
  ⟨none, some 11, .load 1 false (.t 10)⟩,
  ⟨none, some 12, .bin .add (.t 9) (.t 11)⟩,
  ⟨none, some 13, .bin .mul (.k (.lit (.int .i64 2))) (.t 12)⟩,
  ⟨none, some 14, .bin .geq (.t 7) (.t 13)⟩,
  ⟨none, some 15, .mov (.t 14)⟩,
  ⟨some (15, true), some 16, .padd 0 (.t 3)⟩,
  ⟨some (15, true), some 17, .load 1 false (.t 16)⟩,
  ⟨some (15, true), some 18, .bin .geq (.t 17) (.k (.lit (.int .i64 1)))⟩,
  ⟨none, some 19, .pick (.t 15) (.t 18) (.k (.lit (.bool false)))⟩,
  ⟨none, some 4, .mov (.t 19)⟩]
@[simp] def r_tally_rules_4_1 : List AI := [⟨none, some 2, .box ty_tally_Division (.t 0)⟩,
  ⟨none, some 3, .box ty_tally_Numbers (.t 1)⟩,
  ⟨none, some 4, .mov (.k (.lit (.bool false)))⟩]
def a_tally_rules_4 : AFn := { nparams := 2, res := [.tmp 4], body :=
 (.seq (.seq (.reg r_tally_rules_4_1) (.keep [3]))
 (.seq (.seq (.reg r_tally_rules_4_0) (.keep [4]))
 .ret)) }
@[simp] def r_slices_insertionSortOrdered_uint8_0 : List AI := [⟨none, some 13, .mov (.t 6)⟩,
  ⟨none, some 14, .bin .add (.t 13) (.k (.lit (.int .i64 1)))⟩,
  ⟨none, some 6, .mov (.t 14)⟩]
@[simp] def r_slices_insertionSortOrdered_uint8_1 : List AI := [⟨none, some 31, .mov (.t 7)⟩,
  ⟨none, some 32, .bin .sub (.t 31) (.k (.lit (.int .i64 1)))⟩,
  ⟨none, some 7, .mov (.t 32)⟩]
@[simp] def r_slices_insertionSortOrdered_uint8_2 : List AI := [⟨none, some 33, .mov (.t 0)⟩,
  ⟨none, some 34, .mov (.t 7)⟩,
  ⟨none, some 35, .mov (.t 0)⟩,
  ⟨none, some 36, .mov (.t 7)⟩,
  ⟨none, some 37, .bin .sub (.t 36) (.k (.lit (.int .i64 1)))⟩,
  ⟨none, some 38, .mov (.t 0)⟩,
  ⟨none, some 39, .mov (.t 7)⟩,
  ⟨none, some 40, .bin .sub (.t 39) (.k (.lit (.int .i64 1)))⟩,
  ⟨none, some 41, .idxS 1 (.t 38) (.t 40)⟩,
  ⟨none, some 42, .load 1 false (.t 41)⟩,
  ⟨none, some 43, .mov (.t 0)⟩,
  ⟨none, some 44, .mov (.t 7)⟩,
  ⟨none, some 45, .idxS 1 (.t 43) (.t 44)⟩,
  ⟨none, some 46, .load 1 false (.t 45)⟩,
  ⟨none, some 47, .idxS 1 (.t 33) (.t 34)⟩,
  ⟨none, none, .store 1 (.t 47) (.t 42)⟩,
  ⟨none, some 48, .idxS 1 (.t 35) (.t 37)⟩,
  ⟨none, none, .store 1 (.t 48) (.t 46)⟩]
@[simp] def r_slices_insertionSortOrdered_uint8_3 : List AI := [⟨none, some 16, .mov (.t 7)⟩,
  ⟨none, some 17, .mov (.t 1)⟩,
  ⟨none, some 18, .bin .gtr (.t 16) (.t 17)⟩,
  ⟨none, some 19, .mov (.t 18)⟩,
  ⟨some (19, true), some 20, .mov (.t 0)⟩,
  ⟨some (19, true), some 21, .mov (.t 7)⟩,
  ⟨some (19, true), some 22, .idxS 1 (.t 20) (.t 21)⟩,
  ⟨some (19, true), some 23, .load 1 false (.t 22)⟩,
  ⟨some (19, true), some 24, .mov (.t 0)⟩,
  ⟨some (19, true), some 25, .mov (.t 7)⟩,
  ⟨some (19, true), some 26, .bin .sub (.t 25) (.k (.lit (.int .i64 1)))⟩,
  ⟨some (19, true), some 27, .idxS 1 (.t 24) (.t 26)⟩,
  ⟨some (19, true), some 28, .load 1 false (.t 27)⟩,
  ⟨some (19, true), some 29, .call (.k (.fn fn_cmp_Less_uint8 [] [])) [(.t 23), (.t 28)]⟩,
  ⟨none, some 30, .pick (.t 19) (.t 29) (.k (.lit (.bool false)))⟩]
def l_slices_insertionSortOrdered_uint8_0 : AC :=
 (.seq (.seq (.seq (.draw r_slices_insertionSortOrdered_uint8_3 0 [] [0, 1, 2, 3, 4, 5, 6, 7, 8, 9, 10, 11, 12, 13, 14]) (.keep [0, 1, 2, 6, 7, 30]))
 (.cond (.t 30)
 .skip
 (.exit 2)))
 (.seq (.block 3
 (.seq (.draw r_slices_insertionSortOrdered_uint8_2 0 [] [0, 1, 5, 6, 7, 8, 9, 10, 11, 12, 13, 14, 15, 2, 3, 4, 16, 17]) (.keep [0, 1, 2, 6, 7])))
 (.seq (.reg r_slices_insertionSortOrdered_uint8_1) (.keep [0, 1, 2, 6, 7]))))
@[simp] def r_slices_insertionSortOrdered_uint8_5 : List AI := [⟨none, some 15, .mov (.t 6)⟩,
  ⟨none, some 7, .mov (.t 15)⟩]
@[simp] def r_slices_insertionSortOrdered_uint8_6 : List AI := [⟨none, some 10, .mov (.t 6)⟩,
  ⟨none, some 11, .mov (.t 2)⟩,
  ⟨none, some 12, .bin .lss (.t 10) (.t 11)⟩]
def l_slices_insertionSortOrdered_uint8_1 : AC :=
 (.seq (.seq (.seq (.reg r_slices_insertionSortOrdered_uint8_6) (.keep [0, 1, 2, 6, 12]))
 (.cond (.t 12)
 .skip
 (.exit 0)))
 (.seq (.block 1
 (.seq (.seq (.reg r_slices_insertionSortOrdered_uint8_5) (.keep [0, 1, 2, 6, 7]))
 (.block 2
 (.loop [0, 1, 2, 6, 7] l_slices_insertionSortOrdered_uint8_0))))
 (.seq (.reg r_slices_insertionSortOrdered_uint8_0) (.keep [0, 1, 2, 6]))))
@[simp] def r_slices_insertionSortOrdered_uint8_8 : List AI := [⟨none, some 8, .mov (.t 1)⟩,
  ⟨none, some 9, .bin .add (.t 8) (.k (.lit (.int .i64 1)))⟩,
  ⟨none, some 6, .mov (.t 9)⟩]
def a_slices_insertionSortOrdered_uint8 : AFn := { nparams := 3, res := [], body :=
 (.seq (.seq (.reg r_slices_insertionSortOrdered_uint8_8) (.keep [0, 1, 2, 6]))
 (.block 0
 (.loop [0, 1, 2, 6] l_slices_insertionSortOrdered_uint8_1))) }
@[simp] def r_cmp_Less_uint8_0 : List AI := [⟨none, some 5, .mov (.t 0)⟩,
  ⟨none, some 6, .call (.k (.fn fn_cmp_isNaN_uint8 [] [])) [(.t 5)]⟩,
  ⟨none, some 7, .mov (.t 6)⟩,
  ⟨some (7, true), some 8, .mov (.t 1)⟩,
  ⟨some (7, true), some 9, .call (.k (.fn fn_cmp_isNaN_uint8 [] [])) [(.t 8)]⟩,
  ⟨some (7, true), some 10, .not (.t 9)⟩,
  ⟨none, some 11, .pick (.t 7) (.t 10) (.k (.lit (.bool false)))⟩,
  ⟨none, some 12, .mov (.t 11)⟩,
  ⟨some (12, false), some 13, .mov (.t 0)⟩,
  ⟨some (12, false), some 14, .mov (.t 1)⟩,
  ⟨some (12, false), some 15, .bin .lss (.t 13) (.t 14)⟩,
  ⟨none, some 16, .pick (.t 12) (.k (.lit (.bool true))) (.t 15)⟩,
  ⟨none, some 4, .mov (.t 16)⟩]
@[simp] def r_cmp_Less_uint8_1 : List AI := [⟨none, some 4, .mov (.k (.lit (.bool false)))⟩]
def a_cmp_Less_uint8 : AFn := { nparams := 2, res := [.tmp 4], body :=
 (.seq (.reg r_cmp_Less_uint8_1)
 (.seq (.seq (.reg r_cmp_Less_uint8_0) (.keep [4]))
 .ret)) }
@[simp] def r_math_bits_Len32_0 : List AI := [⟨none, some 13, .mov (.t 2)⟩,
  ⟨none, some 14, .mov (.t 0)⟩,
  ⟨none, some 15, .conv .u8 (.t 14)⟩,
  ⟨none, some 16, .idxT (.k (.lit (.string ⟨#[0, 1, 2, 2, 3, 3, 3, 3, 4, 4, 4, 4, 4, 4, 4, 4, 5, 5, 5, 5, 5, 5, 5, 5, 5, 5, 5, 5, 5, 5, 5, 5, 6, 6, 6, 6, 6, 6, 6, 6, 6, 6, 6, 6, 6, 6, 6, 6, 6, 6, 6, 6, 6, 6, 6, 6, 6, 6, 6, 6, 6, 6, 6, 6, 7, 7, 7, 7, 7, 7, 7, 7, 7, 7, 7, 7, 7, 7, 7, 7, 7, 7, 7, 7, 7, 7, 7, 7, 7, 7, 7, 7, 7, 7, 7, 7, 7, 7, 7, 7, 7, 7, 7, 7, 7, 7, 7, 7, 7, 7, 7, 7, 7, 7, 7, 7, 7, 7, 7, 7, 7, 7, 7, 7, 7, 7, 7, 7, 8, 8, 8, 8, 8, 8, 8, 8, 8, 8, 8, 8, 8, 8, 8, 8, 8, 8, 8, 8, 8, 8, 8, 8, 8, 8, 8, 8, 8, 8, 8, 8, 8, 8, 8, 8, 8, 8, 8, 8, 8, 8, 8, 8, 8, 8, 8, 8, 8, 8, 8, 8, 8, 8, 8, 8, 8, 8, 8, 8, 8, 8, 8, 8, 8, 8, 8, 8, 8, 8, 8, 8, 8, 8, 8, 8, 8, 8, 8, 8, 8, 8, 8, 8, 8, 8, 8, 8, 8, 8, 8, 8, 8, 8, 8, 8, 8, 8, 8, 8, 8, 8, 8, 8, 8, 8, 8, 8, 8, 8, 8, 8, 8, 8, 8, 8, 8, 8, 8, 8, 8, 8, 8, 8, 8, 8, 8, 8]⟩))) (.t 15)⟩,
  ⟨none, some 17, .conv .i64 (.t 16)⟩,
  ⟨none, some 18, .bin .add (.t 13) (.t 17)⟩,
  ⟨none, some 2, .mov (.t 18)⟩]
@[simp] def r_math_bits_Len32_1 : List AI := [⟨none, some 11, .mov (.t 2)⟩,
  ⟨none, some 12, .bin .add (.t 11) (.k (.lit (.int .i64 8)))⟩,
  ⟨none, some 2, .mov (.t 12)⟩]
@[simp] def r_math_bits_Len32_2 : List AI := [⟨none, some 9, .mov (.t 0)⟩,
  ⟨none, some 10, .bin .shr (.t 9) (.k (.lit (.int .u64 8)))⟩,
  ⟨none, some 0, .mov (.t 10)⟩]
@[simp] def r_math_bits_Len32_3 : List AI := [⟨none, some 7, .mov (.t 0)⟩,
  ⟨none, some 8, .bin .geq (.t 7) (.k (.lit (.int .u32 256)))⟩]
@[simp] def r_math_bits_Len32_4 : List AI := [⟨none, some 2, .mov (.k (.lit (.int .i64 16)))⟩]
@[simp] def r_math_bits_Len32_5 : List AI := [⟨none, some 5, .mov (.t 0)⟩,
  ⟨none, some 6, .bin .shr (.t 5) (.k (.lit (.int .u64 16)))⟩,
  ⟨none, some 0, .mov (.t 6)⟩]
@[simp] def r_math_bits_Len32_6 : List AI := [⟨none, some 3, .mov (.t 0)⟩,
  ⟨none, some 4, .bin .geq (.t 3) (.k (.lit (.int .u32 65536)))⟩]
@[simp] def r_math_bits_Len32_7 : List AI := [⟨none, some 2, .mov (.k (.lit (.int .i64 0)))⟩]
def a_math_bits_Len32 : AFn := { nparams := 1, res := [.tmp 2], body :=
 (.seq (.reg r_math_bits_Len32_7)
 (.seq (.seq (.seq (.reg r_math_bits_Len32_6) (.keep [0, 2, 4]))
 (.cond (.t 4)
 (.seq (.seq (.reg r_math_bits_Len32_5) (.keep [0]))
 (.reg r_math_bits_Len32_4))
 .skip))
 (.seq (.seq (.seq (.reg r_math_bits_Len32_3) (.keep [0, 2, 8]))
 (.cond (.t 8)
 (.seq (.seq (.reg r_math_bits_Len32_2) (.keep [0, 2]))
 (.seq (.reg r_math_bits_Len32_1) (.keep [0, 2])))
 .skip))
 (.seq (.seq (.reg r_math_bits_Len32_0) (.keep [2]))
 .ret)))) }
@[simp] def r_math_bits_Len64_0 : List AI := [⟨none, some 19, .mov (.t 2)⟩,
  ⟨none, some 20, .mov (.t 0)⟩,
  ⟨none, some 21, .conv .u8 (.t 20)⟩,
  ⟨none, some 22, .idxT (.k (.lit (.string ⟨#[0, 1, 2, 2, 3, 3, 3, 3, 4, 4, 4, 4, 4, 4, 4, 4, 5, 5, 5, 5, 5, 5, 5, 5, 5, 5, 5, 5, 5, 5, 5, 5, 6, 6, 6, 6, 6, 6, 6, 6, 6, 6, 6, 6, 6, 6, 6, 6, 6, 6, 6, 6, 6, 6, 6, 6, 6, 6, 6, 6, 6, 6, 6, 6, 7, 7, 7, 7, 7, 7, 7, 7, 7, 7, 7, 7, 7, 7, 7, 7, 7, 7, 7, 7, 7, 7, 7, 7, 7, 7, 7, 7, 7, 7, 7, 7, 7, 7, 7, 7, 7, 7, 7, 7, 7, 7, 7, 7, 7, 7, 7, 7, 7, 7, 7, 7, 7, 7, 7, 7, 7, 7, 7, 7, 7, 7, 7, 7, 8, 8, 8, 8, 8, 8, 8, 8, 8, 8, 8, 8, 8, 8, 8, 8, 8, 8, 8, 8, 8, 8, 8, 8, 8, 8, 8, 8, 8, 8, 8, 8, 8, 8, 8, 8, 8, 8, 8, 8, 8, 8, 8, 8, 8, 8, 8, 8, 8, 8, 8, 8, 8, 8, 8, 8, 8, 8, 8, 8, 8, 8, 8, 8, 8, 8, 8, 8, 8, 8, 8, 8, 8, 8, 8, 8, 8, 8, 8, 8, 8, 8, 8, 8, 8, 8, 8, 8, 8, 8, 8, 8, 8, 8, 8, 8, 8, 8, 8, 8, 8, 8, 8, 8, 8, 8, 8, 8, 8, 8, 8, 8, 8, 8, 8, 8, 8, 8, 8, 8, 8, 8, 8, 8, 8, 8, 8, 8]⟩))) (.t 21)⟩,
  ⟨none, some 23, .conv .i64 (.t 22)⟩,
  ⟨none, some 24, .bin .add (.t 19) (.t 23)⟩,
  ⟨none, some 2, .mov (.t 24)⟩]
@[simp] def r_math_bits_Len64_1 : List AI := [⟨none, some 17, .mov (.t 2)⟩,
  ⟨none, some 18, .bin .add (.t 17) (.k (.lit (.int .i64 8)))⟩,
  ⟨none, some 2, .mov (.t 18)⟩]
@[simp] def r_math_bits_Len64_2 : List AI := [⟨none, some 15, .mov (.t 0)⟩,
  ⟨none, some 16, .bin .shr (.t 15) (.k (.lit (.int .u64 8)))⟩,
  ⟨none, some 0, .mov (.t 16)⟩]
@[simp] def r_math_bits_Len64_3 : List AI := [⟨none, some 13, .mov (.t 0)⟩,
  ⟨none, some 14, .bin .geq (.t 13) (.k (.lit (.int .u64 256)))⟩]
@[simp] def r_math_bits_Len64_4 : List AI := [⟨none, some 11, .mov (.t 2)⟩,
  ⟨none, some 12, .bin .add (.t 11) (.k (.lit (.int .i64 16)))⟩,
  ⟨none, some 2, .mov (.t 12)⟩]
@[simp] def r_math_bits_Len64_5 : List AI := [⟨none, some 9, .mov (.t 0)⟩,
  ⟨none, some 10, .bin .shr (.t 9) (.k (.lit (.int .u64 16)))⟩,
  ⟨none, some 0, .mov (.t 10)⟩]
@[simp] def r_math_bits_Len64_6 : List AI := [⟨none, some 7, .mov (.t 0)⟩,
  ⟨none, some 8, .bin .geq (.t 7) (.k (.lit (.int .u64 65536)))⟩]
@[simp] def r_math_bits_Len64_7 : List AI := [⟨none, some 2, .mov (.k (.lit (.int .i64 32)))⟩]
@[simp] def r_math_bits_Len64_8 : List AI := [⟨none, some 5, .mov (.t 0)⟩,
  ⟨none, some 6, .bin .shr (.t 5) (.k (.lit (.int .u64 32)))⟩,
  ⟨none, some 0, .mov (.t 6)⟩]
@[simp] def r_math_bits_Len64_9 : List AI := [⟨none, some 3, .mov (.t 0)⟩,
  ⟨none, some 4, .bin .geq (.t 3) (.k (.lit (.int .u64 4294967296)))⟩]
@[simp] def r_math_bits_Len64_10 : List AI := [⟨none, some 2, .mov (.k (.lit (.int .i64 0)))⟩]
def a_math_bits_Len64 : AFn := { nparams := 1, res := [.tmp 2], body :=
 (.seq (.reg r_math_bits_Len64_10)
 (.seq (.seq (.seq (.reg r_math_bits_Len64_9) (.keep [0, 2, 4]))
 (.cond (.t 4)
 (.seq (.seq (.reg r_math_bits_Len64_8) (.keep [0]))
 (.reg r_math_bits_Len64_7))
 .skip))
 (.seq (.seq (.seq (.reg r_math_bits_Len64_6) (.keep [0, 2, 8]))
 (.cond (.t 8)
 (.seq (.seq (.reg r_math_bits_Len64_5) (.keep [0, 2]))
 (.seq (.reg r_math_bits_Len64_4) (.keep [0, 2])))
 .skip))
 (.seq (.seq (.seq (.reg r_math_bits_Len64_3) (.keep [0, 2, 14]))
 (.cond (.t 14)
 (.seq (.seq (.reg r_math_bits_Len64_2) (.keep [0, 2]))
 (.seq (.reg r_math_bits_Len64_1) (.keep [0, 2])))
 .skip))
 (.seq (.seq (.reg r_math_bits_Len64_0) (.keep [2]))
 .ret))))) }
@[simp] def r_slices_ContainsFunc_SSint_Sint_0 : List AI := [⟨none, some 5, .mov (.t 0)⟩,
  ⟨none, some 6, .mov (.t 1)⟩,
  ⟨none, some 7, .call (.k (.fn fn_slices_IndexFunc_SSint_Sint [] [])) [(.t 5), (.t 6)]⟩,
  ⟨none, some 8, .bin .geq (.t 7) (.k (.lit (.int .i64 0)))⟩,
  ⟨none, some 4, .mov (.t 8)⟩]
@[simp] def r_slices_ContainsFunc_SSint_Sint_1 : List AI := [⟨none, some 4, .mov (.k (.lit (.bool false)))⟩]
def a_slices_ContainsFunc_SSint_Sint : AFn := { nparams := 2, res := [.tmp 4], body :=
 (.seq (.reg r_slices_ContainsFunc_SSint_Sint_1)
 (.seq (.seq (.reg r_slices_ContainsFunc_SSint_Sint_0) (.keep [4]))
 .ret)) }
@[simp] def r_tally_all_Sint_1_0 : List AI := [⟨none, some 4, .load 1 false (.t 1)⟩,
  ⟨none, some 5, .mov (.t 0)⟩,
  ⟨none, some 6, .call (.t 4) [(.t 5)]⟩,
  ⟨none, some 7, .not (.t 6)⟩,
  ⟨none, some 3, .mov (.t 7)⟩]
@[simp] def r_tally_all_Sint_1_1 : List AI := [⟨none, some 3, .mov (.k (.lit (.bool false)))⟩]
def a_tally_all_Sint_1 : AFn := { nparams := 2, res := [.tmp 3], body :=
 (.seq (.reg r_tally_all_Sint_1_1)
 (.seq (.seq (.reg r_tally_all_Sint_1_0) (.keep [3]))
 .ret)) }
@[simp] def r_tally_Division_member_0 : List AI := [⟨none, some 5, .mov (.t 1)⟩,
  ⟨none, some 6, .padd 0 (.t 2)⟩,
  ⟨none, some 7, .load 1 false (.t 6)⟩,
  ⟨none, some 8, .bin .sub (.t 7) (.k (.lit (.int .i64 1)))⟩,
  ⟨none, some 9, .call (.k (.fn fn_tally_within [] [])) [(.t 5), (.k (.lit (.int .i64 0))), (.t 8)]⟩,
  ⟨none, some 4, .mov (.t 9)⟩]
@[simp] def r_tally_Division_member_1 : List AI := [⟨none, some 2, .box ty_tally_Division (.t 0)⟩,
  ⟨none, some 4, .mov (.k (.lit (.bool false)))⟩]
def a_tally_Division_member : AFn := { nparams := 2, res := [.tmp 4], body :=
 (.seq (.seq (.reg r_tally_Division_member_1) (.keep [1, 2]))
 (.seq (.seq (.reg r_tally_Division_member_0) (.keep [4]))
 .ret)) }
@[simp] def r_tally_all_tally_Proxy_0 : List AI := [⟨none, some 5, .mov (.t 0)⟩,
  ⟨none, some 6, .mkfn fn_tally_all_tally_Proxy_1 [] [(.t 3)]⟩,
  ⟨none, some 7, .call (.k (.fn fn_slices_ContainsFunc_Stally_Proxy_tally_Proxy [] [])) [(.t 5), (.t 6)]⟩,
  ⟨none, some 8, .not (.t 7)⟩,
  ⟨none, some 4, .mov (.t 8)⟩]
@[simp] def r_tally_all_tally_Proxy_1 : List AI := [⟨none, some 3, .box ty_func_tally_Proxy_bool (.t 1)⟩,
  ⟨none, some 4, .mov (.k (.lit (.bool false)))⟩]
def a_tally_all_tally_Proxy : AFn := { nparams := 2, res := [.tmp 4], body :=
 (.seq (.seq (.reg r_tally_all_tally_Proxy_1) (.keep [0, 3]))
 (.seq (.seq (.reg r_tally_all_tally_Proxy_0) (.keep [4]))
 .ret)) }
@[simp] def r_tally_Division_bound_1_0 : List AI := [⟨none, some 4, .load 1 false (.t 1)⟩,
  ⟨none, some 5, .padd 0 (.t 2)⟩,
  ⟨none, some 6, .load 1 false (.t 5)⟩,
  ⟨none, some 7, .look none (.lit (.bool false)) false (.t 4) (.t 6)⟩,
  ⟨none, some 8, .not (.t 7)⟩,
  ⟨none, some 3, .mov (.t 8)⟩]
@[simp] def r_tally_Division_bound_1_1 : List AI := [⟨none, some 2, .box ty_tally_Proxy (.t 0)⟩,
  ⟨none, some 3, .mov (.k (.lit (.bool false)))⟩]
def a_tally_Division_bound_1 : AFn := { nparams := 2, res := [.tmp 3], body :=
 (.seq (.seq (.reg r_tally_Division_bound_1_1) (.keep [1, 2]))
 (.seq (.seq (.reg r_tally_Division_bound_1_0) (.keep [3]))
 .ret)) }
@[simp] def r_tally_on_0 : List AI := [⟨none, some 17, .mov (.t 4)⟩,
  ⟨none, some 4, .mov (.t 17)⟩]
@[simp] def r_tally_on_1 : List AI := [⟨none, some 16, .bin .add (.t 8) (.k (.lit (.int .i64 1)))⟩,
  ⟨none, some 8, .mov (.t 16)⟩]
@[simp] def r_tally_on_2 : List AI := [⟨none, some 14, .mov (.t 4)⟩,
  ⟨none, some 15, .bin .add (.t 14) (.k (.lit (.int .i64 1)))⟩,
  ⟨none, some 4, .mov (.t 15)⟩]
@[simp] def r_tally_on_3 : List AI := [⟨none, some 11, .mov (.t 6)⟩,
  ⟨none, some 12, .mov (.t 1)⟩,
  ⟨none, some 13, .call (.k (.fn fn_slices_Contains_Sint_int [] [])) [(.t 11), (.t 12)]⟩]
@[simp] def r_tally_on_4 : List AI := [⟨none, some 10, .idxV 2 1 false (.t 7) (.t 8)⟩,
  ⟨none, some 6, .mov (.t 10)⟩]
@[simp] def r_tally_on_5 : List AI := [⟨none, some 9, .bin .lss (.t 8) (.k (.lit (.int .i64 2)))⟩]
def l_tally_on_0 : AC :=
 (.seq (.reg r_tally_on_5)
 (.seq (.cond (.t 9)
 .skip
 (.exit 0))
 (.seq (.block 1
 (.seq (.seq (.reg r_tally_on_4) (.keep [1, 4, 6, 7, 8]))
 (.seq (.seq (.reg r_tally_on_3) (.keep [1, 4, 7, 8, 13]))
 (.cond (.t 13)
 (.seq (.reg r_tally_on_2) (.keep [1, 4, 7, 8]))
 .skip))))
 (.seq (.reg r_tally_on_1) (.keep [1, 4, 7, 8])))))
@[simp] def r_tally_on_7 : List AI := [⟨none, some 7, .load 2 true (.t 2)⟩,
  ⟨none, some 8, .mov (.k (.lit (.int .i64 0)))⟩]
@[simp] def r_tally_on_8 : List AI := [⟨none, some 2, .box ty_2_Sint (.t 0)⟩,
  ⟨none, some 4, .mov (.k (.lit (.int .i64 0)))⟩]
def a_tally_on : AFn := { nparams := 2, res := [.tmp 4], body :=
 (.seq (.reg r_tally_on_8)
 (.seq (.seq (.reg r_tally_on_7)
 (.block 0
 (.loop [1, 4, 7, 8] l_tally_on_0)))
 (.seq (.seq (.reg r_tally_on_0) (.keep [4]))
 .ret))) }
@[simp] def r_slices_IndexFunc_Suint8_uint8_0 : List AI := [⟨none, some 4, .mov (.k (.lit (.int .i64 (-1))))⟩]
@[simp] def r_slices_IndexFunc_Suint8_uint8_1 : List AI := [⟨none, some 18, .bin .add (.t 8) (.k (.lit (.int .i64 1)))⟩,
  ⟨none, some 8, .mov (.t 18)⟩]
@[simp] def r_slices_IndexFunc_Suint8_uint8_2 : List AI := [⟨none, some 17, .mov (.t 5)⟩,
  ⟨none, some 4, .mov (.t 17)⟩]
@[simp] def r_slices_IndexFunc_Suint8_uint8_3 : List AI := [⟨none, some 11, .mov (.t 1)⟩,
  ⟨none, some 12, .mov (.t 0)⟩,
  ⟨none, some 13, .mov (.t 5)⟩,
  ⟨none, some 14, .idxS 1 (.t 12) (.t 13)⟩,
  ⟨none, some 15, .load 1 false (.t 14)⟩,
  ⟨none, some 16, .call (.t 11) [(.t 15)]⟩]
@[simp] def r_slices_IndexFunc_Suint8_uint8_4 : List AI := [⟨none, some 10, .mov (.t 8)⟩,
  ⟨none, some 5, .mov (.t 10)⟩]
@[simp] def r_slices_IndexFunc_Suint8_uint8_5 : List AI := [⟨none, some 9, .bin .lss (.t 8) (.t 7)⟩]
def l_slices_IndexFunc_Suint8_uint8_0 : AC :=
 (.seq (.reg r_slices_IndexFunc_Suint8_uint8_5)
 (.seq (.cond (.t 9)
 .skip
 (.exit 0))
 (.seq (.block 1
 (.seq (.seq (.reg r_slices_IndexFunc_Suint8_uint8_4) (.keep [0, 1, 5, 7, 8]))
 (.seq (.seq (.reg r_slices_IndexFunc_Suint8_uint8_3) (.keep [0, 1, 5, 7, 8, 16]))
 (.cond (.t 16)
 (.seq (.seq (.reg r_slices_IndexFunc_Suint8_uint8_2) (.keep [4]))
 .ret)
 .skip))))
 (.seq (.reg r_slices_IndexFunc_Suint8_uint8_1) (.keep [0, 1, 7, 8])))))
@[simp] def r_slices_IndexFunc_Suint8_uint8_7 : List AI := [⟨none, some 6, .mov (.t 0)⟩,
  ⟨none, some 7, .lenS (.t 6)⟩,
  ⟨none, some 8, .mov (.k (.lit (.int .i64 0)))⟩]
@[simp] def r_slices_IndexFunc_Suint8_uint8_8 : List AI := [⟨none, some 4, .mov (.k (.lit (.int .i64 0)))⟩]
def a_slices_IndexFunc_Suint8_uint8 : AFn := { nparams := 2, res := [.tmp 4], body :=
 (.seq (.reg r_slices_IndexFunc_Suint8_uint8_8)
 (.seq (.seq (.seq (.reg r_slices_IndexFunc_Suint8_uint8_7) (.keep [0, 1, 7, 8]))
 (.block 0
 (.loop [0, 1, 7, 8] l_slices_IndexFunc_Suint8_uint8_0)))
 (.seq (.reg r_slices_IndexFunc_Suint8_uint8_0)
 .ret))) }
@[simp] def r_slices_IndexFunc_Sint_int_0 : List AI := [⟨none, some 4, .mov (.k (.lit (.int .i64 (-1))))⟩]
@[simp] def r_slices_IndexFunc_Sint_int_1 : List AI := [⟨none, some 18, .bin .add (.t 8) (.k (.lit (.int .i64 1)))⟩,
  ⟨none, some 8, .mov (.t 18)⟩]
@[simp] def r_slices_IndexFunc_Sint_int_2 : List AI := [⟨none, some 17, .mov (.t 5)⟩,
  ⟨none, some 4, .mov (.t 17)⟩]
@[simp] def r_slices_IndexFunc_Sint_int_3 : List AI := [⟨none, some 11, .mov (.t 1)⟩,
  ⟨none, some 12, .mov (.t 0)⟩,
  ⟨none, some 13, .mov (.t 5)⟩,
  ⟨none, some 14, .idxS 1 (.t 12) (.t 13)⟩,
  ⟨none, some 15, .load 1 false (.t 14)⟩,
  ⟨none, some 16, .call (.t 11) [(.t 15)]⟩]
@[simp] def r_slices_IndexFunc_Sint_int_4 : List AI := [⟨none, some 10, .mov (.t 8)⟩,
  ⟨none, some 5, .mov (.t 10)⟩]
@[simp] def r_slices_IndexFunc_Sint_int_5 : List AI := [⟨none, some 9, .bin .lss (.t 8) (.t 7)⟩]
def l_slices_IndexFunc_Sint_int_0 : AC :=
 (.seq (.reg r_slices_IndexFunc_Sint_int_5)
 (.seq (.cond (.t 9)
 .skip
 (.exit 0))
 (.seq (.block 1
 (.seq (.seq (.reg r_slices_IndexFunc_Sint_int_4) (.keep [0, 1, 5, 7, 8]))
 (.seq (.seq (.reg r_slices_IndexFunc_Sint_int_3) (.keep [0, 1, 5, 7, 8, 16]))
 (.cond (.t 16)
 (.seq (.seq (.reg r_slices_IndexFunc_Sint_int_2) (.keep [4]))
 .ret)
 .skip))))
 (.seq (.reg r_slices_IndexFunc_Sint_int_1) (.keep [0, 1, 7, 8])))))
@[simp] def r_slices_IndexFunc_Sint_int_7 : List AI := [⟨none, some 6, .mov (.t 0)⟩,
  ⟨none, some 7, .lenS (.t 6)⟩,
  ⟨none, some 8, .mov (.k (.lit (.int .i64 0)))⟩]
@[simp] def r_slices_IndexFunc_Sint_int_8 : List AI := [⟨none, some 4, .mov (.k (.lit (.int .i64 0)))⟩]
def a_slices_IndexFunc_Sint_int : AFn := { nparams := 2, res := [.tmp 4], body :=
 (.seq (.reg r_slices_IndexFunc_Sint_int_8)
 (.seq (.seq (.seq (.reg r_slices_IndexFunc_Sint_int_7) (.keep [0, 1, 7, 8]))
 (.block 0
 (.loop [0, 1, 7, 8] l_slices_IndexFunc_Sint_int_0)))
 (.seq (.reg r_slices_IndexFunc_Sint_int_0)
 .ret))) }
@[simp] def r_cmp_isNaN_uint8_0 : List AI := [⟨none, some 3, .mov (.t 0)⟩,
  ⟨none, some 4, .mov (.t 0)⟩,
  ⟨none, some 5, .bin .neq (.t 3) (.t 4)⟩,
  ⟨none, some 2, .mov (.t 5)⟩]
@[simp] def r_cmp_isNaN_uint8_1 : List AI := [⟨none, some 2, .mov (.k (.lit (.bool false)))⟩]
def a_cmp_isNaN_uint8 : AFn := { nparams := 1, res := [.tmp 2], body :=
 (.seq (.reg r_cmp_isNaN_uint8_1)
 (.seq (.seq (.reg r_cmp_isNaN_uint8_0) (.keep [2]))
 .ret)) }
@[simp] def r_slices_IndexFunc_SSint_Sint_0 : List AI := [⟨none, some 4, .mov (.k (.lit (.int .i64 (-1))))⟩]
@[simp] def r_slices_IndexFunc_SSint_Sint_1 : List AI := [⟨none, some 18, .bin .add (.t 8) (.k (.lit (.int .i64 1)))⟩,
  ⟨none, some 8, .mov (.t 18)⟩]
@[simp] def r_slices_IndexFunc_SSint_Sint_2 : List AI := [⟨none, some 17, .mov (.t 5)⟩,
  ⟨none, some 4, .mov (.t 17)⟩]
@[simp] def r_slices_IndexFunc_SSint_Sint_3 : List AI := [⟨none, some 11, .mov (.t 1)⟩,
  ⟨none, some 12, .mov (.t 0)⟩,
  ⟨none, some 13, .mov (.t 5)⟩,
  ⟨none, some 14, .idxS 1 (.t 12) (.t 13)⟩,
  ⟨none, some 15, .load 1 false (.t 14)⟩,
  ⟨none, some 16, .call (.t 11) [(.t 15)]⟩]
@[simp] def r_slices_IndexFunc_SSint_Sint_4 : List AI := [⟨none, some 10, .mov (.t 8)⟩,
  ⟨none, some 5, .mov (.t 10)⟩]
@[simp] def r_slices_IndexFunc_SSint_Sint_5 : List AI := [⟨none, some 9, .bin .lss (.t 8) (.t 7)⟩]
def l_slices_IndexFunc_SSint_Sint_0 : AC :=
 (.seq (.reg r_slices_IndexFunc_SSint_Sint_5)
 (.seq (.cond (.t 9)
 .skip
 (.exit 0))
 (.seq (.block 1
 (.seq (.seq (.reg r_slices_IndexFunc_SSint_Sint_4) (.keep [0, 1, 5, 7, 8]))
 (.seq (.seq (.reg r_slices_IndexFunc_SSint_Sint_3) (.keep [0, 1, 5, 7, 8, 16]))
 (.cond (.t 16)
 (.seq (.seq (.reg r_slices_IndexFunc_SSint_Sint_2) (.keep [4]))
 .ret)
 .skip))))
 (.seq (.reg r_slices_IndexFunc_SSint_Sint_1) (.keep [0, 1, 7, 8])))))
@[simp] def r_slices_IndexFunc_SSint_Sint_7 : List AI := [⟨none, some 6, .mov (.t 0)⟩,
  ⟨none, some 7, .lenS (.t 6)⟩,
  ⟨none, some 8, .mov (.k (.lit (.int .i64 0)))⟩]
@[simp] def r_slices_IndexFunc_SSint_Sint_8 : List AI := [⟨none, some 4, .mov (.k (.lit (.int .i64 0)))⟩]
def a_slices_IndexFunc_SSint_Sint : AFn := { nparams := 2, res := [.tmp 4], body :=
 (.seq (.reg r_slices_IndexFunc_SSint_Sint_8)
 (.seq (.seq (.seq (.reg r_slices_IndexFunc_SSint_Sint_7) (.keep [0, 1, 7, 8]))
 (.block 0
 (.loop [0, 1, 7, 8] l_slices_IndexFunc_SSint_Sint_0)))
 (.seq (.reg r_slices_IndexFunc_SSint_Sint_0)
 .ret))) }
@[simp] def r_slices_ContainsFunc_Stally_Proxy_tally_Proxy_0 : List AI := [⟨none, some 5, .mov (.t 0)⟩,
  ⟨none, some 6, .mov (.t 1)⟩,
  ⟨none, some 7, .call (.k (.fn fn_slices_IndexFunc_Stally_Proxy_tally_Proxy [] [])) [(.t 5), (.t 6)]⟩,
  ⟨none, some 8, .bin .geq (.t 7) (.k (.lit (.int .i64 0)))⟩,
  ⟨none, some 4, .mov (.t 8)⟩]
@[simp] def r_slices_ContainsFunc_Stally_Proxy_tally_Proxy_1 : List AI := [⟨none, some 4, .mov (.k (.lit (.bool false)))⟩]
def a_slices_ContainsFunc_Stally_Proxy_tally_Proxy : AFn := { nparams := 2, res := [.tmp 4], body :=
 (.seq (.reg r_slices_ContainsFunc_Stally_Proxy_tally_Proxy_1)
 (.seq (.seq (.reg r_slices_ContainsFunc_Stally_Proxy_tally_Proxy_0) (.keep [4]))
 .ret)) }
@[simp] def r_tally_all_tally_Proxy_1_0 : List AI := [⟨none, some 4, .load 1 false (.t 1)⟩,
  ⟨none, some 5, .load 2 true (.t 2)⟩,
  ⟨none, some 6, .call (.t 4) [(.t 5)]⟩,
  ⟨none, some 7, .not (.t 6)⟩,
  ⟨none, some 3, .mov (.t 7)⟩]
@[simp] def r_tally_all_tally_Proxy_1_1 : List AI := [⟨none, some 2, .box ty_tally_Proxy (.t 0)⟩,
  ⟨none, some 3, .mov (.k (.lit (.bool false)))⟩]
def a_tally_all_tally_Proxy_1 : AFn := { nparams := 2, res := [.tmp 3], body :=
 (.seq (.seq (.reg r_tally_all_tally_Proxy_1_1) (.keep [1, 2]))
 (.seq (.seq (.reg r_tally_all_tally_Proxy_1_0) (.keep [3]))
 .ret)) }
@[simp] def r_slices_IndexFunc_Stally_Proxy_tally_Proxy_0 : List AI := [⟨none, some 4, .mov (.k (.lit (.int .i64 (-1))))⟩]
@[simp] def r_slices_IndexFunc_Stally_Proxy_tally_Proxy_1 : List AI := [⟨none, some 18, .bin .add (.t 8) (.k (.lit (.int .i64 1)))⟩,
  ⟨none, some 8, .mov (.t 18)⟩]
@[simp] def r_slices_IndexFunc_Stally_Proxy_tally_Proxy_2 : List AI := [⟨none, some 17, .mov (.t 5)⟩,
  ⟨none, some 4, .mov (.t 17)⟩]
@[simp] def r_slices_IndexFunc_Stally_Proxy_tally_Proxy_3 : List AI := [⟨none, some 11, .mov (.t 1)⟩,
  ⟨none, some 12, .mov (.t 0)⟩,
  ⟨none, some 13, .mov (.t 5)⟩,
  ⟨none, some 14, .idxS 2 (.t 12) (.t 13)⟩,
  ⟨none, some 15, .load 2 true (.t 14)⟩,
  ⟨none, some 16, .call (.t 11) [(.t 15)]⟩]
@[simp] def r_slices_IndexFunc_Stally_Proxy_tally_Proxy_4 : List AI := [⟨none, some 10, .mov (.t 8)⟩,
  ⟨none, some 5, .mov (.t 10)⟩]
@[simp] def r_slices_IndexFunc_Stally_Proxy_tally_Proxy_5 : List AI := [⟨none, some 9, .bin .lss (.t 8) (.t 7)⟩]
def l_slices_IndexFunc_Stally_Proxy_tally_Proxy_0 : AC :=
 (.seq (.reg r_slices_IndexFunc_Stally_Proxy_tally_Proxy_5)
 (.seq (.cond (.t 9)
 .skip
 (.exit 0))
 (.seq (.block 1
 (.seq (.seq (.reg r_slices_IndexFunc_Stally_Proxy_tally_Proxy_4) (.keep [0, 1, 5, 7, 8]))
 (.seq (.seq (.reg r_slices_IndexFunc_Stally_Proxy_tally_Proxy_3) (.keep [0, 1, 5, 7, 8, 16]))
 (.cond (.t 16)
 (.seq (.seq (.reg r_slices_IndexFunc_Stally_Proxy_tally_Proxy_2) (.keep [4]))
 .ret)
 .skip))))
 (.seq (.reg r_slices_IndexFunc_Stally_Proxy_tally_Proxy_1) (.keep [0, 1, 7, 8])))))
@[simp] def r_slices_IndexFunc_Stally_Proxy_tally_Proxy_7 : List AI := [⟨none, some 6, .mov (.t 0)⟩,
  ⟨none, some 7, .lenS (.t 6)⟩,
  ⟨none, some 8, .mov (.k (.lit (.int .i64 0)))⟩]
@[simp] def r_slices_IndexFunc_Stally_Proxy_tally_Proxy_8 : List AI := [⟨none, some 4, .mov (.k (.lit (.int .i64 0)))⟩]
def a_slices_IndexFunc_Stally_Proxy_tally_Proxy : AFn := { nparams := 2, res := [.tmp 4], body :=
 (.seq (.reg r_slices_IndexFunc_Stally_Proxy_tally_Proxy_8)
 (.seq (.seq (.seq (.reg r_slices_IndexFunc_Stally_Proxy_tally_Proxy_7) (.keep [0, 1, 7, 8]))
 (.block 0
 (.loop [0, 1, 7, 8] l_slices_IndexFunc_Stally_Proxy_tally_Proxy_0)))
 (.seq (.reg r_slices_IndexFunc_Stally_Proxy_tally_Proxy_0)
 .ret))) }
def prog : FuncId → Option AFn
  | 3 => some a_law07_TallyBounds
  | 4 => some a_law07_TallyAlike
  | 5 => some a_law07_TallyKnown
  | 6 => some a_law07_TallyClashes
  | 7 => some a_law07_TallyAllows
  | 8 => some a_law07_TallyNames
  | 9 => some a_law07_small
  | 10 => some a_law07_wakes
  | 11 => some a_tally_Doubts
  | 12 => some a_law07_Division
  | 13 => some a_tally_Bounds
  | 14 => some a_law07_fault
  | 15 => some a_law07_ints
  | 16 => some a_ref07_Doubts
  | 17 => some a_law07_open
  | 18 => some a_ref07_Truths
  | 19 => some a_ref07_Of
  | 20 => some a_law07_Few
  | 21 => some a_ref07_Right
  | 22 => some a_law07_list
  | 23 => some a_tally_Allowed
  | 24 => some a_tally_Ask
  | 25 => some a_tally_Clash
  | 26 => some a_law07_ready
  | 27 => some a_law07_told
  | 28 => some a_ref07_Has
  | 29 => some a_tally_CheckDivision
  | 30 => some a_ref07_Clash
  | 31 => some a_tally_Witness
  | 32 => some a_ref07_Outcome
  | 33 => some a_law07_votes
  | 34 => some a_tally_Count
  | 35 => some a_law07_lobbies
  | 36 => some a_tally_ProveAsk
  | 37 => some a_tally_begin
  | 38 => some a_tally_looked_doubts
  | 39 => some a_tally_open
  | 40 => some a_tally_looked_truths
  | 41 => some a_tally_looked_numbers
  | 42 => some a_tally_least
  | 43 => some a_tally_greatest
  | 44 => some a_ref07_May
  | 45 => some a_ref07_Paired
  | 46 => some a_ref07_In
  | 47 => some a_ref07_list
  | 48 => some a_tally_looked_outcome
  | 49 => some a_slices_Contains_Suint8_uint8
  | 50 => some a_slices_Sort_Suint8_uint8
  | 51 => some a_tally_looked_all
  | 52 => some a_tally_Ask_1
  | 53 => some a_slices_Clone_Sint_int
  | 54 => some a_tally_decide
  | 55 => some a_tally_Division_valid
  | 56 => some a_tally_Division_look
  | 57 => some a_tally_looked_clash
  | 58 => some a_ref07_On
  | 59 => some a_slices_Clone_Suint8_uint8
  | 60 => some a_tally_all_uint8
  | 61 => some a_tally_Count_1
  | 62 => some a_tally_rising
  | 63 => some a_tally_all_int
  | 64 => some a_tally_ProveAsk_1
  | 65 => some a_slices_Contains_Sint_int
  | 66 => some a_tally_looked_truths_1
  | 67 => some a_tally_looked_truths_1_1
  | 68 => some a_tally_looked_numbers_1
  | 69 => some a_slices_Min_Sint_int
  | 70 => some a_slices_Max_Sint_int
  | 71 => some a_ref07_Rising
  | 72 => some a_tally_rules
  | 73 => some a_slices_Index_Suint8_uint8
  | 74 => some a_slices_pdqsortOrdered_uint8
  | 75 => some a_math_bits_Len
  | 76 => some a_tally_within
  | 77 => some a_tally_all_Sint
  | 78 => some a_tally_Division_listed
  | 79 => some a_tally_Division_bound
  | 80 => some a_tally_Division_votes
  | 81 => some a_slices_ContainsFunc_Suint8_uint8
  | 82 => some a_tally_all_uint8_1
  | 83 => some a_slices_ContainsFunc_Sint_int
  | 84 => some a_tally_all_int_1
  | 85 => some a_slices_Index_Sint_int
  | 86 => some a_tally_rules_1
  | 87 => some a_tally_rules_2
  | 88 => some a_tally_rules_3
  | 89 => some a_tally_rules_4
  | 90 => some a_slices_insertionSortOrdered_uint8
  | 96 => some a_cmp_Less_uint8
  | 99 => some a_math_bits_Len32
  | 100 => some a_math_bits_Len64
  | 101 => some a_slices_ContainsFunc_SSint_Sint
  | 102 => some a_tally_all_Sint_1
  | 103 => some a_tally_Division_member
  | 104 => some a_tally_all_tally_Proxy
  | 105 => some a_tally_Division_bound_1
  | 106 => some a_tally_on
  | 107 => some a_slices_IndexFunc_Suint8_uint8
  | 108 => some a_slices_IndexFunc_Sint_int
  | 114 => some a_cmp_isNaN_uint8
  | 115 => some a_slices_IndexFunc_SSint_Sint
  | 116 => some a_slices_ContainsFunc_Stally_Proxy_tally_Proxy
  | 117 => some a_tally_all_tally_Proxy_1
  | 119 => some a_slices_IndexFunc_Stally_Proxy_tally_Proxy
  | _ => none
def C : Cfg := { prog := prog, ext := fun _ => none, keepAll := fun _ => false, fz := 50 }
theorem prog_law07_TallyBounds : C.prog fn_law07_TallyBounds = some a_law07_TallyBounds := by kernel_rfl
theorem prog_law07_TallyAlike : C.prog fn_law07_TallyAlike = some a_law07_TallyAlike := by kernel_rfl
theorem prog_law07_TallyKnown : C.prog fn_law07_TallyKnown = some a_law07_TallyKnown := by kernel_rfl
theorem prog_law07_TallyClashes : C.prog fn_law07_TallyClashes = some a_law07_TallyClashes := by kernel_rfl
theorem prog_law07_TallyAllows : C.prog fn_law07_TallyAllows = some a_law07_TallyAllows := by kernel_rfl
theorem prog_law07_TallyNames : C.prog fn_law07_TallyNames = some a_law07_TallyNames := by kernel_rfl
theorem prog_law07_small : C.prog fn_law07_small = some a_law07_small := by kernel_rfl
theorem prog_law07_wakes : C.prog fn_law07_wakes = some a_law07_wakes := by kernel_rfl
theorem prog_tally_Doubts : C.prog fn_tally_Doubts = some a_tally_Doubts := by kernel_rfl
theorem prog_law07_Division : C.prog fn_law07_Division = some a_law07_Division := by kernel_rfl
theorem prog_tally_Bounds : C.prog fn_tally_Bounds = some a_tally_Bounds := by kernel_rfl
theorem prog_law07_fault : C.prog fn_law07_fault = some a_law07_fault := by kernel_rfl
theorem prog_law07_ints : C.prog fn_law07_ints = some a_law07_ints := by kernel_rfl
theorem prog_ref07_Doubts : C.prog fn_ref07_Doubts = some a_ref07_Doubts := by kernel_rfl
theorem prog_law07_open : C.prog fn_law07_open = some a_law07_open := by kernel_rfl
theorem prog_ref07_Truths : C.prog fn_ref07_Truths = some a_ref07_Truths := by kernel_rfl
theorem prog_ref07_Of : C.prog fn_ref07_Of = some a_ref07_Of := by kernel_rfl
theorem prog_law07_Few : C.prog fn_law07_Few = some a_law07_Few := by kernel_rfl
theorem prog_ref07_Right : C.prog fn_ref07_Right = some a_ref07_Right := by kernel_rfl
theorem prog_law07_list : C.prog fn_law07_list = some a_law07_list := by kernel_rfl
theorem prog_tally_Allowed : C.prog fn_tally_Allowed = some a_tally_Allowed := by kernel_rfl
theorem prog_tally_Ask : C.prog fn_tally_Ask = some a_tally_Ask := by kernel_rfl
theorem prog_tally_Clash : C.prog fn_tally_Clash = some a_tally_Clash := by kernel_rfl
theorem prog_law07_ready : C.prog fn_law07_ready = some a_law07_ready := by kernel_rfl
theorem prog_law07_told : C.prog fn_law07_told = some a_law07_told := by kernel_rfl
theorem prog_ref07_Has : C.prog fn_ref07_Has = some a_ref07_Has := by kernel_rfl
theorem prog_tally_CheckDivision : C.prog fn_tally_CheckDivision = some a_tally_CheckDivision := by kernel_rfl
theorem prog_ref07_Clash : C.prog fn_ref07_Clash = some a_ref07_Clash := by kernel_rfl
theorem prog_tally_Witness : C.prog fn_tally_Witness = some a_tally_Witness := by kernel_rfl
theorem prog_ref07_Outcome : C.prog fn_ref07_Outcome = some a_ref07_Outcome := by kernel_rfl
theorem prog_law07_votes : C.prog fn_law07_votes = some a_law07_votes := by kernel_rfl
theorem prog_tally_Count : C.prog fn_tally_Count = some a_tally_Count := by kernel_rfl
theorem prog_law07_lobbies : C.prog fn_law07_lobbies = some a_law07_lobbies := by kernel_rfl
theorem prog_tally_ProveAsk : C.prog fn_tally_ProveAsk = some a_tally_ProveAsk := by kernel_rfl
theorem prog_tally_begin : C.prog fn_tally_begin = some a_tally_begin := by kernel_rfl
theorem prog_tally_looked_doubts : C.prog fn_tally_looked_doubts = some a_tally_looked_doubts := by kernel_rfl
theorem prog_tally_open : C.prog fn_tally_open = some a_tally_open := by kernel_rfl
theorem prog_tally_looked_truths : C.prog fn_tally_looked_truths = some a_tally_looked_truths := by kernel_rfl
theorem prog_tally_looked_numbers : C.prog fn_tally_looked_numbers = some a_tally_looked_numbers := by kernel_rfl
theorem prog_tally_least : C.prog fn_tally_least = some a_tally_least := by kernel_rfl
theorem prog_tally_greatest : C.prog fn_tally_greatest = some a_tally_greatest := by kernel_rfl
theorem prog_ref07_May : C.prog fn_ref07_May = some a_ref07_May := by kernel_rfl
theorem prog_ref07_Paired : C.prog fn_ref07_Paired = some a_ref07_Paired := by kernel_rfl
theorem prog_ref07_In : C.prog fn_ref07_In = some a_ref07_In := by kernel_rfl
theorem prog_ref07_list : C.prog fn_ref07_list = some a_ref07_list := by kernel_rfl
theorem prog_tally_looked_outcome : C.prog fn_tally_looked_outcome = some a_tally_looked_outcome := by kernel_rfl
theorem prog_slices_Contains_Suint8_uint8 : C.prog fn_slices_Contains_Suint8_uint8 = some a_slices_Contains_Suint8_uint8 := by kernel_rfl
theorem prog_slices_Sort_Suint8_uint8 : C.prog fn_slices_Sort_Suint8_uint8 = some a_slices_Sort_Suint8_uint8 := by kernel_rfl
theorem prog_tally_looked_all : C.prog fn_tally_looked_all = some a_tally_looked_all := by kernel_rfl
theorem prog_tally_Ask_1 : C.prog fn_tally_Ask_1 = some a_tally_Ask_1 := by kernel_rfl
theorem prog_slices_Clone_Sint_int : C.prog fn_slices_Clone_Sint_int = some a_slices_Clone_Sint_int := by kernel_rfl
theorem prog_tally_decide : C.prog fn_tally_decide = some a_tally_decide := by kernel_rfl
theorem prog_tally_Division_valid : C.prog fn_tally_Division_valid = some a_tally_Division_valid := by kernel_rfl
theorem prog_tally_Division_look : C.prog fn_tally_Division_look = some a_tally_Division_look := by kernel_rfl
theorem prog_tally_looked_clash : C.prog fn_tally_looked_clash = some a_tally_looked_clash := by kernel_rfl
theorem prog_ref07_On : C.prog fn_ref07_On = some a_ref07_On := by kernel_rfl
theorem prog_slices_Clone_Suint8_uint8 : C.prog fn_slices_Clone_Suint8_uint8 = some a_slices_Clone_Suint8_uint8 := by kernel_rfl
theorem prog_tally_all_uint8 : C.prog fn_tally_all_uint8 = some a_tally_all_uint8 := by kernel_rfl
theorem prog_tally_Count_1 : C.prog fn_tally_Count_1 = some a_tally_Count_1 := by kernel_rfl
theorem prog_tally_rising : C.prog fn_tally_rising = some a_tally_rising := by kernel_rfl
theorem prog_tally_all_int : C.prog fn_tally_all_int = some a_tally_all_int := by kernel_rfl
theorem prog_tally_ProveAsk_1 : C.prog fn_tally_ProveAsk_1 = some a_tally_ProveAsk_1 := by kernel_rfl
theorem prog_slices_Contains_Sint_int : C.prog fn_slices_Contains_Sint_int = some a_slices_Contains_Sint_int := by kernel_rfl
theorem prog_tally_looked_truths_1 : C.prog fn_tally_looked_truths_1 = some a_tally_looked_truths_1 := by kernel_rfl
theorem prog_tally_looked_truths_1_1 : C.prog fn_tally_looked_truths_1_1 = some a_tally_looked_truths_1_1 := by kernel_rfl
theorem prog_tally_looked_numbers_1 : C.prog fn_tally_looked_numbers_1 = some a_tally_looked_numbers_1 := by kernel_rfl
theorem prog_slices_Min_Sint_int : C.prog fn_slices_Min_Sint_int = some a_slices_Min_Sint_int := by kernel_rfl
theorem prog_slices_Max_Sint_int : C.prog fn_slices_Max_Sint_int = some a_slices_Max_Sint_int := by kernel_rfl
theorem prog_ref07_Rising : C.prog fn_ref07_Rising = some a_ref07_Rising := by kernel_rfl
theorem prog_tally_rules : C.prog fn_tally_rules = some a_tally_rules := by kernel_rfl
theorem prog_slices_Index_Suint8_uint8 : C.prog fn_slices_Index_Suint8_uint8 = some a_slices_Index_Suint8_uint8 := by kernel_rfl
theorem prog_slices_pdqsortOrdered_uint8 : C.prog fn_slices_pdqsortOrdered_uint8 = some a_slices_pdqsortOrdered_uint8 := by kernel_rfl
theorem prog_math_bits_Len : C.prog fn_math_bits_Len = some a_math_bits_Len := by kernel_rfl
theorem prog_tally_within : C.prog fn_tally_within = some a_tally_within := by kernel_rfl
theorem prog_tally_all_Sint : C.prog fn_tally_all_Sint = some a_tally_all_Sint := by kernel_rfl
theorem prog_tally_Division_listed : C.prog fn_tally_Division_listed = some a_tally_Division_listed := by kernel_rfl
theorem prog_tally_Division_bound : C.prog fn_tally_Division_bound = some a_tally_Division_bound := by kernel_rfl
theorem prog_tally_Division_votes : C.prog fn_tally_Division_votes = some a_tally_Division_votes := by kernel_rfl
theorem prog_slices_ContainsFunc_Suint8_uint8 : C.prog fn_slices_ContainsFunc_Suint8_uint8 = some a_slices_ContainsFunc_Suint8_uint8 := by kernel_rfl
theorem prog_tally_all_uint8_1 : C.prog fn_tally_all_uint8_1 = some a_tally_all_uint8_1 := by kernel_rfl
theorem prog_slices_ContainsFunc_Sint_int : C.prog fn_slices_ContainsFunc_Sint_int = some a_slices_ContainsFunc_Sint_int := by kernel_rfl
theorem prog_tally_all_int_1 : C.prog fn_tally_all_int_1 = some a_tally_all_int_1 := by kernel_rfl
theorem prog_slices_Index_Sint_int : C.prog fn_slices_Index_Sint_int = some a_slices_Index_Sint_int := by kernel_rfl
theorem prog_tally_rules_1 : C.prog fn_tally_rules_1 = some a_tally_rules_1 := by kernel_rfl
theorem prog_tally_rules_2 : C.prog fn_tally_rules_2 = some a_tally_rules_2 := by kernel_rfl
theorem prog_tally_rules_3 : C.prog fn_tally_rules_3 = some a_tally_rules_3 := by kernel_rfl
theorem prog_tally_rules_4 : C.prog fn_tally_rules_4 = some a_tally_rules_4 := by kernel_rfl
theorem prog_slices_insertionSortOrdered_uint8 : C.prog fn_slices_insertionSortOrdered_uint8 = some a_slices_insertionSortOrdered_uint8 := by kernel_rfl
theorem prog_cmp_Less_uint8 : C.prog fn_cmp_Less_uint8 = some a_cmp_Less_uint8 := by kernel_rfl
theorem prog_math_bits_Len32 : C.prog fn_math_bits_Len32 = some a_math_bits_Len32 := by kernel_rfl
theorem prog_math_bits_Len64 : C.prog fn_math_bits_Len64 = some a_math_bits_Len64 := by kernel_rfl
theorem prog_slices_ContainsFunc_SSint_Sint : C.prog fn_slices_ContainsFunc_SSint_Sint = some a_slices_ContainsFunc_SSint_Sint := by kernel_rfl
theorem prog_tally_all_Sint_1 : C.prog fn_tally_all_Sint_1 = some a_tally_all_Sint_1 := by kernel_rfl
theorem prog_tally_Division_member : C.prog fn_tally_Division_member = some a_tally_Division_member := by kernel_rfl
theorem prog_tally_all_tally_Proxy : C.prog fn_tally_all_tally_Proxy = some a_tally_all_tally_Proxy := by kernel_rfl
theorem prog_tally_Division_bound_1 : C.prog fn_tally_Division_bound_1 = some a_tally_Division_bound_1 := by kernel_rfl
theorem prog_tally_on : C.prog fn_tally_on = some a_tally_on := by kernel_rfl
theorem prog_slices_IndexFunc_Suint8_uint8 : C.prog fn_slices_IndexFunc_Suint8_uint8 = some a_slices_IndexFunc_Suint8_uint8 := by kernel_rfl
theorem prog_slices_IndexFunc_Sint_int : C.prog fn_slices_IndexFunc_Sint_int = some a_slices_IndexFunc_Sint_int := by kernel_rfl
theorem prog_cmp_isNaN_uint8 : C.prog fn_cmp_isNaN_uint8 = some a_cmp_isNaN_uint8 := by kernel_rfl
theorem prog_slices_IndexFunc_SSint_Sint : C.prog fn_slices_IndexFunc_SSint_Sint = some a_slices_IndexFunc_SSint_Sint := by kernel_rfl
theorem prog_slices_ContainsFunc_Stally_Proxy_tally_Proxy : C.prog fn_slices_ContainsFunc_Stally_Proxy_tally_Proxy = some a_slices_ContainsFunc_Stally_Proxy_tally_Proxy := by kernel_rfl
theorem prog_tally_all_tally_Proxy_1 : C.prog fn_tally_all_tally_Proxy_1 = some a_tally_all_tally_Proxy_1 := by kernel_rfl
theorem prog_slices_IndexFunc_Stally_Proxy_tally_Proxy : C.prog fn_slices_IndexFunc_Stally_Proxy_tally_Proxy = some a_slices_IndexFunc_Stally_Proxy_tally_Proxy := by kernel_rfl

end
end Go.AM.T
/- What the functions compute (own work). -/
namespace Go.AM.T
open Go Go.AM
attribute [local simp] so_mov so_pick so_alloc so_box so_build so_slit so_load so_store so_nilc so_bin so_beq so_eqs so_eqn so_eqnl so_not so_conv so_s2b so_mkfn so_slcA so_padd so_fld so_idxA so_idxV so_idxT so_look so_mupd so_mkmap so_mksl so_ext so_app so_lenT so_lenM so_min so_max so_cpy so_clr so_mkif so_tass so_lenS so_idxS so_slc
attribute [local simp] dn_skip dn_label dn_ret dn_exit dn_scope dn_keep dn_reg dn_draw0 noSlots denE denEI stepE  sd_mov sd_pick sd_build sd_load sd_store sd_nilc sd_bin sd_beq sd_eqs sd_eqn sd_eqnl sd_not sd_conv sd_s2b sd_mkfn sd_slc sd_slcA sd_padd sd_fld sd_idxS sd_idxA sd_idxV sd_idxT sd_look sd_mupd sd_ext sd_app sd_lenS sd_lenT sd_lenM sd_min sd_max sd_mkif sd_tass sd_call sd_slit dn_seq dn_cond dn_block dn_loop kn_call denIs denI denOp wants ev eget putD binL enumFrom AV.bool? AV.int? ekeep evs evp runV fin runDefs resAll resOf tupOf unit AV.cells okV ok1 Value.oneCell' fill setN rcells rs_nil rs_cons load_own load_cons mkAgg_rs storeN jmpOut
theorem C_fz : C.fz = 50 := rfl
theorem fzr (m : Mem) (n : Nat) (x : RV) : fz m n 50 (.r x) = some (.r x) := rfl

theorem In_spec (n lo hi : Int) (m : Mem) : CallR C (fnv fn_ref07_In) [i64 n, i64 lo, i64 hi] m (.ret (bo (decide (lo ≤ n) && decide (n ≤ hi))) m) := by
  by_cases h1 : lo ≤ n <;> by_cases h2 : n ≤ hi <;> exact CallR.eval0 rfl rfl prog_ref07_In rfl ⟨0, fun k _ => by simp [a_ref07_In, h1, h2, C_fz, fzr]⟩

theorem within_spec (n lo hi : Int) (m : Mem) : CallR C (fnv fn_tally_within) [i64 n, i64 lo, i64 hi] m (.ret (bo (decide (lo ≤ n) && decide (n ≤ hi))) m) := by
  by_cases h1 : lo ≤ n <;> by_cases h2 : n ≤ hi <;> exact CallR.eval0 rfl rfl prog_tally_within rfl ⟨0, fun k _ => by simp [a_tally_within, h1, h2, C_fz, fzr]⟩

/-- A slice of ints. -/
abbrev SlI (l : List Int) (v : RV) : Prop := Sl (ints .i64 l) l.length v

theorem Has_spec {l : List Int} {v : RV} (hl : SlI l v) (hb : l.length < 2 ^ 63) (n : Int) (m : Mem) : CallR C (fnv fn_ref07_Has) [.r v, i64 n] m (.ret (bo (l.contains n)) m) := by
  have key := Loop.run (C := C) (c := l_ref07_Has_0) (live := [0, 1, 5]) (fun k s => ∃ i, i + k = l.length ∧ At1 [0, 1, 5] [(0, .r v), (1, i64 n), (5, i64 i)] { h := m.h } s ∧ n ∉ l.take i)
    (fun o s => s.m = { h := m.h } ∧ s.defs = [] ∧ ((o = .ret ∧ eget s.env 4 = bo true ∧ l.contains n = true) ∨ (o = .exit 0 ∧ l.contains n = false))) (by
    rintro k s ⟨i, hik, ⟨he, hm, hd, hr⟩, hn⟩
    rw [he]
    cases k with
    | zero =>
      have hi : i = l.length := by omega
      subst hi
      exact ⟨.exit 0, _, .of fun K => by simp [l_ref07_Has_0, hl.len]; rfl, .inr ⟨by simp, by simp [hm], by simp [hd], .inr ⟨rfl, by simpa using hn⟩⟩⟩
    | succ k =>
      have hi : i < l.length := by omega
      by_cases hx : l[i] = n
      · exact ⟨.ret, _, .of fun K => by simp [l_ref07_Has_0, hl.len, hl.at hi, load_ints hi, hi, hx]; rfl, .inr ⟨by simp, by simp [hm], by simp [hd], .inl ⟨rfl, rfl, by simp [← hx]⟩⟩⟩
      · exact ⟨.norm, _, .of fun K => by simp [l_ref07_Has_0, hl.len, hl.at hi, load_ints hi, hi, hx]; rfl, .inl ⟨rfl, k, by omega, i + 1, by omega, ⟨by simp; exact w64 (by omega) (by omega), by simp [hm], by simp [hd], by simp [hr]⟩, not_mem_take_succ hi hn hx⟩⟩)
  obtain ⟨o, s, h1, h2, h3, h4, h5⟩ := key l.length { env := [(5, i64 0), (4, bo false), (0, .r v), (1, i64 n)], m := { h := m.h } } ⟨0, by simp, ⟨by simp, rfl, rfl, rfl⟩, by simp⟩
  obtain ⟨n0, h1⟩ := h1.get
  rcases h5 with ⟨rfl, h5, h6⟩ | ⟨rfl, h6⟩ <;> rw [h6]
  · exact CallR.eval0 rfl rfl prog_ref07_Has rfl ⟨n0, fun k hk => by simp [a_ref07_Has, h1 k hk, h4, h5, h3, C_fz, fzr]⟩
  · exact CallR.eval0 rfl rfl prog_ref07_Has rfl ⟨n0, fun k hk => by simp [a_ref07_Has, h1 k hk, h4, h3, C_fz, fzr]⟩

/-- Do numbers rise? -/
def risingB : List Int → Bool
  | a :: b :: r => decide (a < b) && risingB (b :: r)
  | _ => true
theorem risingB_iff : ∀ l : List Int, risingB l = true ↔ ∀ i, (h : i + 1 < l.length) → l[i] < l[i + 1]
  | [] => by simp [risingB]
  | [a] => by simp [risingB]
  | a :: b :: r => by
    rw [risingB, Bool.and_eq_true, decide_eq_true_eq, risingB_iff (b :: r)]
    constructor
    · rintro ⟨h1, h2⟩ i hi
      cases i with
      | zero => exact h1
      | succ i => exact h2 i (by simpa using hi)
    · intro h
      exact ⟨h 0 (by simp), fun i hi => h (i + 1) (by simpa using hi)⟩

theorem Rising_spec {l : List Int} {v : RV} (hl : SlI l v) (hb : l.length < 2 ^ 63) (m : Mem) : CallR C (fnv fn_ref07_Rising) [.r v] m (.ret (bo (risingB l)) m) := by
  have key := Loop.run (C := C) (c := l_ref07_Rising_0) (live := [0, 3]) (fun k s => ∃ i : Nat, i + 1 + k = max l.length 1 ∧ At1 [0, 3] [(0, .r v), (3, i64 (i + 1 : Nat))] { h := m.h } s ∧ ∀ j, j < i → (h : j + 1 < l.length) → l[j] < l[j + 1])
    (fun o s => s.m = { h := m.h } ∧ s.defs = [] ∧ ((o = .ret ∧ eget s.env 2 = bo false ∧ risingB l = false) ∨ (o = .exit 0 ∧ risingB l = true))) (by
    rintro k s ⟨i, hik, ⟨he, hm, hd, hr⟩, hn⟩
    rw [he]
    cases k with
    | zero =>
      have hi : l.length ≤ i + 1 := by omega
      have e1 : ((i : Int) + 1 < (l.length : Int)) = False := eq_false (by omega)
      refine ⟨.exit 0, _, .of fun K => by simp [l_ref07_Rising_0, hl.len, e1]; rfl, .inr ⟨by simp, by simp [hm], by simp [hd], .inr ⟨rfl, ?_⟩⟩⟩
      rw [risingB_iff]
      exact fun j hj => hn j (by omega) hj
    | succ k =>
      have hi : i + 1 < l.length := by omega
      have hi' : i < l.length := by omega
      have e1 : ((i : Int) + 1 < (l.length : Int)) = True := eq_true (by omega)
      have e2 : IntKind.wrap .i64 ((i : Int) + 1 - 1) = i := by rw [w64] <;> omega
      have e2' : IntKind.wrap .i64 ((i : Int)) = i := by rw [w64] <;> omega
      have a1 : atOf 1 (.r v) ((i : Int) + 1) = _ := hl.at (i := i + 1) (sz := 1) hi
      by_cases hx : l[i] < l[i + 1]
      · have e3 : (l[i + 1] ≤ l[i]) = False := eq_false (by omega)
        refine ⟨.norm, _, .of fun K => by simp [l_ref07_Rising_0, hl.len, e1, a1, hl.at hi', e2', load_ints hi, load_ints hi', e3]; rfl, .inl ⟨rfl, k, by omega, i + 1, by omega, ⟨?_, by simp [hm], by simp [hd], by simp [hr]⟩, fun j hj h => ?_⟩⟩
        · simp
          have := w64 (n := (i : Int) + 1 + 1) (by omega) (by omega)
          omega
        · by_cases e : j = i
          · subst e; exact hx
          · exact hn j (by omega) h
      · have e3 : (l[i + 1] ≤ l[i]) = True := eq_true (by omega)
        refine ⟨.ret, _, .of fun K => by simp [l_ref07_Rising_0, hl.len, e1, a1, hl.at hi', e2', load_ints hi, load_ints hi', e3]; rfl, .inr ⟨by simp, by simp [hm], by simp [hd], .inl ⟨rfl, rfl, ?_⟩⟩⟩
        cases h : risingB l with
        | false => rfl
        | true => exact absurd ((risingB_iff l).1 h i hi) hx)
  obtain ⟨o, s, h1, h2, h3, h4, h5⟩ := key (max l.length 1 - 1) { env := [(3, i64 1), (2, bo false), (0, .r v)], m := { h := m.h } } ⟨0, by omega, ⟨by simp, rfl, rfl, rfl⟩, by simp⟩
  obtain ⟨n0, h1⟩ := h1.get
  rcases h5 with ⟨rfl, h5, h6⟩ | ⟨rfl, h6⟩ <;> rw [h6]
  · exact CallR.eval0 rfl rfl prog_ref07_Rising rfl ⟨n0, fun k hk => by simp [a_ref07_Rising, h1 k hk, h4, h5, h3, C_fz, fzr]⟩
  · exact CallR.eval0 rfl rfl prog_ref07_Rising rfl ⟨n0, fun k hk => by simp [a_ref07_Rising, h1 k hk, h4, h3, C_fz, fzr]⟩

/-- Pairs as cells. -/
def prs (l : List (Int × Int)) : List RV := l.flatMap fun p => [.lit (.int .i64 p.1), .lit (.int .i64 p.2)]
abbrev SlP (l : List (Int × Int)) (v : RV) : Prop := Sl (prs l) l.length v

structure Div where
  n : Int
  a0 : List Int
  a1 : List Int
  n0 : List Int
  n1 : List Int
  pairs : List (Int × Int)
  proxies : List (Int × Int)
  rule : Int
  need : Int
  quorum : Int
  tie : Int

/-- The slices of a division. -/
structure DivS (d : Div) (a0 a1 n0 n1 p q : RV) : Prop where
  a0 : SlI d.a0 a0
  a1 : SlI d.a1 a1
  n0 : SlI d.n0 n0
  n1 : SlI d.n1 n1
  p : SlP d.pairs p
  q : SlP d.proxies q
def divC (d : Div) (a0 a1 n0 n1 p q : RV) : List RV :=
  [.lit (.int .i64 d.n), a0, a1, n0, n1, p, q, .lit (.int .u8 d.rule), .lit (.int .i64 d.need), .lit (.int .i64 d.quorum), .lit (.int .u8 d.tie)]

section
variable (d : Div) (a0 a1 n0 n1 p q : RV)
theorem dvL : (rs (divC d a0 a1 n0 n1 p q)).length = 11 := rfl
theorem dv0 : List.take 1 (rs (divC d a0 a1 n0 n1 p q)) = [i64 d.n] := rfl
theorem dv1 : List.take 1 (List.drop 1 (rs (divC d a0 a1 n0 n1 p q))) = [.r a0] := rfl
theorem dv2 : List.take 1 (List.drop 2 (rs (divC d a0 a1 n0 n1 p q))) = [.r a1] := rfl
theorem dv3 : List.take 1 (List.drop 3 (rs (divC d a0 a1 n0 n1 p q))) = [.r n0] := rfl
theorem dv4 : List.take 1 (List.drop 4 (rs (divC d a0 a1 n0 n1 p q))) = [.r n1] := rfl
theorem dv5 : List.take 1 (List.drop 5 (rs (divC d a0 a1 n0 n1 p q))) = [.r p] := rfl
theorem dv6 : List.take 1 (List.drop 6 (rs (divC d a0 a1 n0 n1 p q))) = [.r q] := rfl
theorem dv7 : List.take 1 (List.drop 7 (rs (divC d a0 a1 n0 n1 p q))) = [u8 d.rule] := rfl
theorem dv8 : List.take 1 (List.drop 8 (rs (divC d a0 a1 n0 n1 p q))) = [i64 d.need] := rfl
theorem dv9 : List.take 1 (List.drop 9 (rs (divC d a0 a1 n0 n1 p q))) = [i64 d.quorum] := rfl
theorem dv10 : List.take 1 (List.drop 10 (rs (divC d a0 a1 n0 n1 p q))) = [u8 d.tie] := rfl
theorem dvA : List.take 2 (List.drop 1 (rs (divC d a0 a1 n0 n1 p q))) = [.r a0, .r a1] := rfl
theorem dvN : List.take 2 (List.drop 3 (rs (divC d a0 a1 n0 n1 p q))) = [.r n0, .r n1] := rfl
theorem dv1t : List.take 1 (rs (divC d a0 a1 n0 n1 p q)).tail = [.r a0] := rfl
theorem dvAt : List.take 2 (rs (divC d a0 a1 n0 n1 p q)).tail = [.r a0, .r a1] := rfl
theorem mkAgg2 (x y : RV) : mkAgg [.r x, .r y] = .r (.agg [x, y]) := rfl
theorem dvAll : List.take 11 (rs (divC d a0 a1 n0 n1 p q)) = rs (divC d a0 a1 n0 n1 p q) := rfl
end
attribute [local simp] dvL dv1t dvAt mkAgg2 dv0 dv1 dv2 dv3 dv4 dv5 dv6 dv7 dv8 dv9 dv10 dvA dvN dvAll

def memB (n x : Int) : Bool := decide (0 ≤ x) && decide (x ≤ n - 1)

theorem all_false {l : List Int} {p : Int → Bool} {i : Nat} (hi : i < l.length) (h : p l[i] = false) : l.all p = false := by
  rw [List.all_eq_false]; exact ⟨l[i], by simp, by simp [h]⟩
theorem all_take_succ {l : List Int} {p : Int → Bool} {i : Nat} (hi : i < l.length) (h : ∀ x ∈ l.take i, p x = true) (hx : p l[i] = true) : ∀ x ∈ l.take (i + 1), p x = true := by
  intro x hm
  rw [List.take_succ_eq_append_getElem hi, List.mem_append] at hm
  rcases hm with hm | hm
  · exact h x hm
  · simp at hm; subst hm; exact hx

theorem list_spec {d : Div} {a0 a1 n0 n1 p q : RV} (hn : 1 ≤ d.n) (hn' : d.n ≤ 40) {l : List Int} {v : RV} (hl : SlI l v) (hb : l.length < 2 ^ 63) (m : Mem) :
    CallR C (fnv fn_ref07_list) [.r (.agg (divC d a0 a1 n0 n1 p q)), .r v] m (.ret (bo (l.all (memB d.n) && risingB l)) m) := by
  have hw : IntKind.wrap .i64 (d.n - 1) = d.n - 1 := by rw [w64] <;> omega
  obtain ⟨H, hH⟩ : ∃ H, H = m.h ++ [.cells (rs (divC d a0 a1 n0 n1 p q)) ty_ref07_Division 0] := ⟨_, rfl⟩
  have hc : H[m.h.length]? = some (.cells (rs (divC d a0 a1 n0 n1 p q)) ty_ref07_Division 0) := by simp [hH]
  have key := Loop.run (C := C) (c := l_ref07_list_0) (live := [1, 2, 5]) (fun k s => ∃ i : Nat, i + k = l.length ∧ At1 [1, 2, 5] [(1, .r v), (2, .own m.h.length 0 0), (5, i64 i)] { h := H } s ∧ ∀ x ∈ l.take i, memB d.n x = true)
    (fun o s => s.m = { h := H } ∧ s.defs = [] ∧ ((o = .ret ∧ eget s.env 4 = bo false ∧ l.all (memB d.n) = false) ∨ (o = .exit 0 ∧ eget s.env 1 = .r v ∧ l.all (memB d.n) = true))) (by
    rintro k s ⟨i, hik, ⟨he, hm, hd, hr⟩, hx⟩
    rw [he]
    cases k with
    | zero =>
      have hi : i = l.length := by omega
      subst hi
      exact ⟨.exit 0, _, .of fun K => by simp [l_ref07_list_0, hl.len]; rfl, .inr ⟨by simp, by simp [hm], by simp [hd], .inr ⟨rfl, by simp, by simpa using hx⟩⟩⟩
    | succ k =>
      have hi : i < l.length := by omega
      obtain ⟨c1, h1⟩ := In_spec l[i] 0 (d.n - 1) { h := H }
      cases hq : memB d.n l[i] with
      | true =>
        rw [show (decide (0 ≤ l[i]) && decide (l[i] ≤ d.n - 1)) = true from hq] at h1
        refine ⟨.norm, _, .ofN ⟨c1, fun n hn => by simp [l_ref07_list_0, hl.len, hl.at hi, load_ints hi, hi, hm, hc, hw, h1 n hn]; rfl⟩, .inl ⟨rfl, k, by omega, i + 1, by omega, ⟨?_, by simp, by simp [hd], by simp [hr]⟩, all_take_succ hi hx hq⟩⟩
        simp; exact w64 (by omega) (by omega)
      | false =>
        rw [show (decide (0 ≤ l[i]) && decide (l[i] ≤ d.n - 1)) = false from hq] at h1
        exact ⟨.ret, _, .ofN ⟨c1, fun n hn => by simp [l_ref07_list_0, hl.len, hl.at hi, load_ints hi, hi, hm, hc, hw, h1 n hn]; rfl⟩, .inr ⟨by simp, by simp, by simp [hd], .inl ⟨rfl, rfl, all_false hi hq⟩⟩⟩)
  obtain ⟨o, s, h1, h2, h3, h4, h5⟩ := key l.length { env := [(5, i64 0), (1, .r v), (2, .own m.h.length 0 0)], m := { h := H } } ⟨0, by simp, ⟨by simp, rfl, rfl, rfl⟩, by simp⟩
  obtain ⟨c0, h1⟩ := h1.get
  have ht : H.take m.h.length = m.h := by simp [hH]
  rcases h5 with ⟨rfl, h5, h6⟩ | ⟨rfl, h5, h6⟩ <;> rw [h6]
  · exact CallR.eval (m1 := { h := H }) rfl rfl prog_ref07_list rfl ⟨c0, fun k hk => by simp [a_ref07_list, ← hH, h1 k hk, h4, h5, h3, C_fz, fzr]⟩ ht (by simp)
  · obtain ⟨c1, h7⟩ := Rising_spec hl hb { h := H }
    exact CallR.eval (m1 := { h := H }) rfl rfl prog_ref07_list rfl ⟨max c0 c1, fun k hk => by simp [a_ref07_list, ← hH, h1 k (by omega), h4, h5, h3, C_fz, fzr, h7 k (by omega)]⟩ ht (by simp)

theorem wk0 : IntKind.wrap .i64 0 = 0 := rfl
theorem wk1 : IntKind.wrap .i64 1 = 1 := rfl
theorem wk2 : IntKind.wrap .i64 2 = 2 := rfl
theorem wk3 : IntKind.wrap .i64 3 = 3 := rfl

def b2i (b : Bool) : Int := if b then 1 else 0
def onB (l0 l1 : List Int) (x : Int) : Int := b2i (l0.contains x) + b2i (l1.contains x)

theorem On_spec {l0 l1 : List Int} {v0 v1 : RV} (h0 : SlI l0 v0) (h1 : SlI l1 v1) (hb0 : l0.length < 2 ^ 63) (hb1 : l1.length < 2 ^ 63) (x : Int) (m : Mem) :
    CallR C (fnv fn_ref07_On) [.r (.agg [v0, v1]), i64 x] m (.ret (i64 (onB l0 l1 x)) m) := by
  obtain ⟨H, hH⟩ : ∃ H, H = m.h ++ [.cells [.r v0, .r v1] ty_2_Sint 0] := ⟨_, rfl⟩
  have hc : H[m.h.length]? = some (.cells [.r v0, .r v1] ty_2_Sint 0) := by simp [hH]
  have ht : H.take m.h.length = m.h := by simp [hH]
  obtain ⟨c0, k0⟩ := Has_spec h0 hb0 x { h := H }
  obtain ⟨c1, k1⟩ := Has_spec h1 hb1 x { h := H }
  rw [show onB l0 l1 x = b2i (l0.contains x) + b2i (l1.contains x) from rfl]
  cases e0 : l0.contains x <;> cases e1 : l1.contains x <;> rw [e0] at k0 <;> rw [e1] at k1
  all_goals
    refine CallR.eval (m1 := { h := H }) rfl rfl prog_ref07_On rfl ⟨max c0 c1 + 5, fun k hk => ?_⟩ ht (by simp)
    obtain ⟨j, rfl⟩ : ∃ j, k = j + 5 := ⟨k - 5, by omega⟩
    simp [a_ref07_On, ← hH, goLoop, kn_iter, iterN, l_ref07_On_0, hc, k0 _ (show c0 ≤ j + 5 by omega), k1 _ (show c1 ≤ j + 5 by omega), wk1, wk2, C_fz, fzr, b2i]

def few1 (a n : List Int) : Bool := decide (a.length ≤ 45) && decide (n.length ≤ 45)
def fewB (d : Div) : Bool := few1 d.a0 d.n0 && few1 d.a1 d.n1 && decide (d.pairs.length ≤ 12) && decide (d.proxies.length ≤ 12)

theorem Few_spec {d : Div} {a0 a1 n0 n1 p q : RV} (hs : DivS d a0 a1 n0 n1 p q) (m : Mem) : CallR C (fnv fn_law07_Few) [.r (.agg (divC d a0 a1 n0 n1 p q))] m (.ret (bo (fewB d)) m) := by
  obtain ⟨H, hH⟩ : ∃ H, H = m.h ++ [.cells (rs (divC d a0 a1 n0 n1 p q)) ty_ref07_Division 0] := ⟨_, rfl⟩
  have hc : H[m.h.length]? = some (.cells (rs (divC d a0 a1 n0 n1 p q)) ty_ref07_Division 0) := by simp [hH]
  have ht : H.take m.h.length = m.h := by simp [hH]
  -- one round
  have rd : ∀ (i : Nat) (a n : List Int) (va vn : RV), SlI a va → SlI n vn → i < 2 → (rs (divC d a0 a1 n0 n1 p q))[1 + i]? = some (.r va) → (rs (divC d a0 a1 n0 n1 p q))[3 + i]? = some (.r vn) → ∀ s : St, s.m = { h := H } → s.defs = [] →
      (few1 a n = true → ∃ s', Den C l_law07_Few_0 { s with env := [(1, .own m.h.length 0 0), (3, i64 i)] } .norm s' ∧ ekeep [1, 3] s'.env = [(1, .own m.h.length 0 0), (3, i64 (i + 1 : Nat))] ∧ s'.m = { h := H } ∧ s'.defs = []) ∧
      (few1 a n = false → ∃ s', Den C l_law07_Few_0 { s with env := [(1, .own m.h.length 0 0), (3, i64 i)] } .ret s' ∧ eget s'.env 2 = bo false ∧ s'.m = { h := H } ∧ s'.defs = []) := by
    intro i a n va vn ha hn hi g1 g2 s hm hd
    have w1 : IntKind.wrap .i64 ((i : Int) + 1) = i + 1 := by rw [w64] <;> omega
    have t1 : ((i : Int) < 2) = True := eq_true (by omega)
    have r1 : List.take 1 (List.drop (1 + i) (rs (divC d a0 a1 n0 n1 p q))) = [.r va] := by
      rw [List.take_one, List.head?_drop, g1]; rfl
    have r3 : List.take 1 (List.drop (3 + i) (rs (divC d a0 a1 n0 n1 p q))) = [.r vn] := by
      rw [List.take_one, List.head?_drop, g2]; rfl
    have hl : (rs (divC d a0 a1 n0 n1 p q)).length = 11 := rfl
    have l1 : (1 + i + 1 ≤ 11) = True := eq_true (by omega)
    have l3 : (3 + i + 1 ≤ 11) = True := eq_true (by omega)
    by_cases h1 : a.length ≤ 45
    · have e1 : (45 < (a.length : Int)) = False := eq_false (by omega)
      by_cases h2 : n.length ≤ 45
      · have e2 : (45 < (n.length : Int)) = False := eq_false (by omega)
        refine ⟨fun _ => ⟨_, .of fun K => by simp [l_law07_Few_0, hm, hc, ha.len, hn.len, e1, e2, t1, r1, r3, hl, l1, l3]; rfl, by simp [w1], by simp [hm], by simp [hd]⟩, fun h => by simp [few1, h1, h2] at h⟩
      · have e2 : (45 < (n.length : Int)) = True := eq_true (by omega)
        refine ⟨fun h => by simp [few1, h2] at h, fun _ => ⟨_, .of fun K => by simp [l_law07_Few_0, hm, hc, ha.len, hn.len, e1, e2, t1, r1, r3, hl, l1, l3]; rfl, by simp, by simp [hm], by simp [hd]⟩⟩
    · have e1 : (45 < (a.length : Int)) = True := eq_true (by omega)
      refine ⟨fun h => by simp [few1, h1] at h, fun _ => ⟨_, .of fun K => by simp [l_law07_Few_0, hm, hc, ha.len, e1, t1, r1, hl, l1]; rfl, by simp, by simp [hm], by simp [hd]⟩⟩
  have ex : ∀ s : St, ekeep [1, 3] s.env = [(1, .own m.h.length 0 0), (3, i64 (2 : Nat))] → s.m = { h := H } → s.defs = [] → ∃ s', Den C l_law07_Few_0 { s with env := ekeep [1, 3] s.env } (.exit 0) s' ∧ eget s'.env 1 = .own m.h.length 0 0 ∧ s'.m = { h := H } ∧ s'.defs = [] := by
    intro s he hm hd
    rw [he]
    exact ⟨_, .of fun K => by simp [l_law07_Few_0]; rfl, by simp, by simp [hm], by simp [hd]⟩
  have fl : ∀ s, Loop C [1, 3] l_law07_Few_0 { env := [(3, i64 0), (1, .own m.h.length 0 0)], m := { h := H } } .ret s → eget s.env 2 = bo false → s.m = { h := H } → s.defs = [] →
      CallR C (fnv fn_law07_Few) [.r (.agg (divC d a0 a1 n0 n1 p q))] m (.ret (bo false) m) := by
    intro s h1 h2 h3 h4
    obtain ⟨c0, h1⟩ := h1.get
    exact CallR.eval (m1 := { h := H }) rfl rfl prog_law07_Few rfl ⟨c0, fun k hk => by simp [a_law07_Few, ← hH, h1 k hk, h2, h3, h4, C_fz, fzr]⟩ ht (by simp)
  cases f0 : few1 d.a0 d.n0 with
  | false =>
    obtain ⟨s1, d1, k1, k2, k3⟩ := (rd 0 d.a0 d.n0 a0 n0 hs.a0 hs.n0 (by omega) rfl rfl { env := [(3, i64 0), (1, .own m.h.length 0 0)], m := { h := H } } rfl rfl).2 f0
    have := fl s1 (.stop (by simpa using d1) (by simp)) k1 k2 k3
    simpa [fewB, f0] using this
  | true =>
    obtain ⟨s1, d1, k1, k2, k3⟩ := (rd 0 d.a0 d.n0 a0 n0 hs.a0 hs.n0 (by omega) rfl rfl { env := [(3, i64 0), (1, .own m.h.length 0 0)], m := { h := H } } rfl rfl).1 f0
    cases f1 : few1 d.a1 d.n1 with
    | false =>
      obtain ⟨s2, d2, q1, q2, q3⟩ := (rd 1 d.a1 d.n1 a1 n1 hs.a1 hs.n1 (by omega) rfl rfl s1 k2 k3).2 f1
      rw [← show ekeep [1, 3] s1.env = _ from k1] at d2
      have := fl s2 (.more (by simpa using d1) (.stop d2 (by simp))) q1 q2 q3
      simpa [fewB, f0, f1] using this
    | true =>
      obtain ⟨s2, d2, q1, q2, q3⟩ := (rd 1 d.a1 d.n1 a1 n1 hs.a1 hs.n1 (by omega) rfl rfl s1 k2 k3).1 f1
      rw [← show ekeep [1, 3] s1.env = _ from k1] at d2
      obtain ⟨s3, d3, r1, r2, r3⟩ := ex s2 q1 q2 q3
      have hlp : Loop C [1, 3] l_law07_Few_0 { env := [(3, i64 0), (1, .own m.h.length 0 0)], m := { h := H } } (.exit 0) s3 := .more (by simpa using d1) (.more d2 (.stop d3 (by simp)))
      obtain ⟨c0, h1⟩ := hlp.get
      rw [show fewB d = (decide (d.pairs.length ≤ 12) && decide (d.proxies.length ≤ 12)) by simp [fewB, f0, f1]]
      by_cases h5 : d.pairs.length ≤ 12
      · have e5 : ((d.pairs.length : Int) ≤ 12) = True := eq_true (by omega)
        by_cases h6 : d.proxies.length ≤ 12
        · have e6 : ((d.proxies.length : Int) ≤ 12) = True := eq_true (by omega)
          exact CallR.eval (m1 := { h := H }) rfl rfl prog_law07_Few rfl ⟨c0, fun k hk => by simp [a_law07_Few, ← hH, h1 k hk, r1, r2, r3, hc, hs.p.len, hs.q.len, h5, h6, e5, e6, C_fz, fzr]⟩ ht (by simp)
        · have e6 : ((d.proxies.length : Int) ≤ 12) = False := eq_false (by omega)
          exact CallR.eval (m1 := { h := H }) rfl rfl prog_law07_Few rfl ⟨c0, fun k hk => by simp [a_law07_Few, ← hH, h1 k hk, r1, r2, r3, hc, hs.p.len, hs.q.len, h5, h6, e5, e6, C_fz, fzr]⟩ ht (by simp)
      · have e5 : ((d.pairs.length : Int) ≤ 12) = False := eq_false (by omega)
        exact CallR.eval (m1 := { h := H }) rfl rfl prog_law07_Few rfl ⟨c0, fun k hk => by simp [a_law07_Few, ← hH, h1 k hk, r1, r2, r3, hc, hs.p.len, h5, e5, C_fz, fzr]⟩ ht (by simp)
end Go.AM.T
/- What the functions compute (own work). -/
namespace Go.AM.T
open Go Go.AM
attribute [local simp] so_mov so_pick so_alloc so_box so_build so_slit so_load so_store so_nilc so_bin so_beq so_eqs so_eqn so_eqnl so_not so_conv so_s2b so_mkfn so_slcA so_padd so_fld so_idxA so_idxV so_idxT so_look so_mupd so_mkmap so_mksl so_ext so_app so_lenT so_lenM so_min so_max so_cpy so_clr so_mkif so_tass so_lenS so_idxS so_slc
attribute [local simp] dn_skip dn_label dn_ret dn_exit dn_scope dn_keep dn_reg dn_draw0 noSlots denE denEI stepE  sd_mov sd_pick sd_build sd_load sd_store sd_nilc sd_bin sd_beq sd_eqs sd_eqn sd_eqnl sd_not sd_conv sd_s2b sd_mkfn sd_slc sd_slcA sd_padd sd_fld sd_idxS sd_idxA sd_idxV sd_idxT sd_look sd_mupd sd_ext sd_app sd_lenS sd_lenT sd_lenM sd_min sd_max sd_mkif sd_tass sd_call sd_slit dn_seq dn_cond dn_block dn_loop kn_call denIs denI denOp wants ev eget putD binL enumFrom AV.bool? AV.int? ekeep evs evp runV fin runDefs resAll resOf tupOf unit AV.cells okV ok1 Value.oneCell' fill setN rcells rs_nil rs_cons load_own load_cons mkAgg_rs storeN jmpOut
attribute [local simp] dvL dv1t dvAt mkAgg2 dv0 dv1 dv2 dv3 dv4 dv5 dv6 dv7 dv8 dv9 dv10 dvA dvN dvAll C_fz fzr
def bothB (d : Div) (m : Nat) : Bool := decide (onB d.a0 d.a1 m = 2) && decide (onB d.n0 d.n1 m = 2)
def clashB (d : Div) : Option Nat := (List.range d.n.toNat).find? (bothB d)

theorem find_none_of {p : Nat → Bool} {n : Nat} (h : ∀ j, j < n → p j = false) : (List.range n).find? p = none := by
  rw [List.find?_eq_none]; intro x hx; simp at hx; simp [h x hx]
theorem find_some_of {p : Nat → Bool} {n i : Nat} (hi : i < n) (h : ∀ j, j < i → p j = false) (hp : p i = true) : (List.range n).find? p = some i := by
  rw [List.find?_eq_some_iff_append]
  refine ⟨hp, List.range i, (List.range' (i + 1) (n - i - 1)), ?_, fun x hx => by simp at hx; simp [h x hx]⟩
  rw [List.range_eq_range', List.range_eq_range', show n = i + (1 + (n - i - 1)) by omega, ← List.range'_append_1, ← List.range'_append_1]
  simp

/-- How long its lists are. -/
structure Small (d : Div) : Prop where
  a0 : d.a0.length < 2 ^ 63
  a1 : d.a1.length < 2 ^ 63
  n0 : d.n0.length < 2 ^ 63
  n1 : d.n1.length < 2 ^ 63
  p : d.pairs.length < 2 ^ 63
  q : d.proxies.length < 2 ^ 63

theorem refClash_spec {d : Div} {a0 a1 n0 n1 p q : RV} (hs : DivS d a0 a1 n0 n1 p q) (hb : Small d) (hn : 1 ≤ d.n) (hn' : d.n ≤ 40) (m : Mem) :
    CallR C (fnv fn_ref07_Clash) [.r (.agg (divC d a0 a1 n0 n1 p q))] m (.ret (i64 (match clashB d with | some i => (i : Int) | none => -1)) m) := by
  obtain ⟨H, hH⟩ : ∃ H, H = m.h ++ [.cells (rs (divC d a0 a1 n0 n1 p q)) ty_ref07_Division 0] := ⟨_, rfl⟩
  have hc : H[m.h.length]? = some (.cells (rs (divC d a0 a1 n0 n1 p q)) ty_ref07_Division 0) := by simp [hH]
  have ht : H.take m.h.length = m.h := by simp [hH]
  have key := Loop.run (C := C) (c := l_ref07_Clash_0) (live := [1, 3]) (fun k s => ∃ i : Nat, i + k = d.n.toNat ∧ At1 [1, 3] [(1, .own m.h.length 0 0), (3, i64 i)] { h := H } s ∧ ∀ j, j < i → bothB d j = false)
    (fun o s => s.m = { h := H } ∧ s.defs = [] ∧ ((o = .ret ∧ ∃ i : Nat, eget s.env 2 = i64 i ∧ clashB d = some i) ∨ (o = .exit 0 ∧ clashB d = none))) (by
    rintro k s ⟨i, hik, ⟨he, hm, hd, hr⟩, hx⟩
    rw [he]
    cases k with
    | zero =>
      have e1 : ((i : Int) < d.n) = False := eq_false (by omega)
      exact ⟨.exit 0, _, .of fun K => by simp [l_ref07_Clash_0, hm, hc, e1]; rfl, .inr ⟨by simp, by simp, by simp [hd], .inr ⟨rfl, find_none_of (by rw [← hik]; simpa using hx)⟩⟩⟩
    | succ k =>
      have e1 : ((i : Int) < d.n) = True := eq_true (by omega)
      have w1 : IntKind.wrap .i64 ((i : Int) + 1) = i + 1 := by rw [w64] <;> omega
      obtain ⟨c1, k1⟩ := On_spec hs.a0 hs.a1 hb.a0 hb.a1 i { h := H }
      obtain ⟨c2, k2⟩ := On_spec hs.n0 hs.n1 hb.n0 hb.n1 i { h := H }
      by_cases q1 : onB d.a0 d.a1 i = 2
      · by_cases q2 : onB d.n0 d.n1 i = 2
        · exact ⟨.ret, _, .ofN ⟨max c1 c2, fun n hn => by simp [l_ref07_Clash_0, hm, hc, e1, k1 n (by omega), k2 n (by omega), q1, q2]; rfl⟩, .inr ⟨by simp, by simp, by simp [hd], .inl ⟨rfl, i, by simp, find_some_of (by omega) hx (by simp [bothB, q1, q2])⟩⟩⟩
        · have q2' : (onB d.n0 d.n1 i == 2) = false := by simpa using q2
          refine ⟨.norm, _, .ofN ⟨max c1 c2, fun n hn => by simp [l_ref07_Clash_0, hm, hc, e1, k1 n (by omega), k2 n (by omega), q1, q2', w1]; rfl⟩, .inl ⟨rfl, k, by omega, i + 1, by omega, ⟨by simp, by simp, by simp [hd], by simp [hr]⟩, fun j hj => ?_⟩⟩
          by_cases e : j = i
          · subst e; simp [bothB, q2]
          · exact hx j (by omega)
      · have q1' : (onB d.a0 d.a1 i == 2) = false := by simpa using q1
        refine ⟨.norm, _, .ofN ⟨max c1 c2, fun n hn => by simp [l_ref07_Clash_0, hm, hc, e1, k1 n (by omega), q1', w1]; rfl⟩, .inl ⟨rfl, k, by omega, i + 1, by omega, ⟨by simp, by simp, by simp [hd], by simp [hr]⟩, fun j hj => ?_⟩⟩
        by_cases e : j = i
        · subst e; simp [bothB, q1]
        · exact hx j (by omega))
  obtain ⟨o, s, h1, h2, h3, h4, h5⟩ := key d.n.toNat { env := [(3, i64 0), (1, .own m.h.length 0 0)], m := { h := H } } ⟨0, by simp, ⟨by simp, rfl, rfl, rfl⟩, by simp⟩
  obtain ⟨c0, h1⟩ := h1.get
  rcases h5 with ⟨rfl, i, h5, h6⟩ | ⟨rfl, h6⟩ <;> rw [h6]
  · exact CallR.eval (m1 := { h := H }) rfl rfl prog_ref07_Clash rfl ⟨c0, fun k hk => by simp [a_ref07_Clash, ← hH, h1 k hk, h4, h5, h3]⟩ ht (by simp)
  · exact CallR.eval (m1 := { h := H }) rfl rfl prog_ref07_Clash rfl ⟨c0, fun k hk => by simp [a_ref07_Clash, ← hH, h1 k hk, h4, h3]⟩ ht (by simp)
end Go.AM.T
/- What the functions compute (own work). -/
namespace Go.AM.T
open Go Go.AM
attribute [local simp] so_mov so_pick so_alloc so_box so_build so_slit so_load so_store so_nilc so_bin so_beq so_eqs so_eqn so_eqnl so_not so_conv so_s2b so_mkfn so_slcA so_padd so_fld so_idxA so_idxV so_idxT so_look so_mupd so_mkmap so_mksl so_ext so_app so_lenT so_lenM so_min so_max so_cpy so_clr so_mkif so_tass so_lenS so_idxS so_slc
attribute [local simp] dn_skip dn_label dn_ret dn_exit dn_scope dn_keep dn_reg dn_draw0 noSlots denE denEI stepE  sd_mov sd_pick sd_build sd_load sd_store sd_nilc sd_bin sd_beq sd_eqs sd_eqn sd_eqnl sd_not sd_conv sd_s2b sd_mkfn sd_slc sd_slcA sd_padd sd_fld sd_idxS sd_idxA sd_idxV sd_idxT sd_look sd_mupd sd_ext sd_app sd_lenS sd_lenT sd_lenM sd_min sd_max sd_mkif sd_tass sd_call sd_slit dn_seq dn_cond dn_block dn_loop kn_call denIs denI denOp wants ev eget putD binL enumFrom AV.bool? AV.int? ekeep evs evp runV fin runDefs resAll resOf tupOf unit AV.cells okV ok1 Value.oneCell' fill setN rcells rs_nil rs_cons load_own load_cons mkAgg_rs storeN jmpOut
attribute [local simp] dvL dv1t dvAt mkAgg2 dv0 dv1 dv2 dv3 dv4 dv5 dv6 dv7 dv8 dv9 dv10 dvA dvN dvAll C_fz fzr
theorem prs_drop {l : List (Int × Int)} {i : Nat} (hi : i < l.length) : (prs l).drop (i * 2) = .lit (.int .i64 l[i].1) :: .lit (.int .i64 l[i].2) :: (prs l).drop ((i + 1) * 2) := by
  induction l generalizing i with
  | nil => simp at hi
  | cons a l ih =>
    cases i with
    | zero => simp [prs]
    | succ i =>
      have := ih (i := i) (by simpa using hi)
      simp only [prs, List.flatMap_cons] at this ⊢
      rw [show (i + 1) * 2 = i * 2 + 2 by omega, show (i + 1 + 1) * 2 = (i + 1) * 2 + 2 by omega]
      simpa [List.drop_append] using this
theorem load_prs {m : Mem} {l : List (Int × Int)} {i : Nat} (hi : i < l.length) : loadV m (.r (.ptr ((prs l).drop (i * 2)))) 2 true = some (.r (.agg [.lit (.int .i64 l[i].1), .lit (.int .i64 l[i].2)])) := by
  rw [prs_drop hi]; simp [loadV, loadN, rs, mkAgg, allR, AV.toR]

/-- What a heap holds of a boxed division. -/
structure HF (m : Mem) (d : Div) (a0 a1 n0 n1 p q : RV) (H : List Blk) (W : List Nat) : Prop where
  div : H[m.h.length]? = some (.cells (rs (divC d a0 a1 n0 n1 p q)) ty_ref07_Division 0)
  tk : H.take m.h.length = m.h
  wr : ∀ x ∈ W, m.h.length ≤ x

theorem HF.lt {m : Mem} {d : Div} {a0 a1 n0 n1 p q : RV} {H : List Blk} {W : List Nat} (h : HF m d a0 a1 n0 n1 p q H W) : m.h.length < H.length := getElem?_lt h.div
theorem HF.push {m : Mem} {d : Div} {a0 a1 n0 n1 p q : RV} {H : List Blk} {W : List Nat} (h : HF m d a0 a1 n0 n1 p q H W) (b : Blk) : HF m d a0 a1 n0 n1 p q (H ++ [b]) (H.length :: W) := by
  have hl := h.lt
  refine ⟨?_, ?_, fun x hx => ?_⟩
  · rw [List.getElem?_append_left hl]; exact h.div
  · rw [List.take_append_of_le_length (Nat.le_of_lt hl)]; exact h.tk
  · rcases List.mem_cons.1 hx with rfl | hx
    · omega
    · exact h.wr x hx

def pairBad (n : Int) (p : Int × Int) : Bool := !memB n p.1 || !memB n p.2 || p.1 == p.2
def clashP (p q : Int × Int) : Bool := p.1 == q.1 || p.1 == q.2 || p.2 == q.1 || p.2 == q.2
def pairsOk' (n : Int) : List (Int × Int) → List (Int × Int) → Bool
  | _, [] => true
  | seen, p :: r => !pairBad n p && seen.all (fun q => !clashP p q) && pairsOk' n (seen ++ [p]) r

section
variable {d : Div} {a0 a1 n0 n1 p q : RV}

/-- The inner loop over pairs. -/
theorem Right_pairs_inner (hs : DivS d a0 a1 n0 n1 p q) (hb : Small d) (m : Mem) {i b5 : Nat} (hi : i < d.pairs.length) : ∀ (H : List Blk) (W : List Nat), HF m d a0 a1 n0 n1 p q H W → H[b5]? = some (.cells [i64 d.pairs[i].1, i64 d.pairs[i].2] ty_ref07_Pair 0) →
    ∀ s : St, ekeep [1, 4, 5, 6] s.env = [(1, .own m.h.length 0 0), (4, i64 i), (5, .own b5 0 0), (6, i64 0)] → s.m = { h := H, wr := W } → s.defs = [] →
    ∃ o s' H' W', Loop C [1, 4, 5, 6] l_ref07_Right_2 s o s' ∧ s'.m = { h := H', wr := W' } ∧ HF m d a0 a1 n0 n1 p q H' W' ∧ s'.defs = [] ∧
      ((o = .ret ∧ eget s'.env 2 = bo false ∧ (d.pairs.take i).all (fun x => !clashP d.pairs[i] x) = false) ∨
       (o = .exit 4 ∧ eget s'.env 1 = .own m.h.length 0 0 ∧ eget s'.env 4 = i64 i ∧ (d.pairs.take i).all (fun x => !clashP d.pairs[i] x) = true)) := by
  intro H W hF hb5 s he hm hd
  have key := Loop.run (C := C) (c := l_ref07_Right_2) (live := [1, 4, 5, 6]) (fun k s => ∃ (j : Nat) (H : List Blk) (W : List Nat), j + k = i ∧ ekeep [1, 4, 5, 6] s.env = [(1, .own m.h.length 0 0), (4, i64 i), (5, .own b5 0 0), (6, i64 j)] ∧ s.m = { h := H, wr := W } ∧
      HF m d a0 a1 n0 n1 p q H W ∧ H[b5]? = some (.cells [i64 d.pairs[i].1, i64 d.pairs[i].2] ty_ref07_Pair 0) ∧ s.defs = [] ∧ ∀ x ∈ d.pairs.take j, clashP d.pairs[i] x = false)
    (fun o s' => ∃ H' W', s'.m = { h := H', wr := W' } ∧ HF m d a0 a1 n0 n1 p q H' W' ∧ s'.defs = [] ∧
      ((o = .ret ∧ eget s'.env 2 = bo false ∧ (d.pairs.take i).all (fun x => !clashP d.pairs[i] x) = false) ∨
       (o = .exit 4 ∧ eget s'.env 1 = .own m.h.length 0 0 ∧ eget s'.env 4 = i64 i ∧ (d.pairs.take i).all (fun x => !clashP d.pairs[i] x) = true))) (by
    rintro k s ⟨j, H, W, hjk, he, hm, hF, hb5, hd, hx⟩
    rw [he]
    cases k with
    | zero =>
      have hj : j = i := by omega
      subst hj
      refine ⟨.exit 4, _, .of fun K => by simp [l_ref07_Right_2]; rfl, .inr ⟨by simp, H, W, by simp [hm], hF, by simp [hd], .inr ⟨rfl, by simp, by simp, ?_⟩⟩⟩
      rw [List.all_eq_true]; intro x hx'; simp [hx x hx']
    | succ k =>
      have hj : j < d.pairs.length := by omega
      have t1 : ((j : Int) < (i : Int)) = True := eq_true (by omega)
      have w1 : IntKind.wrap .i64 ((j : Int) + 1) = j + 1 := by have := hb.p; rw [w64] <;> omega
      have hb5' : b5 < H.length := getElem?_lt hb5
      have hbA : ∀ b, (H ++ [b])[b5]? = H[b5]? := fun b => List.getElem?_append_left hb5'
      have hne : ∀ x y : Int, (x == y) = decide (x = y) := fun x y => rfl
      have fin : clashP d.pairs[i] d.pairs[j] = true → (d.pairs.take i).all (fun x => !clashP d.pairs[i] x) = false := fun h => by
        rw [List.all_eq_false]
        exact ⟨d.pairs[j], by rw [List.mem_take_iff_getElem]; exact ⟨j, by omega, rfl⟩, by simp [h]⟩
      have go : clashP d.pairs[i] d.pairs[j] = false → ∀ x ∈ d.pairs.take (j + 1), clashP d.pairs[i] x = false := fun h x hm => by
        rw [List.take_succ_eq_append_getElem hj, List.mem_append] at hm
        rcases hm with hm | hm
        · exact hx x hm
        · simp at hm; subst hm; exact h
      by_cases c1 : d.pairs[i].1 = d.pairs[j].1
      · refine ⟨.ret, _, .of fun K => by simp [l_ref07_Right_2, hm, hF.div, hs.p.at hj, load_prs hj, t1, hbA, hb5, c1]; rfl, .inr ⟨by simp, _, _, rfl, hF.push _, by simp [hd], .inl ⟨rfl, by simp, fin (by simp [clashP, c1])⟩⟩⟩
      have c1' : (d.pairs[i].1 == d.pairs[j].1) = false := by simpa using c1
      by_cases c2 : d.pairs[i].1 = d.pairs[j].2
      · have c2b : (d.pairs[i].1 == d.pairs[j].2) = true := by simpa using c2
        refine ⟨.ret, _, .of fun K => by simp [l_ref07_Right_2, hm, hF.div, hs.p.at hj, load_prs hj, t1, hbA, hb5, c1', c2b]; rfl, .inr ⟨by simp, _, _, rfl, hF.push _, by simp [hd], .inl ⟨rfl, by simp, fin (by simp [clashP, c2])⟩⟩⟩
      have c2' : (d.pairs[i].1 == d.pairs[j].2) = false := by simpa using c2
      by_cases c3 : d.pairs[i].2 = d.pairs[j].1
      · have c3b : (d.pairs[i].2 == d.pairs[j].1) = true := by simpa using c3
        refine ⟨.ret, _, .of fun K => by simp [l_ref07_Right_2, hm, hF.div, hs.p.at hj, load_prs hj, t1, hbA, hb5, c1', c2', c3b]; rfl, .inr ⟨by simp, _, _, rfl, hF.push _, by simp [hd], .inl ⟨rfl, by simp, fin (by simp [clashP, c3])⟩⟩⟩
      have c3' : (d.pairs[i].2 == d.pairs[j].1) = false := by simpa using c3
      by_cases c4 : d.pairs[i].2 = d.pairs[j].2
      · have c4b : (d.pairs[i].2 == d.pairs[j].2) = true := by simpa using c4
        refine ⟨.ret, _, .of fun K => by simp [l_ref07_Right_2, hm, hF.div, hs.p.at hj, load_prs hj, t1, hbA, hb5, c1', c2', c3', c4b]; rfl, .inr ⟨by simp, _, _, rfl, hF.push _, by simp [hd], .inl ⟨rfl, by simp, fin (by simp [clashP, c4])⟩⟩⟩
      have c4' : (d.pairs[i].2 == d.pairs[j].2) = false := by simpa using c4
      refine ⟨.norm, _, .of fun K => by simp [l_ref07_Right_2, hm, hF.div, hs.p.at hj, load_prs hj, t1, hbA, hb5, c1', c2', c3', c4', w1]; rfl, .inl ⟨rfl, k, by omega, j + 1, _, _, by omega, by simp, rfl, hF.push _, ?_, by simp [hd], go (by simp [clashP, c1, c2, c3, c4])⟩⟩
      rw [hbA]; exact hb5)
  obtain ⟨o, s', h1, h2, H', W', h3⟩ := key i s ⟨0, H, W, by omega, he, hm, hF, hb5, hd, by simp⟩
  exact ⟨o, s', H', W', h1, h3⟩

/-- The loop over pairs. -/
theorem Right_pairs (hs : DivS d a0 a1 n0 n1 p q) (hb : Small d) (hn : 1 ≤ d.n) (hn' : d.n ≤ 40) (m : Mem) : ∀ (H : List Blk) (W : List Nat), HF m d a0 a1 n0 n1 p q H W →
    ∀ s : St, ekeep [1, 4] s.env = [(1, .own m.h.length 0 0), (4, i64 0)] → s.m = { h := H, wr := W } → s.defs = [] →
    ∃ o s' H' W', Loop C [1, 4] l_ref07_Right_3 s o s' ∧ s'.m = { h := H', wr := W' } ∧ HF m d a0 a1 n0 n1 p q H' W' ∧ s'.defs = [] ∧
      ((o = .ret ∧ eget s'.env 2 = bo false ∧ pairsOk' d.n [] d.pairs = false) ∨ (o = .exit 2 ∧ eget s'.env 1 = .own m.h.length 0 0 ∧ pairsOk' d.n [] d.pairs = true)) := by
  intro H W hF s he hm hd
  have key := Loop.run (C := C) (c := l_ref07_Right_3) (live := [1, 4]) (fun k s => ∃ (j : Nat) (H : List Blk) (W : List Nat), j + k = d.pairs.length ∧ ekeep [1, 4] s.env = [(1, .own m.h.length 0 0), (4, i64 j)] ∧ s.m = { h := H, wr := W } ∧
      HF m d a0 a1 n0 n1 p q H W ∧ s.defs = [] ∧ pairsOk' d.n [] d.pairs = pairsOk' d.n (d.pairs.take j) (d.pairs.drop j))
    (fun o s' => ∃ H' W', s'.m = { h := H', wr := W' } ∧ HF m d a0 a1 n0 n1 p q H' W' ∧ s'.defs = [] ∧
      ((o = .ret ∧ eget s'.env 2 = bo false ∧ pairsOk' d.n [] d.pairs = false) ∨ (o = .exit 2 ∧ eget s'.env 1 = .own m.h.length 0 0 ∧ pairsOk' d.n [] d.pairs = true))) (by
    rintro k s ⟨j, H, W, hjk, he, hm, hF, hd, hx⟩
    rw [he]
    cases k with
    | zero =>
      have hj : j = d.pairs.length := by omega
      subst hj
      refine ⟨.exit 2, _, .of fun K => by simp [l_ref07_Right_3, hm, hF.div, hs.p.len]; rfl, .inr ⟨by simp, H, W, by simp, hF, by simp [hd], .inr ⟨rfl, by simp, ?_⟩⟩⟩
      rw [hx]; simp [pairsOk']
    | succ k =>
      have hj : j < d.pairs.length := by omega
      have w1 : IntKind.wrap .i64 ((j : Int) + 1) = j + 1 := by have := hb.p; rw [w64] <;> omega
      have hw : IntKind.wrap .i64 (d.n - 1) = d.n - 1 := by rw [w64] <;> omega
      have hdr : d.pairs.drop j = d.pairs[j] :: d.pairs.drop (j + 1) := List.drop_eq_getElem_cons hj
      have hlt := hF.lt
      have hA : ∀ b, (H ++ [b])[m.h.length]? = some (.cells (rs (divC d a0 a1 n0 n1 p q)) ty_ref07_Division 0) := fun b => by rw [List.getElem?_append_left hlt]; exact hF.div
      obtain ⟨M, hM⟩ : ∃ M : Mem, M = { h := H ++ [.cells [i64 d.pairs[j].1, i64 d.pairs[j].2] ty_ref07_Pair 0], wr := H.length :: W } := ⟨_, rfl⟩
      have bad : pairBad d.n d.pairs[j] = true → pairsOk' d.n [] d.pairs = false := fun h => by rw [hx, hdr]; simp [pairsOk', h]
      obtain ⟨c1, k1⟩ := In_spec d.pairs[j].1 0 (d.n - 1) M
      obtain ⟨c2, k2⟩ := In_spec d.pairs[j].2 0 (d.n - 1) M
      rw [show (decide (0 ≤ d.pairs[j].1) && decide (d.pairs[j].1 ≤ d.n - 1)) = memB d.n d.pairs[j].1 from rfl] at k1
      rw [show (decide (0 ≤ d.pairs[j].2) && decide (d.pairs[j].2 ≤ d.n - 1)) = memB d.n d.pairs[j].2 from rfl] at k2
      rw [hM] at k1 k2
      cases m1 : memB d.n d.pairs[j].1 with
      | false =>
        rw [m1] at k1
        refine ⟨.ret, _, .ofN ⟨c1, fun n hn => by simp [l_ref07_Right_3, hm, hF.div, hs.p.len, hs.p.at hj, load_prs hj, hj, hA, hw, k1 n hn]; rfl⟩, .inr ⟨by simp, _, _, rfl, hF.push _, by simp [hd], .inl ⟨rfl, by simp, bad (by simp [pairBad, m1])⟩⟩⟩
      | true =>
        rw [m1] at k1
        cases m2 : memB d.n d.pairs[j].2 with
        | false =>
          rw [m2] at k2
          refine ⟨.ret, _, .ofN ⟨max c1 c2, fun n hn => by simp [l_ref07_Right_3, hm, hF.div, hs.p.len, hs.p.at hj, load_prs hj, hj, hA, hw, k1 n (by omega), k2 n (by omega)]; rfl⟩, .inr ⟨by simp, _, _, rfl, hF.push _, by simp [hd], .inl ⟨rfl, by simp, bad (by simp [pairBad, m2])⟩⟩⟩
        | true =>
          rw [m2] at k2
          cases e3 : (d.pairs[j].1 == d.pairs[j].2) with
          | true =>
            refine ⟨.ret, _, .ofN ⟨max c1 c2, fun n hn => by simp [l_ref07_Right_3, hm, hF.div, hs.p.len, hs.p.at hj, load_prs hj, hj, hA, hw, k1 n (by omega), k2 n (by omega), e3]; rfl⟩, .inr ⟨by simp, _, _, rfl, hF.push _, by simp [hd], .inl ⟨rfl, by simp, bad (by simp [pairBad, e3])⟩⟩⟩
          | false =>
            -- the inner loop
            obtain ⟨o, s1, H1, W1, g1, g2, g3, g4, g5⟩ := Right_pairs_inner hs hb m (i := j) (b5 := H.length) hj _ _ (hF.push (.cells [i64 d.pairs[j].1, i64 d.pairs[j].2] ty_ref07_Pair 0)) (by simp)
              { env := [(6, i64 0), (1, .own m.h.length 0 0), (4, i64 j), (5, .own H.length 0 0), (108, bo false)], m := { h := H ++ [.cells [i64 d.pairs[j].1, i64 d.pairs[j].2] ty_ref07_Pair 0], wr := H.length :: W }, defs := s.defs, round := s.round, rcv := s.rcv, recd := s.recd } (by simp) rfl hd
            obtain ⟨c3, k3⟩ := g1.get
            have hpb : pairBad d.n d.pairs[j] = false := by simp [pairBad, m1, m2, e3]
            rcases g5 with ⟨rfl, g5, g6⟩ | ⟨rfl, g5, g7, g6⟩
            · refine ⟨.ret, _, .ofN ⟨max (max c1 c2) c3, fun n hn => by simp [l_ref07_Right_3, hm, hF.div, hs.p.len, hs.p.at hj, load_prs hj, hj, hA, hw, k1 n (by omega), k2 n (by omega), e3, k3 n (by omega)] <;> rfl⟩, .inr ⟨by simp, _, _, g2, g3, g4, .inl ⟨rfl, g5, ?_⟩⟩⟩
              rw [hx, hdr]; simp only [pairsOk', g6]; simp
            · refine ⟨.norm, { s1 with env := [(1, .own m.h.length 0 0), (4, i64 (j + 1))] }, .ofN ⟨max (max c1 c2) c3, fun n hn => by simp [l_ref07_Right_3, hm, hF.div, hs.p.len, hs.p.at hj, load_prs hj, hj, hA, hw, k1 n (by omega), k2 n (by omega), e3, k3 n (by omega), g5, g7, w1]⟩, .inl ⟨rfl, k, by omega, j + 1, _, _, by omega, by simp, g2, g3, by simp [g4], ?_⟩⟩
              rw [hx, hdr]
              simp only [pairsOk', g6, hpb]
              rw [List.take_succ_eq_append_getElem hj]
              simp)
  obtain ⟨o, s', h1, h2, H', W', h3⟩ := key d.pairs.length s ⟨0, H, W, by omega, he, hm, hF, hd, by simp⟩
  exact ⟨o, s', H', W', h1, h3⟩
end
end Go.AM.T
/- What the functions compute (own work). -/
namespace Go.AM.T
open Go Go.AM
attribute [local simp] so_mov so_pick so_alloc so_box so_build so_slit so_load so_store so_nilc so_bin so_beq so_eqs so_eqn so_eqnl so_not so_conv so_s2b so_mkfn so_slcA so_padd so_fld so_idxA so_idxV so_idxT so_look so_mupd so_mkmap so_mksl so_ext so_app so_lenT so_lenM so_min so_max so_cpy so_clr so_mkif so_tass so_lenS so_idxS so_slc
attribute [local simp] dn_skip dn_label dn_ret dn_exit dn_scope dn_keep dn_reg dn_draw0 noSlots denE denEI stepE  sd_mov sd_pick sd_build sd_load sd_store sd_nilc sd_bin sd_beq sd_eqs sd_eqn sd_eqnl sd_not sd_conv sd_s2b sd_mkfn sd_slc sd_slcA sd_padd sd_fld sd_idxS sd_idxA sd_idxV sd_idxT sd_look sd_mupd sd_ext sd_app sd_lenS sd_lenT sd_lenM sd_min sd_max sd_mkif sd_tass sd_call sd_slit dn_seq dn_cond dn_block dn_loop kn_call denIs denI denOp wants ev eget putD binL enumFrom AV.bool? AV.int? ekeep evs evp runV fin runDefs resAll resOf tupOf unit AV.cells okV ok1 Value.oneCell' fill setN rcells rs_nil rs_cons load_own load_cons mkAgg_rs storeN jmpOut
attribute [local simp] dvL dv1t dvAt mkAgg2 dv0 dv1 dv2 dv3 dv4 dv5 dv6 dv7 dv8 dv9 dv10 dvA dvN dvAll C_fz fzr
theorem load_prs1 {m : Mem} {l : List (Int × Int)} {i : Nat} (hi : i < l.length) : loadV m (.r (.ptr ((prs l).drop (i * 2)))) 1 false = some (i64 l[i].1) := by
  rw [prs_drop hi]; simp
theorem load_prs2 {m : Mem} {l : List (Int × Int)} {i : Nat} (hi : i < l.length) : loadV m (.r (.ptr ((prs l).drop (i * 2 + 1)))) 1 false = some (i64 l[i].2) := by
  have : (prs l).drop (i * 2 + 1) = ((prs l).drop (i * 2)).drop 1 := by simp
  rw [this, prs_drop hi]; simp

def proxC (l : List (Int × Int)) (i k : Nat) : Bool := (k != i && (l.getD k (0, 0)).2 == (l.getD i (0, 0)).2) || (l.getD k (0, 0)).1 == (l.getD i (0, 0)).2
def proxI (n : Int) (l : List (Int × Int)) (i : Nat) : Bool := !pairBad n (l.getD i (0, 0)) && (List.range l.length).all fun k => !proxC l i k
def proxOk (n : Int) (l : List (Int × Int)) : Bool := (List.range l.length).all (proxI n l)

theorem range_all_of {p : Nat → Bool} {n : Nat} (h : ∀ j, j < n → p j = true) : (List.range n).all p = true := by
  rw [List.all_eq_true]; intro x hx; simp at hx; exact h x hx
theorem range_all_not {p : Nat → Bool} {n i : Nat} (hi : i < n) (h : p i = false) : (List.range n).all p = false := by
  rw [List.all_eq_false]; exact ⟨i, by simpa using hi, by simp [h]⟩
theorem getD_get {α : Type} {l : List α} {x : α} {i : Nat} (hi : i < l.length) : l.getD i x = l[i] := by simp [hi]

section
variable {d : Div} {a0 a1 n0 n1 p q : RV}

/-- The inner loop over proxies. -/
theorem Right_prox_inner (hs : DivS d a0 a1 n0 n1 p q) (hb : Small d) (m : Mem) {i b9 : Nat} (hi : i < d.proxies.length) : ∀ (H : List Blk) (W : List Nat), HF m d a0 a1 n0 n1 p q H W → H[b9]? = some (.cells [i64 d.proxies[i].1, i64 d.proxies[i].2] ty_ref07_Proxy 0) →
    ∀ s : St, ekeep [1, 8, 9, 10] s.env = [(1, .own m.h.length 0 0), (8, i64 i), (9, .own b9 0 0), (10, i64 0)] → s.m = { h := H, wr := W } → s.defs = [] →
    ∃ o s', Loop C [1, 8, 9, 10] l_ref07_Right_0 s o s' ∧ s'.m = { h := H, wr := W } ∧ s'.defs = [] ∧
      ((o = .ret ∧ eget s'.env 2 = bo false ∧ (List.range d.proxies.length).all (fun k => !proxC d.proxies i k) = false) ∨
       (o = .exit 8 ∧ eget s'.env 1 = .own m.h.length 0 0 ∧ eget s'.env 8 = i64 i ∧ (List.range d.proxies.length).all (fun k => !proxC d.proxies i k) = true)) := by
  intro H W hF hb5 s he hm hd
  have key := Loop.run (C := C) (c := l_ref07_Right_0) (live := [1, 8, 9, 10]) (fun k s => ∃ (j : Nat), j + k = d.proxies.length ∧ ekeep [1, 8, 9, 10] s.env = [(1, .own m.h.length 0 0), (8, i64 i), (9, .own b9 0 0), (10, i64 j)] ∧ s.m = { h := H, wr := W } ∧
      s.defs = [] ∧ ∀ x, x < j → proxC d.proxies i x = false)
    (fun o s' => s'.m = { h := H, wr := W } ∧ s'.defs = [] ∧
      ((o = .ret ∧ eget s'.env 2 = bo false ∧ (List.range d.proxies.length).all (fun k => !proxC d.proxies i k) = false) ∨
       (o = .exit 8 ∧ eget s'.env 1 = .own m.h.length 0 0 ∧ eget s'.env 8 = i64 i ∧ (List.range d.proxies.length).all (fun k => !proxC d.proxies i k) = true))) (by
    rintro k s ⟨j, hjk, he, hm, hd, hx⟩
    rw [he]
    cases k with
    | zero =>
      have hj : j = d.proxies.length := by omega
      subst hj
      refine ⟨.exit 8, _, .of fun K => by simp [l_ref07_Right_0, hm, hF.div, hs.q.len]; rfl, .inr ⟨by simp, by simp, by simp [hd], .inr ⟨rfl, by simp, by simp, range_all_of fun j hj => by simp [hx j hj]⟩⟩⟩
    | succ k =>
      have hj : j < d.proxies.length := by omega
      have t1 : ((j : Int) < (d.proxies.length : Int)) = True := eq_true (by omega)
      have w1 : IntKind.wrap .i64 ((j : Int) + 1) = j + 1 := by have := hb.q; rw [w64] <;> omega
      have pc : proxC d.proxies i j = ((j != i && d.proxies[j].2 == d.proxies[i].2) || d.proxies[j].1 == d.proxies[i].2) := by
        unfold proxC; rw [getD_get hj, getD_get hi]
      have fin : proxC d.proxies i j = true → (List.range d.proxies.length).all (fun k => !proxC d.proxies i k) = false := fun h => range_all_not hj (by simp [h])
      have go : proxC d.proxies i j = false → ∀ x, x < j + 1 → proxC d.proxies i x = false := fun h x hxj => by
        by_cases e : x = j
        · subst e; exact h
        · exact hx x (by omega)
      by_cases e1 : j = i
      · have q1 : ((j : Int) != (i : Int)) = false := by simp [e1]
        have q1' : (j != i) = false := by simp [e1]
        cases e3 : (d.proxies[j].1 == d.proxies[i].2) with
        | true => refine ⟨.ret, _, .of fun K => by simp [l_ref07_Right_0, hm, hF.div, hs.q.len, hs.q.at hj, load_prs1 hj, load_prs2 hj, t1, hb5, q1, e3]; rfl, .inr ⟨by simp, by simp, by simp [hd], .inl ⟨rfl, by simp, fin (by rw [pc, e3]; simp)⟩⟩⟩
        | false => refine ⟨.norm, _, .of fun K => by simp [l_ref07_Right_0, hm, hF.div, hs.q.len, hs.q.at hj, load_prs1 hj, load_prs2 hj, t1, hb5, q1, e3, w1]; rfl, .inl ⟨rfl, k, by omega, j + 1, by omega, by simp, by simp, by simp [hd], go (by rw [pc, q1', e3]; simp)⟩⟩
      · have q1 : ((j : Int) != (i : Int)) = true := by rw [bne_iff_ne]; omega
        have q1' : (j != i) = true := by rw [bne_iff_ne]; exact e1
        cases e2 : (d.proxies[j].2 == d.proxies[i].2) with
        | true => refine ⟨.ret, _, .of fun K => by simp [l_ref07_Right_0, hm, hF.div, hs.q.len, hs.q.at hj, load_prs1 hj, load_prs2 hj, t1, hb5, q1, e2]; rfl, .inr ⟨by simp, by simp, by simp [hd], .inl ⟨rfl, by simp, fin (by rw [pc, q1', e2]; simp)⟩⟩⟩
        | false =>
          cases e3 : (d.proxies[j].1 == d.proxies[i].2) with
          | true => refine ⟨.ret, _, .of fun K => by simp [l_ref07_Right_0, hm, hF.div, hs.q.len, hs.q.at hj, load_prs1 hj, load_prs2 hj, t1, hb5, q1, e2, e3]; rfl, .inr ⟨by simp, by simp, by simp [hd], .inl ⟨rfl, by simp, fin (by rw [pc, e3]; simp)⟩⟩⟩
          | false => refine ⟨.norm, _, .of fun K => by simp [l_ref07_Right_0, hm, hF.div, hs.q.len, hs.q.at hj, load_prs1 hj, load_prs2 hj, t1, hb5, q1, e2, e3, w1]; rfl, .inl ⟨rfl, k, by omega, j + 1, by omega, by simp, by simp, by simp [hd], go (by rw [pc, e2, e3]; simp)⟩⟩)
  obtain ⟨o, s', h1, h2, h3⟩ := key d.proxies.length s ⟨0, by omega, he, hm, hd, by simp⟩
  exact ⟨o, s', h1, h3⟩

/-- The loop over proxies. -/
theorem Right_prox (hs : DivS d a0 a1 n0 n1 p q) (hb : Small d) (hn : 1 ≤ d.n) (hn' : d.n ≤ 40) (m : Mem) : ∀ (H : List Blk) (W : List Nat), HF m d a0 a1 n0 n1 p q H W →
    ∀ s : St, ekeep [1, 8] s.env = [(1, .own m.h.length 0 0), (8, i64 0)] → s.m = { h := H, wr := W } → s.defs = [] →
    ∃ o s' H' W', Loop C [1, 8] l_ref07_Right_1 s o s' ∧ s'.m = { h := H', wr := W' } ∧ HF m d a0 a1 n0 n1 p q H' W' ∧ s'.defs = [] ∧
      ((o = .ret ∧ eget s'.env 2 = bo false ∧ proxOk d.n d.proxies = false) ∨ (o = .exit 6 ∧ eget s'.env 1 = .own m.h.length 0 0 ∧ proxOk d.n d.proxies = true)) := by
  intro H W hF s he hm hd
  have key := Loop.run (C := C) (c := l_ref07_Right_1) (live := [1, 8]) (fun k s => ∃ (j : Nat) (H : List Blk) (W : List Nat), j + k = d.proxies.length ∧ ekeep [1, 8] s.env = [(1, .own m.h.length 0 0), (8, i64 j)] ∧ s.m = { h := H, wr := W } ∧
      HF m d a0 a1 n0 n1 p q H W ∧ s.defs = [] ∧ ∀ x, x < j → proxI d.n d.proxies x = true)
    (fun o s' => ∃ H' W', s'.m = { h := H', wr := W' } ∧ HF m d a0 a1 n0 n1 p q H' W' ∧ s'.defs = [] ∧
      ((o = .ret ∧ eget s'.env 2 = bo false ∧ proxOk d.n d.proxies = false) ∨ (o = .exit 6 ∧ eget s'.env 1 = .own m.h.length 0 0 ∧ proxOk d.n d.proxies = true))) (by
    rintro k s ⟨j, H, W, hjk, he, hm, hF, hd, hx⟩
    rw [he]
    cases k with
    | zero =>
      have hj : j = d.proxies.length := by omega
      subst hj
      exact ⟨.exit 6, _, .of fun K => by simp [l_ref07_Right_1, hm, hF.div, hs.q.len]; rfl, .inr ⟨by simp, H, W, by simp, hF, by simp [hd], .inr ⟨rfl, by simp, range_all_of hx⟩⟩⟩
    | succ k =>
      have hj : j < d.proxies.length := by omega
      have w1 : IntKind.wrap .i64 ((j : Int) + 1) = j + 1 := by have := hb.q; rw [w64] <;> omega
      have hw : IntKind.wrap .i64 (d.n - 1) = d.n - 1 := by rw [w64] <;> omega
      have hlt := hF.lt
      have hA : ∀ b, (H ++ [b])[m.h.length]? = some (.cells (rs (divC d a0 a1 n0 n1 p q)) ty_ref07_Division 0) := fun b => by rw [List.getElem?_append_left hlt]; exact hF.div
      obtain ⟨M, hM⟩ : ∃ M : Mem, M = { h := H ++ [.cells [i64 d.proxies[j].1, i64 d.proxies[j].2] ty_ref07_Proxy 0], wr := H.length :: W } := ⟨_, rfl⟩
      have pI : proxI d.n d.proxies j = (!pairBad d.n d.proxies[j] && (List.range d.proxies.length).all fun k => !proxC d.proxies j k) := by unfold proxI; rw [getD_get hj]
      have bad : proxI d.n d.proxies j = false → proxOk d.n d.proxies = false := fun h => range_all_not hj h
      obtain ⟨c1, k1⟩ := In_spec d.proxies[j].1 0 (d.n - 1) M
      obtain ⟨c2, k2⟩ := In_spec d.proxies[j].2 0 (d.n - 1) M
      rw [show (decide (0 ≤ d.proxies[j].1) && decide (d.proxies[j].1 ≤ d.n - 1)) = memB d.n d.proxies[j].1 from rfl] at k1
      rw [show (decide (0 ≤ d.proxies[j].2) && decide (d.proxies[j].2 ≤ d.n - 1)) = memB d.n d.proxies[j].2 from rfl] at k2
      rw [hM] at k1 k2
      cases m1 : memB d.n d.proxies[j].1 with
      | false =>
        rw [m1] at k1
        refine ⟨.ret, _, .ofN ⟨c1, fun n hn => by simp [l_ref07_Right_1, hm, hF.div, hs.q.len, hs.q.at hj, load_prs hj, hj, hA, hw, k1 n (by omega), hj]; rfl⟩, .inr ⟨by simp, _, _, rfl, hF.push _, by simp [hd], .inl ⟨rfl, by simp, bad (by rw [pI]; simp [pairBad, m1])⟩⟩⟩
      | true =>
        rw [m1] at k1
        cases m2 : memB d.n d.proxies[j].2 with
        | false =>
          rw [m2] at k2
          refine ⟨.ret, _, .ofN ⟨max c1 c2, fun n hn => by simp [l_ref07_Right_1, hm, hF.div, hs.q.len, hs.q.at hj, load_prs hj, hj, hA, hw, k1 n (by omega), k2 n (by omega)]; rfl⟩, .inr ⟨by simp, _, _, rfl, hF.push _, by simp [hd], .inl ⟨rfl, by simp, bad (by rw [pI]; simp [pairBad, m2])⟩⟩⟩
        | true =>
          rw [m2] at k2
          cases e3 : (d.proxies[j].1 == d.proxies[j].2) with
          | true =>
            refine ⟨.ret, _, .ofN ⟨max c1 c2, fun n hn => by simp [l_ref07_Right_1, hm, hF.div, hs.q.len, hs.q.at hj, load_prs hj, hj, hA, hw, k1 n (by omega), k2 n (by omega), e3]; rfl⟩, .inr ⟨by simp, _, _, rfl, hF.push _, by simp [hd], .inl ⟨rfl, by simp, bad (by rw [pI]; simp [pairBad, e3])⟩⟩⟩
          | false =>
            obtain ⟨o, s1, g1, g2, g4, g5⟩ := Right_prox_inner hs hb m (i := j) (b9 := H.length) hj _ _ (hF.push (.cells [i64 d.proxies[j].1, i64 d.proxies[j].2] ty_ref07_Proxy 0)) (by simp)
              { env := [(10, i64 0), (1, .own m.h.length 0 0), (8, i64 j), (9, .own H.length 0 0), (179, bo false)], m := { h := H ++ [.cells [i64 d.proxies[j].1, i64 d.proxies[j].2] ty_ref07_Proxy 0], wr := H.length :: W }, defs := s.defs, round := s.round, rcv := s.rcv, recd := s.recd } (by simp) rfl hd
            obtain ⟨c3, k3⟩ := g1.get
            have hpb : pairBad d.n d.proxies[j] = false := by simp [pairBad, m1, m2, e3]
            rcases g5 with ⟨rfl, g5, g6⟩ | ⟨rfl, g5, g7, g6⟩
            · refine ⟨.ret, _, .ofN ⟨max (max c1 c2) c3, fun n hn => by simp [l_ref07_Right_1, hm, hF.div, hs.q.len, hs.q.at hj, load_prs hj, hj, hA, hw, k1 n (by omega), k2 n (by omega), e3, k3 n (by omega)] <;> rfl⟩, .inr ⟨by simp, _, _, g2, hF.push _, g4, .inl ⟨rfl, g5, bad ?_⟩⟩⟩
              rw [pI, hpb, g6]; rfl
            · refine ⟨.norm, { s1 with env := [(1, .own m.h.length 0 0), (8, i64 (j + 1))] }, .ofN ⟨max (max c1 c2) c3, fun n hn => by simp [l_ref07_Right_1, hm, hF.div, hs.q.len, hs.q.at hj, load_prs hj, hj, hA, hw, k1 n (by omega), k2 n (by omega), e3, k3 n (by omega), g5, g7, w1]⟩, .inl ⟨rfl, k, by omega, j + 1, _, _, by omega, by simp, g2, hF.push _, by simp [g4], fun x hxj => ?_⟩⟩
              by_cases e : x = j
              · subst e; rw [pI, hpb, g6]; rfl
              · exact hx x (by omega))
  obtain ⟨o, s', h1, h2, H', W', h3⟩ := key d.proxies.length s ⟨0, H, W, by omega, he, hm, hF, hd, by simp⟩
  exact ⟨o, s', H', W', h1, h3⟩
end
end Go.AM.T
/- What the functions compute (own work). -/
namespace Go.AM.T
open Go Go.AM
attribute [local simp] so_mov so_pick so_alloc so_box so_build so_slit so_load so_store so_nilc so_bin so_beq so_eqs so_eqn so_eqnl so_not so_conv so_s2b so_mkfn so_slcA so_padd so_fld so_idxA so_idxV so_idxT so_look so_mupd so_mkmap so_mksl so_ext so_app so_lenT so_lenM so_min so_max so_cpy so_clr so_mkif so_tass so_lenS so_idxS so_slc
attribute [local simp] dn_skip dn_label dn_ret dn_exit dn_scope dn_keep dn_reg dn_draw0 noSlots denE denEI stepE  sd_mov sd_pick sd_build sd_load sd_store sd_nilc sd_bin sd_beq sd_eqs sd_eqn sd_eqnl sd_not sd_conv sd_s2b sd_mkfn sd_slc sd_slcA sd_padd sd_fld sd_idxS sd_idxA sd_idxV sd_idxT sd_look sd_mupd sd_ext sd_app sd_lenS sd_lenT sd_lenM sd_min sd_max sd_mkif sd_tass sd_call sd_slit dn_seq dn_cond dn_block dn_loop kn_call denIs denI denOp wants ev eget putD binL enumFrom AV.bool? AV.int? ekeep evs evp runV fin runDefs resAll resOf tupOf unit AV.cells okV ok1 Value.oneCell' fill setN rcells rs_nil rs_cons load_own load_cons mkAgg_rs storeN jmpOut
attribute [local simp] dvL dv1t dvAt mkAgg2 dv0 dv1 dv2 dv3 dv4 dv5 dv6 dv7 dv8 dv9 dv10 dvA dvN dvAll C_fz fzr
def inB (n lo hi : Int) : Bool := decide (lo ≤ n) && decide (n ≤ hi)
def headB (d : Div) : Bool := inB d.n 1 40 && decide (d.pairs.length ≤ 10) && decide (d.proxies.length ≤ 10) && decide (d.rule ≤ 2) && inB d.need 0 40 && inB d.quorum 0 40 && (d.tie == 1 || d.tie == 2)
def listB (n : Int) (l : List Int) : Bool := l.all (memB n) && risingB l
def listsB (d : Div) : Bool := listB d.n d.a0 && listB d.n d.n0 && (listB d.n d.a1 && listB d.n d.n1)
def rightB (d : Div) : Bool := headB d && listsB d && pairsOk' d.n [] d.pairs && proxOk d.n d.proxies

section
variable {d : Div} {a0 a1 n0 n1 p q : RV}
theorem Right_head (hs : DivS d a0 a1 n0 n1 p q) (m : Mem) {H : List Blk} (hc : H[m.h.length]? = some (.cells (rs (divC d a0 a1 n0 n1 p q)) ty_ref07_Division 0)) :
    ∃ c s', (∀ n, c ≤ n → denIs (Kn C n) { env := [(1, .own m.h.length 0 0)], m := { h := H } } r_ref07_Right_35 = some (.norm, s')) ∧ eget s'.env 53 = bo (!headB d) ∧ eget s'.env 1 = .own m.h.length 0 0 ∧ s'.m = { h := H } ∧ s'.defs = [] := by
  obtain ⟨c1, k1⟩ := In_spec d.n 1 40 { h := H }
  obtain ⟨c2, k2⟩ := In_spec d.need 0 40 { h := H }
  obtain ⟨c3, k3⟩ := In_spec d.quorum 0 40 { h := H }
  rw [show (decide (1 ≤ d.n) && decide (d.n ≤ 40)) = inB d.n 1 40 from rfl] at k1
  rw [show (decide (0 ≤ d.need) && decide (d.need ≤ 40)) = inB d.need 0 40 from rfl] at k2
  rw [show (decide (0 ≤ d.quorum) && decide (d.quorum ≤ 40)) = inB d.quorum 0 40 from rfl] at k3
  cases e1 : inB d.n 1 40 with
  | false =>
    rw [e1] at k1
    exact ⟨c1, _, fun n hn => by simp [hc, k1 n hn]; rfl, by simp [headB, e1], by simp, by simp, by simp⟩
  | true =>
  rw [e1] at k1
  by_cases e2 : d.pairs.length ≤ 10
  case neg =>
    have e2' : (10 < (d.pairs.length : Int)) = True := eq_true (by omega)
    exact ⟨c1, _, fun n hn => by simp [hc, k1 n hn, hs.p.len, e2']; rfl, by simp [headB, e2], by simp, by simp, by simp⟩
  have e2' : (10 < (d.pairs.length : Int)) = False := eq_false (by omega)
  by_cases e3 : d.proxies.length ≤ 10
  case neg =>
    have e3' : (10 < (d.proxies.length : Int)) = True := eq_true (by omega)
    exact ⟨c1, _, fun n hn => by simp [hc, k1 n hn, hs.p.len, hs.q.len, e2', e3']; rfl, by simp [headB, e3], by simp, by simp, by simp⟩
  have e3' : (10 < (d.proxies.length : Int)) = False := eq_false (by omega)
  by_cases e4 : d.rule ≤ 2
  case neg =>
    have e4' : (2 < d.rule) = True := eq_true (by omega)
    exact ⟨c1, _, fun n hn => by simp [hc, k1 n hn, hs.p.len, hs.q.len, e2', e3', e4']; rfl, by simp [headB, e4], by simp, by simp, by simp⟩
  have e4' : (2 < d.rule) = False := eq_false (by omega)
  cases e5 : inB d.need 0 40 with
  | false =>
    rw [e5] at k2
    exact ⟨max c1 c2, _, fun n hn => by simp [hc, k1 n (by omega), hs.p.len, hs.q.len, e2', e3', e4', k2 n (by omega)]; rfl, by simp [headB, e5], by simp, by simp, by simp⟩
  | true =>
  rw [e5] at k2
  cases e6 : inB d.quorum 0 40 with
  | false =>
    rw [e6] at k3
    exact ⟨max (max c1 c2) c3, _, fun n hn => by simp [hc, k1 n (by omega), hs.p.len, hs.q.len, e2', e3', e4', k2 n (by omega), k3 n (by omega)]; rfl, by simp [headB, e6], by simp, by simp, by simp⟩
  | true =>
  rw [e6] at k3
  cases e7 : (d.tie == 1) with
  | true =>
    have e7' : (d.tie != 1) = false := by simp [bne, e7]
    exact ⟨max (max c1 c2) c3, _, fun n hn => by simp [hc, k1 n (by omega), hs.p.len, hs.q.len, e2', e3', e4', k2 n (by omega), k3 n (by omega), e7']; rfl, by simp [headB, e1, e2, e3, e4, e5, e6, e7], by simp, by simp, by simp⟩
  | false =>
    have e7' : (d.tie != 1) = true := by simp [bne, e7]
    cases e8 : (d.tie == 2) with
    | true =>
      have e8' : (d.tie != 2) = false := by simp [bne, e8]
      exact ⟨max (max c1 c2) c3, _, fun n hn => by simp [hc, k1 n (by omega), hs.p.len, hs.q.len, e2', e3', e4', k2 n (by omega), k3 n (by omega), e7', e8']; rfl, by simp [headB, e1, e2, e3, e4, e5, e6, e7, e8], by simp, by simp, by simp⟩
    | false =>
      have e8' : (d.tie != 2) = true := by simp [bne, e8]
      exact ⟨max (max c1 c2) c3, _, fun n hn => by simp [hc, k1 n (by omega), hs.p.len, hs.q.len, e2', e3', e4', k2 n (by omega), k3 n (by omega), e7', e8']; rfl, by simp [headB, e1, e2, e3, e4, e5, e6, e7, e8], by simp, by simp, by simp⟩

/-- One round over the lists. -/
theorem Right_lists_round (hs : DivS d a0 a1 n0 n1 p q) (hn : 1 ≤ d.n) (hn' : d.n ≤ 40) (m : Mem) {H : List Blk} (hc : H[m.h.length]? = some (.cells (rs (divC d a0 a1 n0 n1 p q)) ty_ref07_Division 0)) {i : Nat} (hi : i < 2) {a n : List Int} {va vn : RV}
    (ha : SlI a va) (hnn : SlI n vn) (ba : a.length < 2 ^ 63) (bn : n.length < 2 ^ 63) (g1 : (rs (divC d a0 a1 n0 n1 p q))[1 + i]? = some (.r va)) (g2 : (rs (divC d a0 a1 n0 n1 p q))[3 + i]? = some (.r vn)) (s : St) (hm : s.m = { h := H }) (hd : s.defs = []) :
    ∃ o s', Den C l_ref07_Right_4 { s with env := [(1, .own m.h.length 0 0), (3, i64 i)] } o s' ∧ s'.m = { h := H } ∧ s'.defs = [] ∧
      ((o = .norm ∧ (listB d.n a && listB d.n n) = true ∧ ekeep [1, 3] s'.env = [(1, .own m.h.length 0 0), (3, i64 (i + 1 : Nat))]) ∨ (o = .ret ∧ (listB d.n a && listB d.n n) = false ∧ eget s'.env 2 = bo false)) := by
  have w1 : IntKind.wrap .i64 ((i : Int) + 1) = i + 1 := by rw [w64] <;> omega
  have t1 : ((i : Int) < 2) = True := eq_true (by omega)
  have r1 : List.take 1 (List.drop (1 + i) (rs (divC d a0 a1 n0 n1 p q))) = [.r va] := by
    rw [List.take_one, List.head?_drop, g1]; rfl
  have r3 : List.take 1 (List.drop (3 + i) (rs (divC d a0 a1 n0 n1 p q))) = [.r vn] := by
    rw [List.take_one, List.head?_drop, g2]; rfl
  have l1 : (1 + i + 1 ≤ 11) = True := eq_true (by omega)
  have l3 : (3 + i + 1 ≤ 11) = True := eq_true (by omega)
  obtain ⟨c1, k1⟩ := list_spec (a0 := a0) (a1 := a1) (n0 := n0) (n1 := n1) (p := p) (q := q) hn hn' ha ba { h := H }
  obtain ⟨c2, k2⟩ := list_spec (a0 := a0) (a1 := a1) (n0 := n0) (n1 := n1) (p := p) (q := q) hn hn' hnn bn { h := H }
  rw [show (a.all (memB d.n) && risingB a) = listB d.n a from rfl] at k1
  rw [show (n.all (memB d.n) && risingB n) = listB d.n n from rfl] at k2
  cases e1 : listB d.n a with
  | false =>
    rw [e1] at k1
    exact ⟨.ret, _, .ofN ⟨c1, fun n hn => by simp [l_ref07_Right_4, hm, hc, t1, r1, r3, l1, l3, k1 n hn]; rfl⟩, by simp, by simp [hd], .inr ⟨rfl, by simp, by simp⟩⟩
  | true =>
    rw [e1] at k1
    cases e2 : listB d.n n with
    | false =>
      rw [e2] at k2
      exact ⟨.ret, _, .ofN ⟨max c1 c2, fun n hn => by simp [l_ref07_Right_4, hm, hc, t1, r1, r3, l1, l3, k1 n (by omega), k2 n (by omega)]; rfl⟩, by simp, by simp [hd], .inr ⟨rfl, by simp, by simp⟩⟩
    | true =>
      rw [e2] at k2
      exact ⟨.norm, _, .ofN ⟨max c1 c2, fun n hn => by simp [l_ref07_Right_4, hm, hc, t1, r1, r3, l1, l3, k1 n (by omega), k2 n (by omega), w1]; rfl⟩, by simp, by simp [hd], .inl ⟨rfl, by simp, by simp⟩⟩

theorem Right_lists (hs : DivS d a0 a1 n0 n1 p q) (hb : Small d) (hn : 1 ≤ d.n) (hn' : d.n ≤ 40) (m : Mem) {H : List Blk} (hc : H[m.h.length]? = some (.cells (rs (divC d a0 a1 n0 n1 p q)) ty_ref07_Division 0)) (s : St) (he : ekeep [1, 3] s.env = [(1, .own m.h.length 0 0), (3, i64 0)])
    (hm : s.m = { h := H }) (hd : s.defs = []) :
    ∃ o s', Loop C [1, 3] l_ref07_Right_4 s o s' ∧ s'.m = { h := H } ∧ s'.defs = [] ∧ ((o = .ret ∧ eget s'.env 2 = bo false ∧ listsB d = false) ∨ (o = .exit 0 ∧ eget s'.env 1 = .own m.h.length 0 0 ∧ listsB d = true)) := by
  obtain ⟨o1, s1, d1, m1, f1, h1⟩ := Right_lists_round hs hn hn' m hc (i := 0) (by omega) hs.a0 hs.n0 hb.a0 hb.n0 rfl rfl s hm hd
  rw [show ([(1, .own m.h.length 0 0), (3, i64 (0 : Nat))] : Env) = ekeep [1, 3] s.env from by rw [he]; rfl] at d1
  rcases h1 with ⟨rfl, h1, e1⟩ | ⟨rfl, h1, e1⟩
  · obtain ⟨o2, s2, d2, m2, f2, h2⟩ := Right_lists_round hs hn hn' m hc (i := 1) (by omega) hs.a1 hs.n1 hb.a1 hb.n1 rfl rfl s1 m1 f1
    rw [← e1] at d2
    rcases h2 with ⟨rfl, h2, e2⟩ | ⟨rfl, h2, e2⟩
    · have d3 : Den C l_ref07_Right_4 { s2 with env := ekeep [1, 3] s2.env } (.exit 0) { s2 with env := [(1, .own m.h.length 0 0), (3, i64 2), (55, bo false)] } := by
        rw [e2]; exact .of fun K => by simp [l_ref07_Right_4]
      exact ⟨.exit 0, _, .more d1 (.more d2 (.stop d3 (by simp))), by simp [m2], by simp [f2], .inr ⟨rfl, by simp, by simp [listsB, h1, h2]⟩⟩
    · exact ⟨.ret, s2, .more d1 (.stop d2 (by simp)), m2, f2, .inl ⟨rfl, e2, by simp only [listsB, h1, h2]; rfl⟩⟩
  · exact ⟨.ret, s1, .stop d1 (by simp), m1, f1, .inl ⟨rfl, e1, by simp only [listsB, h1]; rfl⟩⟩

theorem Right_spec (hs : DivS d a0 a1 n0 n1 p q) (hb : Small d) (m : Mem) : CallR C (fnv fn_ref07_Right) [.r (.agg (divC d a0 a1 n0 n1 p q))] m (.ret (bo (rightB d)) m) := by
  obtain ⟨H, hH⟩ : ∃ H, H = m.h ++ [.cells (rs (divC d a0 a1 n0 n1 p q)) ty_ref07_Division 0] := ⟨_, rfl⟩
  have hc : H[m.h.length]? = some (.cells (rs (divC d a0 a1 n0 n1 p q)) ty_ref07_Division 0) := by simp [hH]
  have ht : H.take m.h.length = m.h := by simp [hH]
  obtain ⟨c0, s0, k0, v0, v1, v2, v3⟩ := Right_head hs m hc
  cases eh : headB d with
  | false =>
    rw [eh] at v0
    rw [show rightB d = false by simp [rightB, eh]]
    exact CallR.eval (m1 := { h := H }) rfl rfl prog_ref07_Right rfl ⟨c0, fun k hk => by simp [-r_ref07_Right_35, a_ref07_Right, ← hH, k0 k hk, v0, v1, v2, v3]⟩ ht (by simp)
  | true =>
    rw [eh] at v0
    have hn : 1 ≤ d.n ∧ d.n ≤ 40 := by
      simp only [headB, inB, Bool.and_eq_true, decide_eq_true_eq] at eh
      exact eh.1.1.1.1.1.1
    obtain ⟨o1, s1, g1, m1, f1, h1⟩ := Right_lists hs hb hn.1 hn.2 m hc { s0 with env := [(3, i64 0), (1, .own m.h.length 0 0), (53, bo false)], m := { h := H }, defs := [] } (by simp) rfl rfl
    obtain ⟨c1, k1⟩ := g1.get
    rcases h1 with ⟨rfl, w1, e1⟩ | ⟨rfl, w1, e1⟩
    · rw [show rightB d = false by simp [rightB, e1]]
      exact CallR.eval (m1 := { h := H }) rfl rfl prog_ref07_Right rfl ⟨max c0 c1, fun k hk => by simp [-r_ref07_Right_35, a_ref07_Right, ← hH, k0 k (by omega), v0, v1, v2, v3, k1 k (by omega), w1, m1, f1]⟩ ht (by simp)
    · obtain ⟨o2, s2, H2, W2, g2, m2, hF2, f2, h2⟩ := Right_pairs hs hb hn.1 hn.2 m H [] ⟨hc, ht, by simp⟩ { s1 with env := (4, i64 0) :: s1.env, m := { h := H }, defs := [] } (by simp [w1]) rfl rfl
      obtain ⟨c2, k2⟩ := g2.get
      rcases h2 with ⟨rfl, w2, e2⟩ | ⟨rfl, w2, e2⟩
      · rw [show rightB d = false by simp [rightB, e2]]
        exact CallR.eval (m1 := { h := H2, wr := W2 }) rfl rfl prog_ref07_Right rfl ⟨max (max c0 c1) c2, fun k hk => by simp [-r_ref07_Right_35, a_ref07_Right, ← hH, k0 k (by omega), v0, v1, v2, v3, k1 k (by omega), w1, m1, f1, k2 k (by omega), w2, m2, f2]⟩ hF2.tk hF2.wr
      · obtain ⟨o3, s3, H3, W3, g3, m3, hF3, f3, h3⟩ := Right_prox hs hb hn.1 hn.2 m H2 W2 hF2 { s2 with env := (8, i64 0) :: s2.env, m := { h := H2, wr := W2 }, defs := [] } (by simp [w2]) rfl rfl
        obtain ⟨c3, k3⟩ := g3.get
        rcases h3 with ⟨rfl, w3, e3⟩ | ⟨rfl, w3, e3⟩
        · rw [show rightB d = false by simp [rightB, e3]]
          exact CallR.eval (m1 := { h := H3, wr := W3 }) rfl rfl prog_ref07_Right rfl ⟨max (max c0 c1) (max c2 c3), fun k hk => by simp [-r_ref07_Right_35, a_ref07_Right, ← hH, k0 k (by omega), v0, v1, v2, v3, k1 k (by omega), w1, m1, f1, k2 k (by omega), w2, m2, f2, k3 k (by omega), w3, m3, f3]⟩ hF3.tk hF3.wr
        · rw [show rightB d = true by simp [rightB, eh, e1, e2, e3]]
          exact CallR.eval (m1 := { h := H3, wr := W3 }) rfl rfl prog_ref07_Right rfl ⟨max (max c0 c1) (max c2 c3), fun k hk => by simp [-r_ref07_Right_35, a_ref07_Right, ← hH, k0 k (by omega), v0, v1, v2, v3, k1 k (by omega), w1, m1, f1, k2 k (by omega), w2, m2, f2, k3 k (by omega), w3, m3, f3]⟩ hF3.tk hF3.wr
end
end Go.AM.T
/- What the functions compute (own work). -/
namespace Go.AM.T
open Go Go.AM
attribute [local simp] so_mov so_pick so_alloc so_box so_build so_slit so_load so_store so_nilc so_bin so_beq so_eqs so_eqn so_eqnl so_not so_conv so_s2b so_mkfn so_slcA so_padd so_fld so_idxA so_idxV so_idxT so_look so_mupd so_mkmap so_mksl so_ext so_app so_lenT so_lenM so_min so_max so_cpy so_clr so_mkif so_tass so_lenS so_idxS so_slc
attribute [local simp] dn_skip dn_label dn_ret dn_exit dn_scope dn_keep dn_reg dn_draw0 noSlots denE denEI stepE  sd_mov sd_pick sd_build sd_load sd_store sd_nilc sd_bin sd_beq sd_eqs sd_eqn sd_eqnl sd_not sd_conv sd_s2b sd_mkfn sd_slc sd_slcA sd_padd sd_fld sd_idxS sd_idxA sd_idxV sd_idxT sd_look sd_mupd sd_ext sd_app sd_lenS sd_lenT sd_lenM sd_min sd_max sd_mkif sd_tass sd_call sd_slit dn_seq dn_cond dn_block dn_loop kn_call denIs denI denOp wants ev eget putD binL enumFrom AV.bool? AV.int? ekeep evs evp runV fin runDefs resAll resOf tupOf unit AV.cells okV ok1 Value.oneCell' fill setN rcells rs_nil rs_cons load_own load_cons mkAgg_rs storeN jmpOut
attribute [local simp] dvL dv1t dvAt mkAgg2 dv0 dv1 dv2 dv3 dv4 dv5 dv6 dv7 dv8 dv9 dv10 dvA dvN dvAll C_fz fzr

/-- A slice's elements, as a heap has them. -/
structure Els (lv : AV) (n sz k : Nat) (ag : Bool) (h : List Blk) (e : Nat → AV) : Prop where
  len : lenOf lv = some n
  el : ∀ i, i < n → ∃ a, atOf sz lv i = some a ∧ ∀ wr, loadV { h := h, wr := wr } a k ag = some (e i)

def idxOf (n : Nat) (p : Nat → Bool) : Int := match (List.range n).find? p with | some i => (i : Int) | none => -1
theorem idxOf_any (n : Nat) (p : Nat → Bool) : (0 ≤ idxOf n p ∧ (List.range n).any p = true) ∨ (idxOf n p < 0 ∧ (List.range n).any p = false) := by
  unfold idxOf
  cases h : (List.range n).find? p with
  | none =>
    right
    rw [List.find?_eq_none] at h
    refine ⟨by show (-1 : Int) < 0; decide, ?_⟩
    rw [List.any_eq_false]; exact fun x hx => by simpa using h x hx
  | some i =>
    left
    refine ⟨by show (0 : Int) ≤ (i : Int); omega, ?_⟩
    rw [List.any_eq_true]
    exact ⟨i, List.mem_of_find?_eq_some h, List.find?_some h⟩
theorem Els.ofInts {l : List Int} {v : RV} (hl : SlI l v) (h : List Blk) : Els (.r v) l.length 1 1 false h (fun i => i64 (l.getD i 0)) :=
  ⟨hl.len, fun i hi => ⟨_, hl.at hi, fun wr => by rw [Nat.mul_one, load_ints hi, getD_get hi]⟩⟩
theorem Els.ofPrs {l : List (Int × Int)} {v : RV} (hl : SlP l v) (h : List Blk) : Els (.r v) l.length 2 2 true h (fun i => .r (.agg [.lit (.int .i64 (l.getD i (0, 0)).1), .lit (.int .i64 (l.getD i (0, 0)).2)])) :=
  ⟨hl.len, fun i hi => ⟨_, hl.at hi, fun wr => by rw [load_prs hi, getD_get hi]⟩⟩

theorem IF_int_spec {lv F : AV} {n : Nat} {m : Mem} {e : Nat → AV} {p : Nat → Bool} (hn : n < 2 ^ 63) (hE : Els lv n 1 1 false m.h e) (hp : ∀ i, i < n → CallR C F [e i] { h := m.h } (.ret (bo (p i)) { h := m.h })) :
    CallR C (fnv fn_slices_IndexFunc_Sint_int) [lv, F] m (.ret (i64 (idxOf n p)) m) := by
  have key := Loop.run (C := C) (c := l_slices_IndexFunc_Sint_int_0) (live := [0, 1, 7, 8]) (fun k s => ∃ i : Nat, i + k = n ∧ At1 [0, 1, 7, 8] [(0, lv), (1, F), (7, i64 n), (8, i64 i)] { h := m.h } s ∧ ∀ j, j < i → p j = false)
    (fun o s => s.m = { h := m.h } ∧ s.defs = [] ∧ ((o = .ret ∧ ∃ i : Nat, eget s.env 4 = i64 i ∧ (List.range n).find? p = some i) ∨ (o = .exit 0 ∧ (List.range n).find? p = none))) (by
    rintro k s ⟨i, hik, ⟨he, hm, hd, hr⟩, hx⟩
    rw [he]
    cases k with
    | zero =>
      have e1 : ((i : Int) < (n : Int)) = False := eq_false (by omega)
      exact ⟨.exit 0, _, .of fun K => by simp [l_slices_IndexFunc_Sint_int_0, e1]; rfl, .inr ⟨by simp, by simp [hm], by simp [hd], .inr ⟨rfl, find_none_of fun j hj => hx j (by omega)⟩⟩⟩
    | succ k =>
      have e1 : ((i : Int) < (n : Int)) = True := eq_true (by omega)
      have w1 : IntKind.wrap .i64 ((i : Int) + 1) = i + 1 := by rw [w64] <;> omega
      obtain ⟨a, ha, hl⟩ := hE.el i (by omega)
      have hl := hl []
      obtain ⟨c1, k1⟩ := hp i (by omega)
      cases hq : p i with
      | true =>
        rw [hq] at k1
        exact ⟨.ret, _, .ofN ⟨c1, fun q hq => by simp [l_slices_IndexFunc_Sint_int_0, e1, ha, hm, hl, k1 q hq]; rfl⟩, .inr ⟨by simp, by simp, by simp [hd], .inl ⟨rfl, i, by simp, find_some_of (by omega) hx hq⟩⟩⟩
      | false =>
        rw [hq] at k1
        refine ⟨.norm, _, .ofN ⟨c1, fun q hq => by simp [l_slices_IndexFunc_Sint_int_0, e1, ha, hm, hl, k1 q hq, w1]; rfl⟩, .inl ⟨rfl, k, by omega, i + 1, by omega, ⟨by simp, by simp, by simp [hd], by simp [hr]⟩, fun j hj => ?_⟩⟩
        by_cases e : j = i
        · subst e; exact hq
        · exact hx j (by omega))
  obtain ⟨o, s, h1, h2, h3, h4, h5⟩ := key n { env := [(0, lv), (1, F), (7, i64 n), (8, i64 0)], m := { h := m.h } } ⟨0, by simp, ⟨by simp, rfl, rfl, rfl⟩, by simp⟩
  obtain ⟨c0, h1⟩ := h1.get
  unfold idxOf
  rcases h5 with ⟨rfl, i, h5, h6⟩ | ⟨rfl, h6⟩ <;> rw [h6]
  · exact CallR.eval0 rfl rfl prog_slices_IndexFunc_Sint_int rfl ⟨c0, fun k hk => by simp [a_slices_IndexFunc_Sint_int, hE.len, h1 k hk, h4, h5, h3]⟩
  · exact CallR.eval0 rfl rfl prog_slices_IndexFunc_Sint_int rfl ⟨c0, fun k hk => by simp [a_slices_IndexFunc_Sint_int, hE.len, h1 k hk, h4, h3]⟩

theorem CF_int_spec {lv F : AV} {n : Nat} {m : Mem} {e : Nat → AV} {p : Nat → Bool} (hn : n < 2 ^ 63) (hE : Els lv n 1 1 false m.h e) (hp : ∀ i, i < n → CallR C F [e i] { h := m.h } (.ret (bo (p i)) { h := m.h })) :
    CallR C (fnv fn_slices_ContainsFunc_Sint_int) [lv, F] m (.ret (bo ((List.range n).any p)) m) := by
  obtain ⟨c1, k1⟩ := IF_int_spec (m := { h := m.h }) hn hE hp
  rcases idxOf_any n p with ⟨h1, h2⟩ | ⟨h1, h2⟩
  · rw [h2]
    have e1 : (0 ≤ idxOf n p) = True := eq_true h1
    exact CallR.eval0 rfl rfl prog_slices_ContainsFunc_Sint_int rfl ⟨c1, fun k hk => by simp [a_slices_ContainsFunc_Sint_int, k1 k hk, e1]⟩
  · rw [h2]
    have e1 : (0 ≤ idxOf n p) = False := eq_false (by omega)
    exact CallR.eval0 rfl rfl prog_slices_ContainsFunc_Sint_int rfl ⟨c1, fun k hk => by simp [a_slices_ContainsFunc_Sint_int, k1 k hk, e1]⟩

theorem all_int_1_spec {H : List Blk} {W : List Nat} {b : Nat} {R x : AV} {v : Bool} (hR : okV R = true) (hc : R.cells = [R]) (hb : H[b]? = some (.cells [R] ty_func_int_bool_2 0)) (hr : ∀ X, CallR C R [x] { h := H ++ X } (.ret (bo v) { h := H ++ X })) :
    CallR C (.fn fn_tally_all_int_1 [] [.own b 0 0]) [x] { h := H, wr := W } (.ret (bo (!v)) { h := H, wr := W }) := by
  have hbl : b < H.length := getElem?_lt hb
  obtain ⟨c1, k1⟩ := hr []
  exact CallR.evalA (m1 := { h := H ++ [] }) rfl rfl prog_tally_all_int_1 rfl ⟨c1, fun k hk => by
    have := k1 k hk
    try simp at this
    simp [a_tally_all_int_1, hb, this]⟩ (by simp) (by simp)

theorem all_int_spec {lv R : AV} {n : Nat} {m : Mem} {e : Nat → AV} {p : Nat → Bool} (hn : n < 2 ^ 63) (hR : okV R = true) (hc : R.cells = [R]) (hE : ∀ X, Els lv n 1 1 false (m.h ++ X) e) (hr : ∀ i, i < n → ∀ X, CallR C R [e i] { h := m.h ++ X } (.ret (bo (p i)) { h := m.h ++ X })) :
    CallR C (fnv fn_tally_all_int) [lv, R] m (.ret (bo ((List.range n).all p)) m) := by
  obtain ⟨H, hH⟩ : ∃ H, H = m.h ++ [.cells [R] ty_func_int_bool_2 0] := ⟨_, rfl⟩
  have hb : H[m.h.length]? = some (.cells [R] ty_func_int_bool_2 0) := by simp [hH]
  have ht : H.take m.h.length = m.h := by simp [hH]
  have h1 : ∀ i, i < n → CallR C (.fn fn_tally_all_int_1 [] [.own m.h.length 0 0]) [e i] { h := H } (.ret (bo (!p i)) { h := H }) := fun i hi =>
    all_int_1_spec hR hc hb (fun X => by have := hr i hi ([.cells [R] ty_func_int_bool_2 0] ++ X); simpa [hH] using this)
  obtain ⟨c1, k1⟩ := CF_int_spec (m := { h := H }) hn (by have := hE [.cells [R] ty_func_int_bool_2 0]; rwa [← hH] at this) h1
  have he : (List.range n).any (fun i => !p i) = !(List.range n).all p := by simp [List.not_all_eq_any_not]
  rw [he] at k1
  exact CallR.eval (m1 := { h := H }) rfl rfl prog_tally_all_int rfl ⟨c1, fun k hk => by simp [-okV, -AV.cells, a_tally_all_int, hR, hc, allR, AV.toR, ← hH, k1 k hk]⟩ ht (by simp)

theorem IF_sl_spec {lv F : AV} {n : Nat} {m : Mem} {e : Nat → AV} {p : Nat → Bool} (hn : n < 2 ^ 63) (hE : Els lv n 1 1 false m.h e) (hp : ∀ i, i < n → CallR C F [e i] { h := m.h } (.ret (bo (p i)) { h := m.h })) :
    CallR C (fnv fn_slices_IndexFunc_SSint_Sint) [lv, F] m (.ret (i64 (idxOf n p)) m) := by
  have key := Loop.run (C := C) (c := l_slices_IndexFunc_SSint_Sint_0) (live := [0, 1, 7, 8]) (fun k s => ∃ i : Nat, i + k = n ∧ At1 [0, 1, 7, 8] [(0, lv), (1, F), (7, i64 n), (8, i64 i)] { h := m.h } s ∧ ∀ j, j < i → p j = false)
    (fun o s => s.m = { h := m.h } ∧ s.defs = [] ∧ ((o = .ret ∧ ∃ i : Nat, eget s.env 4 = i64 i ∧ (List.range n).find? p = some i) ∨ (o = .exit 0 ∧ (List.range n).find? p = none))) (by
    rintro k s ⟨i, hik, ⟨he, hm, hd, hr⟩, hx⟩
    rw [he]
    cases k with
    | zero =>
      have e1 : ((i : Int) < (n : Int)) = False := eq_false (by omega)
      exact ⟨.exit 0, _, .of fun K => by simp [l_slices_IndexFunc_SSint_Sint_0, e1]; rfl, .inr ⟨by simp, by simp [hm], by simp [hd], .inr ⟨rfl, find_none_of fun j hj => hx j (by omega)⟩⟩⟩
    | succ k =>
      have e1 : ((i : Int) < (n : Int)) = True := eq_true (by omega)
      have w1 : IntKind.wrap .i64 ((i : Int) + 1) = i + 1 := by rw [w64] <;> omega
      obtain ⟨a, ha, hl⟩ := hE.el i (by omega)
      have hl := hl []
      obtain ⟨c1, k1⟩ := hp i (by omega)
      cases hq : p i with
      | true =>
        rw [hq] at k1
        exact ⟨.ret, _, .ofN ⟨c1, fun q hq => by simp [l_slices_IndexFunc_SSint_Sint_0, e1, ha, hm, hl, k1 q hq]; rfl⟩, .inr ⟨by simp, by simp, by simp [hd], .inl ⟨rfl, i, by simp, find_some_of (by omega) hx hq⟩⟩⟩
      | false =>
        rw [hq] at k1
        refine ⟨.norm, _, .ofN ⟨c1, fun q hq => by simp [l_slices_IndexFunc_SSint_Sint_0, e1, ha, hm, hl, k1 q hq, w1]; rfl⟩, .inl ⟨rfl, k, by omega, i + 1, by omega, ⟨by simp, by simp, by simp [hd], by simp [hr]⟩, fun j hj => ?_⟩⟩
        by_cases e : j = i
        · subst e; exact hq
        · exact hx j (by omega))
  obtain ⟨o, s, h1, h2, h3, h4, h5⟩ := key n { env := [(0, lv), (1, F), (7, i64 n), (8, i64 0)], m := { h := m.h } } ⟨0, by simp, ⟨by simp, rfl, rfl, rfl⟩, by simp⟩
  obtain ⟨c0, h1⟩ := h1.get
  unfold idxOf
  rcases h5 with ⟨rfl, i, h5, h6⟩ | ⟨rfl, h6⟩ <;> rw [h6]
  · exact CallR.eval0 rfl rfl prog_slices_IndexFunc_SSint_Sint rfl ⟨c0, fun k hk => by simp [a_slices_IndexFunc_SSint_Sint, hE.len, h1 k hk, h4, h5, h3]⟩
  · exact CallR.eval0 rfl rfl prog_slices_IndexFunc_SSint_Sint rfl ⟨c0, fun k hk => by simp [a_slices_IndexFunc_SSint_Sint, hE.len, h1 k hk, h4, h3]⟩

theorem CF_sl_spec {lv F : AV} {n : Nat} {m : Mem} {e : Nat → AV} {p : Nat → Bool} (hn : n < 2 ^ 63) (hE : Els lv n 1 1 false m.h e) (hp : ∀ i, i < n → CallR C F [e i] { h := m.h } (.ret (bo (p i)) { h := m.h })) :
    CallR C (fnv fn_slices_ContainsFunc_SSint_Sint) [lv, F] m (.ret (bo ((List.range n).any p)) m) := by
  obtain ⟨c1, k1⟩ := IF_sl_spec (m := { h := m.h }) hn hE hp
  rcases idxOf_any n p with ⟨h1, h2⟩ | ⟨h1, h2⟩
  · rw [h2]
    have e1 : (0 ≤ idxOf n p) = True := eq_true h1
    exact CallR.eval0 rfl rfl prog_slices_ContainsFunc_SSint_Sint rfl ⟨c1, fun k hk => by simp [a_slices_ContainsFunc_SSint_Sint, k1 k hk, e1]⟩
  · rw [h2]
    have e1 : (0 ≤ idxOf n p) = False := eq_false (by omega)
    exact CallR.eval0 rfl rfl prog_slices_ContainsFunc_SSint_Sint rfl ⟨c1, fun k hk => by simp [a_slices_ContainsFunc_SSint_Sint, k1 k hk, e1]⟩

theorem all_sl_1_spec {H : List Blk} {W : List Nat} {b : Nat} {R x : AV} {v : Bool} (hR : okV R = true) (hc : R.cells = [R]) (hb : H[b]? = some (.cells [R] ty_func_Sint_bool 0)) (hr : ∀ X, CallR C R [x] { h := H ++ X } (.ret (bo v) { h := H ++ X })) :
    CallR C (.fn fn_tally_all_Sint_1 [] [.own b 0 0]) [x] { h := H, wr := W } (.ret (bo (!v)) { h := H, wr := W }) := by
  have hbl : b < H.length := getElem?_lt hb
  obtain ⟨c1, k1⟩ := hr []
  exact CallR.evalA (m1 := { h := H ++ [] }) rfl rfl prog_tally_all_Sint_1 rfl ⟨c1, fun k hk => by
    have := k1 k hk
    try simp at this
    simp [a_tally_all_Sint_1, hb, this]⟩ (by simp) (by simp)

theorem all_sl_spec {lv R : AV} {n : Nat} {m : Mem} {e : Nat → AV} {p : Nat → Bool} (hn : n < 2 ^ 63) (hR : okV R = true) (hc : R.cells = [R]) (hE : ∀ X, Els lv n 1 1 false (m.h ++ X) e) (hr : ∀ i, i < n → ∀ X, CallR C R [e i] { h := m.h ++ X } (.ret (bo (p i)) { h := m.h ++ X })) :
    CallR C (fnv fn_tally_all_Sint) [lv, R] m (.ret (bo ((List.range n).all p)) m) := by
  obtain ⟨H, hH⟩ : ∃ H, H = m.h ++ [.cells [R] ty_func_Sint_bool 0] := ⟨_, rfl⟩
  have hb : H[m.h.length]? = some (.cells [R] ty_func_Sint_bool 0) := by simp [hH]
  have ht : H.take m.h.length = m.h := by simp [hH]
  have h1 : ∀ i, i < n → CallR C (.fn fn_tally_all_Sint_1 [] [.own m.h.length 0 0]) [e i] { h := H } (.ret (bo (!p i)) { h := H }) := fun i hi =>
    all_sl_1_spec hR hc hb (fun X => by have := hr i hi ([.cells [R] ty_func_Sint_bool 0] ++ X); simpa [hH] using this)
  obtain ⟨c1, k1⟩ := CF_sl_spec (m := { h := H }) hn (by have := hE [.cells [R] ty_func_Sint_bool 0]; rwa [← hH] at this) h1
  have he : (List.range n).any (fun i => !p i) = !(List.range n).all p := by simp [List.not_all_eq_any_not]
  rw [he] at k1
  exact CallR.eval (m1 := { h := H }) rfl rfl prog_tally_all_Sint rfl ⟨c1, fun k hk => by simp [-okV, -AV.cells, a_tally_all_Sint, hR, hc, allR, AV.toR, ← hH, k1 k hk]⟩ ht (by simp)

theorem IF_prx_spec {lv F : AV} {n : Nat} {m : Mem} {e : Nat → AV} {p : Nat → Bool} (hn : n < 2 ^ 63) (hE : Els lv n 2 2 true m.h e) (hp : ∀ i, i < n → CallR C F [e i] { h := m.h } (.ret (bo (p i)) { h := m.h })) :
    CallR C (fnv fn_slices_IndexFunc_Stally_Proxy_tally_Proxy) [lv, F] m (.ret (i64 (idxOf n p)) m) := by
  have key := Loop.run (C := C) (c := l_slices_IndexFunc_Stally_Proxy_tally_Proxy_0) (live := [0, 1, 7, 8]) (fun k s => ∃ i : Nat, i + k = n ∧ At1 [0, 1, 7, 8] [(0, lv), (1, F), (7, i64 n), (8, i64 i)] { h := m.h } s ∧ ∀ j, j < i → p j = false)
    (fun o s => s.m = { h := m.h } ∧ s.defs = [] ∧ ((o = .ret ∧ ∃ i : Nat, eget s.env 4 = i64 i ∧ (List.range n).find? p = some i) ∨ (o = .exit 0 ∧ (List.range n).find? p = none))) (by
    rintro k s ⟨i, hik, ⟨he, hm, hd, hr⟩, hx⟩
    rw [he]
    cases k with
    | zero =>
      have e1 : ((i : Int) < (n : Int)) = False := eq_false (by omega)
      exact ⟨.exit 0, _, .of fun K => by simp [l_slices_IndexFunc_Stally_Proxy_tally_Proxy_0, e1]; rfl, .inr ⟨by simp, by simp [hm], by simp [hd], .inr ⟨rfl, find_none_of fun j hj => hx j (by omega)⟩⟩⟩
    | succ k =>
      have e1 : ((i : Int) < (n : Int)) = True := eq_true (by omega)
      have w1 : IntKind.wrap .i64 ((i : Int) + 1) = i + 1 := by rw [w64] <;> omega
      obtain ⟨a, ha, hl⟩ := hE.el i (by omega)
      have hl := hl []
      obtain ⟨c1, k1⟩ := hp i (by omega)
      cases hq : p i with
      | true =>
        rw [hq] at k1
        exact ⟨.ret, _, .ofN ⟨c1, fun q hq => by simp [l_slices_IndexFunc_Stally_Proxy_tally_Proxy_0, e1, ha, hm, hl, k1 q hq]; rfl⟩, .inr ⟨by simp, by simp, by simp [hd], .inl ⟨rfl, i, by simp, find_some_of (by omega) hx hq⟩⟩⟩
      | false =>
        rw [hq] at k1
        refine ⟨.norm, _, .ofN ⟨c1, fun q hq => by simp [l_slices_IndexFunc_Stally_Proxy_tally_Proxy_0, e1, ha, hm, hl, k1 q hq, w1]; rfl⟩, .inl ⟨rfl, k, by omega, i + 1, by omega, ⟨by simp, by simp, by simp [hd], by simp [hr]⟩, fun j hj => ?_⟩⟩
        by_cases e : j = i
        · subst e; exact hq
        · exact hx j (by omega))
  obtain ⟨o, s, h1, h2, h3, h4, h5⟩ := key n { env := [(0, lv), (1, F), (7, i64 n), (8, i64 0)], m := { h := m.h } } ⟨0, by simp, ⟨by simp, rfl, rfl, rfl⟩, by simp⟩
  obtain ⟨c0, h1⟩ := h1.get
  unfold idxOf
  rcases h5 with ⟨rfl, i, h5, h6⟩ | ⟨rfl, h6⟩ <;> rw [h6]
  · exact CallR.eval0 rfl rfl prog_slices_IndexFunc_Stally_Proxy_tally_Proxy rfl ⟨c0, fun k hk => by simp [a_slices_IndexFunc_Stally_Proxy_tally_Proxy, hE.len, h1 k hk, h4, h5, h3]⟩
  · exact CallR.eval0 rfl rfl prog_slices_IndexFunc_Stally_Proxy_tally_Proxy rfl ⟨c0, fun k hk => by simp [a_slices_IndexFunc_Stally_Proxy_tally_Proxy, hE.len, h1 k hk, h4, h3]⟩

theorem CF_prx_spec {lv F : AV} {n : Nat} {m : Mem} {e : Nat → AV} {p : Nat → Bool} (hn : n < 2 ^ 63) (hE : Els lv n 2 2 true m.h e) (hp : ∀ i, i < n → CallR C F [e i] { h := m.h } (.ret (bo (p i)) { h := m.h })) :
    CallR C (fnv fn_slices_ContainsFunc_Stally_Proxy_tally_Proxy) [lv, F] m (.ret (bo ((List.range n).any p)) m) := by
  obtain ⟨c1, k1⟩ := IF_prx_spec (m := { h := m.h }) hn hE hp
  rcases idxOf_any n p with ⟨h1, h2⟩ | ⟨h1, h2⟩
  · rw [h2]
    have e1 : (0 ≤ idxOf n p) = True := eq_true h1
    exact CallR.eval0 rfl rfl prog_slices_ContainsFunc_Stally_Proxy_tally_Proxy rfl ⟨c1, fun k hk => by simp [a_slices_ContainsFunc_Stally_Proxy_tally_Proxy, k1 k hk, e1]⟩
  · rw [h2]
    have e1 : (0 ≤ idxOf n p) = False := eq_false (by omega)
    exact CallR.eval0 rfl rfl prog_slices_ContainsFunc_Stally_Proxy_tally_Proxy rfl ⟨c1, fun k hk => by simp [a_slices_ContainsFunc_Stally_Proxy_tally_Proxy, k1 k hk, e1]⟩

theorem all_prx_1_spec {H : List Blk} {W : List Nat} {b : Nat} {R x : AV} {v : Bool} (hR : okV R = true) (hc : R.cells = [R]) (hb : H[b]? = some (.cells [R] ty_func_tally_Proxy_bool 0)) (hx : ∃ u v, x = .r (.agg [u, v])) (hr : ∀ X, CallR C R [x] { h := H ++ X } (.ret (bo v) { h := H ++ X })) :
    CallR C (.fn fn_tally_all_tally_Proxy_1 [] [.own b 0 0]) [x] { h := H, wr := W } (.ret (bo (!v)) { h := H, wr := W }) := by
  have hbl : b < H.length := getElem?_lt hb
  obtain ⟨u, w, rfl⟩ := hx
  have hA : ∀ b', (H ++ [b'])[b]? = some (.cells [R] ty_func_tally_Proxy_bool 0) := fun b' => by rw [List.getElem?_append_left hbl]; exact hb
  obtain ⟨c1, k1⟩ := hr [.cells [.r u, .r w] ty_tally_Proxy 0]
  exact CallR.evalA (m1 := { h := H ++ [.cells [.r u, .r w] ty_tally_Proxy 0] }) rfl rfl prog_tally_all_tally_Proxy_1 rfl ⟨c1, fun k hk => by
    have := k1 k hk
    try simp at this
    simp [a_tally_all_tally_Proxy_1, hb, this, hA]⟩ (by simp) (by simp)

theorem all_prx_spec {lv R : AV} {n : Nat} {m : Mem} {e : Nat → AV} {p : Nat → Bool} (hn : n < 2 ^ 63) (hR : okV R = true) (hc : R.cells = [R]) (hE : ∀ X, Els lv n 2 2 true (m.h ++ X) e) (hx : ∀ i, ∃ u v, e i = .r (.agg [u, v])) (hr : ∀ i, i < n → ∀ X, CallR C R [e i] { h := m.h ++ X } (.ret (bo (p i)) { h := m.h ++ X })) :
    CallR C (fnv fn_tally_all_tally_Proxy) [lv, R] m (.ret (bo ((List.range n).all p)) m) := by
  obtain ⟨H, hH⟩ : ∃ H, H = m.h ++ [.cells [R] ty_func_tally_Proxy_bool 0] := ⟨_, rfl⟩
  have hb : H[m.h.length]? = some (.cells [R] ty_func_tally_Proxy_bool 0) := by simp [hH]
  have ht : H.take m.h.length = m.h := by simp [hH]
  have h1 : ∀ i, i < n → CallR C (.fn fn_tally_all_tally_Proxy_1 [] [.own m.h.length 0 0]) [e i] { h := H } (.ret (bo (!p i)) { h := H }) := fun i hi =>
    all_prx_1_spec hR hc hb (hx i) (fun X => by have := hr i hi ([.cells [R] ty_func_tally_Proxy_bool 0] ++ X); simpa [hH] using this)
  obtain ⟨c1, k1⟩ := CF_prx_spec (m := { h := H }) hn (by have := hE [.cells [R] ty_func_tally_Proxy_bool 0]; rwa [← hH] at this) h1
  have he : (List.range n).any (fun i => !p i) = !(List.range n).all p := by simp [List.not_all_eq_any_not]
  rw [he] at k1
  exact CallR.eval (m1 := { h := H }) rfl rfl prog_tally_all_tally_Proxy rfl ⟨c1, fun k hk => by simp [-okV, -AV.cells, a_tally_all_tally_Proxy, hR, hc, allR, AV.toR, ← hH, k1 k hk]⟩ ht (by simp)

end Go.AM.T
/- What the functions compute (own work). -/
namespace Go.AM.T
open Go Go.AM
attribute [local simp] so_mov so_pick so_alloc so_box so_build so_slit so_load so_store so_nilc so_bin so_beq so_eqs so_eqn so_eqnl so_not so_conv so_s2b so_mkfn so_slcA so_padd so_fld so_idxA so_idxV so_idxT so_look so_mupd so_mkmap so_mksl so_ext so_app so_lenT so_lenM so_min so_max so_cpy so_clr so_mkif so_tass so_lenS so_idxS so_slc
attribute [local simp] dn_skip dn_label dn_ret dn_exit dn_scope dn_keep dn_reg dn_draw0 noSlots denE denEI stepE  sd_mov sd_pick sd_build sd_load sd_store sd_nilc sd_bin sd_beq sd_eqs sd_eqn sd_eqnl sd_not sd_conv sd_s2b sd_mkfn sd_slc sd_slcA sd_padd sd_fld sd_idxS sd_idxA sd_idxV sd_idxT sd_look sd_mupd sd_ext sd_app sd_lenS sd_lenT sd_lenM sd_min sd_max sd_mkif sd_tass sd_call sd_slit dn_seq dn_cond dn_block dn_loop kn_call denIs denI denOp wants ev eget putD binL enumFrom AV.bool? AV.int? ekeep evs evp runV fin runDefs resAll resOf tupOf unit AV.cells okV ok1 Value.oneCell' fill setN rcells rs_nil rs_cons load_own load_cons mkAgg_rs storeN jmpOut
attribute [local simp] dvL dv1t dvAt mkAgg2 dv0 dv1 dv2 dv3 dv4 dv5 dv6 dv7 dv8 dv9 dv10 dvA dvN dvAll C_fz fzr
theorem tRising_spec {l : List Int} {v : RV} (hl : SlI l v) (hb : l.length < 2 ^ 63) (m : Mem) : CallR C (fnv fn_tally_rising) [.r v] m (.ret (bo (risingB l)) m) := by
  have key := Loop.run (C := C) (c := l_tally_rising_0) (live := [0, 5, 6]) (fun k s => ∃ i : Nat, i + k = l.length ∧ At1 [0, 5, 6] [(0, .r v), (5, i64 l.length), (6, i64 i)] { h := m.h } s ∧ ∀ j, j + 1 < i → (h : j + 1 < l.length) → l[j] < l[j + 1])
    (fun o s => s.m = { h := m.h } ∧ s.defs = [] ∧ ((o = .ret ∧ eget s.env 2 = bo false ∧ risingB l = false) ∨ (o = .exit 0 ∧ risingB l = true))) (by
    rintro k s ⟨i, hik, ⟨he, hm, hd, hr⟩, hn⟩
    rw [he]
    cases k with
    | zero =>
      have e1 : ((i : Int) < (l.length : Int)) = False := eq_false (by omega)
      refine ⟨.exit 0, _, .of fun K => by simp [l_tally_rising_0, e1]; rfl, .inr ⟨by simp, by simp [hm], by simp [hd], .inr ⟨rfl, ?_⟩⟩⟩
      rw [risingB_iff]
      exact fun j hj => hn j (by omega) hj
    | succ k =>
      have hi : i < l.length := by omega
      have e1 : ((i : Int) < (l.length : Int)) = True := eq_true (by omega)
      have w1 : IntKind.wrap .i64 ((i : Int) + 1) = i + 1 := by rw [w64] <;> omega
      cases i with
      | zero =>
        refine ⟨.norm, _, .of fun K => by simp [l_tally_rising_0, hi, wk1]; rfl, .inl ⟨rfl, k, by omega, 1, by omega, ⟨by simp, by simp [hm], by simp [hd], by simp [hr]⟩, fun j hj h => by omega⟩⟩
      | succ i =>
        have hi' : i < l.length := by omega
        have e0 : (0 < ((i + 1 : Nat) : Int)) = True := eq_true (by omega)
        have e0' : (0 < ((i : Int) + 1)) = True := eq_true (by omega)
        have e2' : IntKind.wrap .i64 ((i : Int)) = i := by rw [w64] <;> omega
        have a1 : atOf 1 (.r v) ((i : Int) + 1) = _ := hl.at (i := i + 1) (sz := 1) hi
        have e1' : ((i : Int) + 1 < (l.length : Int)) = True := eq_true (by omega)
        have w1' : IntKind.wrap .i64 ((i : Int) + 1 + 1) = i + 1 + 1 := by rw [w64] <;> omega
        by_cases hx : l[i] < l[i + 1]
        · have e3 : (l[i + 1] ≤ l[i]) = False := eq_false (by omega)
          refine ⟨.norm, _, .of fun K => by simp [l_tally_rising_0, e1', e0', a1, hl.at hi', e2', load_ints hi, load_ints hi', e3, w1']; rfl, .inl ⟨rfl, k, by omega, i + 2, by omega, ⟨by simp; omega, by simp [hm], by simp [hd], by simp [hr]⟩, fun j hj h => ?_⟩⟩
          by_cases e : j = i
          · subst e; exact hx
          · exact hn j (by omega) h
        · have e3 : (l[i + 1] ≤ l[i]) = True := eq_true (by omega)
          refine ⟨.ret, _, .of fun K => by simp [l_tally_rising_0, e1', e0', a1, hl.at hi', e2', load_ints hi, load_ints hi', e3]; rfl, .inr ⟨by simp, by simp [hm], by simp [hd], .inl ⟨rfl, rfl, ?_⟩⟩⟩
          cases h : risingB l with
          | false => rfl
          | true => exact absurd ((risingB_iff l).1 h i hi) hx)
  obtain ⟨o, s, h1, h2, h3, h4, h5⟩ := key l.length { env := [(0, .r v), (5, i64 l.length), (6, i64 0)], m := { h := m.h } } ⟨0, by omega, ⟨by simp, rfl, rfl, rfl⟩, by simp⟩
  obtain ⟨n0, h1⟩ := h1.get
  rcases h5 with ⟨rfl, h5, h6⟩ | ⟨rfl, h6⟩ <;> rw [h6]
  · exact CallR.eval0 rfl rfl prog_tally_rising rfl ⟨n0, fun k hk => by simp [a_tally_rising, hl.len, h1 k hk, h4, h5, h3]⟩
  · exact CallR.eval0 rfl rfl prog_tally_rising rfl ⟨n0, fun k hk => by simp [a_tally_rising, hl.len, h1 k hk, h4, h3]⟩

section
variable {d : Div} {a0 a1 n0 n1 p q : RV}
theorem member_spec (hn : 1 ≤ d.n) (hn' : d.n ≤ 40) (x : Int) (m : Mem) : CallR C (fnv fn_tally_Division_member) [.r (.agg (divC d a0 a1 n0 n1 p q)), i64 x] m (.ret (bo (memB d.n x)) m) := by
  have hw : IntKind.wrap .i64 (d.n - 1) = d.n - 1 := by rw [w64] <;> omega
  obtain ⟨H, hH⟩ : ∃ H, H = m.h ++ [.cells (rs (divC d a0 a1 n0 n1 p q)) ty_tally_Division 0] := ⟨_, rfl⟩
  have hc : H[m.h.length]? = some (.cells (rs (divC d a0 a1 n0 n1 p q)) ty_tally_Division 0) := by simp [hH]
  have ht : H.take m.h.length = m.h := by simp [hH]
  obtain ⟨c1, k1⟩ := within_spec x 0 (d.n - 1) { h := H }
  rw [show (decide (0 ≤ x) && decide (x ≤ d.n - 1)) = memB d.n x from rfl] at k1
  exact CallR.eval (m1 := { h := H }) rfl rfl prog_tally_Division_member rfl ⟨c1, fun k hk => by simp [a_tally_Division_member, ← hH, hc, hw, k1 k hk]⟩ ht (by simp)

/-- The same as a function value that holds its division. -/
theorem CallR.first {C : Cfg} {f : FuncId} {a : List RV} {args : List AV} {m : Mem} {r : CRes} (h : CallR C (.r (.fn f [] [])) (rs a ++ args) m r) : CallR C (.r (.fn f a [])) args m r := by
  obtain ⟨n0, h⟩ := h
  refine ⟨n0, fun n hn => ?_⟩
  have := h n hn
  cases n with
  | zero => simp [callN] at this
  | succ n => simpa [callN] using this

theorem listed_spec (hn : 1 ≤ d.n) (hn' : d.n ≤ 40) {l : List Int} {v : RV} (hl : SlI l v) (hb : l.length < 2 ^ 63) (m : Mem) :
    CallR C (fnv fn_tally_Division_listed) [.r (.agg (divC d a0 a1 n0 n1 p q)), .r v] m (.ret (bo (listB d.n l)) m) := by
  obtain ⟨H, hH⟩ : ∃ H, H = m.h ++ [.cells (rs (divC d a0 a1 n0 n1 p q)) ty_tally_Division 0] := ⟨_, rfl⟩
  have hc : H[m.h.length]? = some (.cells (rs (divC d a0 a1 n0 n1 p q)) ty_tally_Division 0) := by simp [hH]
  have ht : H.take m.h.length = m.h := by simp [hH]
  obtain ⟨c1, k1⟩ := all_int_spec (m := { h := H }) (lv := .r v) (R := .r (.fn fn_tally_Division_member [.agg (divC d a0 a1 n0 n1 p q)] [])) (n := l.length) (p := fun i => memB d.n (l.getD i 0)) hb rfl rfl (fun X => Els.ofInts hl _)
    (fun i hi X => CallR.first (member_spec hn hn' _ _))
  obtain ⟨c2, k2⟩ := tRising_spec hl hb { h := H }
  have he : ((List.range l.length).all fun i => memB d.n (l.getD i 0)) = l.all (memB d.n) := by
    cases h : l.all (memB d.n) with
    | true =>
      rw [List.all_eq_true] at h
      exact range_all_of fun j hj => by rw [getD_get hj]; exact h _ (by simp)
    | false =>
      rw [List.all_eq_false] at h
      obtain ⟨x, hx, hq⟩ := h
      obtain ⟨i, hi, rfl⟩ := List.getElem_of_mem hx
      exact range_all_not hi (by rw [getD_get hi]; simpa using hq)
  rw [he] at k1
  cases h1 : l.all (memB d.n) with
  | false =>
    rw [h1] at k1
    rw [show listB d.n l = false by simp only [listB, h1]; rfl]
    exact CallR.eval (m1 := { h := H }) rfl rfl prog_tally_Division_listed rfl ⟨c1, fun k hk => by simp [a_tally_Division_listed, ← hH, hc, allR, AV.toR, k1 k hk]⟩ ht (by simp)
  | true =>
    rw [h1] at k1
    rw [show listB d.n l = risingB l by simp only [listB, h1]; rfl]
    exact CallR.eval (m1 := { h := H }) rfl rfl prog_tally_Division_listed rfl ⟨max c1 c2, fun k hk => by simp [a_tally_Division_listed, ← hH, hc, allR, AV.toR, k1 k (by omega), k2 k (by omega)]⟩ ht (by simp)
end
end Go.AM.T
