/- The functions that the law reaches, in the text of the interpreter, and that this text fits them (no condition). -/
import Derived.Test.YtdembjfpgfaheaaVmc
import Derived.Test.YtdembjfpgfaheaaProg
import Derived.KernelRfl
/- PRINTED BY irgen.py, a program of this claim's author: the functions that the claim reaches, in the text of the interpreter, and that they fit. -/
namespace Go.Vm.Ytdembjfpgfaheaa
open Go Go.Vm
set_option linter.unusedVariables false
set_option maxRecDepth 100000
noncomputable abbrev prog : Program := Go.Proofs.Try.prog
abbrev F_laws_FnExactGoodWay : FuncId := 3
abbrev F_laws_FnExactTurnsIn : FuncId := 4
abbrev F_laws_FnExactWaysThrough : FuncId := 5
abbrev F_laws_FnExactHarmIn : FuncId := 6
abbrev F_laws_FnExactWayOf : FuncId := 7
abbrev F_laws_FnExactFollowWay : FuncId := 8
abbrev F_laws_FnExactPlacesRead : FuncId := 9
abbrev F_laws_FnWays : FuncId := 10
abbrev F_laws_szStepS : FuncId := 11
abbrev F_laws_szWay : FuncId := 12
abbrev F_spec_GoodWay : FuncId := 13
abbrev F_laws_toStepS : FuncId := 14
abbrev F_laws_toWay : FuncId := 15
abbrev F_impl_GoodWay : FuncId := 16
abbrev F_laws_eqStepS : FuncId := 17
abbrev F_laws_eqWay : FuncId := 18
abbrev F_spec_TurnsIn : FuncId := 19
abbrev F_impl_TurnsIn : FuncId := 20
abbrev F_spec_WaysThrough : FuncId := 21
abbrev F_impl_WaysThrough : FuncId := 22
abbrev F_laws_eqWayS : FuncId := 23
abbrev F_laws_markStepS : FuncId := 24
abbrev F_laws_markWayS : FuncId := 25
abbrev F_laws_heldWayS : FuncId := 26
abbrev F_spec_HarmIn : FuncId := 27
abbrev F_impl_HarmIn : FuncId := 28
abbrev F_laws_eqIntS : FuncId := 29
abbrev F_laws_markIntS : FuncId := 30
abbrev F_laws_heldIntS : FuncId := 31
abbrev F_spec_WayOf : FuncId := 32
abbrev F_laws_toIntS : FuncId := 33
abbrev F_impl_WayOf : FuncId := 34
abbrev F_laws_markWay : FuncId := 35
abbrev F_laws_heldWay : FuncId := 36
abbrev F_spec_FollowWay : FuncId := 37
abbrev F_impl_FollowWay : FuncId := 38
abbrev F_spec_PlacesRead : FuncId := 39
abbrev F_impl_PlacesRead : FuncId := 40
abbrev F_spec_DrawWayOf : FuncId := 41
abbrev F_laws_sameWay : FuncId := 42
abbrev F_impl_WayCount : FuncId := 43
abbrev F_spec_DrawWaysThrough : FuncId := 44
abbrev F_laws_szIntS : FuncId := 45
abbrev F_laws_szBoolS : FuncId := 46
abbrev F_spec_GoodProgram : FuncId := 47
abbrev F_spec_l2Nexts : FuncId := 48
abbrev F_spec_l14Branch : FuncId := 49
abbrev F_laws_toStep : FuncId := 50
abbrev F_laws_toBoolS : FuncId := 51
abbrev F_impl_GoodProgram : FuncId := 52
abbrev F_slices_Contains__sint_int : FuncId := 53
abbrev F_impl_nexts : FuncId := 54
abbrev F_slices_Equal__sbool_bool : FuncId := 55
abbrev F_impl_turnsOf : FuncId := 56
abbrev F_laws_eqStep : FuncId := 57
abbrev F_laws_eqBoolS : FuncId := 58
abbrev F_spec_l14All : FuncId := 59
abbrev F_impl_ways : FuncId := 60
abbrev F_laws_markBoolS : FuncId := 61
abbrev F_laws_heldBoolS : FuncId := 62
abbrev F_spec_l17Tries : FuncId := 63
abbrev F_spec_l3Run : FuncId := 64
abbrev F_impl_tries : FuncId := 65
abbrev F_impl_run : FuncId := 66
abbrev F_spec_TraceOf : FuncId := 67
abbrev F_impl_TraceOf : FuncId := 68
abbrev F_spec_l3Ctx : FuncId := 69
abbrev F_spec_NewMachine : FuncId := 70
abbrev F_spec_l3Do : FuncId := 71
abbrev F_impl_isContext : FuncId := 72
abbrev F_impl_NewMachine : FuncId := 73
abbrev F_impl_pMachine_step : FuncId := 74
abbrev F_spec_l1Put : FuncId := 75
abbrev F_slices_Sort__sint_int : FuncId := 76
abbrev F_slices_Compact__sint_int : FuncId := 77
abbrev F_spec_DrawTraceOf : FuncId := 78
abbrev F_laws_sameInts : FuncId := 79
abbrev F_laws_sameBools : FuncId := 80
abbrev F_impl_isStep : FuncId := 81
abbrev F_impl_wayCount : FuncId := 82
abbrev F_spec_DrawGoodProgram : FuncId := 83
abbrev F_spec_l2Step : FuncId := 84
abbrev F_spec_l1In : FuncId := 85
abbrev F_impl_in : FuncId := 86
abbrev F_impl_Step_valid : FuncId := 87
abbrev F_impl_Step_jumps : FuncId := 88
abbrev F_slices_Index__sint_int : FuncId := 89
abbrev F_impl_Step_branches : FuncId := 90
abbrev F_spec_l14Own : FuncId := 91
abbrev F_slices_Clone__sint_int : FuncId := 92
abbrev F_slices_Clone__sbool_bool : FuncId := 93
abbrev F_spec_l17Full : FuncId := 94
abbrev F_spec_l1Has : FuncId := 95
abbrev F_impl_alone : FuncId := 96
abbrev F_spec_l1All : FuncId := 97
abbrev F_spec_l1Do : FuncId := 98
abbrev F_slices_ContainsFunc__sint_int : FuncId := 99
abbrev F_impl_isContext_c1 : FuncId := 100
abbrev F_impl_do : FuncId := 101
abbrev F_slices_pdqsortOrdered__int : FuncId := 102
abbrev F_bits_Len : FuncId := 103
abbrev F_spec_pl1Cur_program : FuncId := 104
abbrev F_spec_pl1Cur_ctx : FuncId := 105
abbrev F_spec_l2Reg : FuncId := 106
abbrev F_spec_l2Zero : FuncId := 107
abbrev F_impl_fields : FuncId := 108
abbrev F_impl_Step_ranges : FuncId := 109
abbrev F_impl_pStep_field : FuncId := 110
abbrev F_slices_Repeat__sint_int : FuncId := 111
abbrev F_spec_l1Wrap : FuncId := 112
abbrev F_slices_IndexFunc__sint_int : FuncId := 113
abbrev F_impl_WordOf : FuncId := 114
abbrev F_slices_insertionSortOrdered__int : FuncId := 115
abbrev F_slices_heapSortOrdered__int : FuncId := 116
abbrev F_slices_breakPatternsOrdered__int : FuncId := 117
abbrev F_slices_choosePivotOrdered__int : FuncId := 118
abbrev F_slices_reverseRangeOrdered__int : FuncId := 119
abbrev F_slices_partialInsertionSortOrdered__int : FuncId := 120
abbrev F_cmp_Less__int : FuncId := 121
abbrev F_slices_partitionEqualOrdered__int : FuncId := 122
abbrev F_slices_partitionOrdered__int : FuncId := 123
abbrev F_bits_Len32 : FuncId := 124
abbrev F_bits_Len64 : FuncId := 125
abbrev F_spec_pl1Cur_pick : FuncId := 126
abbrev F_spec_pl1Cur_one : FuncId := 127
abbrev F_spec_pl1Cur_step : FuncId := 128
abbrev F_spec_pl1Cur_among : FuncId := 129
abbrev F_bits_Mul : FuncId := 130
abbrev F_slices_siftDownOrdered__int : FuncId := 131
abbrev F_slices_nextPowerOfTwo : FuncId := 132
abbrev F_slices_pxorshift_Next : FuncId := 133
abbrev F_slices_medianAdjacentOrdered__int : FuncId := 134
abbrev F_slices_medianOrdered__int : FuncId := 135
abbrev F_cmp_isNaN__int : FuncId := 136
abbrev F_spec_pl1Cur_next : FuncId := 137
abbrev F_spec_l1Least : FuncId := 138
abbrev F_bits_Mul32 : FuncId := 139
abbrev F_bits_Mul64 : FuncId := 140
abbrev F_slices_order2Ordered__int : FuncId := 141
abbrev F_runtime_boundsError_Error : FuncId := 142
abbrev F_runtime_boundsError_RuntimeError : FuncId := 143
abbrev F_runtime_errorString_Error : FuncId := 144
abbrev F_runtime_errorString_RuntimeError : FuncId := 145
abbrev F_runtime_plainError_Error : FuncId := 146
abbrev F_runtime_plainError_RuntimeError : FuncId := 147
abbrev F_runtime_errorAddressString_Error : FuncId := 148
abbrev F_runtime_errorAddressString_RuntimeError : FuncId := 149
abbrev F_runtime_pTypeAssertionError_Error : FuncId := 150
abbrev F_runtime_pTypeAssertionError_RuntimeError : FuncId := 151
abbrev F_runtime_pPanicNilError_Error : FuncId := 152
abbrev F_runtime_pPanicNilError_RuntimeError : FuncId := 153
abbrev F_abi_pType_Align : FuncId := 154
abbrev F_maps_unhashableTypeError_Error : FuncId := 155
abbrev F_maps_unhashableTypeError_RuntimeError : FuncId := 156
abbrev F_impl_Machine_own : FuncId := 157
abbrev F_abi_Kind_String : FuncId := 158

/-! laws_szStepS -/
def laws_szStepS.r0 : List Ent := [
  E0 0 (some 4) none (.i (.mv (.k (I64 0))))]
def laws_szStepS.r1 : List Ent := [
  E0 0 (some 5) none (.i (.mv (.t 1))),
  E0 1 (some 6) none (.i (.mv (.t 0))),
  E0 2 (some 7) none (.i (.len (.t 6))),
  E0 3 (some 8) none (.i (.bin .sub (.t 5) (.t 7))),
  E0 4 (some 1) none (.i (.mv (.t 8)))]
def laws_szStepS.r2 : List Ent := [
  E0 0 (some 9) none (.i (.mv (.t 1))),
  E0 1 (some 10) none (.i (.bin .lss (.t 9) (.k (I64 0))))]
def laws_szStepS.r3 : List Ent := [
  E0 0 (some 4) none (.i (.mv (.k (I64 (-1)))))]
def laws_szStepS.r4 : List Ent := [
  E0 0 (some 11) none (.i (.mv (.t 1))),
  E0 1 (some 4) none (.i (.mv (.t 11)))]
def laws_szStepS.fi : FI := { res := [.t 4], code := .seq (.reg 64 1 laws_szStepS.r0) (.seq (.reg 128 5 laws_szStepS.r1) (.seq (.seq (.reg 448 2 laws_szStepS.r2) (.cond (.t 10) (.seq (.reg 576 1 laws_szStepS.r3) (.ret)) (.skip))) (.seq (.reg 640 2 laws_szStepS.r4) (.ret)))) }
attribute [go_sem] laws_szStepS.r0 laws_szStepS.r1 laws_szStepS.r2 laws_szStepS.r3 laws_szStepS.r4
theorem laws_szStepS.ok : chkF prog F_laws_szStepS 2 laws_szStepS.fi = true := by kernel_rfl

/-! spec_l1In -/
def spec_l1In.r0 : List Ent := [
  E0 0 (some 6) none (.i (.mv (.k (.dat none (.bool false)))))]
def spec_l1In.r1 : List Ent := [
  E0 0 (some 7) none (.i (.mv (.t 0))),
  E0 1 (some 8) none (.i (.mv (.t 1))),
  E0 2 (some 9) none (.i (.bin .geq (.t 7) (.t 8))),
  E0 3 (some 10) none (.i (.mv (.t 9))),
  E0 4 (some 11) (some (10, true)) (.i (.mv (.t 0))),
  E0 5 (some 12) (some (10, true)) (.i (.mv (.t 2))),
  E0 6 (some 13) (some (10, true)) (.i (.bin .leq (.t 11) (.t 12))),
  E0 7 (some 14) none (.i (.pick (.t 10) (.t 13) (.k (.dat none (.bool false))))),
  E0 8 (some 6) none (.i (.mv (.t 14)))]
def spec_l1In.fi : FI := { res := [.t 6], code := .seq (.reg 64 1 spec_l1In.r0) (.seq (.reg 128 9 spec_l1In.r1) (.ret)) }
attribute [go_sem] spec_l1In.r0 spec_l1In.r1
theorem spec_l1In.ok : chkF prog F_spec_l1In 3 spec_l1In.fi = true := by kernel_rfl

/-! spec_l2Reg -/
def spec_l2Reg.r0 : List Ent := [
  E0 0 (some 2) none (.i (.mv (.k (.dat none (.bool false)))))]
def spec_l2Reg.r1 : List Ent := [
  E0 0 (some 3) none (.i (.mv (.t 0))),
  E0 1 (some 4) none (.call F_spec_l1In false (roA [.t 3, .k (I64 0), .k (I64 5)])),
  E0 2 (some 2) none (.i (.mv (.t 4)))]
def spec_l2Reg.fi : FI := { res := [.t 2], code := .seq (.reg 64 1 spec_l2Reg.r0) (.seq (.reg 128 3 spec_l2Reg.r1) (.ret)) }
attribute [go_sem] spec_l2Reg.r0 spec_l2Reg.r1
theorem spec_l2Reg.ok : chkF prog F_spec_l2Reg 1 spec_l2Reg.fi = true := by kernel_rfl

/-! spec_l2Zero -/
def spec_l2Zero.r0 : List Ent := [
  E0 0 (some 6) none (.i (.box (.t 0))),
  E0 1 (some 12) none (.i (.mv (.k (.dat none (.bool false)))))]
def spec_l2Zero.r1 : List Ent := [
  E0 0 (some 13) none (.i (.mv (.t 1))),
  E0 1 (some 14) none (.i (.mv (.t 13))),
  E0 2 (some 15) (some (14, false)) (.i (.fad 1 (.t 6))),
  E0 3 (some 16) (some (14, false)) (.i (.load false false 1 (.t 15))),
  E0 4 (some 17) (some (14, false)) (.i (.bin .eql (.t 16) (.k (I64 0)))),
  E0 5 (some 18) none (.i (.pick (.t 14) (.k (.dat none (.bool true))) (.t 17))),
  E0 6 (some 19) none (.i (.mv (.t 18))),
  E0 7 (some 20) (some (19, true)) (.i (.mv (.t 2))),
  E0 8 (some 21) (some (19, true)) (.i (.mv (.t 20))),
  E0 9 (some 22) (some (21, false)) (.i (.fad 2 (.t 6))),
  E0 10 (some 23) (some (21, false)) (.i (.load false false 1 (.t 22))),
  E0 11 (some 24) (some (21, false)) (.i (.bin .eql (.t 23) (.k (I64 0)))),
  E0 12 (some 25) (some (19, true)) (.i (.pick (.t 21) (.k (.dat none (.bool true))) (.t 24))),
  E0 13 (some 26) none (.i (.pick (.t 19) (.t 25) (.k (.dat none (.bool false))))),
  E0 14 (some 27) none (.i (.mv (.t 26))),
  E0 15 (some 28) (some (27, true)) (.i (.mv (.t 3))),
  E0 16 (some 29) (some (27, true)) (.i (.mv (.t 28))),
  E0 17 (some 30) (some (29, false)) (.i (.fad 3 (.t 6))),
  E0 18 (some 31) (some (29, false)) (.i (.load false false 1 (.t 30))),
  E0 19 (some 32) (some (29, false)) (.i (.bin .eql (.t 31) (.k (I64 0)))),
  E0 20 (some 33) (some (27, true)) (.i (.pick (.t 29) (.k (.dat none (.bool true))) (.t 32))),
  E0 21 (some 34) none (.i (.pick (.t 27) (.t 33) (.k (.dat none (.bool false))))),
  E0 22 (some 35) none (.i (.mv (.t 34))),
  E0 23 (some 36) (some (35, true)) (.i (.mv (.t 4))),
  E0 24 (some 37) (some (35, true)) (.i (.mv (.t 36))),
  E0 25 (some 38) (some (37, false)) (.i (.fad 4 (.t 6))),
  E0 26 (some 39) (some (37, false)) (.i (.load false false 1 (.t 38))),
  E0 27 (some 40) (some (37, false)) (.i (.bin .eql (.t 39) (.k (I64 0)))),
  E0 28 (some 41) (some (35, true)) (.i (.pick (.t 37) (.k (.dat none (.bool true))) (.t 40))),
  E0 29 (some 42) none (.i (.pick (.t 35) (.t 41) (.k (.dat none (.bool false))))),
  E0 30 (some 43) none (.i (.mv (.t 42))),
  E0 31 (some 44) (some (43, true)) (.i (.mv (.t 5))),
  E0 32 (some 45) (some (43, true)) (.i (.mv (.t 44))),
  E0 33 (some 46) (some (45, false)) (.i (.fad 5 (.t 6))),
  E0 34 (some 47) (some (45, false)) (.i (.load false false 1 (.t 46))),
  E0 35 (some 48) (some (45, false)) (.i (.bin .eql (.t 47) (.k (I64 0)))),
  E0 36 (some 49) (some (43, true)) (.i (.pick (.t 45) (.k (.dat none (.bool true))) (.t 48))),
  E0 37 (some 50) none (.i (.pick (.t 43) (.t 49) (.k (.dat none (.bool false))))),
  E0 38 (some 12) none (.i (.mv (.t 50)))]
def spec_l2Zero.fi : FI := { res := [.t 12], code := .seq (.reg 64 2 spec_l2Zero.r0) (.seq (.reg 192 39 spec_l2Zero.r1) (.ret)) }
attribute [go_sem] spec_l2Zero.r0 spec_l2Zero.r1
theorem spec_l2Zero.ok : chkF prog F_spec_l2Zero 6 spec_l2Zero.fi = true := by kernel_rfl

/-! spec_l2Step -/
def spec_l2Step.r0 : List Ent := [
  E0 0 (some 1) none (.i (.box (.t 0))),
  E0 1 (some 2) none (.i (.mv (.k (.dat none (.bool false)))))]
def spec_l2Step.r1 : List Ent := [
  E0 0 (some 5) none (.i (.fad 1 (.t 1))),
  E0 1 (some 6) none (.i (.load false false 1 (.t 5))),
  E0 2 (some 7) none (.call F_spec_l1In false (roA [.t 6, .k (I64 1), .k (I64 10)])),
  E0 3 (some 3) none (.i (.mv (.t 7)))]
def spec_l2Step.r2 : List Ent := [
  E0 0 (some 8) none (.i (.fad 5 (.t 1))),
  E0 1 (some 9) none (.i (.load false false 1 (.t 8))),
  E0 2 (some 10) none (.call F_spec_l1In false (roA [.t 9, .k (I64 1), .k (I64 19)])),
  E0 3 (some 4) none (.i (.mv (.t 10)))]
def spec_l2Step.r3 : List Ent := [
  E0 0 (some 11) none (.i (.fad 2 (.t 1))),
  E0 1 (some 12) none (.i (.load false false 1 (.t 11))),
  E0 2 (some 13) none (.call F_spec_l2Reg false (roA [.t 12])),
  E0 3 (some 14) none (.i (.un .not (.t 13))),
  E0 4 (some 15) none (.i (.mv (.t 14))),
  E0 5 (some 16) (some (15, false)) (.i (.fad 3 (.t 1))),
  E0 6 (some 17) (some (15, false)) (.i (.load false false 1 (.t 16))),
  E0 7 (some 18) (some (15, false)) (.call F_spec_l2Reg false (roA [.t 17])),
  E0 8 (some 19) (some (15, false)) (.i (.un .not (.t 18))),
  E0 9 (some 20) none (.i (.pick (.t 15) (.k (.dat none (.bool true))) (.t 19)))]
def spec_l2Step.r4 : List Ent := [
  E0 0 (some 2) none (.i (.mv (.k (.dat none (.bool false)))))]
def spec_l2Step.r5 : List Ent := [
  E0 0 (some 21) none (.i (.fad 0 (.t 1))),
  E0 1 (some 22) none (.i (.load false false 1 (.t 21)))]
def spec_l2Step.r6 : List Ent := [
  E0 0 (some 24) none (.i (.bin .eql (.t 22) (.k (I64 1)))),
  E0 1 (some 23) none (.i (.mv (.t 24)))]
def spec_l2Step.r7 : List Ent := [
  E0 0 (some 25) none (.i (.mv (.t 3))),
  E0 1 (some 26) none (.i (.mv (.t 25))),
  E0 2 (some 27) (some (26, true)) (.i (.load false true 6 (.t 1))),
  E0 3 (some 28) (some (26, true)) (.call F_spec_l2Zero false (roA [.t 27, .k (.dat none (.bool true)), .k (.dat none (.bool true)), .k (.dat none (.bool true)), .k (.dat none (.bool false)), .k (.dat none (.bool false))])),
  E0 4 (some 29) none (.i (.pick (.t 26) (.t 28) (.k (.dat none (.bool false))))),
  E0 5 (some 2) none (.i (.mv (.t 29)))]
def spec_l2Step.r8 : List Ent := [
  E0 0 (some 31) none (.i (.bin .eql (.t 22) (.k (I64 2)))),
  E0 1 (some 30) none (.i (.mv (.t 31)))]
def spec_l2Step.r9 : List Ent := [
  E0 0 (some 32) none (.i (.mv (.t 3))),
  E0 1 (some 33) none (.i (.mv (.t 32))),
  E0 2 (some 34) (some (33, true)) (.i (.fad 4 (.t 1))),
  E0 3 (some 35) (some (33, true)) (.i (.load false false 1 (.t 34))),
  E0 4 (some 36) (some (33, true)) (.call F_spec_l1In false (roA [.t 35, .k (I64 0), .k (I64 255)])),
  E0 5 (some 37) none (.i (.pick (.t 33) (.t 36) (.k (.dat none (.bool false))))),
  E0 6 (some 38) none (.i (.mv (.t 37))),
  E0 7 (some 39) (some (38, true)) (.i (.load false true 6 (.t 1))),
  E0 8 (some 40) (some (38, true)) (.call F_spec_l2Zero false (roA [.t 39, .k (.dat none (.bool true)), .k (.dat none (.bool true)), .k (.dat none (.bool false)), .k (.dat none (.bool true)), .k (.dat none (.bool false))])),
  E0 9 (some 41) none (.i (.pick (.t 38) (.t 40) (.k (.dat none (.bool false))))),
  E0 10 (some 2) none (.i (.mv (.t 41)))]
def spec_l2Step.r10 : List Ent := [
  E0 0 (some 43) none (.i (.bin .eql (.t 22) (.k (I64 3)))),
  E0 1 (some 42) none (.i (.mv (.t 43)))]
def spec_l2Step.r11 : List Ent := [
  E0 0 (some 44) none (.i (.fad 4 (.t 1))),
  E0 1 (some 45) none (.i (.load false false 1 (.t 44))),
  E0 2 (some 46) none (.call F_spec_l1In false (roA [.t 45, .k (I64 0), .k (I64 255)])),
  E0 3 (some 47) none (.i (.mv (.t 46))),
  E0 4 (some 48) (some (47, true)) (.i (.load false true 6 (.t 1))),
  E0 5 (some 49) (some (47, true)) (.call F_spec_l2Zero false (roA [.t 48, .k (.dat none (.bool false)), .k (.dat none (.bool true)), .k (.dat none (.bool false)), .k (.dat none (.bool true)), .k (.dat none (.bool false))])),
  E0 6 (some 50) none (.i (.pick (.t 47) (.t 49) (.k (.dat none (.bool false))))),
  E0 7 (some 2) none (.i (.mv (.t 50)))]
def spec_l2Step.r12 : List Ent := [
  E0 0 (some 52) none (.i (.bin .eql (.t 22) (.k (I64 4)))),
  E0 1 (some 51) none (.i (.mv (.t 52)))]
def spec_l2Step.r13 : List Ent := [
  E0 0 (some 53) none (.i (.fad 4 (.t 1))),
  E0 1 (some 54) none (.i (.load false false 1 (.t 53))),
  E0 2 (some 55) none (.call F_spec_l1In false (roA [.t 54, .k (I64 256), .k (I64 65535)])),
  E0 3 (some 56) none (.i (.mv (.t 55))),
  E0 4 (some 57) (some (56, true)) (.i (.load false true 6 (.t 1))),
  E0 5 (some 58) (some (56, true)) (.call F_spec_l2Zero false (roA [.t 57, .k (.dat none (.bool false)), .k (.dat none (.bool true)), .k (.dat none (.bool false)), .k (.dat none (.bool true)), .k (.dat none (.bool false))])),
  E0 6 (some 59) none (.i (.pick (.t 56) (.t 58) (.k (.dat none (.bool false))))),
  E0 7 (some 2) none (.i (.mv (.t 59)))]
def spec_l2Step.r14 : List Ent := [
  E0 0 (some 61) none (.i (.bin .eql (.t 22) (.k (I64 5)))),
  E0 1 (some 60) none (.i (.mv (.t 61)))]
def spec_l2Step.r15 : List Ent := [
  E0 0 (some 62) none (.i (.fad 4 (.t 1))),
  E0 1 (some 63) none (.i (.load false false 1 (.t 62))),
  E0 2 (some 64) none (.call F_spec_l1In false (roA [.t 63, .k (I64 0), .k (I64 7)])),
  E0 3 (some 65) none (.i (.mv (.t 64))),
  E0 4 (some 66) (some (65, true)) (.i (.load false true 6 (.t 1))),
  E0 5 (some 67) (some (65, true)) (.call F_spec_l2Zero false (roA [.t 66, .k (.dat none (.bool false)), .k (.dat none (.bool true)), .k (.dat none (.bool true)), .k (.dat none (.bool true)), .k (.dat none (.bool false))])),
  E0 6 (some 68) none (.i (.pick (.t 65) (.t 67) (.k (.dat none (.bool false))))),
  E0 7 (some 2) none (.i (.mv (.t 68)))]
def spec_l2Step.r16 : List Ent := [
  E0 0 (some 70) none (.i (.bin .eql (.t 22) (.k (I64 6)))),
  E0 1 (some 69) none (.i (.mv (.t 70)))]
def spec_l2Step.r17 : List Ent := [
  E0 0 (some 71) none (.i (.bin .eql (.t 22) (.k (I64 7)))),
  E0 1 (some 69) none (.i (.mv (.t 71)))]
def spec_l2Step.r18 : List Ent := [
  E0 0 (some 72) none (.i (.fad 4 (.t 1))),
  E0 1 (some 73) none (.i (.load false false 1 (.t 72))),
  E0 2 (some 74) none (.call F_spec_l1In false (roA [.t 73, .k (I64 0), .k (I64 255)])),
  E0 3 (some 75) none (.i (.mv (.t 74))),
  E0 4 (some 76) (some (75, true)) (.i (.load false true 6 (.t 1))),
  E0 5 (some 77) (some (75, true)) (.call F_spec_l2Zero false (roA [.t 76, .k (.dat none (.bool false)), .k (.dat none (.bool true)), .k (.dat none (.bool false)), .k (.dat none (.bool true)), .k (.dat none (.bool false))])),
  E0 6 (some 78) none (.i (.pick (.t 75) (.t 77) (.k (.dat none (.bool false))))),
  E0 7 (some 2) none (.i (.mv (.t 78)))]
def spec_l2Step.r19 : List Ent := [
  E0 0 (some 80) none (.i (.bin .eql (.t 22) (.k (I64 8)))),
  E0 1 (some 79) none (.i (.mv (.t 80)))]
def spec_l2Step.r20 : List Ent := [
  E0 0 (some 81) none (.i (.mv (.t 4))),
  E0 1 (some 82) none (.i (.mv (.t 81))),
  E0 2 (some 83) (some (82, true)) (.i (.load false true 6 (.t 1))),
  E0 3 (some 84) (some (82, true)) (.call F_spec_l2Zero false (roA [.t 83, .k (.dat none (.bool false)), .k (.dat none (.bool false)), .k (.dat none (.bool false)), .k (.dat none (.bool false)), .k (.dat none (.bool true))])),
  E0 4 (some 85) none (.i (.pick (.t 82) (.t 84) (.k (.dat none (.bool false))))),
  E0 5 (some 2) none (.i (.mv (.t 85)))]
def spec_l2Step.r21 : List Ent := [
  E0 0 (some 87) none (.i (.bin .eql (.t 22) (.k (I64 9)))),
  E0 1 (some 86) none (.i (.mv (.t 87)))]
def spec_l2Step.r22 : List Ent := [
  E0 0 (some 88) none (.i (.bin .eql (.t 22) (.k (I64 10)))),
  E0 1 (some 86) none (.i (.mv (.t 88)))]
def spec_l2Step.r23 : List Ent := [
  E0 0 (some 89) none (.i (.mv (.t 4))),
  E0 1 (some 90) none (.i (.mv (.t 89))),
  E0 2 (some 91) (some (90, true)) (.i (.load false true 6 (.t 1))),
  E0 3 (some 92) (some (90, true)) (.call F_spec_l2Zero false (roA [.t 91, .k (.dat none (.bool false)), .k (.dat none (.bool true)), .k (.dat none (.bool true)), .k (.dat none (.bool false)), .k (.dat none (.bool true))])),
  E0 4 (some 93) none (.i (.pick (.t 90) (.t 92) (.k (.dat none (.bool false))))),
  E0 5 (some 2) none (.i (.mv (.t 93)))]
def spec_l2Step.r24 : List Ent := [
  E0 0 (some 94) none (.i (.fad 0 (.t 1))),
  E0 1 (some 95) none (.i (.load false false 1 (.t 94))),
  E0 2 (some 96) none (.i (.bin .eql (.t 95) (.k (I64 11)))),
  E0 3 (some 97) none (.i (.mv (.t 96))),
  E0 4 (some 98) (some (97, true)) (.i (.load false true 6 (.t 1))),
  E0 5 (some 99) (some (97, true)) (.call F_spec_l2Zero false (roA [.t 98, .k (.dat none (.bool false)), .k (.dat none (.bool false)), .k (.dat none (.bool false)), .k (.dat none (.bool false)), .k (.dat none (.bool false))])),
  E0 6 (some 100) none (.i (.pick (.t 97) (.t 99) (.k (.dat none (.bool false))))),
  E0 7 (some 2) none (.i (.mv (.t 100)))]
def spec_l2Step.fi : FI := { res := [.t 2], code := .seq (.reg 64 2 spec_l2Step.r0) (.seq (.reg 192 4 spec_l2Step.r1) (.seq (.reg 448 4 spec_l2Step.r2) (.seq (.seq (.reg 704 10 spec_l2Step.r3) (.cond (.t 20) (.seq (.reg 1344 1 spec_l2Step.r4) (.ret)) (.skip))) (.seq (.seq (.reg 1408 2 spec_l2Step.r5) (.block 0 (.seq (.reg 1536 2 spec_l2Step.r6) (.cond (.t 23) (.seq (.reg 1664 6 spec_l2Step.r7) (.ret)) (.seq (.reg 2048 2 spec_l2Step.r8) (.cond (.t 30) (.seq (.reg 2176 11 spec_l2Step.r9) (.ret)) (.seq (.reg 2880 2 spec_l2Step.r10) (.cond (.t 42) (.seq (.reg 3008 8 spec_l2Step.r11) (.ret)) (.seq (.reg 3520 2 spec_l2Step.r12) (.cond (.t 51) (.seq (.reg 3648 8 spec_l2Step.r13) (.ret)) (.seq (.reg 4160 2 spec_l2Step.r14) (.cond (.t 60) (.seq (.reg 4288 8 spec_l2Step.r15) (.ret)) (.seq (.seq (.reg 4800 2 spec_l2Step.r16) (.cond (.t 69) (.skip) (.reg 4928 2 spec_l2Step.r17))) (.cond (.t 69) (.seq (.reg 5056 8 spec_l2Step.r18) (.ret)) (.seq (.reg 5568 2 spec_l2Step.r19) (.cond (.t 79) (.seq (.reg 5696 6 spec_l2Step.r20) (.ret)) (.seq (.seq (.reg 6080 2 spec_l2Step.r21) (.cond (.t 86) (.skip) (.reg 6208 2 spec_l2Step.r22))) (.cond (.t 86) (.seq (.reg 6336 6 spec_l2Step.r23) (.ret)) (.skip))))))))))))))))))) (.seq (.reg 6720 8 spec_l2Step.r24) (.ret)))))) }
attribute [go_sem] spec_l2Step.r0 spec_l2Step.r1 spec_l2Step.r2 spec_l2Step.r3 spec_l2Step.r4 spec_l2Step.r5 spec_l2Step.r6 spec_l2Step.r7 spec_l2Step.r8 spec_l2Step.r9 spec_l2Step.r10 spec_l2Step.r11 spec_l2Step.r12 spec_l2Step.r13 spec_l2Step.r14 spec_l2Step.r15 spec_l2Step.r16 spec_l2Step.r17 spec_l2Step.r18 spec_l2Step.r19 spec_l2Step.r20 spec_l2Step.r21 spec_l2Step.r22 spec_l2Step.r23 spec_l2Step.r24
theorem spec_l2Step.ok : chkF prog F_spec_l2Step 1 spec_l2Step.fi = true := by kernel_rfl

/-! spec_GoodProgram -/
def spec_GoodProgram.r0 : List Ent := [
  E0 0 (some 2) none (.i (.mv (.k (.dat none (.bool false)))))]
def spec_GoodProgram.r1 : List Ent := [
  E0 0 (some 5) none (.i (.mv (.t 0))),
  E0 1 (some 6) none (.i (.len (.t 5))),
  E0 2 (some 7) none (.i (.mv (.k (I64 0))))]
def spec_GoodProgram.r2 : List Ent := [
  E0 0 (some 8) none (.i (.bin .lss (.t 7) (.t 6)))]
def spec_GoodProgram.r3 : List Ent := [
  E0 0 (some 9) none (.i (.mv (.t 7))),
  E0 1 (some 10) none (.i (.iad 6 (.t 5) (.t 7))),
  E0 2 (some 11) none (.i (.load false true 6 (.t 10))),
  E0 3 (some 4) none (.i (.box (.k (.agg [.dat none (.int .i64 0), .dat none (.int .i64 0), .dat none (.int .i64 0), .dat none (.int .i64 0), .dat none (.int .i64 0), .dat none (.int .i64 0)])))),
  E0 4 (some 3) none (.i (.mv (.t 9))),
  E0 5 none none (.i (.store 6 (.t 4) (.t 11)))]
def spec_GoodProgram.r4 : List Ent := [
  E0 0 (some 12) none (.i (.load false true 6 (.t 4))),
  E0 1 (some 13) none (.call F_spec_l2Step false (roA [.t 12])),
  E0 2 (some 14) none (.i (.un .not (.t 13))),
  E0 3 (some 15) none (.i (.mv (.t 14))),
  E0 4 (some 16) (some (15, false)) (.i (.fad 5 (.t 4))),
  E0 5 (some 17) (some (15, false)) (.i (.load false false 1 (.t 16))),
  E0 6 (some 18) (some (15, false)) (.i (.bin .gtr (.t 17) (.k (I64 0)))),
  E0 7 (some 19) (some (15, false)) (.i (.mv (.t 18))),
  E0 8 (some 20) (some (19, true)) (.i (.mv (.t 3))),
  E0 9 (some 21) (some (19, true)) (.i (.fad 5 (.t 4))),
  E0 10 (some 22) (some (19, true)) (.i (.load false false 1 (.t 21))),
  E0 11 (some 23) (some (19, true)) (.i (.bin .add (.t 20) (.t 22))),
  E0 12 (some 24) (some (19, true)) (.i (.bin .add (.t 23) (.k (I64 1)))),
  E0 13 (some 25) (some (19, true)) (.i (.mv (.t 0))),
  E0 14 (some 26) (some (19, true)) (.i (.len (.t 25))),
  E0 15 (some 27) (some (19, true)) (.i (.bin .geq (.t 24) (.t 26))),
  E0 16 (some 28) (some (15, false)) (.i (.pick (.t 19) (.t 27) (.k (.dat none (.bool false))))),
  E0 17 (some 29) none (.i (.pick (.t 15) (.k (.dat none (.bool true))) (.t 28)))]
def spec_GoodProgram.r5 : List Ent := [
  E0 0 (some 2) none (.i (.mv (.k (.dat none (.bool false)))))]
def spec_GoodProgram.r6 : List Ent := [
  E0 0 (some 30) none (.i (.bin .add (.t 7) (.k (I64 1)))),
  E0 1 (some 7) none (.i (.mv (.t 30)))]
def spec_GoodProgram.b0 : KC := .seq (.reg 320 1 spec_GoodProgram.r2) (.seq (.cond (.t 8) (.skip) (.exit 0)) (.seq (.block 1 (.seq (.reg 384 6 spec_GoodProgram.r3) (.seq (.reg 768 18 spec_GoodProgram.r4) (.cond (.t 29) (.seq (.reg 1920 1 spec_GoodProgram.r5) (.ret)) (.skip))))) (.reg 1984 2 spec_GoodProgram.r6)))
def spec_GoodProgram.r7 : List Ent := [
  E0 0 (some 31) none (.i (.mv (.t 0))),
  E0 1 (some 32) none (.i (.len (.t 31))),
  E0 2 (some 33) none (.call F_spec_l1In false (roA [.t 32, .k (I64 1), .k (I64 20)])),
  E0 3 (some 34) none (.i (.mv (.t 33))),
  E0 4 (some 35) (some (34, true)) (.i (.mv (.t 0))),
  E0 5 (some 36) (some (34, true)) (.i (.mv (.t 0))),
  E0 6 (some 37) (some (34, true)) (.i (.len (.t 36))),
  E0 7 (some 38) (some (34, true)) (.i (.bin .sub (.t 37) (.k (I64 1)))),
  E0 8 (some 39) (some (34, true)) (.i (.iad 6 (.t 35) (.t 38))),
  E0 9 (some 40) (some (34, true)) (.i (.fad 0 (.t 39))),
  E0 10 (some 41) (some (34, true)) (.i (.load false false 1 (.t 40))),
  E0 11 (some 42) (some (34, true)) (.i (.bin .eql (.t 41) (.k (I64 11)))),
  E0 12 (some 43) none (.i (.pick (.t 34) (.t 42) (.k (.dat none (.bool false))))),
  E0 13 (some 2) none (.i (.mv (.t 43)))]
def spec_GoodProgram.fi : FI := { res := [.t 2], code := .seq (.reg 64 1 spec_GoodProgram.r0) (.seq (.seq (.reg 128 3 spec_GoodProgram.r1) (.block 0 (.loop spec_GoodProgram.b0))) (.seq (.reg 2112 14 spec_GoodProgram.r7) (.ret))) }
attribute [go_sem] spec_GoodProgram.r0 spec_GoodProgram.r1 spec_GoodProgram.r2 spec_GoodProgram.r3 spec_GoodProgram.r4 spec_GoodProgram.r5 spec_GoodProgram.r6 spec_GoodProgram.r7
theorem spec_GoodProgram.ok : chkF prog F_spec_GoodProgram 1 spec_GoodProgram.fi = true := by kernel_rfl

/-! spec_l2Nexts -/
def spec_l2Nexts.r0 : List Ent := [
  E0 0 (some 4) none (.i (.mv (.k (.nil 1))))]
def spec_l2Nexts.r1 : List Ent := [
  E0 0 (some 6) none (.i (.mv (.t 0))),
  E0 1 (some 7) none (.i (.mv (.t 1))),
  E0 2 (some 8) none (.i (.iad 6 (.t 6) (.t 7))),
  E0 3 (some 9) none (.i (.load false true 6 (.t 8))),
  E0 4 (some 5) none (.i (.box (.k (.agg [.dat none (.int .i64 0), .dat none (.int .i64 0), .dat none (.int .i64 0), .dat none (.int .i64 0), .dat none (.int .i64 0), .dat none (.int .i64 0)])))),
  E0 5 none none (.i (.store 6 (.t 5) (.t 9)))]
def spec_l2Nexts.r2 : List Ent := [
  E0 0 (some 10) none (.i (.fad 0 (.t 5))),
  E0 1 (some 11) none (.i (.load false false 1 (.t 10)))]
def spec_l2Nexts.r3 : List Ent := [
  E0 0 (some 13) none (.i (.bin .eql (.t 11) (.k (I64 11)))),
  E0 1 (some 12) none (.i (.mv (.t 13)))]
def spec_l2Nexts.r4 : List Ent := [
  E0 0 (some 4) none (.i (.mv (.k (.nil 1))))]
def spec_l2Nexts.r5 : List Ent := [
  E0 0 (some 15) none (.i (.bin .eql (.t 11) (.k (I64 8)))),
  E0 1 (some 14) none (.i (.mv (.t 15)))]
def spec_l2Nexts.r6 : List Ent := [
  E0 0 (some 16) none (.i (.mv (.t 1))),
  E0 1 (some 17) none (.i (.fad 5 (.t 5))),
  E0 2 (some 18) none (.i (.load false false 1 (.t 17))),
  E0 3 (some 19) none (.i (.bin .add (.t 16) (.t 18))),
  E0 4 (some 20) none (.i (.bin .add (.t 19) (.k (I64 1)))),
  E0 5 (some 21) none (.i (.bsl false 1 [.t 20])),
  E0 6 (some 4) none (.i (.mv (.t 21)))]
def spec_l2Nexts.r7 : List Ent := [
  E0 0 (some 23) none (.i (.bin .eql (.t 11) (.k (I64 9)))),
  E0 1 (some 22) none (.i (.mv (.t 23)))]
def spec_l2Nexts.r8 : List Ent := [
  E0 0 (some 24) none (.i (.bin .eql (.t 11) (.k (I64 10)))),
  E0 1 (some 22) none (.i (.mv (.t 24)))]
def spec_l2Nexts.r9 : List Ent := [
  E0 0 (some 25) none (.i (.mv (.t 1))),
  E0 1 (some 26) none (.i (.bin .add (.t 25) (.k (I64 1)))),
  E0 2 (some 27) none (.i (.mv (.t 1))),
  E0 3 (some 28) none (.i (.fad 5 (.t 5))),
  E0 4 (some 29) none (.i (.load false false 1 (.t 28))),
  E0 5 (some 30) none (.i (.bin .add (.t 27) (.t 29))),
  E0 6 (some 31) none (.i (.bin .add (.t 30) (.k (I64 1)))),
  E0 7 (some 32) none (.i (.bsl false 1 [.t 26, .t 31])),
  E0 8 (some 4) none (.i (.mv (.t 32)))]
def spec_l2Nexts.r10 : List Ent := [
  E0 0 (some 33) none (.i (.mv (.t 1))),
  E0 1 (some 34) none (.i (.bin .add (.t 33) (.k (I64 1)))),
  E0 2 (some 35) none (.i (.bsl false 1 [.t 34])),
  E0 3 (some 4) none (.i (.mv (.t 35)))]
def spec_l2Nexts.fi : FI := { res := [.t 4], code := .seq (.reg 64 1 spec_l2Nexts.r0) (.seq (.reg 128 6 spec_l2Nexts.r1) (.seq (.seq (.reg 512 2 spec_l2Nexts.r2) (.block 0 (.seq (.reg 640 2 spec_l2Nexts.r3) (.cond (.t 12) (.seq (.reg 768 1 spec_l2Nexts.r4) (.ret)) (.seq (.reg 832 2 spec_l2Nexts.r5) (.cond (.t 14) (.seq (.reg 960 7 spec_l2Nexts.r6) (.ret)) (.seq (.seq (.reg 1408 2 spec_l2Nexts.r7) (.cond (.t 22) (.skip) (.reg 1536 2 spec_l2Nexts.r8))) (.cond (.t 22) (.seq (.reg 1664 9 spec_l2Nexts.r9) (.ret)) (.skip))))))))) (.seq (.reg 2240 4 spec_l2Nexts.r10) (.ret)))) }
attribute [go_sem] spec_l2Nexts.r0 spec_l2Nexts.r1 spec_l2Nexts.r2 spec_l2Nexts.r3 spec_l2Nexts.r4 spec_l2Nexts.r5 spec_l2Nexts.r6 spec_l2Nexts.r7 spec_l2Nexts.r8 spec_l2Nexts.r9 spec_l2Nexts.r10
theorem spec_l2Nexts.ok : chkF prog F_spec_l2Nexts 2 spec_l2Nexts.fi = true := by kernel_rfl

/-! spec_l14Branch -/
def spec_l14Branch.r0 : List Ent := [
  E0 0 (some 1) none (.i (.box (.t 0))),
  E0 1 (some 2) none (.i (.mv (.k (.dat none (.bool false)))))]
def spec_l14Branch.r1 : List Ent := [
  E0 0 (some 3) none (.i (.fad 0 (.t 1))),
  E0 1 (some 4) none (.i (.load false false 1 (.t 3))),
  E0 2 (some 5) none (.i (.bin .eql (.t 4) (.k (I64 9)))),
  E0 3 (some 6) none (.i (.mv (.t 5))),
  E0 4 (some 7) (some (6, false)) (.i (.fad 0 (.t 1))),
  E0 5 (some 8) (some (6, false)) (.i (.load false false 1 (.t 7))),
  E0 6 (some 9) (some (6, false)) (.i (.bin .eql (.t 8) (.k (I64 10)))),
  E0 7 (some 10) none (.i (.pick (.t 6) (.k (.dat none (.bool true))) (.t 9))),
  E0 8 (some 2) none (.i (.mv (.t 10)))]
def spec_l14Branch.fi : FI := { res := [.t 2], code := .seq (.reg 64 2 spec_l14Branch.r0) (.seq (.reg 192 9 spec_l14Branch.r1) (.ret)) }
attribute [go_sem] spec_l14Branch.r0 spec_l14Branch.r1
theorem spec_l14Branch.ok : chkF prog F_spec_l14Branch 1 spec_l14Branch.fi = true := by kernel_rfl

/-! laws_toStep -/
def laws_toStep.r0 : List Ent := [
  E0 0 (some 1) none (.i (.box (.t 0))),
  E0 1 (some 2) none (.i (.box (.k (.agg [.dat none (.int .i64 0), .dat none (.int .i64 0), .dat none (.int .i64 0), .dat none (.int .i64 0), .dat none (.int .i64 0), .dat none (.int .i64 0)]))))]
def laws_toStep.r1 : List Ent := [
  E0 0 (some 3) none (.i (.box (.k (.agg [.dat none (.int .i64 0), .dat none (.int .i64 0), .dat none (.int .i64 0), .dat none (.int .i64 0), .dat none (.int .i64 0), .dat none (.int .i64 0)]))))]
def laws_toStep.r2 : List Ent := [
  E0 0 (some 4) none (.i (.fad 0 (.t 1))),
  E0 1 (some 5) none (.i (.load false false 1 (.t 4))),
  E0 2 (some 6) none (.i (.fad 0 (.t 3))),
  E0 3 none none (.i (.store 1 (.t 6) (.t 5)))]
def laws_toStep.r3 : List Ent := [
  E0 0 (some 7) none (.i (.fad 1 (.t 1))),
  E0 1 (some 8) none (.i (.load false false 1 (.t 7))),
  E0 2 (some 9) none (.i (.fad 1 (.t 3))),
  E0 3 none none (.i (.store 1 (.t 9) (.t 8)))]
def laws_toStep.r4 : List Ent := [
  E0 0 (some 10) none (.i (.fad 2 (.t 1))),
  E0 1 (some 11) none (.i (.load false false 1 (.t 10))),
  E0 2 (some 12) none (.i (.fad 2 (.t 3))),
  E0 3 none none (.i (.store 1 (.t 12) (.t 11)))]
def laws_toStep.r5 : List Ent := [
  E0 0 (some 13) none (.i (.fad 3 (.t 1))),
  E0 1 (some 14) none (.i (.load false false 1 (.t 13))),
  E0 2 (some 15) none (.i (.fad 3 (.t 3))),
  E0 3 none none (.i (.store 1 (.t 15) (.t 14)))]
def laws_toStep.r6 : List Ent := [
  E0 0 (some 16) none (.i (.fad 4 (.t 1))),
  E0 1 (some 17) none (.i (.load false false 1 (.t 16))),
  E0 2 (some 18) none (.i (.fad 4 (.t 3))),
  E0 3 none none (.i (.store 1 (.t 18) (.t 17)))]
def laws_toStep.r7 : List Ent := [
  E0 0 (some 19) none (.i (.fad 5 (.t 1))),
  E0 1 (some 20) none (.i (.load false false 1 (.t 19))),
  E0 2 (some 21) none (.i (.fad 5 (.t 3))),
  E0 3 none none (.i (.store 1 (.t 21) (.t 20)))]
def laws_toStep.r8 : List Ent := [
  E0 0 (some 22) none (.i (.load false true 6 (.t 3))),
  E0 1 none none (.i (.store 6 (.t 2) (.t 22)))]
def laws_toStep.fi : FI := { res := [.c 2 true 6], code := .seq (.reg 64 2 laws_toStep.r0) (.seq (.reg 192 1 laws_toStep.r1) (.seq (.reg 256 4 laws_toStep.r2) (.seq (.reg 512 4 laws_toStep.r3) (.seq (.reg 768 4 laws_toStep.r4) (.seq (.reg 1024 4 laws_toStep.r5) (.seq (.reg 1280 4 laws_toStep.r6) (.seq (.reg 1536 4 laws_toStep.r7) (.seq (.reg 1792 2 laws_toStep.r8) (.ret))))))))) }
attribute [go_sem] laws_toStep.r0 laws_toStep.r1 laws_toStep.r2 laws_toStep.r3 laws_toStep.r4 laws_toStep.r5 laws_toStep.r6 laws_toStep.r7 laws_toStep.r8
theorem laws_toStep.ok : chkF prog F_laws_toStep 1 laws_toStep.fi = true := by kernel_rfl

/-! laws_toStepS -/
def laws_toStepS.r0 : List Ent := [
  E0 0 (some 2) none (.i (.mv (.k (.nil 6))))]
def laws_toStepS.r1 : List Ent := [
  E0 0 (some 5) none (.i (.mv (.t 0))),
  E0 1 (some 6) none (.i (.len (.t 5))),
  E0 2 (some 7) none (.i (.mks 6 48 (.agg [.int .i64 0, .int .i64 0, .int .i64 0, .int .i64 0, .int .i64 0, .int .i64 0]) (.t 6) (.t 6))),
  E0 3 (some 3) none (.i (.mv (.t 7)))]
def laws_toStepS.r2 : List Ent := [
  E0 0 (some 4) none (.i (.mv (.k (I64 0))))]
def laws_toStepS.r3 : List Ent := [
  E0 0 (some 8) none (.i (.mv (.t 4))),
  E0 1 (some 9) none (.i (.mv (.t 0))),
  E0 2 (some 10) none (.i (.len (.t 9))),
  E0 3 (some 11) none (.i (.bin .lss (.t 8) (.t 10)))]
def laws_toStepS.r4 : List Ent := [
  E0 0 (some 14) none (.i (.mv (.t 3))),
  E0 1 (some 15) none (.i (.mv (.t 4))),
  E0 2 (some 16) none (.i (.mv (.t 0))),
  E0 3 (some 17) none (.i (.mv (.t 4))),
  E0 4 (some 18) none (.i (.iad 6 (.t 16) (.t 17))),
  E0 5 (some 19) none (.i (.load false true 6 (.t 18))),
  E0 6 (some 20) none (.call F_laws_toStep false (roA [.t 19])),
  E0 7 (some 21) none (.i (.iad 6 (.t 14) (.t 15))),
  E0 8 none none (.i (.store 6 (.t 21) (.t 20)))]
def laws_toStepS.r5 : List Ent := [
  E0 0 (some 12) none (.i (.mv (.t 4))),
  E0 1 (some 13) none (.i (.bin .add (.t 12) (.k (I64 1)))),
  E0 2 (some 4) none (.i (.mv (.t 13)))]
def laws_toStepS.b0 : KC := .seq (.seq (.reg 448 4 laws_toStepS.r3) (.cond (.t 11) (.skip) (.exit 0))) (.seq (.block 1 (.reg 704 9 laws_toStepS.r4)) (.reg 1280 3 laws_toStepS.r5))
def laws_toStepS.r6 : List Ent := [
  E0 0 (some 22) none (.i (.mv (.t 3))),
  E0 1 (some 2) none (.i (.mv (.t 22)))]
def laws_toStepS.fi : FI := { res := [.t 2], code := .seq (.reg 64 1 laws_toStepS.r0) (.seq (.reg 128 4 laws_toStepS.r1) (.seq (.seq (.reg 384 1 laws_toStepS.r2) (.block 0 (.loop laws_toStepS.b0))) (.seq (.reg 1472 2 laws_toStepS.r6) (.ret)))) }
attribute [go_sem] laws_toStepS.r0 laws_toStepS.r1 laws_toStepS.r2 laws_toStepS.r3 laws_toStepS.r4 laws_toStepS.r5 laws_toStepS.r6
theorem laws_toStepS.ok : chkF prog F_laws_toStepS 1 laws_toStepS.fi = true := by kernel_rfl

/-! impl_in -/
def impl_in.r0 : List Ent := [
  E0 0 (some 6) none (.i (.mv (.k (.dat none (.bool false)))))]
def impl_in.r1 : List Ent := [
  E0 0 (some 7) none (.i (.mv (.t 0))),
  E0 1 (some 8) none (.i (.mv (.t 1))),
  E0 2 (some 9) none (.i (.bin .geq (.t 7) (.t 8))),
  E0 3 (some 10) none (.i (.mv (.t 9))),
  E0 4 (some 11) (some (10, true)) (.i (.mv (.t 0))),
  E0 5 (some 12) (some (10, true)) (.i (.mv (.t 2))),
  E0 6 (some 13) (some (10, true)) (.i (.bin .leq (.t 11) (.t 12))),
  E0 7 (some 14) none (.i (.pick (.t 10) (.t 13) (.k (.dat none (.bool false))))),
  E0 8 (some 6) none (.i (.mv (.t 14)))]
def impl_in.fi : FI := { res := [.t 6], code := .seq (.reg 64 1 impl_in.r0) (.seq (.reg 128 9 impl_in.r1) (.ret)) }
attribute [go_sem] impl_in.r0 impl_in.r1
theorem impl_in.ok : chkF prog F_impl_in 3 impl_in.fi = true := by kernel_rfl

/-! impl_fields -/
def impl_fields.r0 : List Ent := [
  E0 0 (some 2) none (.i (.mv (.k (.dat none (.str ⟨#[]⟩)))))]
def impl_fields.r1 : List Ent := [
  E0 0 (some 3) none (.i (.mv (.t 0)))]
def impl_fields.r2 : List Ent := [
  E0 0 (some 5) none (.i (.bin .eql (.t 3) (.k (I64 1)))),
  E0 1 (some 4) none (.i (.mv (.t 5)))]
def impl_fields.r3 : List Ent := [
  E0 0 (some 2) none (.i (.mv (.k (.dat none (.str ⟨#[111, 100, 115]⟩)))))]
def impl_fields.r4 : List Ent := [
  E0 0 (some 7) none (.i (.bin .eql (.t 3) (.k (I64 2)))),
  E0 1 (some 6) none (.i (.mv (.t 7)))]
def impl_fields.r5 : List Ent := [
  E0 0 (some 2) none (.i (.mv (.k (.dat none (.str ⟨#[111, 100, 105]⟩)))))]
def impl_fields.r6 : List Ent := [
  E0 0 (some 9) none (.i (.bin .eql (.t 3) (.k (I64 3)))),
  E0 1 (some 8) none (.i (.mv (.t 9)))]
def impl_fields.r7 : List Ent := [
  E0 0 (some 10) none (.i (.bin .eql (.t 3) (.k (I64 4)))),
  E0 1 (some 8) none (.i (.mv (.t 10)))]
def impl_fields.r8 : List Ent := [
  E0 0 (some 11) none (.i (.bin .eql (.t 3) (.k (I64 6)))),
  E0 1 (some 8) none (.i (.mv (.t 11)))]
def impl_fields.r9 : List Ent := [
  E0 0 (some 12) none (.i (.bin .eql (.t 3) (.k (I64 7)))),
  E0 1 (some 8) none (.i (.mv (.t 12)))]
def impl_fields.r10 : List Ent := [
  E0 0 (some 2) none (.i (.mv (.k (.dat none (.str ⟨#[100, 105]⟩)))))]
def impl_fields.r11 : List Ent := [
  E0 0 (some 14) none (.i (.bin .eql (.t 3) (.k (I64 5)))),
  E0 1 (some 13) none (.i (.mv (.t 14)))]
def impl_fields.r12 : List Ent := [
  E0 0 (some 2) none (.i (.mv (.k (.dat none (.str ⟨#[100, 115, 105]⟩)))))]
def impl_fields.r13 : List Ent := [
  E0 0 (some 16) none (.i (.bin .eql (.t 3) (.k (I64 8)))),
  E0 1 (some 15) none (.i (.mv (.t 16)))]
def impl_fields.r14 : List Ent := [
  E0 0 (some 2) none (.i (.mv (.k (.dat none (.str ⟨#[116]⟩)))))]
def impl_fields.r15 : List Ent := [
  E0 0 (some 18) none (.i (.bin .eql (.t 3) (.k (I64 9)))),
  E0 1 (some 17) none (.i (.mv (.t 18)))]
def impl_fields.r16 : List Ent := [
  E0 0 (some 19) none (.i (.bin .eql (.t 3) (.k (I64 10)))),
  E0 1 (some 17) none (.i (.mv (.t 19)))]
def impl_fields.r17 : List Ent := [
  E0 0 (some 2) none (.i (.mv (.k (.dat none (.str ⟨#[100, 115, 116]⟩)))))]
def impl_fields.r18 : List Ent := [
  E0 0 (some 2) none (.i (.mv (.k (.dat none (.str ⟨#[]⟩)))))]
def impl_fields.fi : FI := { res := [.t 2], code := .seq (.reg 64 1 impl_fields.r0) (.seq (.seq (.reg 128 1 impl_fields.r1) (.block 0 (.seq (.reg 192 2 impl_fields.r2) (.cond (.t 4) (.seq (.reg 320 1 impl_fields.r3) (.ret)) (.seq (.reg 384 2 impl_fields.r4) (.cond (.t 6) (.seq (.reg 512 1 impl_fields.r5) (.ret)) (.seq (.seq (.reg 576 2 impl_fields.r6) (.cond (.t 8) (.skip) (.seq (.reg 704 2 impl_fields.r7) (.cond (.t 8) (.skip) (.seq (.reg 832 2 impl_fields.r8) (.cond (.t 8) (.skip) (.reg 960 2 impl_fields.r9))))))) (.cond (.t 8) (.seq (.reg 1088 1 impl_fields.r10) (.ret)) (.seq (.reg 1152 2 impl_fields.r11) (.cond (.t 13) (.seq (.reg 1280 1 impl_fields.r12) (.ret)) (.seq (.reg 1344 2 impl_fields.r13) (.cond (.t 15) (.seq (.reg 1472 1 impl_fields.r14) (.ret)) (.seq (.seq (.reg 1536 2 impl_fields.r15) (.cond (.t 17) (.skip) (.reg 1664 2 impl_fields.r16))) (.cond (.t 17) (.seq (.reg 1792 1 impl_fields.r17) (.ret)) (.skip))))))))))))))) (.seq (.reg 1856 1 impl_fields.r18) (.ret))) }
attribute [go_sem] impl_fields.r0 impl_fields.r1 impl_fields.r2 impl_fields.r3 impl_fields.r4 impl_fields.r5 impl_fields.r6 impl_fields.r7 impl_fields.r8 impl_fields.r9 impl_fields.r10 impl_fields.r11 impl_fields.r12 impl_fields.r13 impl_fields.r14 impl_fields.r15 impl_fields.r16 impl_fields.r17 impl_fields.r18
theorem impl_fields.ok : chkF prog F_impl_fields 1 impl_fields.fi = true := by kernel_rfl

/-! impl_Step_ranges -/
def impl_Step_ranges.r0 : List Ent := [
  E0 0 (some 2) none (.i (.box (.t 0))),
  E0 1 (some 4) none (.i (.mv (.k (I64 0)))),
  E0 2 (some 5) none (.i (.mv (.k (I64 0))))]
def impl_Step_ranges.r1 : List Ent := [
  E0 0 (some 7) none (.i (.mv (.t 1))),
  E0 1 (some 8) none (.i (.bin .eql (.t 7) (.k (.dat none (.int .u8 111))))),
  E0 2 (some 6) none (.i (.mv (.t 8)))]
def impl_Step_ranges.r2 : List Ent := [
  E0 0 (some 4) none (.i (.mv (.k (I64 1)))),
  E0 1 (some 5) none (.i (.mv (.k (I64 10))))]
def impl_Step_ranges.r3 : List Ent := [
  E0 0 (some 10) none (.i (.mv (.t 1))),
  E0 1 (some 11) none (.i (.bin .eql (.t 10) (.k (.dat none (.int .u8 100))))),
  E0 2 (some 12) none (.i (.mv (.t 11))),
  E0 3 (some 13) (some (12, false)) (.i (.mv (.t 1))),
  E0 4 (some 14) (some (12, false)) (.i (.bin .eql (.t 13) (.k (.dat none (.int .u8 115))))),
  E0 5 (some 15) none (.i (.pick (.t 12) (.k (.dat none (.bool true))) (.t 14))),
  E0 6 (some 9) none (.i (.mv (.t 15)))]
def impl_Step_ranges.r4 : List Ent := [
  E0 0 (some 4) none (.i (.mv (.k (I64 0)))),
  E0 1 (some 5) none (.i (.mv (.k (I64 5))))]
def impl_Step_ranges.r5 : List Ent := [
  E0 0 (some 17) none (.i (.mv (.t 1))),
  E0 1 (some 18) none (.i (.bin .eql (.t 17) (.k (.dat none (.int .u8 116))))),
  E0 2 (some 16) none (.i (.mv (.t 18)))]
def impl_Step_ranges.r6 : List Ent := [
  E0 0 (some 4) none (.i (.mv (.k (I64 1)))),
  E0 1 (some 5) none (.i (.mv (.k (I64 19))))]
def impl_Step_ranges.r7 : List Ent := [
  E0 0 (some 20) none (.i (.fad 0 (.t 2))),
  E0 1 (some 21) none (.i (.load false false 1 (.t 20))),
  E0 2 (some 22) none (.i (.bin .eql (.t 21) (.k (I64 4)))),
  E0 3 (some 19) none (.i (.mv (.t 22)))]
def impl_Step_ranges.r8 : List Ent := [
  E0 0 (some 4) none (.i (.mv (.k (I64 256)))),
  E0 1 (some 5) none (.i (.mv (.k (I64 65535))))]
def impl_Step_ranges.r9 : List Ent := [
  E0 0 (some 24) none (.i (.fad 0 (.t 2))),
  E0 1 (some 25) none (.i (.load false false 1 (.t 24))),
  E0 2 (some 26) none (.i (.bin .eql (.t 25) (.k (I64 5)))),
  E0 3 (some 23) none (.i (.mv (.t 26)))]
def impl_Step_ranges.r10 : List Ent := [
  E0 0 (some 4) none (.i (.mv (.k (I64 0)))),
  E0 1 (some 5) none (.i (.mv (.k (I64 7))))]
def impl_Step_ranges.r11 : List Ent := [
  E0 0 (some 4) none (.i (.mv (.k (I64 0)))),
  E0 1 (some 5) none (.i (.mv (.k (I64 255))))]
def impl_Step_ranges.fi : FI := { res := [.t 4, .t 5], code := .seq (.reg 64 3 impl_Step_ranges.r0) (.seq (.block 0 (.seq (.reg 256 3 impl_Step_ranges.r1) (.cond (.t 6) (.seq (.reg 448 2 impl_Step_ranges.r2) (.ret)) (.seq (.reg 576 7 impl_Step_ranges.r3) (.cond (.t 9) (.seq (.reg 1024 2 impl_Step_ranges.r4) (.ret)) (.seq (.reg 1152 3 impl_Step_ranges.r5) (.cond (.t 16) (.seq (.reg 1344 2 impl_Step_ranges.r6) (.ret)) (.seq (.reg 1472 4 impl_Step_ranges.r7) (.cond (.t 19) (.seq (.reg 1728 2 impl_Step_ranges.r8) (.ret)) (.seq (.reg 1856 4 impl_Step_ranges.r9) (.cond (.t 23) (.seq (.reg 2112 2 impl_Step_ranges.r10) (.ret)) (.skip)))))))))))) (.seq (.reg 2240 2 impl_Step_ranges.r11) (.ret))) }
attribute [go_sem] impl_Step_ranges.r0 impl_Step_ranges.r1 impl_Step_ranges.r2 impl_Step_ranges.r3 impl_Step_ranges.r4 impl_Step_ranges.r5 impl_Step_ranges.r6 impl_Step_ranges.r7 impl_Step_ranges.r8 impl_Step_ranges.r9 impl_Step_ranges.r10 impl_Step_ranges.r11
theorem impl_Step_ranges.ok : chkF prog F_impl_Step_ranges 2 impl_Step_ranges.fi = true := by kernel_rfl

/-! impl_Step_valid -/
def impl_Step_valid.r0 : List Ent := [
  E0 0 (some 1) none (.i (.box (.t 0))),
  E0 1 (some 2) none (.i (.mv (.k (.dat none (.bool false)))))]
def impl_Step_valid.r1 : List Ent := [
  E0 0 (some 8) none (.i (.load false true 6 (.t 1))),
  E0 1 (some 3) none (.i (.box (.k (.agg [.dat none (.int .i64 0), .dat none (.int .i64 0), .dat none (.int .i64 0), .dat none (.int .i64 0), .dat none (.int .i64 0), .dat none (.int .i64 0)])))),
  E0 2 none none (.i (.store 6 (.t 3) (.t 8)))]
def impl_Step_valid.r2 : List Ent := [
  E0 0 (some 9) none (.i (.fad 0 (.t 3))),
  E0 1 none none (.i (.store 1 (.t 9) (.k (I64 0))))]
def impl_Step_valid.r3 : List Ent := [
  E0 0 (some 10) none (.i (.fad 0 (.t 1))),
  E0 1 (some 11) none (.i (.load false false 1 (.t 10))),
  E0 2 (some 12) none (.call F_impl_fields false (roA [.t 11])),
  E0 3 (some 13) none (.i (.lens (.t 12))),
  E0 4 (some 14) none (.i (.mv (.k (I64 0))))]
def impl_Step_valid.r4 : List Ent := [
  E0 0 (some 15) none (.i (.bin .lss (.t 14) (.t 13)))]
def impl_Step_valid.r5 : List Ent := [
  E0 0 (some 16) none (.i (.mv (.t 14))),
  E0 1 (some 4) none (.i (.mv (.t 16)))]
def impl_Step_valid.r6 : List Ent := [
  E0 0 (some 17) none (.i (.fad 0 (.t 1))),
  E0 1 (some 18) none (.i (.load false false 1 (.t 17))),
  E0 2 (some 19) none (.call F_impl_fields false (roA [.t 18])),
  E0 3 (some 20) none (.i (.mv (.t 4))),
  E0 4 (some 21) none (.i (.ids (.t 19) (.t 20))),
  E0 5 (some 5) none (.i (.mv (.t 21)))]
def impl_Step_valid.r7 : List Ent := [
  E0 0 (some 23) none (.i (.load false true 6 (.t 1))),
  E0 1 (some 24) none (.i (.mv (.t 5))),
  E0 2 (some 25) none (.call F_impl_Step_ranges false (roA [.t 23, .t 24])),
  E0 3 (some 22) none (.i (.mv (.t 25))),
  E0 4 (some 26) none (.i (.ext 0 (.t 22))),
  E0 5 (some 27) none (.i (.ext 1 (.t 22))),
  E0 6 (some 6) none (.i (.mv (.t 26))),
  E0 7 (some 7) none (.i (.mv (.t 27)))]
def impl_Step_valid.r8 : List Ent := [
  E0 0 (some 28) none (.i (.mv (.t 5))),
  E0 1 (some 29) none (.fcl F_impl_pStep_field (.t 1) (.t 28)),
  E0 2 (some 30) none (.i (.nck (.t 29))),
  E0 3 (some 31) none (.i (.load false false 1 (.t 30))),
  E0 4 (some 32) none (.i (.mv (.t 6))),
  E0 5 (some 33) none (.i (.mv (.t 7))),
  E0 6 (some 34) none (.call F_impl_in false (roA [.t 31, .t 32, .t 33])),
  E0 7 (some 35) none (.i (.un .not (.t 34)))]
def impl_Step_valid.r9 : List Ent := [
  E0 0 (some 2) none (.i (.mv (.k (.dat none (.bool false)))))]
def impl_Step_valid.r10 : List Ent := [
  E0 0 (some 36) none (.i (.mv (.t 5))),
  E0 1 (some 37) none (.fcl F_impl_pStep_field (.t 3) (.t 36)),
  E0 2 (some 38) none (.i (.nck (.t 37))),
  E0 3 none none (.i (.store 1 (.t 38) (.k (I64 0))))]
def impl_Step_valid.r11 : List Ent := [
  E0 0 (some 39) none (.i (.bin .add (.t 14) (.k (I64 1)))),
  E0 1 (some 14) none (.i (.mv (.t 39)))]
def impl_Step_valid.b0 : KC := .seq (.reg 832 1 impl_Step_valid.r4) (.seq (.cond (.t 15) (.skip) (.exit 0)) (.seq (.block 1 (.seq (.reg 896 2 impl_Step_valid.r5) (.seq (.reg 1024 6 impl_Step_valid.r6) (.seq (.reg 1408 8 impl_Step_valid.r7) (.seq (.seq (.reg 1920 8 impl_Step_valid.r8) (.cond (.t 35) (.seq (.reg 2432 1 impl_Step_valid.r9) (.ret)) (.skip))) (.reg 2496 4 impl_Step_valid.r10)))))) (.reg 2752 2 impl_Step_valid.r11)))
def impl_Step_valid.r12 : List Ent := [
  E0 0 (some 40) none (.i (.fad 0 (.t 1))),
  E0 1 (some 41) none (.i (.load false false 1 (.t 40))),
  E0 2 (some 42) none (.call F_impl_in false (roA [.t 41, .k (I64 1), .k (I64 11)])),
  E0 3 (some 43) none (.i (.mv (.t 42))),
  E0 4 (some 44) (some (43, true)) (.i (.load false true 6 (.t 3))),
  E0 5 (some 45) (some (43, true)) (.i (.bld [.k (.dat none (.int .i64 0)), .k (.dat none (.int .i64 0)), .k (.dat none (.int .i64 0)), .k (.dat none (.int .i64 0)), .k (.dat none (.int .i64 0)), .k (.dat none (.int .i64 0))])),
  E0 6 (some 46) (some (43, true)) (.i (.eqag 6 false (.t 44) (.t 45))),
  E0 7 (some 47) none (.i (.pick (.t 43) (.t 46) (.k (.dat none (.bool false))))),
  E0 8 (some 2) none (.i (.mv (.t 47)))]
def impl_Step_valid.fi : FI := { res := [.t 2], code := .seq (.reg 64 2 impl_Step_valid.r0) (.seq (.reg 192 3 impl_Step_valid.r1) (.seq (.reg 384 2 impl_Step_valid.r2) (.seq (.seq (.reg 512 5 impl_Step_valid.r3) (.block 0 (.loop impl_Step_valid.b0))) (.seq (.reg 2880 9 impl_Step_valid.r12) (.ret))))) }
attribute [go_sem] impl_Step_valid.r0 impl_Step_valid.r1 impl_Step_valid.r2 impl_Step_valid.r3 impl_Step_valid.r4 impl_Step_valid.r5 impl_Step_valid.r6 impl_Step_valid.r7 impl_Step_valid.r8 impl_Step_valid.r9 impl_Step_valid.r10 impl_Step_valid.r11 impl_Step_valid.r12
theorem impl_Step_valid.ok : chkF prog F_impl_Step_valid 1 impl_Step_valid.fi = true := by kernel_rfl

/-! impl_Step_jumps -/
def impl_Step_jumps.r0 : List Ent := [
  E0 0 (some 1) none (.i (.box (.t 0))),
  E0 1 (some 2) none (.i (.mv (.k (.dat none (.bool false)))))]
def impl_Step_jumps.r1 : List Ent := [
  E0 0 (some 3) none (.i (.fad 0 (.t 1))),
  E0 1 (some 4) none (.i (.load false false 1 (.t 3))),
  E0 2 (some 5) none (.i (.bin .eql (.t 4) (.k (I64 8)))),
  E0 3 (some 6) none (.i (.mv (.t 5))),
  E0 4 (some 7) (some (6, false)) (.i (.fad 0 (.t 1))),
  E0 5 (some 8) (some (6, false)) (.i (.load false false 1 (.t 7))),
  E0 6 (some 9) (some (6, false)) (.i (.bin .eql (.t 8) (.k (I64 9)))),
  E0 7 (some 10) none (.i (.pick (.t 6) (.k (.dat none (.bool true))) (.t 9))),
  E0 8 (some 11) none (.i (.mv (.t 10))),
  E0 9 (some 12) (some (11, false)) (.i (.fad 0 (.t 1))),
  E0 10 (some 13) (some (11, false)) (.i (.load false false 1 (.t 12))),
  E0 11 (some 14) (some (11, false)) (.i (.bin .eql (.t 13) (.k (I64 10)))),
  E0 12 (some 15) none (.i (.pick (.t 11) (.k (.dat none (.bool true))) (.t 14))),
  E0 13 (some 2) none (.i (.mv (.t 15)))]
def impl_Step_jumps.fi : FI := { res := [.t 2], code := .seq (.reg 64 2 impl_Step_jumps.r0) (.seq (.reg 192 14 impl_Step_jumps.r1) (.ret)) }
attribute [go_sem] impl_Step_jumps.r0 impl_Step_jumps.r1
theorem impl_Step_jumps.ok : chkF prog F_impl_Step_jumps 1 impl_Step_jumps.fi = true := by kernel_rfl

/-! impl_GoodProgram -/
def impl_GoodProgram.r0 : List Ent := [
  E0 0 (some 2) none (.i (.mv (.k (.dat none (.bool false)))))]
def impl_GoodProgram.r1 : List Ent := [
  E0 0 (some 5) none (.i (.mv (.t 0))),
  E0 1 (some 6) none (.i (.len (.t 5))),
  E0 2 (some 7) none (.call F_impl_in false (roA [.t 6, .k (I64 1), .k (I64 20)])),
  E0 3 (some 8) none (.i (.un .not (.t 7))),
  E0 4 (some 9) none (.i (.mv (.t 8))),
  E0 5 (some 10) (some (9, false)) (.i (.mv (.t 0))),
  E0 6 (some 11) (some (9, false)) (.i (.mv (.t 0))),
  E0 7 (some 12) (some (9, false)) (.i (.len (.t 11))),
  E0 8 (some 13) (some (9, false)) (.i (.bin .sub (.t 12) (.k (I64 1)))),
  E0 9 (some 14) (some (9, false)) (.i (.iad 6 (.t 10) (.t 13))),
  E0 10 (some 15) (some (9, false)) (.i (.fad 0 (.t 14))),
  E0 11 (some 16) (some (9, false)) (.i (.load false false 1 (.t 15))),
  E0 12 (some 17) (some (9, false)) (.i (.bin .neq (.t 16) (.k (I64 11)))),
  E0 13 (some 18) none (.i (.pick (.t 9) (.k (.dat none (.bool true))) (.t 17)))]
def impl_GoodProgram.r2 : List Ent := [
  E0 0 (some 2) none (.i (.mv (.k (.dat none (.bool false)))))]
def impl_GoodProgram.r3 : List Ent := [
  E0 0 (some 19) none (.i (.mv (.t 0))),
  E0 1 (some 20) none (.i (.len (.t 19))),
  E0 2 (some 21) none (.i (.mv (.k (I64 0))))]
def impl_GoodProgram.r4 : List Ent := [
  E0 0 (some 22) none (.i (.bin .lss (.t 21) (.t 20)))]
def impl_GoodProgram.r5 : List Ent := [
  E0 0 (some 23) none (.i (.mv (.t 21))),
  E0 1 (some 24) none (.i (.iad 6 (.t 19) (.t 21))),
  E0 2 (some 25) none (.i (.load false true 6 (.t 24))),
  E0 3 (some 4) none (.i (.box (.k (.agg [.dat none (.int .i64 0), .dat none (.int .i64 0), .dat none (.int .i64 0), .dat none (.int .i64 0), .dat none (.int .i64 0), .dat none (.int .i64 0)])))),
  E0 4 (some 3) none (.i (.mv (.t 23))),
  E0 5 none none (.i (.store 6 (.t 4) (.t 25)))]
def impl_GoodProgram.r6 : List Ent := [
  E0 0 (some 26) none (.i (.load false true 6 (.t 4))),
  E0 1 (some 27) none (.call F_impl_Step_valid false (roA [.t 26])),
  E0 2 (some 28) none (.i (.un .not (.t 27))),
  E0 3 (some 29) none (.i (.mv (.t 28))),
  E0 4 (some 30) (some (29, false)) (.i (.load false true 6 (.t 4))),
  E0 5 (some 31) (some (29, false)) (.call F_impl_Step_jumps false (roA [.t 30])),
  E0 6 (some 32) (some (29, false)) (.i (.mv (.t 31))),
  E0 7 (some 33) (some (32, true)) (.i (.mv (.t 3))),
  E0 8 (some 34) (some (32, true)) (.i (.fad 5 (.t 4))),
  E0 9 (some 35) (some (32, true)) (.i (.load false false 1 (.t 34))),
  E0 10 (some 36) (some (32, true)) (.i (.bin .add (.t 33) (.t 35))),
  E0 11 (some 37) (some (32, true)) (.i (.bin .add (.t 36) (.k (I64 1)))),
  E0 12 (some 38) (some (32, true)) (.i (.mv (.t 0))),
  E0 13 (some 39) (some (32, true)) (.i (.len (.t 38))),
  E0 14 (some 40) (some (32, true)) (.i (.bin .geq (.t 37) (.t 39))),
  E0 15 (some 41) (some (29, false)) (.i (.pick (.t 32) (.t 40) (.k (.dat none (.bool false))))),
  E0 16 (some 42) none (.i (.pick (.t 29) (.k (.dat none (.bool true))) (.t 41)))]
def impl_GoodProgram.r7 : List Ent := [
  E0 0 (some 2) none (.i (.mv (.k (.dat none (.bool false)))))]
def impl_GoodProgram.r8 : List Ent := [
  E0 0 (some 43) none (.i (.bin .add (.t 21) (.k (I64 1)))),
  E0 1 (some 21) none (.i (.mv (.t 43)))]
def impl_GoodProgram.b0 : KC := .seq (.reg 1280 1 impl_GoodProgram.r4) (.seq (.cond (.t 22) (.skip) (.exit 0)) (.seq (.block 1 (.seq (.reg 1344 6 impl_GoodProgram.r5) (.seq (.reg 1728 17 impl_GoodProgram.r6) (.cond (.t 42) (.seq (.reg 2816 1 impl_GoodProgram.r7) (.ret)) (.skip))))) (.reg 2880 2 impl_GoodProgram.r8)))
def impl_GoodProgram.r9 : List Ent := [
  E0 0 (some 2) none (.i (.mv (.k (.dat none (.bool true)))))]
def impl_GoodProgram.fi : FI := { res := [.t 2], code := .seq (.reg 64 1 impl_GoodProgram.r0) (.seq (.seq (.reg 128 14 impl_GoodProgram.r1) (.cond (.t 18) (.seq (.reg 1024 1 impl_GoodProgram.r2) (.ret)) (.skip))) (.seq (.seq (.reg 1088 3 impl_GoodProgram.r3) (.block 0 (.loop impl_GoodProgram.b0))) (.seq (.reg 3008 1 impl_GoodProgram.r9) (.ret)))) }
attribute [go_sem] impl_GoodProgram.r0 impl_GoodProgram.r1 impl_GoodProgram.r2 impl_GoodProgram.r3 impl_GoodProgram.r4 impl_GoodProgram.r5 impl_GoodProgram.r6 impl_GoodProgram.r7 impl_GoodProgram.r8 impl_GoodProgram.r9
theorem impl_GoodProgram.ok : chkF prog F_impl_GoodProgram 1 impl_GoodProgram.fi = true := by kernel_rfl

/-! impl_nexts -/
def impl_nexts.r0 : List Ent := [
  E0 0 (some 4) none (.i (.mv (.k (.nil 1))))]
def impl_nexts.r1 : List Ent := [
  E0 0 (some 6) none (.i (.mv (.t 0))),
  E0 1 (some 7) none (.i (.mv (.t 1))),
  E0 2 (some 8) none (.i (.iad 6 (.t 6) (.t 7))),
  E0 3 (some 9) none (.i (.load false true 6 (.t 8))),
  E0 4 (some 5) none (.i (.box (.k (.agg [.dat none (.int .i64 0), .dat none (.int .i64 0), .dat none (.int .i64 0), .dat none (.int .i64 0), .dat none (.int .i64 0), .dat none (.int .i64 0)])))),
  E0 5 none none (.i (.store 6 (.t 5) (.t 9)))]
def impl_nexts.r2 : List Ent := [
  E0 0 (some 10) none (.i (.fad 0 (.t 5))),
  E0 1 (some 11) none (.i (.load false false 1 (.t 10)))]
def impl_nexts.r3 : List Ent := [
  E0 0 (some 13) none (.i (.bin .eql (.t 11) (.k (I64 11)))),
  E0 1 (some 12) none (.i (.mv (.t 13)))]
def impl_nexts.r4 : List Ent := [
  E0 0 (some 4) none (.i (.mv (.k (.nil 1))))]
def impl_nexts.r5 : List Ent := [
  E0 0 (some 15) none (.i (.bin .eql (.t 11) (.k (I64 8)))),
  E0 1 (some 14) none (.i (.mv (.t 15)))]
def impl_nexts.r6 : List Ent := [
  E0 0 (some 16) none (.i (.mv (.t 1))),
  E0 1 (some 17) none (.i (.fad 5 (.t 5))),
  E0 2 (some 18) none (.i (.load false false 1 (.t 17))),
  E0 3 (some 19) none (.i (.bin .add (.t 16) (.t 18))),
  E0 4 (some 20) none (.i (.bin .add (.t 19) (.k (I64 1)))),
  E0 5 (some 21) none (.i (.bsl false 1 [.t 20])),
  E0 6 (some 4) none (.i (.mv (.t 21)))]
def impl_nexts.r7 : List Ent := [
  E0 0 (some 23) none (.i (.bin .eql (.t 11) (.k (I64 9)))),
  E0 1 (some 22) none (.i (.mv (.t 23)))]
def impl_nexts.r8 : List Ent := [
  E0 0 (some 24) none (.i (.bin .eql (.t 11) (.k (I64 10)))),
  E0 1 (some 22) none (.i (.mv (.t 24)))]
def impl_nexts.r9 : List Ent := [
  E0 0 (some 25) none (.i (.mv (.t 1))),
  E0 1 (some 26) none (.i (.bin .add (.t 25) (.k (I64 1)))),
  E0 2 (some 27) none (.i (.mv (.t 1))),
  E0 3 (some 28) none (.i (.fad 5 (.t 5))),
  E0 4 (some 29) none (.i (.load false false 1 (.t 28))),
  E0 5 (some 30) none (.i (.bin .add (.t 27) (.t 29))),
  E0 6 (some 31) none (.i (.bin .add (.t 30) (.k (I64 1)))),
  E0 7 (some 32) none (.i (.bsl false 1 [.t 26, .t 31])),
  E0 8 (some 4) none (.i (.mv (.t 32)))]
def impl_nexts.r10 : List Ent := [
  E0 0 (some 33) none (.i (.mv (.t 1))),
  E0 1 (some 34) none (.i (.bin .add (.t 33) (.k (I64 1)))),
  E0 2 (some 35) none (.i (.bsl false 1 [.t 34])),
  E0 3 (some 4) none (.i (.mv (.t 35)))]
def impl_nexts.fi : FI := { res := [.t 4], code := .seq (.reg 64 1 impl_nexts.r0) (.seq (.reg 128 6 impl_nexts.r1) (.seq (.seq (.reg 512 2 impl_nexts.r2) (.block 0 (.seq (.reg 640 2 impl_nexts.r3) (.cond (.t 12) (.seq (.reg 768 1 impl_nexts.r4) (.ret)) (.seq (.reg 832 2 impl_nexts.r5) (.cond (.t 14) (.seq (.reg 960 7 impl_nexts.r6) (.ret)) (.seq (.seq (.reg 1408 2 impl_nexts.r7) (.cond (.t 22) (.skip) (.reg 1536 2 impl_nexts.r8))) (.cond (.t 22) (.seq (.reg 1664 9 impl_nexts.r9) (.ret)) (.skip))))))))) (.seq (.reg 2240 4 impl_nexts.r10) (.ret)))) }
attribute [go_sem] impl_nexts.r0 impl_nexts.r1 impl_nexts.r2 impl_nexts.r3 impl_nexts.r4 impl_nexts.r5 impl_nexts.r6 impl_nexts.r7 impl_nexts.r8 impl_nexts.r9 impl_nexts.r10
theorem impl_nexts.ok : chkF prog F_impl_nexts 2 impl_nexts.fi = true := by kernel_rfl

/-! impl_Step_branches -/
def impl_Step_branches.r0 : List Ent := [
  E0 0 (some 1) none (.i (.box (.t 0))),
  E0 1 (some 2) none (.i (.mv (.k (.dat none (.bool false)))))]
def impl_Step_branches.r1 : List Ent := [
  E0 0 (some 3) none (.i (.fad 0 (.t 1))),
  E0 1 (some 4) none (.i (.load false false 1 (.t 3))),
  E0 2 (some 5) none (.i (.bin .eql (.t 4) (.k (I64 9)))),
  E0 3 (some 6) none (.i (.mv (.t 5))),
  E0 4 (some 7) (some (6, false)) (.i (.fad 0 (.t 1))),
  E0 5 (some 8) (some (6, false)) (.i (.load false false 1 (.t 7))),
  E0 6 (some 9) (some (6, false)) (.i (.bin .eql (.t 8) (.k (I64 10)))),
  E0 7 (some 10) none (.i (.pick (.t 6) (.k (.dat none (.bool true))) (.t 9))),
  E0 8 (some 2) none (.i (.mv (.t 10)))]
def impl_Step_branches.fi : FI := { res := [.t 2], code := .seq (.reg 64 2 impl_Step_branches.r0) (.seq (.reg 192 9 impl_Step_branches.r1) (.ret)) }
attribute [go_sem] impl_Step_branches.r0 impl_Step_branches.r1
theorem impl_Step_branches.ok : chkF prog F_impl_Step_branches 1 impl_Step_branches.fi = true := by kernel_rfl

/-! laws_eqStep -/
def laws_eqStep.r0 : List Ent := [
  E0 0 (some 2) none (.i (.box (.t 0))),
  E0 1 (some 3) none (.i (.box (.t 1))),
  E0 2 (some 4) none (.i (.mv (.k (.dat none (.bool false)))))]
def laws_eqStep.r1 : List Ent := [
  E0 0 (some 5) none (.i (.fad 0 (.t 2))),
  E0 1 (some 6) none (.i (.load false false 1 (.t 5))),
  E0 2 (some 7) none (.i (.fad 0 (.t 3))),
  E0 3 (some 8) none (.i (.load false false 1 (.t 7))),
  E0 4 (some 9) none (.i (.bin .neq (.t 6) (.t 8)))]
def laws_eqStep.r2 : List Ent := [
  E0 0 (some 4) none (.i (.mv (.k (.dat none (.bool false)))))]
def laws_eqStep.r3 : List Ent := [
  E0 0 (some 10) none (.i (.fad 1 (.t 2))),
  E0 1 (some 11) none (.i (.load false false 1 (.t 10))),
  E0 2 (some 12) none (.i (.fad 1 (.t 3))),
  E0 3 (some 13) none (.i (.load false false 1 (.t 12))),
  E0 4 (some 14) none (.i (.bin .neq (.t 11) (.t 13)))]
def laws_eqStep.r4 : List Ent := [
  E0 0 (some 4) none (.i (.mv (.k (.dat none (.bool false)))))]
def laws_eqStep.r5 : List Ent := [
  E0 0 (some 15) none (.i (.fad 2 (.t 2))),
  E0 1 (some 16) none (.i (.load false false 1 (.t 15))),
  E0 2 (some 17) none (.i (.fad 2 (.t 3))),
  E0 3 (some 18) none (.i (.load false false 1 (.t 17))),
  E0 4 (some 19) none (.i (.bin .neq (.t 16) (.t 18)))]
def laws_eqStep.r6 : List Ent := [
  E0 0 (some 4) none (.i (.mv (.k (.dat none (.bool false)))))]
def laws_eqStep.r7 : List Ent := [
  E0 0 (some 20) none (.i (.fad 3 (.t 2))),
  E0 1 (some 21) none (.i (.load false false 1 (.t 20))),
  E0 2 (some 22) none (.i (.fad 3 (.t 3))),
  E0 3 (some 23) none (.i (.load false false 1 (.t 22))),
  E0 4 (some 24) none (.i (.bin .neq (.t 21) (.t 23)))]
def laws_eqStep.r8 : List Ent := [
  E0 0 (some 4) none (.i (.mv (.k (.dat none (.bool false)))))]
def laws_eqStep.r9 : List Ent := [
  E0 0 (some 25) none (.i (.fad 4 (.t 2))),
  E0 1 (some 26) none (.i (.load false false 1 (.t 25))),
  E0 2 (some 27) none (.i (.fad 4 (.t 3))),
  E0 3 (some 28) none (.i (.load false false 1 (.t 27))),
  E0 4 (some 29) none (.i (.bin .neq (.t 26) (.t 28)))]
def laws_eqStep.r10 : List Ent := [
  E0 0 (some 4) none (.i (.mv (.k (.dat none (.bool false)))))]
def laws_eqStep.r11 : List Ent := [
  E0 0 (some 30) none (.i (.fad 5 (.t 2))),
  E0 1 (some 31) none (.i (.load false false 1 (.t 30))),
  E0 2 (some 32) none (.i (.fad 5 (.t 3))),
  E0 3 (some 33) none (.i (.load false false 1 (.t 32))),
  E0 4 (some 34) none (.i (.bin .neq (.t 31) (.t 33)))]
def laws_eqStep.r12 : List Ent := [
  E0 0 (some 4) none (.i (.mv (.k (.dat none (.bool false)))))]
def laws_eqStep.r13 : List Ent := [
  E0 0 (some 4) none (.i (.mv (.k (.dat none (.bool true)))))]
def laws_eqStep.fi : FI := { res := [.t 4], code := .seq (.reg 64 3 laws_eqStep.r0) (.seq (.seq (.reg 256 5 laws_eqStep.r1) (.cond (.t 9) (.seq (.reg 576 1 laws_eqStep.r2) (.ret)) (.skip))) (.seq (.seq (.reg 640 5 laws_eqStep.r3) (.cond (.t 14) (.seq (.reg 960 1 laws_eqStep.r4) (.ret)) (.skip))) (.seq (.seq (.reg 1024 5 laws_eqStep.r5) (.cond (.t 19) (.seq (.reg 1344 1 laws_eqStep.r6) (.ret)) (.skip))) (.seq (.seq (.reg 1408 5 laws_eqStep.r7) (.cond (.t 24) (.seq (.reg 1728 1 laws_eqStep.r8) (.ret)) (.skip))) (.seq (.seq (.reg 1792 5 laws_eqStep.r9) (.cond (.t 29) (.seq (.reg 2112 1 laws_eqStep.r10) (.ret)) (.skip))) (.seq (.seq (.reg 2176 5 laws_eqStep.r11) (.cond (.t 34) (.seq (.reg 2496 1 laws_eqStep.r12) (.ret)) (.skip))) (.seq (.reg 2560 1 laws_eqStep.r13) (.ret)))))))) }
attribute [go_sem] laws_eqStep.r0 laws_eqStep.r1 laws_eqStep.r2 laws_eqStep.r3 laws_eqStep.r4 laws_eqStep.r5 laws_eqStep.r6 laws_eqStep.r7 laws_eqStep.r8 laws_eqStep.r9 laws_eqStep.r10 laws_eqStep.r11 laws_eqStep.r12 laws_eqStep.r13
theorem laws_eqStep.ok : chkF prog F_laws_eqStep 2 laws_eqStep.fi = true := by kernel_rfl

/-! laws_eqStepS -/
def laws_eqStepS.r0 : List Ent := [
  E0 0 (some 4) none (.i (.mv (.k (.dat none (.bool false)))))]
def laws_eqStepS.r1 : List Ent := [
  E0 0 (some 6) none (.i (.mv (.t 0))),
  E0 1 (some 7) none (.i (.len (.t 6))),
  E0 2 (some 8) none (.i (.mv (.t 1))),
  E0 3 (some 9) none (.i (.len (.t 8))),
  E0 4 (some 10) none (.i (.bin .neq (.t 7) (.t 9)))]
def laws_eqStepS.r2 : List Ent := [
  E0 0 (some 4) none (.i (.mv (.k (.dat none (.bool false)))))]
def laws_eqStepS.r3 : List Ent := [
  E0 0 (some 5) none (.i (.mv (.k (I64 0))))]
def laws_eqStepS.r4 : List Ent := [
  E0 0 (some 11) none (.i (.mv (.t 5))),
  E0 1 (some 12) none (.i (.mv (.t 0))),
  E0 2 (some 13) none (.i (.len (.t 12))),
  E0 3 (some 14) none (.i (.bin .lss (.t 11) (.t 13)))]
def laws_eqStepS.r5 : List Ent := [
  E0 0 (some 17) none (.i (.mv (.t 0))),
  E0 1 (some 18) none (.i (.mv (.t 5))),
  ER 2 (some 19) none (.iad 6 (.t 17) (.t 18)),
  ER 3 (some 20) none (.load false true 6 (.t 19)),
  E0 4 (some 21) none (.i (.mv (.t 1))),
  E0 5 (some 22) none (.i (.mv (.t 5))),
  ER 6 (some 23) none (.iad 6 (.t 21) (.t 22)),
  ER 7 (some 24) none (.load false true 6 (.t 23)),
  E0 8 (some 25) none (.call F_laws_eqStep false (roA [.t 20, .t 24])),
  E0 9 (some 26) none (.i (.un .not (.t 25)))]
def laws_eqStepS.r6 : List Ent := [
  E0 0 (some 4) none (.i (.mv (.k (.dat none (.bool false)))))]
def laws_eqStepS.r7 : List Ent := [
  E0 0 (some 15) none (.i (.mv (.t 5))),
  E0 1 (some 16) none (.i (.bin .add (.t 15) (.k (I64 1)))),
  E0 2 (some 5) none (.i (.mv (.t 16)))]
def laws_eqStepS.b0 : KC := .seq (.seq (.reg 576 4 laws_eqStepS.r4) (.cond (.t 14) (.skip) (.exit 0))) (.seq (.block 1 (.seq (.reg 832 10 laws_eqStepS.r5) (.cond (.t 26) (.seq (.reg 1472 1 laws_eqStepS.r6) (.ret)) (.skip)))) (.reg 1536 3 laws_eqStepS.r7))
def laws_eqStepS.r8 : List Ent := [
  E0 0 (some 4) none (.i (.mv (.k (.dat none (.bool true)))))]
def laws_eqStepS.fi : FI := { res := [.t 4], code := .seq (.reg 64 1 laws_eqStepS.r0) (.seq (.seq (.reg 128 5 laws_eqStepS.r1) (.cond (.t 10) (.seq (.reg 448 1 laws_eqStepS.r2) (.ret)) (.skip))) (.seq (.seq (.reg 512 1 laws_eqStepS.r3) (.block 0 (.loop laws_eqStepS.b0))) (.seq (.reg 1728 1 laws_eqStepS.r8) (.ret)))) }
attribute [go_sem] laws_eqStepS.r0 laws_eqStepS.r1 laws_eqStepS.r2 laws_eqStepS.r3 laws_eqStepS.r4 laws_eqStepS.r5 laws_eqStepS.r6 laws_eqStepS.r7 laws_eqStepS.r8
theorem laws_eqStepS.ok : chkF prog F_laws_eqStepS 2 laws_eqStepS.fi = true := by kernel_rfl

/-! laws_eqIntS -/
def laws_eqIntS.r0 : List Ent := [
  E0 0 (some 4) none (.i (.mv (.k (.dat none (.bool false)))))]
def laws_eqIntS.r1 : List Ent := [
  E0 0 (some 6) none (.i (.mv (.t 0))),
  E0 1 (some 7) none (.i (.len (.t 6))),
  E0 2 (some 8) none (.i (.mv (.t 1))),
  E0 3 (some 9) none (.i (.len (.t 8))),
  E0 4 (some 10) none (.i (.bin .neq (.t 7) (.t 9)))]
def laws_eqIntS.r2 : List Ent := [
  E0 0 (some 4) none (.i (.mv (.k (.dat none (.bool false)))))]
def laws_eqIntS.r3 : List Ent := [
  E0 0 (some 5) none (.i (.mv (.k (I64 0))))]
def laws_eqIntS.r4 : List Ent := [
  E0 0 (some 11) none (.i (.mv (.t 5))),
  E0 1 (some 12) none (.i (.mv (.t 0))),
  E0 2 (some 13) none (.i (.len (.t 12))),
  E0 3 (some 14) none (.i (.bin .lss (.t 11) (.t 13)))]
def laws_eqIntS.r5 : List Ent := [
  E0 0 (some 17) none (.i (.mv (.t 0))),
  E0 1 (some 18) none (.i (.mv (.t 5))),
  ER 2 (some 19) none (.iad 1 (.t 17) (.t 18)),
  ER 3 (some 20) none (.load false false 1 (.t 19)),
  E0 4 (some 21) none (.i (.mv (.t 1))),
  E0 5 (some 22) none (.i (.mv (.t 5))),
  ER 6 (some 23) none (.iad 1 (.t 21) (.t 22)),
  ER 7 (some 24) none (.load false false 1 (.t 23)),
  E0 8 (some 25) none (.i (.bin .neq (.t 20) (.t 24)))]
def laws_eqIntS.r6 : List Ent := [
  E0 0 (some 4) none (.i (.mv (.k (.dat none (.bool false)))))]
def laws_eqIntS.r7 : List Ent := [
  E0 0 (some 15) none (.i (.mv (.t 5))),
  E0 1 (some 16) none (.i (.bin .add (.t 15) (.k (I64 1)))),
  E0 2 (some 5) none (.i (.mv (.t 16)))]
def laws_eqIntS.b0 : KC := .seq (.seq (.reg 576 4 laws_eqIntS.r4) (.cond (.t 14) (.skip) (.exit 0))) (.seq (.block 1 (.seq (.reg 832 9 laws_eqIntS.r5) (.cond (.t 25) (.seq (.reg 1408 1 laws_eqIntS.r6) (.ret)) (.skip)))) (.reg 1472 3 laws_eqIntS.r7))
def laws_eqIntS.r8 : List Ent := [
  E0 0 (some 4) none (.i (.mv (.k (.dat none (.bool true)))))]
def laws_eqIntS.fi : FI := { res := [.t 4], code := .seq (.reg 64 1 laws_eqIntS.r0) (.seq (.seq (.reg 128 5 laws_eqIntS.r1) (.cond (.t 10) (.seq (.reg 448 1 laws_eqIntS.r2) (.ret)) (.skip))) (.seq (.seq (.reg 512 1 laws_eqIntS.r3) (.block 0 (.loop laws_eqIntS.b0))) (.seq (.reg 1664 1 laws_eqIntS.r8) (.ret)))) }
attribute [go_sem] laws_eqIntS.r0 laws_eqIntS.r1 laws_eqIntS.r2 laws_eqIntS.r3 laws_eqIntS.r4 laws_eqIntS.r5 laws_eqIntS.r6 laws_eqIntS.r7 laws_eqIntS.r8
theorem laws_eqIntS.ok : chkF prog F_laws_eqIntS 2 laws_eqIntS.fi = true := by kernel_rfl

/-! laws_eqBoolS -/
def laws_eqBoolS.r0 : List Ent := [
  E0 0 (some 4) none (.i (.mv (.k (.dat none (.bool false)))))]
def laws_eqBoolS.r1 : List Ent := [
  E0 0 (some 6) none (.i (.mv (.t 0))),
  E0 1 (some 7) none (.i (.len (.t 6))),
  E0 2 (some 8) none (.i (.mv (.t 1))),
  E0 3 (some 9) none (.i (.len (.t 8))),
  E0 4 (some 10) none (.i (.bin .neq (.t 7) (.t 9)))]
def laws_eqBoolS.r2 : List Ent := [
  E0 0 (some 4) none (.i (.mv (.k (.dat none (.bool false)))))]
def laws_eqBoolS.r3 : List Ent := [
  E0 0 (some 5) none (.i (.mv (.k (I64 0))))]
def laws_eqBoolS.r4 : List Ent := [
  E0 0 (some 11) none (.i (.mv (.t 5))),
  E0 1 (some 12) none (.i (.mv (.t 0))),
  E0 2 (some 13) none (.i (.len (.t 12))),
  E0 3 (some 14) none (.i (.bin .lss (.t 11) (.t 13)))]
def laws_eqBoolS.r5 : List Ent := [
  E0 0 (some 17) none (.i (.mv (.t 0))),
  E0 1 (some 18) none (.i (.mv (.t 5))),
  ER 2 (some 19) none (.iad 1 (.t 17) (.t 18)),
  ER 3 (some 20) none (.load false false 1 (.t 19)),
  E0 4 (some 21) none (.i (.mv (.t 1))),
  E0 5 (some 22) none (.i (.mv (.t 5))),
  ER 6 (some 23) none (.iad 1 (.t 21) (.t 22)),
  ER 7 (some 24) none (.load false false 1 (.t 23)),
  E0 8 (some 25) none (.i (.eqb true (.t 20) (.t 24)))]
def laws_eqBoolS.r6 : List Ent := [
  E0 0 (some 4) none (.i (.mv (.k (.dat none (.bool false)))))]
def laws_eqBoolS.r7 : List Ent := [
  E0 0 (some 15) none (.i (.mv (.t 5))),
  E0 1 (some 16) none (.i (.bin .add (.t 15) (.k (I64 1)))),
  E0 2 (some 5) none (.i (.mv (.t 16)))]
def laws_eqBoolS.b0 : KC := .seq (.seq (.reg 576 4 laws_eqBoolS.r4) (.cond (.t 14) (.skip) (.exit 0))) (.seq (.block 1 (.seq (.reg 832 9 laws_eqBoolS.r5) (.cond (.t 25) (.seq (.reg 1408 1 laws_eqBoolS.r6) (.ret)) (.skip)))) (.reg 1472 3 laws_eqBoolS.r7))
def laws_eqBoolS.r8 : List Ent := [
  E0 0 (some 4) none (.i (.mv (.k (.dat none (.bool true)))))]
def laws_eqBoolS.fi : FI := { res := [.t 4], code := .seq (.reg 64 1 laws_eqBoolS.r0) (.seq (.seq (.reg 128 5 laws_eqBoolS.r1) (.cond (.t 10) (.seq (.reg 448 1 laws_eqBoolS.r2) (.ret)) (.skip))) (.seq (.seq (.reg 512 1 laws_eqBoolS.r3) (.block 0 (.loop laws_eqBoolS.b0))) (.seq (.reg 1664 1 laws_eqBoolS.r8) (.ret)))) }
attribute [go_sem] laws_eqBoolS.r0 laws_eqBoolS.r1 laws_eqBoolS.r2 laws_eqBoolS.r3 laws_eqBoolS.r4 laws_eqBoolS.r5 laws_eqBoolS.r6 laws_eqBoolS.r7 laws_eqBoolS.r8
theorem laws_eqBoolS.ok : chkF prog F_laws_eqBoolS 2 laws_eqBoolS.fi = true := by kernel_rfl

/-! laws_eqWay -/
def laws_eqWay.r0 : List Ent := [
  E0 0 (some 2) none (.i (.box (.t 0))),
  E0 1 (some 3) none (.i (.box (.t 1))),
  E0 2 (some 4) none (.i (.mv (.k (.dat none (.bool false)))))]
def laws_eqWay.r1 : List Ent := [
  E0 0 (some 5) none (.i (.fad 0 (.t 2))),
  E0 1 (some 6) none (.i (.load false false 1 (.t 5))),
  E0 2 (some 7) none (.i (.fad 0 (.t 3))),
  E0 3 (some 8) none (.i (.load false false 1 (.t 7))),
  E0 4 (some 9) none (.call F_laws_eqIntS false (roA [.t 6, .t 8])),
  E0 5 (some 10) none (.i (.un .not (.t 9)))]
def laws_eqWay.r2 : List Ent := [
  E0 0 (some 4) none (.i (.mv (.k (.dat none (.bool false)))))]
def laws_eqWay.r3 : List Ent := [
  E0 0 (some 11) none (.i (.fad 1 (.t 2))),
  E0 1 (some 12) none (.i (.load false false 1 (.t 11))),
  E0 2 (some 13) none (.i (.fad 1 (.t 3))),
  E0 3 (some 14) none (.i (.load false false 1 (.t 13))),
  E0 4 (some 15) none (.call F_laws_eqBoolS false (roA [.t 12, .t 14])),
  E0 5 (some 16) none (.i (.un .not (.t 15)))]
def laws_eqWay.r4 : List Ent := [
  E0 0 (some 4) none (.i (.mv (.k (.dat none (.bool false)))))]
def laws_eqWay.r5 : List Ent := [
  E0 0 (some 4) none (.i (.mv (.k (.dat none (.bool true)))))]
def laws_eqWay.fi : FI := { res := [.t 4], code := .seq (.reg 64 3 laws_eqWay.r0) (.seq (.seq (.reg 256 6 laws_eqWay.r1) (.cond (.t 10) (.seq (.reg 640 1 laws_eqWay.r2) (.ret)) (.skip))) (.seq (.seq (.reg 704 6 laws_eqWay.r3) (.cond (.t 16) (.seq (.reg 1088 1 laws_eqWay.r4) (.ret)) (.skip))) (.seq (.reg 1152 1 laws_eqWay.r5) (.ret)))) }
attribute [go_sem] laws_eqWay.r0 laws_eqWay.r1 laws_eqWay.r2 laws_eqWay.r3 laws_eqWay.r4 laws_eqWay.r5
theorem laws_eqWay.ok : chkF prog F_laws_eqWay 2 laws_eqWay.fi = true := by kernel_rfl

/-! spec_l14Own -/
def spec_l14Own.r0 : List Ent := [
  E0 0 (some 1) none (.i (.box (.t 0))),
  E0 1 (some 2) none (.i (.box (.k (.agg [.nil 1, .nil 1]))))]
def spec_l14Own.r1 : List Ent := [
  EX 0 (some 3) none (.i (.bsl false 1 [])) 1 [4] [] false,
  EX 1 (some 4) none (.i (.fad 0 (.t 1))) 2 [0, 4] [] false,
  EX 2 (some 5) none (.i (.load false false 1 (.t 4))) 2 [0, 4] [] false,
  EX 3 (some 6) none (.i (.app 1 8 (.t 3) (.t 5))) 0 [4] [] true,
  EX 4 (some 7) none (.i (.bsl false 1 [])) 1 [0] [3] false,
  EX 5 (some 8) none (.i (.fad 1 (.t 1))) 2 [0, 4] [3] false,
  EX 6 (some 9) none (.i (.load false false 1 (.t 8))) 2 [0, 4] [3] false,
  E0 7 (some 10) none (.i (.app 1 1 (.t 7) (.t 9))),
  E0 8 (some 11) none (.i (.bld [.t 6, .t 10])),
  E0 9 none none (.i (.store 2 (.t 2) (.t 11)))]
def spec_l14Own.fi : FI := { res := [.c 2 true 2], code := .seq (.reg 64 2 spec_l14Own.r0) (.seq (.reg 192 10 spec_l14Own.r1) (.ret)) }
attribute [go_sem] spec_l14Own.r0 spec_l14Own.r1
theorem spec_l14Own.ok : chkF prog F_spec_l14Own 1 spec_l14Own.fi = true := by kernel_rfl

/-! spec_l14All -/
def spec_l14All.r0 : List Ent := [
  E0 0 (some 4) none (.i (.box (.t 1))),
  E0 1 (some 6) none (.i (.mv (.k (.nil 2))))]
def spec_l14All.r1 : List Ent := [
  E0 0 (some 11) none (.i (.mv (.t 2))),
  E0 1 (some 12) none (.i (.len (.t 11))),
  E0 2 (some 13) none (.i (.bin .gtr (.t 12) (.k (I64 64))))]
def spec_l14All.r2 : List Ent := [
  E0 0 (some 14) none (.i (.mv (.t 2))),
  E0 1 (some 6) none (.i (.mv (.t 14)))]
def spec_l14All.r3 : List Ent := [
  E0 0 (some 15) none (.i (.fad 0 (.t 4))),
  E0 1 (some 16) none (.i (.load false false 1 (.t 15))),
  E0 2 (some 17) none (.i (.fad 0 (.t 4))),
  E0 3 (some 18) none (.i (.load false false 1 (.t 17))),
  E0 4 (some 19) none (.i (.len (.t 18))),
  E0 5 (some 20) none (.i (.bin .sub (.t 19) (.k (I64 1)))),
  E0 6 (some 21) none (.i (.iad 1 (.t 16) (.t 20))),
  E0 7 (some 22) none (.i (.load false false 1 (.t 21))),
  E0 8 (some 7) none (.i (.mv (.t 22)))]
def spec_l14All.r4 : List Ent := [
  E0 0 (some 23) none (.i (.mv (.t 0))),
  E0 1 (some 24) none (.i (.mv (.t 7))),
  E0 2 (some 25) none (.i (.iad 6 (.t 23) (.t 24))),
  E0 3 (some 26) none (.i (.fad 0 (.t 25))),
  E0 4 (some 27) none (.i (.load false false 1 (.t 26))),
  E0 5 (some 28) none (.i (.bin .eql (.t 27) (.k (I64 11))))]
def spec_l14All.r5 : List Ent := [
  E0 0 (some 29) none (.i (.mv (.t 2))),
  E0 1 (some 30) none (.i (.load false true 2 (.t 4))),
  E0 2 (some 31) none (.call F_spec_l14Own false (roA [.t 30])),
  E0 3 (some 32) none (.i (.bsl false 2 [.t 31])),
  E0 4 (some 33) none (.i (.app 2 48 (.t 29) (.t 32))),
  E0 5 (some 6) none (.i (.mv (.t 33)))]
def spec_l14All.r6 : List Ent := [
  E0 0 (some 34) none (.i (.mv (.t 0))),
  E0 1 (some 35) none (.i (.mv (.t 7))),
  E0 2 (some 36) none (.call F_spec_l2Nexts false (roA [.t 34, .t 35])),
  E0 3 (some 37) none (.i (.len (.t 36))),
  E0 4 (some 38) none (.i (.mv (.k (I64 0))))]
def spec_l14All.r7 : List Ent := [
  E0 0 (some 39) none (.i (.bin .lss (.t 38) (.t 37)))]
def spec_l14All.r8 : List Ent := [
  E0 0 (some 40) none (.i (.mv (.t 38))),
  E0 1 (some 41) none (.i (.iad 1 (.t 36) (.t 38))),
  E0 2 (some 42) none (.i (.load false false 1 (.t 41))),
  E0 3 (some 8) none (.i (.mv (.t 40))),
  E0 4 (some 9) none (.i (.mv (.t 42)))]
def spec_l14All.r9 : List Ent := [
  E0 0 (some 43) none (.i (.load false true 2 (.t 4))),
  E0 1 (some 44) none (.call F_spec_l14Own false (roA [.t 43])),
  E0 2 (some 10) none (.i (.box (.k (.agg [.nil 1, .nil 1])))),
  E0 3 none none (.i (.store 2 (.t 10) (.t 44)))]
def spec_l14All.r10 : List Ent := [
  E0 0 (some 45) none (.i (.fad 0 (.t 10))),
  E0 1 (some 46) none (.i (.load false false 1 (.t 45))),
  E0 2 (some 47) none (.i (.mv (.t 9))),
  E0 3 (some 48) none (.i (.bsl true 1 [.t 47])),
  E0 4 (some 49) none (.i (.app 1 8 (.t 46) (.t 48))),
  E0 5 (some 50) none (.i (.fad 0 (.t 10))),
  E0 6 none none (.i (.store 1 (.t 50) (.t 49)))]
def spec_l14All.r11 : List Ent := [
  E0 0 (some 51) none (.i (.mv (.t 0))),
  E0 1 (some 52) none (.i (.mv (.t 7))),
  E0 2 (some 53) none (.i (.iad 6 (.t 51) (.t 52))),
  E0 3 (some 54) none (.i (.load false true 6 (.t 53))),
  E0 4 (some 55) none (.call F_spec_l14Branch false (roA [.t 54]))]
def spec_l14All.r12 : List Ent := [
  E0 0 (some 56) none (.i (.fad 1 (.t 10))),
  E0 1 (some 57) none (.i (.load false false 1 (.t 56))),
  E0 2 (some 58) none (.i (.mv (.t 8))),
  E0 3 (some 59) none (.i (.bin .eql (.t 58) (.k (I64 1)))),
  E0 4 (some 60) none (.i (.bsl true 1 [.t 59])),
  E0 5 (some 61) none (.i (.app 1 1 (.t 57) (.t 60))),
  E0 6 (some 62) none (.i (.fad 1 (.t 10))),
  E0 7 none none (.i (.store 1 (.t 62) (.t 61)))]
def spec_l14All.r13 : List Ent := [
  E0 0 (some 63) none (.i (.mv (.t 0))),
  E0 1 (some 64) none (.i (.load false true 2 (.t 10))),
  E0 2 (some 65) none (.i (.mv (.t 2))),
  E0 3 (some 66) none (.call F_spec_l14All false [(.ro, .t 63), (.ro, .t 64), (.co, .t 65)]),
  E0 4 (some 2) none (.i (.mv (.t 66)))]
def spec_l14All.r14 : List Ent := [
  E0 0 (some 67) none (.i (.bin .add (.t 38) (.k (I64 1)))),
  E0 1 (some 38) none (.i (.mv (.t 67)))]
def spec_l14All.b0 : KC := .seq (.reg 2176 1 spec_l14All.r7) (.seq (.cond (.t 39) (.skip) (.exit 0)) (.seq (.block 1 (.seq (.reg 2240 5 spec_l14All.r8) (.seq (.reg 2560 4 spec_l14All.r9) (.seq (.reg 2816 7 spec_l14All.r10) (.seq (.seq (.reg 3264 5 spec_l14All.r11) (.cond (.t 55) (.reg 3584 8 spec_l14All.r12) (.skip))) (.reg 4096 5 spec_l14All.r13)))))) (.reg 4416 2 spec_l14All.r14)))
def spec_l14All.r15 : List Ent := [
  E0 0 (some 68) none (.i (.mv (.t 2))),
  E0 1 (some 6) none (.i (.mv (.t 68)))]
def spec_l14All.fi : FI := { res := [.t 6], code := .seq (.reg 64 2 spec_l14All.r0) (.seq (.seq (.reg 192 3 spec_l14All.r1) (.cond (.t 13) (.seq (.reg 384 2 spec_l14All.r2) (.ret)) (.skip))) (.seq (.reg 512 9 spec_l14All.r3) (.seq (.seq (.reg 1088 6 spec_l14All.r4) (.cond (.t 28) (.seq (.reg 1472 6 spec_l14All.r5) (.ret)) (.skip))) (.seq (.seq (.reg 1856 5 spec_l14All.r6) (.block 0 (.loop spec_l14All.b0))) (.seq (.reg 4544 2 spec_l14All.r15) (.ret)))))) }
attribute [go_sem] spec_l14All.r0 spec_l14All.r1 spec_l14All.r2 spec_l14All.r3 spec_l14All.r4 spec_l14All.r5 spec_l14All.r6 spec_l14All.r7 spec_l14All.r8 spec_l14All.r9 spec_l14All.r10 spec_l14All.r11 spec_l14All.r12 spec_l14All.r13 spec_l14All.r14 spec_l14All.r15
theorem spec_l14All.ok : chkF prog F_spec_l14All 3 spec_l14All.fi = true := by kernel_rfl

/-! spec_WaysThrough -/
def spec_WaysThrough.r0 : List Ent := [
  E0 0 (some 2) none (.i (.mv (.k (.nil 2)))),
  E0 1 (some 3) none (.i (.mv (.k (.dat none (.bool false)))))]
def spec_WaysThrough.r1 : List Ent := [
  E0 0 (some 5) none (.i (.mv (.t 0))),
  E0 1 (some 6) none (.call F_spec_GoodProgram false (roA [.t 5])),
  E0 2 (some 7) none (.i (.un .not (.t 6)))]
def spec_WaysThrough.r2 : List Ent := [
  E0 0 (some 2) none (.i (.mv (.k (.nil 2)))),
  E0 1 (some 3) none (.i (.mv (.k (.dat none (.bool false)))))]
def spec_WaysThrough.r3 : List Ent := [
  E0 0 (some 8) none (.i (.mv (.t 0))),
  E0 1 (some 9) none (.i (.bsl false 1 [.k (I64 0)])),
  E0 2 (some 10) none (.i (.bld [.t 9, .k (.nil 1)])),
  E0 3 (some 11) none (.call F_spec_l14All false [(.ro, .t 8), (.ro, .t 10), (.co, .k (.nil 2))]),
  E0 4 (some 4) none (.i (.mv (.t 11)))]
def spec_WaysThrough.r4 : List Ent := [
  E0 0 (some 12) none (.i (.mv (.t 4))),
  E0 1 (some 13) none (.i (.len (.t 12))),
  E0 2 (some 14) none (.i (.bin .gtr (.t 13) (.k (I64 64))))]
def spec_WaysThrough.r5 : List Ent := [
  E0 0 (some 2) none (.i (.mv (.k (.nil 2)))),
  E0 1 (some 3) none (.i (.mv (.k (.dat none (.bool false)))))]
def spec_WaysThrough.r6 : List Ent := [
  E0 0 (some 15) none (.i (.mv (.t 4))),
  E0 1 (some 2) none (.i (.mv (.t 15))),
  E0 2 (some 3) none (.i (.mv (.k (.dat none (.bool true)))))]
def spec_WaysThrough.fi : FI := { res := [.t 2, .t 3], code := .seq (.reg 64 2 spec_WaysThrough.r0) (.seq (.seq (.reg 192 3 spec_WaysThrough.r1) (.cond (.t 7) (.seq (.reg 384 2 spec_WaysThrough.r2) (.ret)) (.skip))) (.seq (.reg 512 5 spec_WaysThrough.r3) (.seq (.seq (.reg 832 3 spec_WaysThrough.r4) (.cond (.t 14) (.seq (.reg 1024 2 spec_WaysThrough.r5) (.ret)) (.skip))) (.seq (.reg 1152 3 spec_WaysThrough.r6) (.ret))))) }
attribute [go_sem] spec_WaysThrough.r0 spec_WaysThrough.r1 spec_WaysThrough.r2 spec_WaysThrough.r3 spec_WaysThrough.r4 spec_WaysThrough.r5 spec_WaysThrough.r6
theorem spec_WaysThrough.ok : chkF prog F_spec_WaysThrough 1 spec_WaysThrough.fi = true := by kernel_rfl

/-! slices_Clone__sint_int -/
def slices_Clone__sint_int.r0 : List Ent := [
  E0 0 (some 2) none (.i (.mv (.k (.nil 1))))]
def slices_Clone__sint_int.r1 : List Ent := [
  E0 0 (some 3) none (.i (.mv (.t 0))),
  E0 1 (some 4) none (.i (.eqnil false (.t 3)))]
def slices_Clone__sint_int.r2 : List Ent := [
  E0 0 (some 2) none (.i (.mv (.k (.nil 1))))]
def slices_Clone__sint_int.r3 : List Ent := [
  E0 0 (some 5) none (.i (.bsl false 1 [])),
  E0 1 (some 6) none (.i (.mv (.t 0))),
  E0 2 (some 7) none (.i (.app 1 8 (.t 5) (.t 6))),
  E0 3 (some 2) none (.i (.mv (.t 7)))]
def slices_Clone__sint_int.fi : FI := { res := [.t 2], code := .seq (.reg 64 1 slices_Clone__sint_int.r0) (.seq (.seq (.reg 128 2 slices_Clone__sint_int.r1) (.cond (.t 4) (.seq (.reg 256 1 slices_Clone__sint_int.r2) (.ret)) (.skip))) (.seq (.reg 320 4 slices_Clone__sint_int.r3) (.ret))) }
attribute [go_sem] slices_Clone__sint_int.r0 slices_Clone__sint_int.r1 slices_Clone__sint_int.r2 slices_Clone__sint_int.r3
theorem slices_Clone__sint_int.ok : chkF prog F_slices_Clone__sint_int 1 slices_Clone__sint_int.fi = true := by kernel_rfl

/-! slices_Clone__sbool_bool -/
def slices_Clone__sbool_bool.r0 : List Ent := [
  E0 0 (some 2) none (.i (.mv (.k (.nil 1))))]
def slices_Clone__sbool_bool.r1 : List Ent := [
  E0 0 (some 3) none (.i (.mv (.t 0))),
  E0 1 (some 4) none (.i (.eqnil false (.t 3)))]
def slices_Clone__sbool_bool.r2 : List Ent := [
  E0 0 (some 2) none (.i (.mv (.k (.nil 1))))]
def slices_Clone__sbool_bool.r3 : List Ent := [
  E0 0 (some 5) none (.i (.bsl false 1 [])),
  E0 1 (some 6) none (.i (.mv (.t 0))),
  E0 2 (some 7) none (.i (.app 1 1 (.t 5) (.t 6))),
  E0 3 (some 2) none (.i (.mv (.t 7)))]
def slices_Clone__sbool_bool.fi : FI := { res := [.t 2], code := .seq (.reg 64 1 slices_Clone__sbool_bool.r0) (.seq (.seq (.reg 128 2 slices_Clone__sbool_bool.r1) (.cond (.t 4) (.seq (.reg 256 1 slices_Clone__sbool_bool.r2) (.ret)) (.skip))) (.seq (.reg 320 4 slices_Clone__sbool_bool.r3) (.ret))) }
attribute [go_sem] slices_Clone__sbool_bool.r0 slices_Clone__sbool_bool.r1 slices_Clone__sbool_bool.r2 slices_Clone__sbool_bool.r3
theorem slices_Clone__sbool_bool.ok : chkF prog F_slices_Clone__sbool_bool 1 slices_Clone__sbool_bool.fi = true := by kernel_rfl

/-! impl_ways -/
def impl_ways.r0 : List Ent := [
  E0 0 (some 4) none (.i (.box (.t 1))),
  E0 1 (some 6) none (.i (.mv (.k (.dat none (.bool false)))))]
def impl_ways.r1 : List Ent := [
  E0 0 (some 12) none (.i (.fad 0 (.t 4))),
  E0 1 (some 13) none (.i (.load false false 1 (.t 12))),
  E0 2 (some 14) none (.i (.fad 0 (.t 4))),
  E0 3 (some 15) none (.i (.load false false 1 (.t 14))),
  E0 4 (some 16) none (.i (.len (.t 15))),
  E0 5 (some 17) none (.i (.bin .sub (.t 16) (.k (I64 1)))),
  E0 6 (some 18) none (.i (.iad 1 (.t 13) (.t 17))),
  E0 7 (some 19) none (.i (.load false false 1 (.t 18))),
  E0 8 (some 7) none (.i (.mv (.t 19)))]
def impl_ways.r2 : List Ent := [
  E0 0 (some 20) none (.i (.mv (.t 0))),
  E0 1 (some 21) none (.i (.mv (.t 7))),
  E0 2 (some 22) none (.call F_impl_nexts false (roA [.t 20, .t 21])),
  E0 3 (some 8) none (.i (.mv (.t 22)))]
def impl_ways.r3 : List Ent := [
  E0 0 (some 23) none (.i (.mv (.t 8))),
  E0 1 (some 24) none (.i (.len (.t 23))),
  E0 2 (some 25) none (.i (.bin .eql (.t 24) (.k (I64 0))))]
def impl_ways.r4 : List Ent := [
  E0 0 (some 26) none (.i (.mv (.t 2))),
  E0 1 (some 27) none (.i (.mv (.t 2))),
  E0 2 (some 28) none (.i (.nck (.t 27))),
  ER 4 (some 30) none (.load false true 2 (.t 4)),
  EP 5 (some 31) none (.i (.bsl false 2 [.t 30])) 0 true,
  EX 3 (some 29) none (.i (.load false false 1 (.t 28))) 2 [] [5] false,
  E0 6 (some 32) none (.i (.app 2 48 (.t 29) (.t 31))),
  E0 7 (some 33) none (.i (.nck (.t 26))),
  E0 8 none none (.i (.store 1 (.t 33) (.t 32)))]
def impl_ways.r5 : List Ent := [
  E0 0 (some 34) none (.i (.mv (.t 2))),
  E0 1 (some 35) none (.i (.nck (.t 34))),
  E0 2 (some 36) none (.i (.load false false 1 (.t 35))),
  E0 3 (some 37) none (.i (.len (.t 36))),
  E0 4 (some 38) none (.i (.bin .leq (.t 37) (.k (I64 64)))),
  E0 5 (some 6) none (.i (.mv (.t 38)))]
def impl_ways.r6 : List Ent := [
  E0 0 (some 39) none (.i (.mv (.t 8))),
  E0 1 (some 40) none (.i (.len (.t 39))),
  E0 2 (some 41) none (.i (.mv (.k (I64 0))))]
def impl_ways.r7 : List Ent := [
  E0 0 (some 42) none (.i (.bin .lss (.t 41) (.t 40)))]
def impl_ways.r8 : List Ent := [
  E0 0 (some 43) none (.i (.mv (.t 41))),
  E0 1 (some 44) none (.i (.iad 1 (.t 39) (.t 41))),
  E0 2 (some 45) none (.i (.load false false 1 (.t 44))),
  E0 3 (some 9) none (.i (.mv (.t 43))),
  E0 4 (some 10) none (.i (.mv (.t 45)))]
def impl_ways.r9 : List Ent := [
  EX 0 (some 46) none (.i (.fad 0 (.t 4))) 2 [4, 10] [] false,
  EX 1 (some 47) none (.i (.load false false 1 (.t 46))) 2 [4, 10] [] false,
  EX 2 (some 48) none (.call F_slices_Clone__sint_int false (roA [.t 47])) 1 [4, 10] [] false,
  E0 3 (some 49) none (.i (.mv (.t 10))),
  EX 4 (some 50) none (.i (.bsl true 1 [.t 49])) 1 [2, 10] [] false,
  EX 5 (some 51) none (.i (.app 1 8 (.t 48) (.t 50))) 0 [10] [] true,
  EX 6 (some 52) none (.i (.fad 1 (.t 4))) 2 [2, 4, 10] [5] false,
  EX 7 (some 53) none (.i (.load false false 1 (.t 52))) 2 [2, 4, 10] [5] false,
  EX 8 (some 54) none (.call F_slices_Clone__sbool_bool false (roA [.t 53])) 1 [10] [] false,
  EX 9 (some 55) none (.i (.bld [.t 51, .t 54])) 2 [10] [] false,
  EX 10 (some 11) none (.i (.box (.k (.agg [.nil 1, .nil 1])))) 1 [2, 4, 8] [5] false,
  E0 11 none none (.i (.store 2 (.t 11) (.t 55)))]
def impl_ways.r10 : List Ent := [
  E0 0 (some 56) none (.i (.mv (.t 0))),
  E0 1 (some 57) none (.i (.mv (.t 7))),
  E0 2 (some 58) none (.i (.iad 6 (.t 56) (.t 57))),
  E0 3 (some 59) none (.i (.load false true 6 (.t 58))),
  E0 4 (some 60) none (.call F_impl_Step_branches false (roA [.t 59]))]
def impl_ways.r11 : List Ent := [
  E0 0 (some 61) none (.i (.fad 1 (.t 11))),
  E0 1 (some 62) none (.i (.load false false 1 (.t 61))),
  E0 2 (some 63) none (.i (.mv (.t 9))),
  E0 3 (some 64) none (.i (.bin .eql (.t 63) (.k (I64 1)))),
  E0 4 (some 65) none (.i (.bsl true 1 [.t 64])),
  E0 5 (some 66) none (.i (.app 1 1 (.t 62) (.t 65))),
  E0 6 (some 67) none (.i (.fad 1 (.t 11))),
  E0 7 none none (.i (.store 1 (.t 67) (.t 66)))]
def impl_ways.r12 : List Ent := [
  E0 0 (some 68) none (.i (.mv (.t 0))),
  E0 1 (some 69) none (.i (.load false true 2 (.t 11))),
  E0 2 (some 70) none (.i (.mv (.t 2))),
  E0 3 (some 71) none (.call F_impl_ways false [(.ro, .t 68), (.co, .t 69), (.io, .t 70)]),
  E0 4 (some 72) none (.i (.un .not (.t 71)))]
def impl_ways.r13 : List Ent := [
  E0 0 (some 6) none (.i (.mv (.k (.dat none (.bool false)))))]
def impl_ways.r14 : List Ent := [
  E0 0 (some 73) none (.i (.bin .add (.t 41) (.k (I64 1)))),
  E0 1 (some 41) none (.i (.mv (.t 73)))]
def impl_ways.b0 : KC := .seq (.reg 2368 1 impl_ways.r7) (.seq (.cond (.t 42) (.skip) (.exit 0)) (.seq (.block 1 (.seq (.reg 2432 5 impl_ways.r8) (.seq (.reg 2752 12 impl_ways.r9) (.seq (.seq (.reg 3520 5 impl_ways.r10) (.cond (.t 60) (.reg 3840 8 impl_ways.r11) (.skip))) (.seq (.reg 4352 5 impl_ways.r12) (.cond (.t 72) (.seq (.reg 4672 1 impl_ways.r13) (.ret)) (.skip))))))) (.reg 4736 2 impl_ways.r14)))
def impl_ways.r15 : List Ent := [
  E0 0 (some 6) none (.i (.mv (.k (.dat none (.bool true)))))]
def impl_ways.fi : FI := { res := [.t 6], code := .seq (.reg 64 2 impl_ways.r0) (.seq (.reg 192 9 impl_ways.r1) (.seq (.reg 768 4 impl_ways.r2) (.seq (.seq (.reg 1024 3 impl_ways.r3) (.cond (.t 25) (.seq (.reg 1216 9 impl_ways.r4) (.seq (.reg 1792 6 impl_ways.r5) (.ret))) (.skip))) (.seq (.seq (.reg 2176 3 impl_ways.r6) (.block 0 (.loop impl_ways.b0))) (.seq (.reg 4864 1 impl_ways.r15) (.ret)))))) }
attribute [go_sem] impl_ways.r0 impl_ways.r1 impl_ways.r2 impl_ways.r3 impl_ways.r4 impl_ways.r5 impl_ways.r6 impl_ways.r7 impl_ways.r8 impl_ways.r9 impl_ways.r10 impl_ways.r11 impl_ways.r12 impl_ways.r13 impl_ways.r14 impl_ways.r15
theorem impl_ways.ok : chkF prog F_impl_ways 3 impl_ways.fi = true := by kernel_rfl

/-! impl_WaysThrough -/
def impl_WaysThrough.r0 : List Ent := [
  E0 0 (some 2) none (.i (.mv (.k (.nil 2)))),
  E0 1 (some 3) none (.i (.mv (.k (.dat none (.bool false)))))]
def impl_WaysThrough.r1 : List Ent := [
  E0 0 (some 5) none (.i (.mv (.t 0))),
  E0 1 (some 6) none (.call F_impl_GoodProgram false (roA [.t 5])),
  E0 2 (some 7) none (.i (.un .not (.t 6)))]
def impl_WaysThrough.r2 : List Ent := [
  E0 0 (some 2) none (.i (.mv (.k (.nil 2)))),
  E0 1 (some 3) none (.i (.mv (.k (.dat none (.bool false)))))]
def impl_WaysThrough.r3 : List Ent := [
  E0 0 (some 4) none (.i (.box (.k (.nil 2))))]
def impl_WaysThrough.r4 : List Ent := [
  E0 0 (some 8) none (.i (.mv (.t 0))),
  E0 1 (some 9) none (.i (.bsl false 1 [.k (I64 0)])),
  E0 2 (some 10) none (.i (.bld [.t 9, .k (.nil 1)])),
  E0 3 (some 11) none (.call F_impl_ways false [(.ro, .t 8), (.co, .t 10), (.io, .t 4)]),
  E0 4 (some 12) none (.i (.un .not (.t 11)))]
def impl_WaysThrough.r5 : List Ent := [
  E0 0 (some 2) none (.i (.mv (.k (.nil 2)))),
  E0 1 (some 3) none (.i (.mv (.k (.dat none (.bool false)))))]
def impl_WaysThrough.r6 : List Ent := [
  E0 0 (some 13) none (.i (.load false false 1 (.t 4))),
  E0 1 (some 2) none (.i (.mv (.t 13))),
  E0 2 (some 3) none (.i (.mv (.k (.dat none (.bool true)))))]
def impl_WaysThrough.fi : FI := { res := [.t 2, .t 3], code := .seq (.reg 64 2 impl_WaysThrough.r0) (.seq (.seq (.reg 192 3 impl_WaysThrough.r1) (.cond (.t 7) (.seq (.reg 384 2 impl_WaysThrough.r2) (.ret)) (.skip))) (.seq (.reg 512 1 impl_WaysThrough.r3) (.seq (.seq (.reg 576 5 impl_WaysThrough.r4) (.cond (.t 12) (.seq (.reg 896 2 impl_WaysThrough.r5) (.ret)) (.skip))) (.seq (.reg 1024 3 impl_WaysThrough.r6) (.ret))))) }
attribute [go_sem] impl_WaysThrough.r0 impl_WaysThrough.r1 impl_WaysThrough.r2 impl_WaysThrough.r3 impl_WaysThrough.r4 impl_WaysThrough.r5 impl_WaysThrough.r6
theorem impl_WaysThrough.ok : chkF prog F_impl_WaysThrough 1 impl_WaysThrough.fi = true := by kernel_rfl

/-! laws_eqWayS -/
def laws_eqWayS.r0 : List Ent := [
  E0 0 (some 4) none (.i (.mv (.k (.dat none (.bool false)))))]
def laws_eqWayS.r1 : List Ent := [
  E0 0 (some 6) none (.i (.mv (.t 0))),
  E0 1 (some 7) none (.i (.len (.t 6))),
  E0 2 (some 8) none (.i (.mv (.t 1))),
  E0 3 (some 9) none (.i (.len (.t 8))),
  E0 4 (some 10) none (.i (.bin .neq (.t 7) (.t 9)))]
def laws_eqWayS.r2 : List Ent := [
  E0 0 (some 4) none (.i (.mv (.k (.dat none (.bool false)))))]
def laws_eqWayS.r3 : List Ent := [
  E0 0 (some 5) none (.i (.mv (.k (I64 0))))]
def laws_eqWayS.r4 : List Ent := [
  E0 0 (some 11) none (.i (.mv (.t 5))),
  E0 1 (some 12) none (.i (.mv (.t 0))),
  E0 2 (some 13) none (.i (.len (.t 12))),
  E0 3 (some 14) none (.i (.bin .lss (.t 11) (.t 13)))]
def laws_eqWayS.r5 : List Ent := [
  E0 0 (some 17) none (.i (.mv (.t 0))),
  E0 1 (some 18) none (.i (.mv (.t 5))),
  ER 2 (some 19) none (.iad 2 (.t 17) (.t 18)),
  ER 3 (some 20) none (.load false true 2 (.t 19)),
  E0 4 (some 21) none (.i (.mv (.t 1))),
  E0 5 (some 22) none (.i (.mv (.t 5))),
  ER 6 (some 23) none (.iad 2 (.t 21) (.t 22)),
  ER 7 (some 24) none (.load false true 2 (.t 23)),
  E0 8 (some 25) none (.call F_laws_eqWay false (roA [.t 20, .t 24])),
  E0 9 (some 26) none (.i (.un .not (.t 25)))]
def laws_eqWayS.r6 : List Ent := [
  E0 0 (some 4) none (.i (.mv (.k (.dat none (.bool false)))))]
def laws_eqWayS.r7 : List Ent := [
  E0 0 (some 15) none (.i (.mv (.t 5))),
  E0 1 (some 16) none (.i (.bin .add (.t 15) (.k (I64 1)))),
  E0 2 (some 5) none (.i (.mv (.t 16)))]
def laws_eqWayS.b0 : KC := .seq (.seq (.reg 576 4 laws_eqWayS.r4) (.cond (.t 14) (.skip) (.exit 0))) (.seq (.block 1 (.seq (.reg 832 10 laws_eqWayS.r5) (.cond (.t 26) (.seq (.reg 1472 1 laws_eqWayS.r6) (.ret)) (.skip)))) (.reg 1536 3 laws_eqWayS.r7))
def laws_eqWayS.r8 : List Ent := [
  E0 0 (some 4) none (.i (.mv (.k (.dat none (.bool true)))))]
def laws_eqWayS.fi : FI := { res := [.t 4], code := .seq (.reg 64 1 laws_eqWayS.r0) (.seq (.seq (.reg 128 5 laws_eqWayS.r1) (.cond (.t 10) (.seq (.reg 448 1 laws_eqWayS.r2) (.ret)) (.skip))) (.seq (.seq (.reg 512 1 laws_eqWayS.r3) (.block 0 (.loop laws_eqWayS.b0))) (.seq (.reg 1728 1 laws_eqWayS.r8) (.ret)))) }
attribute [go_sem] laws_eqWayS.r0 laws_eqWayS.r1 laws_eqWayS.r2 laws_eqWayS.r3 laws_eqWayS.r4 laws_eqWayS.r5 laws_eqWayS.r6 laws_eqWayS.r7 laws_eqWayS.r8
theorem laws_eqWayS.ok : chkF prog F_laws_eqWayS 2 laws_eqWayS.fi = true := by kernel_rfl

/-! laws_markStepS -/
def laws_markStepS.r0 : List Ent := [
  E0 0 (some 4) none (.i (.mv (.k (I64 0))))]
def laws_markStepS.r1 : List Ent := [
  E0 0 (some 5) none (.i (.mv (.k (I64 0))))]
def laws_markStepS.r2 : List Ent := [
  E0 0 (some 6) none (.i (.mv (.t 5))),
  E0 1 (some 7) none (.i (.mv (.t 0))),
  E0 2 (some 8) none (.i (.len (.t 7))),
  E0 3 (some 9) none (.i (.bin .lss (.t 6) (.t 8)))]
def laws_markStepS.r3 : List Ent := [
  E0 0 (some 12) none (.i (.mv (.t 0))),
  E0 1 (some 13) none (.i (.mv (.t 5))),
  E0 2 (some 14) none (.i (.mv (.t 1))),
  E0 3 (some 15) none (.i (.iad 6 (.t 12) (.t 13))),
  E0 4 (some 16) none (.i (.fad 0 (.t 15))),
  E0 5 none none (.i (.store 1 (.t 16) (.t 14)))]
def laws_markStepS.r4 : List Ent := [
  E0 0 (some 17) none (.i (.mv (.t 1))),
  E0 1 (some 18) none (.i (.bin .add (.t 17) (.k (I64 1)))),
  E0 2 (some 1) none (.i (.mv (.t 18)))]
def laws_markStepS.r5 : List Ent := [
  E0 0 (some 19) none (.i (.mv (.t 0))),
  E0 1 (some 20) none (.i (.mv (.t 5))),
  E0 2 (some 21) none (.i (.mv (.t 1))),
  E0 3 (some 22) none (.i (.iad 6 (.t 19) (.t 20))),
  E0 4 (some 23) none (.i (.fad 1 (.t 22))),
  E0 5 none none (.i (.store 1 (.t 23) (.t 21)))]
def laws_markStepS.r6 : List Ent := [
  E0 0 (some 24) none (.i (.mv (.t 1))),
  E0 1 (some 25) none (.i (.bin .add (.t 24) (.k (I64 1)))),
  E0 2 (some 1) none (.i (.mv (.t 25)))]
def laws_markStepS.r7 : List Ent := [
  E0 0 (some 26) none (.i (.mv (.t 0))),
  E0 1 (some 27) none (.i (.mv (.t 5))),
  E0 2 (some 28) none (.i (.mv (.t 1))),
  E0 3 (some 29) none (.i (.iad 6 (.t 26) (.t 27))),
  E0 4 (some 30) none (.i (.fad 2 (.t 29))),
  E0 5 none none (.i (.store 1 (.t 30) (.t 28)))]
def laws_markStepS.r8 : List Ent := [
  E0 0 (some 31) none (.i (.mv (.t 1))),
  E0 1 (some 32) none (.i (.bin .add (.t 31) (.k (I64 1)))),
  E0 2 (some 1) none (.i (.mv (.t 32)))]
def laws_markStepS.r9 : List Ent := [
  E0 0 (some 33) none (.i (.mv (.t 0))),
  E0 1 (some 34) none (.i (.mv (.t 5))),
  E0 2 (some 35) none (.i (.mv (.t 1))),
  E0 3 (some 36) none (.i (.iad 6 (.t 33) (.t 34))),
  E0 4 (some 37) none (.i (.fad 3 (.t 36))),
  E0 5 none none (.i (.store 1 (.t 37) (.t 35)))]
def laws_markStepS.r10 : List Ent := [
  E0 0 (some 38) none (.i (.mv (.t 1))),
  E0 1 (some 39) none (.i (.bin .add (.t 38) (.k (I64 1)))),
  E0 2 (some 1) none (.i (.mv (.t 39)))]
def laws_markStepS.r11 : List Ent := [
  E0 0 (some 40) none (.i (.mv (.t 0))),
  E0 1 (some 41) none (.i (.mv (.t 5))),
  E0 2 (some 42) none (.i (.mv (.t 1))),
  E0 3 (some 43) none (.i (.iad 6 (.t 40) (.t 41))),
  E0 4 (some 44) none (.i (.fad 4 (.t 43))),
  E0 5 none none (.i (.store 1 (.t 44) (.t 42)))]
def laws_markStepS.r12 : List Ent := [
  E0 0 (some 45) none (.i (.mv (.t 1))),
  E0 1 (some 46) none (.i (.bin .add (.t 45) (.k (I64 1)))),
  E0 2 (some 1) none (.i (.mv (.t 46)))]
def laws_markStepS.r13 : List Ent := [
  E0 0 (some 47) none (.i (.mv (.t 0))),
  E0 1 (some 48) none (.i (.mv (.t 5))),
  E0 2 (some 49) none (.i (.mv (.t 1))),
  E0 3 (some 50) none (.i (.iad 6 (.t 47) (.t 48))),
  E0 4 (some 51) none (.i (.fad 5 (.t 50))),
  E0 5 none none (.i (.store 1 (.t 51) (.t 49)))]
def laws_markStepS.r14 : List Ent := [
  E0 0 (some 52) none (.i (.mv (.t 1))),
  E0 1 (some 53) none (.i (.bin .add (.t 52) (.k (I64 1)))),
  E0 2 (some 1) none (.i (.mv (.t 53)))]
def laws_markStepS.r15 : List Ent := [
  E0 0 (some 10) none (.i (.mv (.t 5))),
  E0 1 (some 11) none (.i (.bin .add (.t 10) (.k (I64 1)))),
  E0 2 (some 5) none (.i (.mv (.t 11)))]
def laws_markStepS.b0 : KC := .seq (.seq (.reg 192 4 laws_markStepS.r2) (.cond (.t 9) (.skip) (.exit 0))) (.seq (.block 1 (.seq (.reg 448 6 laws_markStepS.r3) (.seq (.reg 832 3 laws_markStepS.r4) (.seq (.reg 1024 6 laws_markStepS.r5) (.seq (.reg 1408 3 laws_markStepS.r6) (.seq (.reg 1600 6 laws_markStepS.r7) (.seq (.reg 1984 3 laws_markStepS.r8) (.seq (.reg 2176 6 laws_markStepS.r9) (.seq (.reg 2560 3 laws_markStepS.r10) (.seq (.reg 2752 6 laws_markStepS.r11) (.seq (.reg 3136 3 laws_markStepS.r12) (.seq (.reg 3328 6 laws_markStepS.r13) (.reg 3712 3 laws_markStepS.r14))))))))))))) (.reg 3904 3 laws_markStepS.r15))
def laws_markStepS.r16 : List Ent := [
  E0 0 (some 54) none (.i (.mv (.t 1))),
  E0 1 (some 4) none (.i (.mv (.t 54)))]
def laws_markStepS.fi : FI := { res := [.t 4], code := .seq (.reg 64 1 laws_markStepS.r0) (.seq (.seq (.reg 128 1 laws_markStepS.r1) (.block 0 (.loop laws_markStepS.b0))) (.seq (.reg 4096 2 laws_markStepS.r16) (.ret))) }
attribute [go_sem] laws_markStepS.r0 laws_markStepS.r1 laws_markStepS.r2 laws_markStepS.r3 laws_markStepS.r4 laws_markStepS.r5 laws_markStepS.r6 laws_markStepS.r7 laws_markStepS.r8 laws_markStepS.r9 laws_markStepS.r10 laws_markStepS.r11 laws_markStepS.r12 laws_markStepS.r13 laws_markStepS.r14 laws_markStepS.r15 laws_markStepS.r16
theorem laws_markStepS.ok : chkF prog F_laws_markStepS 2 laws_markStepS.fi = true := by kernel_rfl

/-! laws_markIntS -/
def laws_markIntS.r0 : List Ent := [
  E0 0 (some 4) none (.i (.mv (.k (I64 0))))]
def laws_markIntS.r1 : List Ent := [
  E0 0 (some 5) none (.i (.mv (.k (I64 0))))]
def laws_markIntS.r2 : List Ent := [
  E0 0 (some 6) none (.i (.mv (.t 5))),
  E0 1 (some 7) none (.i (.mv (.t 0))),
  E0 2 (some 8) none (.i (.len (.t 7))),
  E0 3 (some 9) none (.i (.bin .lss (.t 6) (.t 8)))]
def laws_markIntS.r3 : List Ent := [
  E0 0 (some 12) none (.i (.mv (.t 0))),
  E0 1 (some 13) none (.i (.mv (.t 5))),
  E0 2 (some 14) none (.i (.mv (.t 1))),
  E0 3 (some 15) none (.i (.iad 1 (.t 12) (.t 13))),
  E0 4 none none (.i (.store 1 (.t 15) (.t 14)))]
def laws_markIntS.r4 : List Ent := [
  E0 0 (some 16) none (.i (.mv (.t 1))),
  E0 1 (some 17) none (.i (.bin .add (.t 16) (.k (I64 1)))),
  E0 2 (some 1) none (.i (.mv (.t 17)))]
def laws_markIntS.r5 : List Ent := [
  E0 0 (some 10) none (.i (.mv (.t 5))),
  E0 1 (some 11) none (.i (.bin .add (.t 10) (.k (I64 1)))),
  E0 2 (some 5) none (.i (.mv (.t 11)))]
def laws_markIntS.b0 : KC := .seq (.seq (.reg 192 4 laws_markIntS.r2) (.cond (.t 9) (.skip) (.exit 0))) (.seq (.block 1 (.seq (.reg 448 5 laws_markIntS.r3) (.reg 768 3 laws_markIntS.r4))) (.reg 960 3 laws_markIntS.r5))
def laws_markIntS.r6 : List Ent := [
  E0 0 (some 18) none (.i (.mv (.t 1))),
  E0 1 (some 4) none (.i (.mv (.t 18)))]
def laws_markIntS.fi : FI := { res := [.t 4], code := .seq (.reg 64 1 laws_markIntS.r0) (.seq (.seq (.reg 128 1 laws_markIntS.r1) (.block 0 (.loop laws_markIntS.b0))) (.seq (.reg 1152 2 laws_markIntS.r6) (.ret))) }
attribute [go_sem] laws_markIntS.r0 laws_markIntS.r1 laws_markIntS.r2 laws_markIntS.r3 laws_markIntS.r4 laws_markIntS.r5 laws_markIntS.r6
theorem laws_markIntS.ok : chkF prog F_laws_markIntS 2 laws_markIntS.fi = true := by kernel_rfl

/-! laws_markBoolS -/
def laws_markBoolS.r0 : List Ent := [
  E0 0 (some 4) none (.i (.mv (.k (I64 0))))]
def laws_markBoolS.r1 : List Ent := [
  E0 0 (some 5) none (.i (.mv (.k (I64 0))))]
def laws_markBoolS.r2 : List Ent := [
  E0 0 (some 6) none (.i (.mv (.t 5))),
  E0 1 (some 7) none (.i (.mv (.t 0))),
  E0 2 (some 8) none (.i (.len (.t 7))),
  E0 3 (some 9) none (.i (.bin .lss (.t 6) (.t 8)))]
def laws_markBoolS.r3 : List Ent := [
  E0 0 (some 12) none (.i (.mv (.t 0))),
  E0 1 (some 13) none (.i (.mv (.t 5))),
  E0 2 (some 14) none (.i (.mv (.t 1))),
  E0 3 (some 15) none (.i (.bin .rem (.t 14) (.k (I64 3)))),
  E0 4 (some 16) none (.i (.bin .eql (.t 15) (.k (I64 0)))),
  E0 5 (some 17) none (.i (.iad 1 (.t 12) (.t 13))),
  E0 6 none none (.i (.store 1 (.t 17) (.t 16)))]
def laws_markBoolS.r4 : List Ent := [
  E0 0 (some 18) none (.i (.mv (.t 1))),
  E0 1 (some 19) none (.i (.bin .add (.t 18) (.k (I64 1)))),
  E0 2 (some 1) none (.i (.mv (.t 19)))]
def laws_markBoolS.r5 : List Ent := [
  E0 0 (some 10) none (.i (.mv (.t 5))),
  E0 1 (some 11) none (.i (.bin .add (.t 10) (.k (I64 1)))),
  E0 2 (some 5) none (.i (.mv (.t 11)))]
def laws_markBoolS.b0 : KC := .seq (.seq (.reg 192 4 laws_markBoolS.r2) (.cond (.t 9) (.skip) (.exit 0))) (.seq (.block 1 (.seq (.reg 448 7 laws_markBoolS.r3) (.reg 896 3 laws_markBoolS.r4))) (.reg 1088 3 laws_markBoolS.r5))
def laws_markBoolS.r6 : List Ent := [
  E0 0 (some 20) none (.i (.mv (.t 1))),
  E0 1 (some 4) none (.i (.mv (.t 20)))]
def laws_markBoolS.fi : FI := { res := [.t 4], code := .seq (.reg 64 1 laws_markBoolS.r0) (.seq (.seq (.reg 128 1 laws_markBoolS.r1) (.block 0 (.loop laws_markBoolS.b0))) (.seq (.reg 1280 2 laws_markBoolS.r6) (.ret))) }
attribute [go_sem] laws_markBoolS.r0 laws_markBoolS.r1 laws_markBoolS.r2 laws_markBoolS.r3 laws_markBoolS.r4 laws_markBoolS.r5 laws_markBoolS.r6
theorem laws_markBoolS.ok : chkF prog F_laws_markBoolS 2 laws_markBoolS.fi = true := by kernel_rfl

/-! laws_markWayS -/
def laws_markWayS.r0 : List Ent := [
  E0 0 (some 4) none (.i (.mv (.k (I64 0))))]
def laws_markWayS.r1 : List Ent := [
  E0 0 (some 5) none (.i (.mv (.k (I64 0))))]
def laws_markWayS.r2 : List Ent := [
  E0 0 (some 6) none (.i (.mv (.t 5))),
  E0 1 (some 7) none (.i (.mv (.t 0))),
  E0 2 (some 8) none (.i (.len (.t 7))),
  E0 3 (some 9) none (.i (.bin .lss (.t 6) (.t 8)))]
def laws_markWayS.r3 : List Ent := [
  E0 0 (some 12) none (.i (.mv (.t 0))),
  E0 1 (some 13) none (.i (.mv (.t 5))),
  E0 2 (some 14) none (.i (.iad 2 (.t 12) (.t 13))),
  E0 3 (some 15) none (.i (.fad 0 (.t 14))),
  E0 4 (some 16) none (.i (.load true false 1 (.t 15))),
  E0 5 (some 17) none (.i (.mv (.t 1))),
  E0 6 (some 18) none (.call F_laws_markIntS false [(.io, .t 16), (.ro, .t 17)]),
  E0 7 (some 1) none (.i (.mv (.t 18)))]
def laws_markWayS.r4 : List Ent := [
  E0 0 (some 19) none (.i (.mv (.t 0))),
  E0 1 (some 20) none (.i (.mv (.t 5))),
  E0 2 (some 21) none (.i (.iad 2 (.t 19) (.t 20))),
  E0 3 (some 22) none (.i (.fad 1 (.t 21))),
  E0 4 (some 23) none (.i (.load true false 1 (.t 22))),
  E0 5 (some 24) none (.i (.mv (.t 1))),
  E0 6 (some 25) none (.call F_laws_markBoolS false [(.io, .t 23), (.ro, .t 24)]),
  E0 7 (some 1) none (.i (.mv (.t 25)))]
def laws_markWayS.r5 : List Ent := [
  E0 0 (some 10) none (.i (.mv (.t 5))),
  E0 1 (some 11) none (.i (.bin .add (.t 10) (.k (I64 1)))),
  E0 2 (some 5) none (.i (.mv (.t 11)))]
def laws_markWayS.b0 : KC := .seq (.seq (.reg 192 4 laws_markWayS.r2) (.cond (.t 9) (.skip) (.exit 0))) (.seq (.block 1 (.seq (.reg 448 8 laws_markWayS.r3) (.reg 960 8 laws_markWayS.r4))) (.reg 1472 3 laws_markWayS.r5))
def laws_markWayS.r6 : List Ent := [
  E0 0 (some 26) none (.i (.mv (.t 1))),
  E0 1 (some 4) none (.i (.mv (.t 26)))]
def laws_markWayS.fi : FI := { res := [.t 4], code := .seq (.reg 64 1 laws_markWayS.r0) (.seq (.seq (.reg 128 1 laws_markWayS.r1) (.block 0 (.loop laws_markWayS.b0))) (.seq (.reg 1664 2 laws_markWayS.r6) (.ret))) }
attribute [go_sem] laws_markWayS.r0 laws_markWayS.r1 laws_markWayS.r2 laws_markWayS.r3 laws_markWayS.r4 laws_markWayS.r5 laws_markWayS.r6
theorem laws_markWayS.ok : chkF prog F_laws_markWayS 2 laws_markWayS.fi = true := by kernel_rfl

/-! laws_heldIntS -/
def laws_heldIntS.r0 : List Ent := [
  E0 0 (some 4) none (.i (.mv (.k (I64 0))))]
def laws_heldIntS.r1 : List Ent := [
  E0 0 (some 5) none (.i (.mv (.k (I64 0))))]
def laws_heldIntS.r2 : List Ent := [
  E0 0 (some 6) none (.i (.mv (.t 5))),
  E0 1 (some 7) none (.i (.mv (.t 0))),
  E0 2 (some 8) none (.i (.len (.t 7))),
  E0 3 (some 9) none (.i (.bin .lss (.t 6) (.t 8)))]
def laws_heldIntS.r3 : List Ent := [
  E0 0 (some 12) none (.i (.mv (.t 0))),
  E0 1 (some 13) none (.i (.mv (.t 5))),
  E0 2 (some 14) none (.i (.iad 1 (.t 12) (.t 13))),
  E0 3 (some 15) none (.i (.load false false 1 (.t 14))),
  E0 4 (some 16) none (.i (.mv (.t 1))),
  E0 5 (some 17) none (.i (.bin .neq (.t 15) (.t 16)))]
def laws_heldIntS.r4 : List Ent := [
  E0 0 (some 4) none (.i (.mv (.k (I64 (-1)))))]
def laws_heldIntS.r5 : List Ent := [
  E0 0 (some 18) none (.i (.mv (.t 1))),
  E0 1 (some 19) none (.i (.bin .add (.t 18) (.k (I64 1)))),
  E0 2 (some 1) none (.i (.mv (.t 19)))]
def laws_heldIntS.r6 : List Ent := [
  E0 0 (some 10) none (.i (.mv (.t 5))),
  E0 1 (some 11) none (.i (.bin .add (.t 10) (.k (I64 1)))),
  E0 2 (some 5) none (.i (.mv (.t 11)))]
def laws_heldIntS.b0 : KC := .seq (.seq (.reg 192 4 laws_heldIntS.r2) (.cond (.t 9) (.skip) (.exit 0))) (.seq (.block 1 (.seq (.seq (.reg 448 6 laws_heldIntS.r3) (.cond (.t 17) (.seq (.reg 832 1 laws_heldIntS.r4) (.ret)) (.skip))) (.reg 896 3 laws_heldIntS.r5))) (.reg 1088 3 laws_heldIntS.r6))
def laws_heldIntS.r7 : List Ent := [
  E0 0 (some 20) none (.i (.mv (.t 1))),
  E0 1 (some 4) none (.i (.mv (.t 20)))]
def laws_heldIntS.fi : FI := { res := [.t 4], code := .seq (.reg 64 1 laws_heldIntS.r0) (.seq (.seq (.reg 128 1 laws_heldIntS.r1) (.block 0 (.loop laws_heldIntS.b0))) (.seq (.reg 1280 2 laws_heldIntS.r7) (.ret))) }
attribute [go_sem] laws_heldIntS.r0 laws_heldIntS.r1 laws_heldIntS.r2 laws_heldIntS.r3 laws_heldIntS.r4 laws_heldIntS.r5 laws_heldIntS.r6 laws_heldIntS.r7
theorem laws_heldIntS.ok : chkF prog F_laws_heldIntS 2 laws_heldIntS.fi = true := by kernel_rfl

/-! laws_heldBoolS -/
def laws_heldBoolS.r0 : List Ent := [
  E0 0 (some 4) none (.i (.mv (.k (I64 0))))]
def laws_heldBoolS.r1 : List Ent := [
  E0 0 (some 5) none (.i (.mv (.k (I64 0))))]
def laws_heldBoolS.r2 : List Ent := [
  E0 0 (some 6) none (.i (.mv (.t 5))),
  E0 1 (some 7) none (.i (.mv (.t 0))),
  E0 2 (some 8) none (.i (.len (.t 7))),
  E0 3 (some 9) none (.i (.bin .lss (.t 6) (.t 8)))]
def laws_heldBoolS.r3 : List Ent := [
  E0 0 (some 12) none (.i (.mv (.t 0))),
  E0 1 (some 13) none (.i (.mv (.t 5))),
  E0 2 (some 14) none (.i (.iad 1 (.t 12) (.t 13))),
  E0 3 (some 15) none (.i (.load false false 1 (.t 14))),
  E0 4 (some 16) none (.i (.mv (.t 1))),
  E0 5 (some 17) none (.i (.bin .rem (.t 16) (.k (I64 3)))),
  E0 6 (some 18) none (.i (.bin .eql (.t 17) (.k (I64 0)))),
  E0 7 (some 19) none (.i (.eqb true (.t 15) (.t 18)))]
def laws_heldBoolS.r4 : List Ent := [
  E0 0 (some 4) none (.i (.mv (.k (I64 (-1)))))]
def laws_heldBoolS.r5 : List Ent := [
  E0 0 (some 20) none (.i (.mv (.t 1))),
  E0 1 (some 21) none (.i (.bin .add (.t 20) (.k (I64 1)))),
  E0 2 (some 1) none (.i (.mv (.t 21)))]
def laws_heldBoolS.r6 : List Ent := [
  E0 0 (some 10) none (.i (.mv (.t 5))),
  E0 1 (some 11) none (.i (.bin .add (.t 10) (.k (I64 1)))),
  E0 2 (some 5) none (.i (.mv (.t 11)))]
def laws_heldBoolS.b0 : KC := .seq (.seq (.reg 192 4 laws_heldBoolS.r2) (.cond (.t 9) (.skip) (.exit 0))) (.seq (.block 1 (.seq (.seq (.reg 448 8 laws_heldBoolS.r3) (.cond (.t 19) (.seq (.reg 960 1 laws_heldBoolS.r4) (.ret)) (.skip))) (.reg 1024 3 laws_heldBoolS.r5))) (.reg 1216 3 laws_heldBoolS.r6))
def laws_heldBoolS.r7 : List Ent := [
  E0 0 (some 22) none (.i (.mv (.t 1))),
  E0 1 (some 4) none (.i (.mv (.t 22)))]
def laws_heldBoolS.fi : FI := { res := [.t 4], code := .seq (.reg 64 1 laws_heldBoolS.r0) (.seq (.seq (.reg 128 1 laws_heldBoolS.r1) (.block 0 (.loop laws_heldBoolS.b0))) (.seq (.reg 1408 2 laws_heldBoolS.r7) (.ret))) }
attribute [go_sem] laws_heldBoolS.r0 laws_heldBoolS.r1 laws_heldBoolS.r2 laws_heldBoolS.r3 laws_heldBoolS.r4 laws_heldBoolS.r5 laws_heldBoolS.r6 laws_heldBoolS.r7
theorem laws_heldBoolS.ok : chkF prog F_laws_heldBoolS 2 laws_heldBoolS.fi = true := by kernel_rfl

/-! laws_heldWayS -/
def laws_heldWayS.r0 : List Ent := [
  E0 0 (some 4) none (.i (.mv (.k (I64 0))))]
def laws_heldWayS.r1 : List Ent := [
  E0 0 (some 5) none (.i (.mv (.k (I64 0))))]
def laws_heldWayS.r2 : List Ent := [
  E0 0 (some 6) none (.i (.mv (.t 5))),
  E0 1 (some 7) none (.i (.mv (.t 0))),
  E0 2 (some 8) none (.i (.len (.t 7))),
  E0 3 (some 9) none (.i (.bin .lss (.t 6) (.t 8)))]
def laws_heldWayS.r3 : List Ent := [
  E0 0 (some 12) none (.i (.mv (.t 0))),
  E0 1 (some 13) none (.i (.mv (.t 5))),
  E0 2 (some 14) none (.i (.iad 2 (.t 12) (.t 13))),
  E0 3 (some 15) none (.i (.fad 0 (.t 14))),
  E0 4 (some 16) none (.i (.load false false 1 (.t 15))),
  E0 5 (some 17) none (.i (.mv (.t 1))),
  E0 6 (some 18) none (.call F_laws_heldIntS false (roA [.t 16, .t 17])),
  E0 7 (some 1) none (.i (.mv (.t 18)))]
def laws_heldWayS.r4 : List Ent := [
  E0 0 (some 19) none (.i (.mv (.t 1))),
  E0 1 (some 20) none (.i (.bin .lss (.t 19) (.k (I64 0))))]
def laws_heldWayS.r5 : List Ent := [
  E0 0 (some 4) none (.i (.mv (.k (I64 (-1)))))]
def laws_heldWayS.r6 : List Ent := [
  E0 0 (some 21) none (.i (.mv (.t 0))),
  E0 1 (some 22) none (.i (.mv (.t 5))),
  E0 2 (some 23) none (.i (.iad 2 (.t 21) (.t 22))),
  E0 3 (some 24) none (.i (.fad 1 (.t 23))),
  E0 4 (some 25) none (.i (.load false false 1 (.t 24))),
  E0 5 (some 26) none (.i (.mv (.t 1))),
  E0 6 (some 27) none (.call F_laws_heldBoolS false (roA [.t 25, .t 26])),
  E0 7 (some 1) none (.i (.mv (.t 27)))]
def laws_heldWayS.r7 : List Ent := [
  E0 0 (some 28) none (.i (.mv (.t 1))),
  E0 1 (some 29) none (.i (.bin .lss (.t 28) (.k (I64 0))))]
def laws_heldWayS.r8 : List Ent := [
  E0 0 (some 4) none (.i (.mv (.k (I64 (-1)))))]
def laws_heldWayS.r9 : List Ent := [
  E0 0 (some 10) none (.i (.mv (.t 5))),
  E0 1 (some 11) none (.i (.bin .add (.t 10) (.k (I64 1)))),
  E0 2 (some 5) none (.i (.mv (.t 11)))]
def laws_heldWayS.b0 : KC := .seq (.seq (.reg 192 4 laws_heldWayS.r2) (.cond (.t 9) (.skip) (.exit 0))) (.seq (.block 1 (.seq (.reg 448 8 laws_heldWayS.r3) (.seq (.seq (.reg 960 2 laws_heldWayS.r4) (.cond (.t 20) (.seq (.reg 1088 1 laws_heldWayS.r5) (.ret)) (.skip))) (.seq (.reg 1152 8 laws_heldWayS.r6) (.seq (.reg 1664 2 laws_heldWayS.r7) (.cond (.t 29) (.seq (.reg 1792 1 laws_heldWayS.r8) (.ret)) (.skip))))))) (.reg 1856 3 laws_heldWayS.r9))
def laws_heldWayS.r10 : List Ent := [
  E0 0 (some 30) none (.i (.mv (.t 1))),
  E0 1 (some 4) none (.i (.mv (.t 30)))]
def laws_heldWayS.fi : FI := { res := [.t 4], code := .seq (.reg 64 1 laws_heldWayS.r0) (.seq (.seq (.reg 128 1 laws_heldWayS.r1) (.block 0 (.loop laws_heldWayS.b0))) (.seq (.reg 2048 2 laws_heldWayS.r10) (.ret))) }
attribute [go_sem] laws_heldWayS.r0 laws_heldWayS.r1 laws_heldWayS.r2 laws_heldWayS.r3 laws_heldWayS.r4 laws_heldWayS.r5 laws_heldWayS.r6 laws_heldWayS.r7 laws_heldWayS.r8 laws_heldWayS.r9 laws_heldWayS.r10
theorem laws_heldWayS.ok : chkF prog F_laws_heldWayS 2 laws_heldWayS.fi = true := by kernel_rfl

/-! laws_FnExactWaysThrough -/
def laws_FnExactWaysThrough.r0 : List Ent := [
  E0 0 (some 2) none (.i (.mv (.k (.dat none (.bool false)))))]
def laws_FnExactWaysThrough.r1 : List Ent := [
  E0 0 (some 3) none (.i (.mv (.k (I64 1048576))))]
def laws_FnExactWaysThrough.r2 : List Ent := [
  E0 0 (some 14) none (.i (.mv (.t 0))),
  E0 1 (some 15) none (.i (.mv (.t 3))),
  E0 2 (some 16) none (.call F_laws_szStepS false (roA [.t 14, .t 15])),
  E0 3 (some 3) none (.i (.mv (.t 16)))]
def laws_FnExactWaysThrough.r3 : List Ent := [
  E0 0 (some 17) none (.i (.mv (.t 3))),
  E0 1 (some 18) none (.i (.bin .lss (.t 17) (.k (I64 0))))]
def laws_FnExactWaysThrough.r4 : List Ent := [
  E0 0 (some 2) none (.i (.mv (.k (.dat none (.bool true)))))]
def laws_FnExactWaysThrough.r5 : List Ent := [
  E0 0 (some 20) none (.i (.mv (.t 0))),
  E0 1 (some 21) none (.call F_laws_toStepS false (roA [.t 20])),
  E0 2 (some 22) none (.call F_spec_WaysThrough false (roA [.t 21])),
  E0 3 (some 19) none (.i (.mv (.t 22))),
  E0 4 (some 23) none (.i (.ext 0 (.t 19))),
  E0 5 (some 24) none (.i (.ext 1 (.t 19))),
  E0 6 (some 4) none (.i (.mv (.t 23))),
  E0 7 (some 5) none (.i (.mv (.t 24)))]
def laws_FnExactWaysThrough.r6 : List Ent := [
  E0 0 (some 25) none (.i (.mv (.t 0))),
  E0 1 (some 26) none (.call F_laws_toStepS false (roA [.t 25])),
  E0 2 (some 6) none (.i (.mv (.t 26)))]
def laws_FnExactWaysThrough.r7 : List Ent := [
  E0 0 (some 28) none (.i (.mv (.t 6))),
  E0 1 (some 29) none (.call F_impl_WaysThrough false (roA [.t 28])),
  E0 2 (some 27) none (.i (.mv (.t 29))),
  E0 3 (some 30) none (.i (.ext 0 (.t 27))),
  E0 4 (some 31) none (.i (.ext 1 (.t 27))),
  E0 5 (some 7) none (.i (.mv (.t 30))),
  E0 6 (some 8) none (.i (.mv (.t 31)))]
def laws_FnExactWaysThrough.r8 : List Ent := [
  E0 0 (some 32) none (.i (.mv (.t 7))),
  E0 1 (some 33) none (.i (.mv (.t 4))),
  E0 2 (some 34) none (.call F_laws_eqWayS false (roA [.t 32, .t 33])),
  E0 3 (some 35) none (.i (.un .not (.t 34))),
  E0 4 (some 36) none (.i (.mv (.t 35))),
  E0 5 (some 37) (some (36, false)) (.i (.mv (.t 8))),
  E0 6 (some 38) (some (36, false)) (.i (.mv (.t 5))),
  E0 7 (some 39) (some (36, false)) (.i (.eqb true (.t 37) (.t 38))),
  E0 8 (some 40) none (.i (.pick (.t 36) (.k (.dat none (.bool true))) (.t 39)))]
def laws_FnExactWaysThrough.r9 : List Ent := [
  E0 0 (some 2) none (.i (.mv (.k (.dat none (.bool false)))))]
def laws_FnExactWaysThrough.r10 : List Ent := [
  E0 0 (some 41) none (.i (.mv (.t 6))),
  E0 1 (some 42) none (.i (.mv (.t 0))),
  E0 2 (some 43) none (.call F_laws_toStepS false (roA [.t 42])),
  E0 3 (some 44) none (.call F_laws_eqStepS false (roA [.t 41, .t 43])),
  E0 4 (some 45) none (.i (.un .not (.t 44)))]
def laws_FnExactWaysThrough.r11 : List Ent := [
  E0 0 (some 2) none (.i (.mv (.k (.dat none (.bool false)))))]
def laws_FnExactWaysThrough.r12 : List Ent := [
  E0 0 (some 9) none (.i (.mv (.k (I64 1))))]
def laws_FnExactWaysThrough.r13 : List Ent := [
  E0 0 (some 46) none (.i (.mv (.t 6))),
  E0 1 (some 47) none (.i (.mv (.t 9))),
  E0 2 (some 48) none (.call F_laws_markStepS false [(.io, .t 46), (.ro, .t 47)]),
  E0 3 (some 9) none (.i (.mv (.t 48)))]
def laws_FnExactWaysThrough.r14 : List Ent := [
  E0 0 (some 49) none (.i (.mv (.t 9))),
  E0 1 (some 50) none (.i (.bin .lss (.t 49) (.k (I64 0)))),
  E0 2 (some 51) none (.i (.mv (.t 50))),
  E0 3 (some 52) (some (51, false)) (.i (.mv (.t 7))),
  E0 4 (some 53) (some (51, false)) (.i (.mv (.t 4))),
  E0 5 (some 54) (some (51, false)) (.call F_laws_eqWayS false (roA [.t 52, .t 53])),
  E0 6 (some 55) (some (51, false)) (.i (.un .not (.t 54))),
  E0 7 (some 56) none (.i (.pick (.t 51) (.k (.dat none (.bool true))) (.t 55))),
  E0 8 (some 57) none (.i (.mv (.t 56))),
  E0 9 (some 58) (some (57, false)) (.i (.mv (.t 8))),
  E0 10 (some 59) (some (57, false)) (.i (.mv (.t 5))),
  E0 11 (some 60) (some (57, false)) (.i (.eqb true (.t 58) (.t 59))),
  E0 12 (some 61) none (.i (.pick (.t 57) (.k (.dat none (.bool true))) (.t 60)))]
def laws_FnExactWaysThrough.r15 : List Ent := [
  E0 0 (some 2) none (.i (.mv (.k (.dat none (.bool false)))))]
def laws_FnExactWaysThrough.r16 : List Ent := [
  E0 0 (some 10) none (.i (.mv (.k (I64 1))))]
def laws_FnExactWaysThrough.r17 : List Ent := [
  E0 0 (some 62) none (.i (.mv (.t 7))),
  E0 1 (some 63) none (.i (.mv (.t 10))),
  E0 2 (some 64) none (.call F_laws_markWayS false [(.io, .t 62), (.ro, .t 63)]),
  E0 3 (some 10) none (.i (.mv (.t 64)))]
def laws_FnExactWaysThrough.r18 : List Ent := [
  E0 0 (some 11) none (.i (.mv (.k (I64 1))))]
def laws_FnExactWaysThrough.r19 : List Ent := [
  E0 0 (some 65) none (.i (.mv (.t 7))),
  E0 1 (some 66) none (.i (.mv (.t 11))),
  E0 2 (some 67) none (.call F_laws_heldWayS false (roA [.t 65, .t 66])),
  E0 3 (some 11) none (.i (.mv (.t 67)))]
def laws_FnExactWaysThrough.r20 : List Ent := [
  E0 0 (some 68) none (.i (.mv (.t 11))),
  E0 1 (some 69) none (.i (.bin .lss (.t 68) (.k (I64 0))))]
def laws_FnExactWaysThrough.r21 : List Ent := [
  E0 0 (some 2) none (.i (.mv (.k (.dat none (.bool false)))))]
def laws_FnExactWaysThrough.r22 : List Ent := [
  E0 0 (some 70) none (.i (.mv (.t 11))),
  E0 1 (some 71) none (.i (.mv (.t 10))),
  E0 2 (some 72) none (.i (.bin .neq (.t 70) (.t 71)))]
def laws_FnExactWaysThrough.r23 : List Ent := [
  E0 0 (some 2) none (.i (.mv (.k (.dat none (.bool false)))))]
def laws_FnExactWaysThrough.r24 : List Ent := [
  E0 0 (some 74) none (.i (.mv (.t 0))),
  E0 1 (some 75) none (.call F_laws_toStepS false (roA [.t 74])),
  E0 2 (some 76) none (.call F_impl_WaysThrough false (roA [.t 75])),
  E0 3 (some 73) none (.i (.mv (.t 76))),
  E0 4 (some 77) none (.i (.ext 0 (.t 73))),
  E0 5 (some 78) none (.i (.ext 1 (.t 73))),
  E0 6 (some 12) none (.i (.mv (.t 77))),
  E0 7 (some 13) none (.i (.mv (.t 78)))]
def laws_FnExactWaysThrough.r25 : List Ent := [
  E0 0 (some 79) none (.i (.mv (.t 12))),
  E0 1 (some 80) none (.i (.mv (.t 4))),
  E0 2 (some 81) none (.call F_laws_eqWayS false (roA [.t 79, .t 80])),
  E0 3 (some 82) none (.i (.un .not (.t 81))),
  E0 4 (some 83) none (.i (.mv (.t 82))),
  E0 5 (some 84) (some (83, false)) (.i (.mv (.t 13))),
  E0 6 (some 85) (some (83, false)) (.i (.mv (.t 5))),
  E0 7 (some 86) (some (83, false)) (.i (.eqb true (.t 84) (.t 85))),
  E0 8 (some 87) none (.i (.pick (.t 83) (.k (.dat none (.bool true))) (.t 86)))]
def laws_FnExactWaysThrough.r26 : List Ent := [
  E0 0 (some 2) none (.i (.mv (.k (.dat none (.bool false)))))]
def laws_FnExactWaysThrough.r27 : List Ent := [
  E0 0 (some 11) none (.i (.mv (.k (I64 1))))]
def laws_FnExactWaysThrough.r28 : List Ent := [
  E0 0 (some 88) none (.i (.mv (.t 7))),
  E0 1 (some 89) none (.i (.mv (.t 11))),
  E0 2 (some 90) none (.call F_laws_heldWayS false (roA [.t 88, .t 89])),
  E0 3 (some 11) none (.i (.mv (.t 90)))]
def laws_FnExactWaysThrough.r29 : List Ent := [
  E0 0 (some 91) none (.i (.mv (.t 11))),
  E0 1 (some 92) none (.i (.bin .lss (.t 91) (.k (I64 0))))]
def laws_FnExactWaysThrough.r30 : List Ent := [
  E0 0 (some 2) none (.i (.mv (.k (.dat none (.bool false)))))]
def laws_FnExactWaysThrough.r31 : List Ent := [
  E0 0 (some 93) none (.i (.mv (.t 11))),
  E0 1 (some 94) none (.i (.mv (.t 10))),
  E0 2 (some 95) none (.i (.bin .neq (.t 93) (.t 94)))]
def laws_FnExactWaysThrough.r32 : List Ent := [
  E0 0 (some 2) none (.i (.mv (.k (.dat none (.bool false)))))]
def laws_FnExactWaysThrough.r33 : List Ent := [
  E0 0 (some 2) none (.i (.mv (.k (.dat none (.bool true)))))]
def laws_FnExactWaysThrough.fi : FI := { res := [.t 2], code := .seq (.reg 64 1 laws_FnExactWaysThrough.r0) (.seq (.reg 128 1 laws_FnExactWaysThrough.r1) (.seq (.reg 192 4 laws_FnExactWaysThrough.r2) (.seq (.seq (.reg 448 2 laws_FnExactWaysThrough.r3) (.cond (.t 18) (.seq (.reg 576 1 laws_FnExactWaysThrough.r4) (.ret)) (.skip))) (.seq (.reg 640 8 laws_FnExactWaysThrough.r5) (.seq (.reg 1152 3 laws_FnExactWaysThrough.r6) (.seq (.reg 1344 7 laws_FnExactWaysThrough.r7) (.seq (.seq (.reg 1792 9 laws_FnExactWaysThrough.r8) (.cond (.t 40) (.seq (.reg 2368 1 laws_FnExactWaysThrough.r9) (.ret)) (.skip))) (.seq (.seq (.reg 2432 5 laws_FnExactWaysThrough.r10) (.cond (.t 45) (.seq (.reg 2752 1 laws_FnExactWaysThrough.r11) (.ret)) (.skip))) (.seq (.reg 2816 1 laws_FnExactWaysThrough.r12) (.seq (.reg 2880 4 laws_FnExactWaysThrough.r13) (.seq (.seq (.reg 3136 13 laws_FnExactWaysThrough.r14) (.cond (.t 61) (.seq (.reg 3968 1 laws_FnExactWaysThrough.r15) (.ret)) (.skip))) (.seq (.reg 4032 1 laws_FnExactWaysThrough.r16) (.seq (.reg 4096 4 laws_FnExactWaysThrough.r17) (.seq (.reg 4352 1 laws_FnExactWaysThrough.r18) (.seq (.reg 4416 4 laws_FnExactWaysThrough.r19) (.seq (.seq (.reg 4672 2 laws_FnExactWaysThrough.r20) (.cond (.t 69) (.seq (.reg 4800 1 laws_FnExactWaysThrough.r21) (.ret)) (.skip))) (.seq (.seq (.reg 4864 3 laws_FnExactWaysThrough.r22) (.cond (.t 72) (.seq (.reg 5056 1 laws_FnExactWaysThrough.r23) (.ret)) (.skip))) (.seq (.reg 5120 8 laws_FnExactWaysThrough.r24) (.seq (.seq (.reg 5632 9 laws_FnExactWaysThrough.r25) (.cond (.t 87) (.seq (.reg 6208 1 laws_FnExactWaysThrough.r26) (.ret)) (.skip))) (.seq (.reg 6272 1 laws_FnExactWaysThrough.r27) (.seq (.reg 6336 4 laws_FnExactWaysThrough.r28) (.seq (.seq (.reg 6592 2 laws_FnExactWaysThrough.r29) (.cond (.t 92) (.seq (.reg 6720 1 laws_FnExactWaysThrough.r30) (.ret)) (.skip))) (.seq (.seq (.reg 6784 3 laws_FnExactWaysThrough.r31) (.cond (.t 95) (.seq (.reg 6976 1 laws_FnExactWaysThrough.r32) (.ret)) (.skip))) (.seq (.reg 7040 1 laws_FnExactWaysThrough.r33) (.ret))))))))))))))))))))))))) }
attribute [go_sem] laws_FnExactWaysThrough.r0 laws_FnExactWaysThrough.r1 laws_FnExactWaysThrough.r2 laws_FnExactWaysThrough.r3 laws_FnExactWaysThrough.r4 laws_FnExactWaysThrough.r5 laws_FnExactWaysThrough.r6 laws_FnExactWaysThrough.r7 laws_FnExactWaysThrough.r8 laws_FnExactWaysThrough.r9 laws_FnExactWaysThrough.r10 laws_FnExactWaysThrough.r11 laws_FnExactWaysThrough.r12 laws_FnExactWaysThrough.r13 laws_FnExactWaysThrough.r14 laws_FnExactWaysThrough.r15 laws_FnExactWaysThrough.r16 laws_FnExactWaysThrough.r17 laws_FnExactWaysThrough.r18 laws_FnExactWaysThrough.r19 laws_FnExactWaysThrough.r20 laws_FnExactWaysThrough.r21 laws_FnExactWaysThrough.r22 laws_FnExactWaysThrough.r23 laws_FnExactWaysThrough.r24 laws_FnExactWaysThrough.r25 laws_FnExactWaysThrough.r26 laws_FnExactWaysThrough.r27 laws_FnExactWaysThrough.r28 laws_FnExactWaysThrough.r29 laws_FnExactWaysThrough.r30 laws_FnExactWaysThrough.r31 laws_FnExactWaysThrough.r32 laws_FnExactWaysThrough.r33
theorem laws_FnExactWaysThrough.ok : chkF prog F_laws_FnExactWaysThrough 1 laws_FnExactWaysThrough.fi = true := by kernel_rfl
end Go.Vm.Ytdembjfpgfaheaa
