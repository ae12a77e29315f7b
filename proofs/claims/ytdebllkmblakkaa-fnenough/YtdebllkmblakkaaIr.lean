/- The functions that the law reaches, in the text of the interpreter, and that this text fits them (no condition). -/
import Derived.Test.YtdebllkmblakkaaVmc
import Derived.Test.YtdebllkmblakkaaProg
import Derived.KernelRfl
/- PRINTED BY irgen.py, a program of this claim's author: the functions that the claim reaches, in the text of the interpreter, and that they fit. -/
namespace Go.Vm.Ytdebllkmblakkaa
open Go Go.Vm
set_option linter.unusedVariables false
set_option maxRecDepth 100000
noncomputable abbrev prog : Program := Go.Proofs.Try.prog
abbrev F_laws_FnExactOpposed : FuncId := 3
abbrev F_laws_FnExactLeadsTo : FuncId := 4
abbrev F_laws_FnExactFixed : FuncId := 5
abbrev F_laws_FnExactLoopsOf : FuncId := 6
abbrev F_laws_FnExactSolveTwo : FuncId := 7
abbrev F_laws_FnLeads : FuncId := 8
abbrev F_laws_FnTwos : FuncId := 9
abbrev F_laws_FnLeast : FuncId := 10
abbrev F_laws_FnHorn : FuncId := 11
abbrev F_laws_FnEnough : FuncId := 12
abbrev F_laws_FnLaidOut : FuncId := 13
abbrev F_laws_szIntSS : FuncId := 14
abbrev F_spec_Opposed : FuncId := 15
abbrev F_laws_toIntSS : FuncId := 16
abbrev F_impl_Opposed : FuncId := 17
abbrev F_laws_eqIntSS : FuncId := 18
abbrev F_spec_LeadsTo : FuncId := 19
abbrev F_impl_LeadsTo : FuncId := 20
abbrev F_laws_eqIntS : FuncId := 21
abbrev F_laws_markIntSS : FuncId := 22
abbrev F_laws_markIntS : FuncId := 23
abbrev F_laws_heldIntS : FuncId := 24
abbrev F_spec_Fixed : FuncId := 25
abbrev F_impl_Fixed : FuncId := 26
abbrev F_spec_LoopsOf : FuncId := 27
abbrev F_impl_LoopsOf : FuncId := 28
abbrev F_laws_heldIntSS : FuncId := 29
abbrev F_spec_SolveTwo : FuncId := 30
abbrev F_impl_SolveTwo : FuncId := 31
abbrev F_laws_eqBoolS : FuncId := 32
abbrev F_laws_markBoolS : FuncId := 33
abbrev F_laws_heldBoolS : FuncId := 34
abbrev F_spec_DrawLeadsTo : FuncId := 35
abbrev F_laws_sameInts : FuncId := 36
abbrev F_laws_has : FuncId := 37
abbrev F_spec_DrawLoopsOf : FuncId := 38
abbrev F_spec_DrawTwoOf : FuncId := 39
abbrev F_impl_TwoOf : FuncId := 40
abbrev F_spec_TwoOf : FuncId := 41
abbrev F_laws_sameRows : FuncId := 42
abbrev F_spec_DrawSolveTwo : FuncId := 43
abbrev F_laws_sameBools : FuncId := 44
abbrev F_impl_IsTwo : FuncId := 45
abbrev F_impl_CountModels : FuncId := 46
abbrev F_impl_Solve : FuncId := 47
abbrev F_impl_HoldsAll : FuncId := 48
abbrev F_laws_allIn : FuncId := 49
abbrev F_impl_SolveWith : FuncId := 50
abbrev F_spec_DrawFixed : FuncId := 51
abbrev F_spec_DrawLeastOf : FuncId := 52
abbrev F_impl_LeastOf : FuncId := 53
abbrev F_spec_LeastOf : FuncId := 54
abbrev F_impl_GoodRules : FuncId := 55
abbrev F_impl_HoldsIn : FuncId := 56
abbrev F_impl_RulesAsClauses : FuncId := 57
abbrev F_impl_IsHorn : FuncId := 58
abbrev F_laws_modelOf : FuncId := 59
abbrev F_spec_DrawHoldsIn : FuncId := 60
abbrev F_spec_HoldsIn : FuncId := 61
abbrev F_spec_DrawWhyOf : FuncId := 62
abbrev F_impl_WhyOf : FuncId := 63
abbrev F_spec_WhyOf : FuncId := 64
abbrev F_laws_listOf : FuncId := 65
abbrev F_laws_numberOf : FuncId := 66
abbrev F_impl_MeetOf : FuncId := 67
abbrev F_spec_DrawMeetOf : FuncId := 68
abbrev F_spec_MeetOf : FuncId := 69
abbrev F_spec_DrawRulesAsClauses : FuncId := 70
abbrev F_spec_RulesAsClauses : FuncId := 71
abbrev F_spec_DrawIsHorn : FuncId := 72
abbrev F_spec_IsHorn : FuncId := 73
abbrev F_laws_sameRules : FuncId := 74
abbrev F_spec_DrawEnoughFor : FuncId := 75
abbrev F_impl_EnoughFor : FuncId := 76
abbrev F_spec_EnoughFor : FuncId := 77
abbrev F_impl_ReachWithin : FuncId := 78
abbrev F_spec_DrawWalksOf : FuncId := 79
abbrev F_impl_WalksOf : FuncId := 80
abbrev F_spec_WalksOf : FuncId := 81
abbrev F_laws_hasArc : FuncId := 82
abbrev F_spec_DrawReachWithin : FuncId := 83
abbrev F_spec_ReachWithin : FuncId := 84
abbrev F_spec_DrawIsWalk : FuncId := 85
abbrev F_impl_IsWalk : FuncId := 86
abbrev F_spec_IsWalk : FuncId := 87
abbrev F_impl_LaidWalk : FuncId := 88
abbrev F_spec_LaidWalk : FuncId := 89
abbrev F_impl_LayOut : FuncId := 90
abbrev F_spec_DrawLayOut : FuncId := 91
abbrev F_spec_LayOut : FuncId := 92
abbrev F_impl_BackArcs : FuncId := 93
abbrev F_spec_BackArcs : FuncId := 94
abbrev F_laws_sameArcs : FuncId := 95
abbrev F_impl_GoodArcs : FuncId := 96
abbrev F_laws_szIntS : FuncId := 97
abbrev F_spec_IsTwo : FuncId := 98
abbrev F_spec_l15Opposed : FuncId := 99
abbrev F_laws_toIntS : FuncId := 100
abbrev F_impl_opposed : FuncId := 101
abbrev F_spec_l1In : FuncId := 102
abbrev F_spec_l15Leads : FuncId := 103
abbrev F_impl_isLiteral : FuncId := 104
abbrev F_impl_leadsTo : FuncId := 105
abbrev F_spec_l1Has : FuncId := 106
abbrev F_impl_leads : FuncId := 107
abbrev F_slices_DeleteFunc__sint_int : FuncId := 108
abbrev F_impl_LoopsOf_c1 : FuncId := 109
abbrev F_spec_l1Put : FuncId := 110
abbrev F_slices_Contains__sint_int : FuncId := 111
abbrev F_spec_pl1Cur_twos : FuncId := 112
abbrev F_spec_pl1Cur_pick : FuncId := 113
abbrev F_spec_DrawIsTwo : FuncId := 114
abbrev F_spec_pl1Cur_one : FuncId := 115
abbrev F_impl_in : FuncId := 116
abbrev F_impl_isClause : FuncId := 117
abbrev F_spec_l4Clause : FuncId := 118
abbrev F_impl_GoodClauses : FuncId := 119
abbrev F_slices_ContainsFunc__ssint_sint : FuncId := 120
abbrev F_impl_IsTwo_c1 : FuncId := 121
abbrev F_impl_countModels : FuncId := 122
abbrev F_impl_solve : FuncId := 123
abbrev F_impl_holds : FuncId := 124
abbrev F_slices_Concat__ssint_sint : FuncId := 125
abbrev F_impl_units : FuncId := 126
abbrev F_spec_DrawGoodRules : FuncId := 127
abbrev F_impl_least : FuncId := 128
abbrev F_slices_ContainsFunc__sRule_Rule : FuncId := 129
abbrev F_impl_LeastOf_c1 : FuncId := 130
abbrev F_impl_Rule_met : FuncId := 131
abbrev F_impl_list : FuncId := 132
abbrev F_impl_LeastOf_c2 : FuncId := 133
abbrev F_spec_GoodRules : FuncId := 134
abbrev F_spec_l16Least : FuncId := 135
abbrev F_impl_GoodRules_c1 : FuncId := 136
abbrev F_impl_areFacts : FuncId := 137
abbrev F_impl_HoldsIn_c1 : FuncId := 138
abbrev F_impl_learn : FuncId := 139
abbrev F_slices_Clone__sint_int : FuncId := 140
abbrev F_impl_IsHorn_c1 : FuncId := 141
abbrev F_spec_pl1Cur_rules : FuncId := 142
abbrev F_spec_pl1Cur_facts : FuncId := 143
abbrev F_spec_l16Facts : FuncId := 144
abbrev F_spec_l16All : FuncId := 145
abbrev F_slices_IndexFunc__sint_int : FuncId := 146
abbrev F_impl_WhyOf_c1 : FuncId := 147
abbrev F_impl_MeetOf_c1 : FuncId := 148
abbrev F_spec_l5Negate : FuncId := 149
abbrev F_spec_DrawGoodClauses : FuncId := 150
abbrev F_spec_GoodClauses : FuncId := 151
abbrev F_slices_Equal__sbool_bool : FuncId := 152
abbrev F_impl_within : FuncId := 153
abbrev F_spec_GoodArcs : FuncId := 154
abbrev F_spec_l12Reach : FuncId := 155
abbrev F_impl_ReachWithin_c1 : FuncId := 156
abbrev F_spec_pl1Cur_arcs : FuncId := 157
abbrev F_spec_pl1Cur_walk : FuncId := 158
abbrev F_impl_isVertices : FuncId := 159
abbrev F_slices_Contains__sArc_Arc : FuncId := 160
abbrev F_spec_l12Walk : FuncId := 161
abbrev F_spec_l12Arc : FuncId := 162
abbrev F_impl_isSpots : FuncId := 163
abbrev F_impl_BackArcs_c1 : FuncId := 164
abbrev F_spec_l15Next : FuncId := 165
abbrev F_slices_Sort__sint_int : FuncId := 166
abbrev F_slices_Index__sint_int : FuncId := 167
abbrev F_spec_pl1Cur_among : FuncId := 168
abbrev F_spec_pl1Cur_lit : FuncId := 169
abbrev F_spec_CleanClause : FuncId := 170
abbrev F_spec_pl1Cur_among3 : FuncId := 171
abbrev F_spec_pl1Cur_next : FuncId := 172
abbrev F_slices_ContainsFunc__sint_int : FuncId := 173
abbrev F_impl_isClause_c1 : FuncId := 174
abbrev F_impl_variable : FuncId := 175
abbrev F_impl_areClauses : FuncId := 176
abbrev F_slices_IndexFunc__ssint_sint : FuncId := 177
abbrev F_impl_model : FuncId := 178
abbrev F_impl_propagate : FuncId := 179
abbrev F_impl_decide : FuncId := 180
abbrev F_impl_holds_c1 : FuncId := 181
abbrev F_slices_Grow__ssint_sint : FuncId := 182
abbrev F_slices_IndexFunc__sRule_Rule : FuncId := 183
abbrev F_impl_least_c1 : FuncId := 184
abbrev F_impl_Rule_met_c1 : FuncId := 185
abbrev F_spec_l1Least : FuncId := 186
abbrev F_spec_l1Rising : FuncId := 187
abbrev F_spec_pl1Cur_clauses : FuncId := 188
abbrev F_spec_l4Good : FuncId := 189
abbrev F_slices_Clone__sbool_bool : FuncId := 190
abbrev F_impl_isVertices_c1 : FuncId := 191
abbrev F_slices_Index__sArc_Arc : FuncId := 192
abbrev F_spec_l1All : FuncId := 193
abbrev F_slices_pdqsortOrdered__int : FuncId := 194
abbrev F_bits_Len : FuncId := 195
abbrev F_impl_areClauses_c1 : FuncId := 196
abbrev F_impl_meets : FuncId := 197
abbrev F_impl_without : FuncId := 198
abbrev F_slices_insertionSortOrdered__int : FuncId := 199
abbrev F_slices_heapSortOrdered__int : FuncId := 200
abbrev F_slices_breakPatternsOrdered__int : FuncId := 201
abbrev F_slices_choosePivotOrdered__int : FuncId := 202
abbrev F_slices_reverseRangeOrdered__int : FuncId := 203
abbrev F_slices_partialInsertionSortOrdered__int : FuncId := 204
abbrev F_cmp_Less__int : FuncId := 205
abbrev F_slices_partitionEqualOrdered__int : FuncId := 206
abbrev F_slices_partitionOrdered__int : FuncId := 207
abbrev F_bits_Len32 : FuncId := 208
abbrev F_bits_Len64 : FuncId := 209
abbrev F_impl_meets_c1 : FuncId := 210
abbrev F_impl_without_c1 : FuncId := 211
abbrev F_slices_siftDownOrdered__int : FuncId := 212
abbrev F_slices_nextPowerOfTwo : FuncId := 213
abbrev F_slices_pxorshift_Next : FuncId := 214
abbrev F_slices_medianAdjacentOrdered__int : FuncId := 215
abbrev F_slices_medianOrdered__int : FuncId := 216
abbrev F_cmp_isNaN__int : FuncId := 217
abbrev F_slices_order2Ordered__int : FuncId := 218
abbrev F_runtime_boundsError_Error : FuncId := 219
abbrev F_runtime_boundsError_RuntimeError : FuncId := 220
abbrev F_runtime_errorString_Error : FuncId := 221
abbrev F_runtime_errorString_RuntimeError : FuncId := 222
abbrev F_runtime_plainError_Error : FuncId := 223
abbrev F_runtime_plainError_RuntimeError : FuncId := 224
abbrev F_runtime_errorAddressString_Error : FuncId := 225
abbrev F_runtime_errorAddressString_RuntimeError : FuncId := 226
abbrev F_runtime_pTypeAssertionError_Error : FuncId := 227
abbrev F_runtime_pTypeAssertionError_RuntimeError : FuncId := 228
abbrev F_runtime_pPanicNilError_Error : FuncId := 229
abbrev F_runtime_pPanicNilError_RuntimeError : FuncId := 230
abbrev F_abi_pType_Align : FuncId := 231
abbrev F_maps_unhashableTypeError_Error : FuncId := 232
abbrev F_maps_unhashableTypeError_RuntimeError : FuncId := 233
abbrev F_abi_Kind_String : FuncId := 234

/-! spec_l1In -/
def spec_l1In.r0 : List Ent := [
  E0 0 (some 6) none (.i (.mv (.k (.dat none (.bool false)))))]
def spec_l1In.r1 : List Ent := [
  E0 0 (some 7) none (.i (.mv (.t 0))),
  E0 1 (some 8) none (.i (.mv (.t 1))),
  E0 2 (some 9) none (.i (.bin .geq (.t 7) (.t 8))),
  E0 3 (some 10) none (.i (.mv (.t 9))),
  E0 4 (some 11) (some (10, true)) (.i (.mv (.t 0))),
  E0 5 (some 12) (some (10, true)) (.i (.mv (.t 2))),
  E0 6 (some 13) (some (10, true)) (.i (.bin .leq (.t 11) (.t 12))),
  E0 7 (some 14) none (.i (.pick (.t 10) (.t 13) (.k (.dat none (.bool false))))),
  E0 8 (some 6) none (.i (.mv (.t 14)))]
def spec_l1In.fi : FI := { res := [.t 6], code := .seq (.reg 64 1 spec_l1In.r0) (.seq (.reg 128 9 spec_l1In.r1) (.ret)) }
attribute [go_sem] spec_l1In.r0 spec_l1In.r1
theorem spec_l1In.ok : chkF prog F_spec_l1In 3 spec_l1In.fi = true := by kernel_rfl

/-! spec_l1Has -/
def spec_l1Has.r0 : List Ent := [
  E0 0 (some 4) none (.i (.mv (.k (.dat none (.bool false)))))]
def spec_l1Has.r1 : List Ent := [
  E0 0 (some 7) none (.i (.mv (.t 0))),
  E0 1 (some 8) none (.i (.len (.t 7))),
  E0 2 (some 9) none (.i (.mv (.k (I64 0))))]
def spec_l1Has.r2 : List Ent := [
  E0 0 (some 10) none (.i (.bin .lss (.t 9) (.t 8)))]
def spec_l1Has.r3 : List Ent := [
  E0 0 (some 11) none (.i (.iad 1 (.t 7) (.t 9))),
  E0 1 (some 12) none (.i (.load false false 1 (.t 11))),
  E0 2 (some 6) none (.i (.mv (.t 12)))]
def spec_l1Has.r4 : List Ent := [
  E0 0 (some 13) none (.i (.mv (.t 6))),
  E0 1 (some 14) none (.i (.mv (.t 1))),
  E0 2 (some 15) none (.i (.bin .eql (.t 13) (.t 14)))]
def spec_l1Has.r5 : List Ent := [
  E0 0 (some 4) none (.i (.mv (.k (.dat none (.bool true)))))]
def spec_l1Has.r6 : List Ent := [
  E0 0 (some 16) none (.i (.bin .add (.t 9) (.k (I64 1)))),
  E0 1 (some 9) none (.i (.mv (.t 16)))]
def spec_l1Has.b0 : KC := .seq (.reg 320 1 spec_l1Has.r2) (.seq (.cond (.t 10) (.skip) (.exit 0)) (.seq (.block 1 (.seq (.reg 384 3 spec_l1Has.r3) (.seq (.reg 576 3 spec_l1Has.r4) (.cond (.t 15) (.seq (.reg 768 1 spec_l1Has.r5) (.ret)) (.skip))))) (.reg 832 2 spec_l1Has.r6)))
def spec_l1Has.r7 : List Ent := [
  E0 0 (some 4) none (.i (.mv (.k (.dat none (.bool false)))))]
def spec_l1Has.fi : FI := { res := [.t 4], code := .seq (.reg 64 1 spec_l1Has.r0) (.seq (.seq (.reg 128 3 spec_l1Has.r1) (.block 0 (.loop spec_l1Has.b0))) (.seq (.reg 960 1 spec_l1Has.r7) (.ret))) }
attribute [go_sem] spec_l1Has.r0 spec_l1Has.r1 spec_l1Has.r2 spec_l1Has.r3 spec_l1Has.r4 spec_l1Has.r5 spec_l1Has.r6 spec_l1Has.r7
theorem spec_l1Has.ok : chkF prog F_spec_l1Has 2 spec_l1Has.fi = true := by kernel_rfl

/-! spec_l1Put -/
def spec_l1Put.r0 : List Ent := [
  E0 0 (some 4) none (.i (.mv (.k (.nil 1))))]
def spec_l1Put.r1 : List Ent := [
  E0 0 (some 5) none (.i (.mv (.k (I64 0))))]
def spec_l1Put.r2 : List Ent := [
  E0 0 (some 7) none (.i (.mv (.t 5))),
  E0 1 (some 8) none (.i (.mv (.t 0))),
  E0 2 (some 9) none (.i (.len (.t 8))),
  E0 3 (some 10) none (.i (.bin .lss (.t 7) (.t 9))),
  E0 4 (some 11) none (.i (.mv (.t 10))),
  E0 5 (some 12) (some (11, true)) (.i (.mv (.t 0))),
  E0 6 (some 13) (some (11, true)) (.i (.mv (.t 5))),
  E0 7 (some 14) (some (11, true)) (.i (.iad 1 (.t 12) (.t 13))),
  E0 8 (some 15) (some (11, true)) (.i (.load false false 1 (.t 14))),
  E0 9 (some 16) (some (11, true)) (.i (.mv (.t 1))),
  E0 10 (some 17) (some (11, true)) (.i (.bin .lss (.t 15) (.t 16))),
  E0 11 (some 18) none (.i (.pick (.t 11) (.t 17) (.k (.dat none (.bool false)))))]
def spec_l1Put.r3 : List Ent := [
  E0 0 (some 19) none (.i (.mv (.t 5))),
  E0 1 (some 20) none (.i (.bin .add (.t 19) (.k (I64 1)))),
  E0 2 (some 5) none (.i (.mv (.t 20)))]
def spec_l1Put.b0 : KC := .seq (.seq (.reg 192 12 spec_l1Put.r2) (.cond (.t 18) (.skip) (.exit 0))) (.block 1 (.reg 960 3 spec_l1Put.r3))
def spec_l1Put.r4 : List Ent := [
  E0 0 (some 21) none (.i (.mv (.t 5))),
  E0 1 (some 22) none (.i (.mv (.t 0))),
  E0 2 (some 23) none (.i (.len (.t 22))),
  E0 3 (some 24) none (.i (.bin .lss (.t 21) (.t 23))),
  E0 4 (some 25) none (.i (.mv (.t 24))),
  E0 5 (some 26) (some (25, true)) (.i (.mv (.t 0))),
  E0 6 (some 27) (some (25, true)) (.i (.mv (.t 5))),
  E0 7 (some 28) (some (25, true)) (.i (.iad 1 (.t 26) (.t 27))),
  E0 8 (some 29) (some (25, true)) (.i (.load false false 1 (.t 28))),
  E0 9 (some 30) (some (25, true)) (.i (.mv (.t 1))),
  E0 10 (some 31) (some (25, true)) (.i (.bin .eql (.t 29) (.t 30))),
  E0 11 (some 32) none (.i (.pick (.t 25) (.t 31) (.k (.dat none (.bool false)))))]
def spec_l1Put.r5 : List Ent := [
  E0 0 (some 33) none (.i (.mv (.t 0))),
  E0 1 (some 4) none (.i (.mv (.t 33)))]
def spec_l1Put.r6 : List Ent := [
  E0 0 (some 34) none (.i (.bsl false 1 [])),
  E0 1 (some 35) none (.i (.mv (.t 0))),
  E0 2 (some 36) none (.i (.mv (.t 5))),
  E0 3 (some 37) none (.i (.slc 1 (.t 35) (none) (some (.t 36)))),
  E0 4 (some 38) none (.i (.app 1 8 (.t 34) (.t 37))),
  E0 5 (some 6) none (.i (.mv (.t 38)))]
def spec_l1Put.r7 : List Ent := [
  E0 0 (some 39) none (.i (.mv (.t 6))),
  E0 1 (some 40) none (.i (.mv (.t 1))),
  E0 2 (some 41) none (.i (.bsl true 1 [.t 40])),
  E0 3 (some 42) none (.i (.app 1 8 (.t 39) (.t 41))),
  E0 4 (some 6) none (.i (.mv (.t 42)))]
def spec_l1Put.r8 : List Ent := [
  E0 0 (some 43) none (.i (.mv (.t 6))),
  E0 1 (some 44) none (.i (.mv (.t 0))),
  E0 2 (some 45) none (.i (.mv (.t 5))),
  E0 3 (some 46) none (.i (.slc 1 (.t 44) (some (.t 45)) (none))),
  E0 4 (some 47) none (.i (.app 1 8 (.t 43) (.t 46))),
  E0 5 (some 4) none (.i (.mv (.t 47)))]
def spec_l1Put.fi : FI := { res := [.t 4], code := .seq (.reg 64 1 spec_l1Put.r0) (.seq (.reg 128 1 spec_l1Put.r1) (.seq (.block 0 (.loop spec_l1Put.b0)) (.seq (.seq (.reg 1152 12 spec_l1Put.r4) (.cond (.t 32) (.seq (.reg 1920 2 spec_l1Put.r5) (.fz 4 (.ret))) (.skip))) (.seq (.reg 2048 6 spec_l1Put.r6) (.seq (.reg 2432 5 spec_l1Put.r7) (.seq (.reg 2752 6 spec_l1Put.r8) (.fz 4 (.ret)))))))) }
attribute [go_sem] spec_l1Put.r0 spec_l1Put.r1 spec_l1Put.r2 spec_l1Put.r3 spec_l1Put.r4 spec_l1Put.r5 spec_l1Put.r6 spec_l1Put.r7 spec_l1Put.r8
theorem spec_l1Put.ok : chkF prog F_spec_l1Put 2 spec_l1Put.fi = true := by kernel_rfl

/-! impl_in -/
def impl_in.r0 : List Ent := [
  E0 0 (some 6) none (.i (.mv (.k (.dat none (.bool false)))))]
def impl_in.r1 : List Ent := [
  E0 0 (some 7) none (.i (.mv (.t 0))),
  E0 1 (some 8) none (.i (.mv (.t 1))),
  E0 2 (some 9) none (.i (.bin .geq (.t 7) (.t 8))),
  E0 3 (some 10) none (.i (.mv (.t 9))),
  E0 4 (some 11) (some (10, true)) (.i (.mv (.t 0))),
  E0 5 (some 12) (some (10, true)) (.i (.mv (.t 2))),
  E0 6 (some 13) (some (10, true)) (.i (.bin .leq (.t 11) (.t 12))),
  E0 7 (some 14) none (.i (.pick (.t 10) (.t 13) (.k (.dat none (.bool false))))),
  E0 8 (some 6) none (.i (.mv (.t 14)))]
def impl_in.fi : FI := { res := [.t 6], code := .seq (.reg 64 1 impl_in.r0) (.seq (.reg 128 9 impl_in.r1) (.ret)) }
attribute [go_sem] impl_in.r0 impl_in.r1
theorem impl_in.ok : chkF prog F_impl_in 3 impl_in.fi = true := by kernel_rfl

/-! spec_pl1Cur_next -/
def spec_pl1Cur_next.r0 : List Ent := [
  E0 0 (some 2) none (.i (.mv (.k (I64 0))))]
def spec_pl1Cur_next.r1 : List Ent := [
  E0 0 (some 3) none (.i (.mv (.k (I64 0))))]
def spec_pl1Cur_next.r2 : List Ent := [
  E0 0 (some 4) none (.i (.mv (.t 0))),
  E0 1 (some 5) none (.i (.nck (.t 4))),
  ER 2 (some 6) none (.fad 1 (.t 5)),
  ER 3 (some 7) none (.load false false 1 (.t 6)),
  E0 4 (some 8) none (.i (.mv (.t 0))),
  E0 5 (some 9) none (.i (.nck (.t 8))),
  ER 6 (some 10) none (.fad 0 (.t 9)),
  ER 7 (some 11) none (.load false false 1 (.t 10)),
  ER 8 (some 12) none (.len (.t 11)),
  E0 9 (some 13) none (.i (.bin .lss (.t 7) (.t 12)))]
def spec_pl1Cur_next.r3 : List Ent := [
  E0 0 (some 14) none (.i (.mv (.t 0))),
  E0 1 (some 15) none (.i (.nck (.t 14))),
  ER 2 (some 16) none (.fad 0 (.t 15)),
  ER 3 (some 17) none (.load false false 1 (.t 16)),
  E0 4 (some 18) none (.i (.mv (.t 0))),
  E0 5 (some 19) none (.i (.nck (.t 18))),
  ER 6 (some 20) none (.fad 1 (.t 19)),
  ER 7 (some 21) none (.load false false 1 (.t 20)),
  E0 8 (some 22) none (.i (.iad 1 (.t 17) (.t 21))),
  E0 9 (some 23) none (.i (.load false false 1 (.t 22))),
  E0 10 (some 24) none (.i (.cnv .i64 (.t 23))),
  E0 11 (some 3) none (.i (.mv (.t 24)))]
def spec_pl1Cur_next.r4 : List Ent := [
  E0 0 (some 25) none (.i (.mv (.t 0))),
  E0 1 (some 26) none (.i (.nck (.t 25))),
  E0 2 (some 27) none (.i (.fad 1 (.t 26))),
  E0 3 (some 28) none (.i (.load false false 1 (.t 27))),
  E0 4 (some 29) none (.i (.bin .add (.t 28) (.k (I64 1)))),
  E0 5 (some 30) none (.i (.nck (.t 25))),
  E0 6 (some 31) none (.i (.fad 1 (.t 30))),
  E0 7 none none (.i (.store 1 (.t 31) (.t 29)))]
def spec_pl1Cur_next.r5 : List Ent := [
  E0 0 (some 32) none (.i (.mv (.t 0))),
  E0 1 (some 33) none (.i (.mv (.t 0))),
  E0 2 (some 34) none (.i (.nck (.t 33))),
  E0 3 (some 35) none (.i (.fad 2 (.t 34))),
  E0 4 (some 36) none (.i (.load false false 1 (.t 35))),
  E0 5 (some 37) none (.i (.bin .mul (.t 36) (.k (.dat none (.int .u64 6364136223846793005))))),
  E0 6 (some 38) none (.i (.mv (.t 3))),
  E0 7 (some 39) none (.i (.cnv .u64 (.t 38))),
  E0 8 (some 40) none (.i (.bin .add (.t 37) (.t 39))),
  E0 9 (some 41) none (.i (.bin .add (.t 40) (.k (.dat none (.int .u64 1442695040888963407))))),
  E0 10 (some 42) none (.i (.nck (.t 32))),
  E0 11 (some 43) none (.i (.fad 2 (.t 42))),
  E0 12 none none (.i (.store 1 (.t 43) (.t 41)))]
def spec_pl1Cur_next.r6 : List Ent := [
  E0 0 (some 44) none (.i (.mv (.t 0))),
  E0 1 (some 45) none (.i (.nck (.t 44))),
  ER 2 (some 46) none (.fad 1 (.t 45)),
  ER 3 (some 47) none (.load false false 1 (.t 46)),
  E0 4 (some 48) none (.i (.mv (.t 0))),
  E0 5 (some 49) none (.i (.nck (.t 48))),
  ER 6 (some 50) none (.fad 0 (.t 49)),
  ER 7 (some 51) none (.load false false 1 (.t 50)),
  ER 8 (some 52) none (.len (.t 51)),
  E0 9 (some 53) none (.i (.bin .leq (.t 47) (.t 52)))]
def spec_pl1Cur_next.r7 : List Ent := [
  E0 0 (some 54) none (.i (.mv (.t 3))),
  E0 1 (some 2) none (.i (.mv (.t 54)))]
def spec_pl1Cur_next.r8 : List Ent := [
  E0 0 (some 55) none (.i (.mv (.t 0))),
  E0 1 (some 56) none (.i (.nck (.t 55))),
  E0 2 (some 57) none (.i (.fad 2 (.t 56))),
  E0 3 (some 58) none (.i (.load false false 1 (.t 57))),
  E0 4 (some 59) none (.i (.bin .shr (.t 58) (.k (.dat none (.int .u64 40))))),
  E0 5 (some 60) none (.i (.bin .and (.t 59) (.k (.dat none (.int .u64 255))))),
  E0 6 (some 61) none (.i (.cnv .i64 (.t 60))),
  E0 7 (some 2) none (.i (.mv (.t 61)))]
def spec_pl1Cur_next.fi : FI := { res := [.t 2], code := .seq (.reg 64 1 spec_pl1Cur_next.r0) (.seq (.reg 128 1 spec_pl1Cur_next.r1) (.seq (.seq (.reg 192 10 spec_pl1Cur_next.r2) (.cond (.t 13) (.reg 832 12 spec_pl1Cur_next.r3) (.skip))) (.seq (.reg 1600 8 spec_pl1Cur_next.r4) (.seq (.reg 2112 13 spec_pl1Cur_next.r5) (.seq (.seq (.reg 2944 10 spec_pl1Cur_next.r6) (.cond (.t 53) (.seq (.reg 3584 2 spec_pl1Cur_next.r7) (.ret)) (.skip))) (.seq (.reg 3712 8 spec_pl1Cur_next.r8) (.ret))))))) }
attribute [go_sem] spec_pl1Cur_next.r0 spec_pl1Cur_next.r1 spec_pl1Cur_next.r2 spec_pl1Cur_next.r3 spec_pl1Cur_next.r4 spec_pl1Cur_next.r5 spec_pl1Cur_next.r6 spec_pl1Cur_next.r7 spec_pl1Cur_next.r8
theorem spec_pl1Cur_next.ok : chkF prog F_spec_pl1Cur_next 1 spec_pl1Cur_next.fi = true := by kernel_rfl

/-! spec_pl1Cur_pick -/
def spec_pl1Cur_pick.r0 : List Ent := [
  E0 0 (some 4) none (.i (.mv (.k (I64 0))))]
def spec_pl1Cur_pick.r1 : List Ent := [
  E0 0 (some 6) none (.i (.mv (.t 1))),
  E0 1 (some 7) none (.i (.bin .leq (.t 6) (.k (I64 1))))]
def spec_pl1Cur_pick.r2 : List Ent := [
  E0 0 (some 4) none (.i (.mv (.k (I64 0))))]
def spec_pl1Cur_pick.r3 : List Ent := [
  E0 0 (some 8) none (.i (.mv (.t 0))),
  E0 1 (some 9) none (.call F_spec_pl1Cur_next true [(.io, .t 8)]),
  E0 2 (some 5) none (.i (.mv (.t 9)))]
def spec_pl1Cur_pick.r4 : List Ent := [
  E0 0 (some 10) none (.i (.mv (.t 1))),
  E0 1 (some 11) none (.i (.bin .gtr (.t 10) (.k (I64 200))))]
def spec_pl1Cur_pick.r5 : List Ent := [
  E0 0 (some 12) none (.i (.mv (.t 5))),
  E0 1 (some 13) none (.i (.bin .mul (.t 12) (.k (I64 256)))),
  E0 2 (some 14) none (.i (.mv (.t 0))),
  E0 3 (some 15) none (.call F_spec_pl1Cur_next true [(.io, .t 14)]),
  E0 4 (some 16) none (.i (.bin .add (.t 13) (.t 15))),
  E0 5 (some 5) none (.i (.mv (.t 16)))]
def spec_pl1Cur_pick.r6 : List Ent := [
  E0 0 (some 17) none (.i (.mv (.t 5))),
  E0 1 (some 18) none (.i (.mv (.t 1))),
  E0 2 (some 19) none (.i (.bin .rem (.t 17) (.t 18))),
  E0 3 (some 4) none (.i (.mv (.t 19)))]
def spec_pl1Cur_pick.fi : FI := { res := [.t 4], code := .seq (.reg 64 1 spec_pl1Cur_pick.r0) (.seq (.seq (.reg 128 2 spec_pl1Cur_pick.r1) (.cond (.t 7) (.seq (.reg 256 1 spec_pl1Cur_pick.r2) (.ret)) (.skip))) (.seq (.reg 320 3 spec_pl1Cur_pick.r3) (.seq (.seq (.reg 512 2 spec_pl1Cur_pick.r4) (.cond (.t 11) (.reg 640 6 spec_pl1Cur_pick.r5) (.skip))) (.seq (.reg 1024 4 spec_pl1Cur_pick.r6) (.ret))))) }
attribute [go_sem] spec_pl1Cur_pick.r0 spec_pl1Cur_pick.r1 spec_pl1Cur_pick.r2 spec_pl1Cur_pick.r3 spec_pl1Cur_pick.r4 spec_pl1Cur_pick.r5 spec_pl1Cur_pick.r6
theorem spec_pl1Cur_pick.ok : chkF prog F_spec_pl1Cur_pick 2 spec_pl1Cur_pick.fi = true := by kernel_rfl

/-! spec_pl1Cur_one -/
def spec_pl1Cur_one.r0 : List Ent := [
  E0 0 (some 4) none (.i (.mv (.k (.dat none (.bool false)))))]
def spec_pl1Cur_one.r1 : List Ent := [
  E0 0 (some 5) none (.i (.mv (.t 0))),
  E0 1 (some 6) none (.i (.mv (.t 1))),
  E0 2 (some 7) none (.call F_spec_pl1Cur_pick true [(.io, .t 5), (.ro, .t 6)]),
  E0 3 (some 8) none (.i (.bin .eql (.t 7) (.k (I64 0)))),
  E0 4 (some 4) none (.i (.mv (.t 8)))]
def spec_pl1Cur_one.fi : FI := { res := [.t 4], code := .seq (.reg 64 1 spec_pl1Cur_one.r0) (.seq (.reg 128 5 spec_pl1Cur_one.r1) (.ret)) }
attribute [go_sem] spec_pl1Cur_one.r0 spec_pl1Cur_one.r1
theorem spec_pl1Cur_one.ok : chkF prog F_spec_pl1Cur_one 2 spec_pl1Cur_one.fi = true := by kernel_rfl

/-! spec_pl1Cur_among -/
def spec_pl1Cur_among.r0 : List Ent := [
  E0 0 (some 4) none (.i (.mv (.k (I64 0))))]
def spec_pl1Cur_among.r1 : List Ent := [
  E0 0 (some 5) none (.i (.mv (.t 1))),
  E0 1 (some 6) none (.i (.mv (.t 0))),
  E0 2 (some 7) none (.i (.mv (.t 1))),
  E0 3 (some 8) none (.i (.len (.t 7))),
  E0 4 (some 9) none (.call F_spec_pl1Cur_pick true [(.io, .t 6), (.ro, .t 8)]),
  E0 5 (some 10) none (.i (.iad 1 (.t 5) (.t 9))),
  E0 6 (some 11) none (.i (.load false false 1 (.t 10))),
  E0 7 (some 4) none (.i (.mv (.t 11)))]
def spec_pl1Cur_among.fi : FI := { res := [.t 4], code := .seq (.reg 64 1 spec_pl1Cur_among.r0) (.seq (.reg 128 8 spec_pl1Cur_among.r1) (.ret)) }
attribute [go_sem] spec_pl1Cur_among.r0 spec_pl1Cur_among.r1
theorem spec_pl1Cur_among.ok : chkF prog F_spec_pl1Cur_among 2 spec_pl1Cur_among.fi = true := by kernel_rfl

/-! laws_sameInts -/
def laws_sameInts.r0 : List Ent := [
  E0 0 (some 4) none (.i (.mv (.k (.dat none (.bool false)))))]
def laws_sameInts.r1 : List Ent := [
  E0 0 (some 6) none (.i (.mv (.t 0))),
  E0 1 (some 7) none (.i (.len (.t 6))),
  E0 2 (some 8) none (.i (.mv (.t 1))),
  E0 3 (some 9) none (.i (.len (.t 8))),
  E0 4 (some 10) none (.i (.bin .neq (.t 7) (.t 9)))]
def laws_sameInts.r2 : List Ent := [
  E0 0 (some 4) none (.i (.mv (.k (.dat none (.bool false)))))]
def laws_sameInts.r3 : List Ent := [
  E0 0 (some 11) none (.i (.mv (.t 0))),
  E0 1 (some 12) none (.i (.len (.t 11))),
  E0 2 (some 13) none (.i (.mv (.k (I64 0))))]
def laws_sameInts.r4 : List Ent := [
  E0 0 (some 14) none (.i (.bin .lss (.t 13) (.t 12)))]
def laws_sameInts.r5 : List Ent := [
  E0 0 (some 15) none (.i (.mv (.t 13))),
  E0 1 (some 5) none (.i (.mv (.t 15)))]
def laws_sameInts.r6 : List Ent := [
  E0 0 (some 16) none (.i (.mv (.t 0))),
  E0 1 (some 17) none (.i (.mv (.t 5))),
  ER 2 (some 18) none (.iad 1 (.t 16) (.t 17)),
  ER 3 (some 19) none (.load false false 1 (.t 18)),
  E0 4 (some 20) none (.i (.mv (.t 1))),
  E0 5 (some 21) none (.i (.mv (.t 5))),
  ER 6 (some 22) none (.iad 1 (.t 20) (.t 21)),
  ER 7 (some 23) none (.load false false 1 (.t 22)),
  E0 8 (some 24) none (.i (.bin .neq (.t 19) (.t 23)))]
def laws_sameInts.r7 : List Ent := [
  E0 0 (some 4) none (.i (.mv (.k (.dat none (.bool false)))))]
def laws_sameInts.r8 : List Ent := [
  E0 0 (some 25) none (.i (.bin .add (.t 13) (.k (I64 1)))),
  E0 1 (some 13) none (.i (.mv (.t 25)))]
def laws_sameInts.b0 : KC := .seq (.reg 704 1 laws_sameInts.r4) (.seq (.cond (.t 14) (.skip) (.exit 0)) (.seq (.block 1 (.seq (.reg 768 2 laws_sameInts.r5) (.seq (.reg 896 9 laws_sameInts.r6) (.cond (.t 24) (.seq (.reg 1472 1 laws_sameInts.r7) (.ret)) (.skip))))) (.reg 1536 2 laws_sameInts.r8)))
def laws_sameInts.r9 : List Ent := [
  E0 0 (some 4) none (.i (.mv (.k (.dat none (.bool true)))))]
def laws_sameInts.fi : FI := { res := [.t 4], code := .seq (.reg 64 1 laws_sameInts.r0) (.seq (.seq (.reg 128 5 laws_sameInts.r1) (.cond (.t 10) (.seq (.reg 448 1 laws_sameInts.r2) (.ret)) (.skip))) (.seq (.seq (.reg 512 3 laws_sameInts.r3) (.block 0 (.loop laws_sameInts.b0))) (.seq (.reg 1664 1 laws_sameInts.r9) (.ret)))) }
attribute [go_sem] laws_sameInts.r0 laws_sameInts.r1 laws_sameInts.r2 laws_sameInts.r3 laws_sameInts.r4 laws_sameInts.r5 laws_sameInts.r6 laws_sameInts.r7 laws_sameInts.r8 laws_sameInts.r9
theorem laws_sameInts.ok : chkF prog F_laws_sameInts 2 laws_sameInts.fi = true := by kernel_rfl

/-! impl_list -/
def impl_list.r0 : List Ent := [
  E0 0 (some 4) none (.i (.mv (.k (.nil 1))))]
def impl_list.r1 : List Ent := [
  E0 0 (some 5) none (.i (.mv (.k (.nil 1))))]
def impl_list.r2 : List Ent := [
  E0 0 (some 7) none (.i (.mv (.t 0))),
  E0 1 (some 8) none (.i (.mv (.k (I64 0))))]
def impl_list.r3 : List Ent := [
  E0 0 (some 9) none (.i (.bin .lss (.t 8) (.t 7)))]
def impl_list.r4 : List Ent := [
  E0 0 (some 10) none (.i (.mv (.t 8))),
  E0 1 (some 6) none (.i (.mv (.t 10)))]
def impl_list.r5 : List Ent := [
  E0 0 (some 11) none (.i (.mv (.t 1))),
  E0 1 (some 12) none (.i (.mv (.t 6))),
  E0 2 (some 13) none (.ccl (.t 11) false [.t 12])]
def impl_list.r6 : List Ent := [
  E0 0 (some 14) none (.i (.mv (.t 5))),
  E0 1 (some 15) none (.i (.mv (.t 6))),
  E0 2 (some 16) none (.i (.bsl true 1 [.t 15])),
  E0 3 (some 17) none (.i (.app 1 8 (.t 14) (.t 16))),
  E0 4 (some 5) none (.i (.mv (.t 17)))]
def impl_list.r7 : List Ent := [
  E0 0 (some 18) none (.i (.bin .add (.t 8) (.k (I64 1)))),
  E0 1 (some 8) none (.i (.mv (.t 18)))]
def impl_list.b0 : KC := .seq (.reg 320 1 impl_list.r3) (.seq (.cond (.t 9) (.skip) (.exit 0)) (.seq (.block 1 (.seq (.reg 384 2 impl_list.r4) (.seq (.reg 512 3 impl_list.r5) (.cond (.t 13) (.reg 704 5 impl_list.r6) (.skip))))) (.reg 1024 2 impl_list.r7)))
def impl_list.r8 : List Ent := [
  E0 0 (some 19) none (.i (.mv (.t 5))),
  E0 1 (some 4) none (.i (.mv (.t 19)))]
def impl_list.fi : FI := { res := [.t 4], code := .seq (.reg 64 1 impl_list.r0) (.seq (.reg 128 1 impl_list.r1) (.seq (.seq (.reg 192 2 impl_list.r2) (.nrm 5 896 1 (.block 0 (.loop impl_list.b0)))) (.seq (.reg 1152 2 impl_list.r8) (.ret)))) }
attribute [go_sem] impl_list.r0 impl_list.r1 impl_list.r2 impl_list.r3 impl_list.r4 impl_list.r5 impl_list.r6 impl_list.r7 impl_list.r8
theorem impl_list.ok : chkF prog F_impl_list 2 impl_list.fi = true := by kernel_rfl

/-! spec_pl1Cur_arcs -/
def spec_pl1Cur_arcs.r0 : List Ent := [
  E0 0 (some 2) none (.i (.mv (.k (I64 0)))),
  E0 1 (some 3) none (.i (.mv (.k (.nil 2))))]
def spec_pl1Cur_arcs.r1 : List Ent := [
  E0 0 (some 8) none (.i (.mv (.t 0))),
  E0 1 (some 9) none (.call F_spec_pl1Cur_pick true [(.io, .t 8), (.ro, .k (I64 6))]),
  E0 2 (some 10) none (.i (.bin .add (.k (I64 1)) (.t 9))),
  E0 3 (some 4) none (.i (.mv (.t 10)))]
def spec_pl1Cur_arcs.r2 : List Ent := [
  E0 0 (some 11) none (.i (.mv (.t 0))),
  E0 1 (some 12) none (.call F_spec_pl1Cur_one true [(.io, .t 11), (.ro, .k (I64 30))])]
def spec_pl1Cur_arcs.r3 : List Ent := [
  E0 0 (some 13) none (.i (.mv (.t 0))),
  E0 1 (some 14) none (.i (.bsl false 1 [.k (I64 0), .k (I64 6), .k (I64 7)])),
  E0 2 (some 15) none (.call F_spec_pl1Cur_among true [(.io, .t 13), (.co, .t 14)]),
  E0 3 (some 4) none (.i (.mv (.t 15)))]
def spec_pl1Cur_arcs.r4 : List Ent := [
  E0 0 (some 5) none (.i (.mv (.k (.nil 2))))]
def spec_pl1Cur_arcs.r5 : List Ent := [
  E0 0 (some 6) none (.i (.mv (.k (I64 0))))]
def spec_pl1Cur_arcs.r6 : List Ent := [
  E0 0 (some 16) none (.i (.mv (.t 6))),
  E0 1 (some 17) none (.i (.mv (.t 4))),
  E0 2 (some 18) none (.i (.bin .lss (.t 16) (.t 17)))]
def spec_pl1Cur_arcs.r7 : List Ent := [
  E0 0 (some 7) none (.i (.mv (.k (I64 0))))]
def spec_pl1Cur_arcs.r8 : List Ent := [
  E0 0 (some 21) none (.i (.mv (.t 7))),
  E0 1 (some 22) none (.i (.mv (.t 4))),
  E0 2 (some 23) none (.i (.bin .lss (.t 21) (.t 22)))]
def spec_pl1Cur_arcs.r9 : List Ent := [
  E0 0 (some 26) none (.i (.mv (.t 0))),
  E0 1 (some 27) none (.call F_spec_pl1Cur_one true [(.io, .t 26), (.ro, .k (I64 3))]),
  E0 2 (some 28) none (.i (.mv (.t 27))),
  E0 3 (some 29) (some (28, true)) (.i (.mv (.t 5))),
  E0 4 (some 30) (some (28, true)) (.i (.len (.t 29))),
  E0 5 (some 31) (some (28, true)) (.i (.bin .lss (.t 30) (.k (I64 30)))),
  E0 6 (some 32) none (.i (.pick (.t 28) (.t 31) (.k (.dat none (.bool false)))))]
def spec_pl1Cur_arcs.r10 : List Ent := [
  E0 0 (some 33) none (.i (.mv (.t 5))),
  E0 1 (some 34) none (.i (.mv (.t 6))),
  E0 2 (some 35) none (.i (.mv (.t 7))),
  E0 3 (some 36) none (.i (.bld [.t 34, .t 35])),
  E0 4 (some 37) none (.i (.bsl true 2 [.t 36])),
  E0 5 (some 38) none (.i (.app 2 16 (.t 33) (.t 37))),
  E0 6 (some 5) none (.i (.mv (.t 38)))]
def spec_pl1Cur_arcs.r11 : List Ent := [
  E0 0 (some 24) none (.i (.mv (.t 7))),
  E0 1 (some 25) none (.i (.bin .add (.t 24) (.k (I64 1)))),
  E0 2 (some 7) none (.i (.mv (.t 25)))]
def spec_pl1Cur_arcs.b0 : KC := .seq (.seq (.reg 1216 3 spec_pl1Cur_arcs.r8) (.cond (.t 23) (.skip) (.exit 2))) (.seq (.block 3 (.seq (.reg 1408 7 spec_pl1Cur_arcs.r9) (.cond (.t 32) (.reg 1856 7 spec_pl1Cur_arcs.r10) (.skip)))) (.reg 2304 3 spec_pl1Cur_arcs.r11))
def spec_pl1Cur_arcs.r12 : List Ent := [
  E0 0 (some 19) none (.i (.mv (.t 6))),
  E0 1 (some 20) none (.i (.bin .add (.t 19) (.k (I64 1)))),
  E0 2 (some 6) none (.i (.mv (.t 20)))]
def spec_pl1Cur_arcs.b1 : KC := .seq (.seq (.reg 960 3 spec_pl1Cur_arcs.r6) (.cond (.t 18) (.skip) (.exit 0))) (.seq (.block 1 (.seq (.reg 1152 1 spec_pl1Cur_arcs.r7) (.block 2 (.loop spec_pl1Cur_arcs.b0)))) (.reg 2496 3 spec_pl1Cur_arcs.r12))
def spec_pl1Cur_arcs.r13 : List Ent := [
  E0 0 (some 39) none (.i (.mv (.t 5))),
  E0 1 (some 40) none (.i (.len (.t 39))),
  E0 2 (some 41) none (.i (.bin .gtr (.t 40) (.k (I64 1)))),
  E0 3 (some 42) none (.i (.mv (.t 41))),
  E0 4 (some 43) (some (42, true)) (.i (.mv (.t 0))),
  E0 5 (some 44) (some (42, true)) (.call F_spec_pl1Cur_one true [(.io, .t 43), (.ro, .k (I64 30))]),
  E0 6 (some 45) none (.i (.pick (.t 42) (.t 44) (.k (.dat none (.bool false)))))]
def spec_pl1Cur_arcs.r14 : List Ent := [
  E0 0 (some 46) none (.i (.mv (.t 5))),
  E0 1 (some 47) none (.i (.mv (.t 5))),
  E0 2 (some 48) none (.i (.iad 2 (.t 47) (.k (I64 1)))),
  E0 3 (some 49) none (.i (.load false true 2 (.t 48))),
  E0 4 (some 50) none (.i (.iad 2 (.t 46) (.k (I64 0)))),
  E0 5 none none (.i (.store 2 (.t 50) (.t 49)))]
def spec_pl1Cur_arcs.r15 : List Ent := [
  E0 0 (some 51) none (.i (.mv (.t 4))),
  E0 1 (some 52) none (.i (.mv (.t 5))),
  E0 2 (some 2) none (.i (.mv (.t 51))),
  E0 3 (some 3) none (.i (.mv (.t 52)))]
def spec_pl1Cur_arcs.fi : FI := { res := [.t 2, .t 3], code := .seq (.reg 64 2 spec_pl1Cur_arcs.r0) (.seq (.reg 192 4 spec_pl1Cur_arcs.r1) (.seq (.seq (.reg 448 2 spec_pl1Cur_arcs.r2) (.cond (.t 12) (.reg 576 4 spec_pl1Cur_arcs.r3) (.skip))) (.seq (.reg 832 1 spec_pl1Cur_arcs.r4) (.seq (.seq (.reg 896 1 spec_pl1Cur_arcs.r5) (.nrm 5 2176 2 (.block 0 (.loop spec_pl1Cur_arcs.b1)))) (.seq (.seq (.reg 2688 7 spec_pl1Cur_arcs.r13) (.cond (.t 45) (.reg 3136 6 spec_pl1Cur_arcs.r14) (.skip))) (.seq (.reg 3520 4 spec_pl1Cur_arcs.r15) (.ret))))))) }
attribute [go_sem] spec_pl1Cur_arcs.r0 spec_pl1Cur_arcs.r1 spec_pl1Cur_arcs.r2 spec_pl1Cur_arcs.r3 spec_pl1Cur_arcs.r4 spec_pl1Cur_arcs.r5 spec_pl1Cur_arcs.r6 spec_pl1Cur_arcs.r7 spec_pl1Cur_arcs.r8 spec_pl1Cur_arcs.r9 spec_pl1Cur_arcs.r10 spec_pl1Cur_arcs.r11 spec_pl1Cur_arcs.r12 spec_pl1Cur_arcs.r13 spec_pl1Cur_arcs.r14 spec_pl1Cur_arcs.r15
theorem spec_pl1Cur_arcs.ok : chkF prog F_spec_pl1Cur_arcs 1 spec_pl1Cur_arcs.fi = true := by kernel_rfl

/-! spec_DrawReachWithin -/
def spec_DrawReachWithin.r0 : List Ent := [
  E0 0 (some 2) none (.i (.mv (.k (I64 0)))),
  E0 1 (some 3) none (.i (.mv (.k (.nil 2)))),
  E0 2 (some 4) none (.i (.mv (.k (I64 0)))),
  E0 3 (some 5) none (.i (.mv (.k (I64 0))))]
def spec_DrawReachWithin.r1 : List Ent := [
  E0 0 (some 9) none (.i (.mv (.t 0))),
  E0 1 (some 10) none (.i (.bld [.t 9, .k (.dat none (.int .i64 0)), .k (.dat none (.int .u64 0))])),
  E0 2 (some 11) none (.i (.box (.t 10))),
  E0 3 (some 6) none (.i (.mv (.t 11)))]
def spec_DrawReachWithin.r2 : List Ent := [
  E0 0 (some 13) none (.i (.mv (.t 6))),
  E0 1 (some 14) none (.call F_spec_pl1Cur_arcs true [(.io, .t 13)]),
  E0 2 (some 12) none (.i (.mv (.t 14))),
  E0 3 (some 15) none (.i (.ext 0 (.t 12))),
  E0 4 (some 16) none (.i (.ext 1 (.t 12))),
  E0 5 (some 7) none (.i (.mv (.t 15))),
  E0 6 (some 8) none (.i (.mv (.t 16)))]
def spec_DrawReachWithin.r3 : List Ent := [
  E0 0 (some 17) none (.i (.mv (.t 7))),
  E0 1 (some 18) none (.i (.mv (.t 8))),
  E0 2 (some 19) none (.i (.mv (.t 6))),
  E0 3 (some 20) none (.i (.mv (.t 7))),
  E0 4 (some 21) none (.i (.bin .add (.t 20) (.k (I64 1)))),
  E0 5 (some 22) none (.call F_spec_pl1Cur_pick true [(.io, .t 19), (.ro, .t 21)]),
  E0 6 (some 23) none (.i (.mv (.t 6))),
  E0 7 (some 24) none (.call F_spec_pl1Cur_pick true [(.io, .t 23), (.ro, .k (I64 20))]),
  E0 8 (some 25) none (.i (.bin .quo (.t 24) (.k (I64 19)))),
  E0 9 (some 26) none (.i (.bin .sub (.t 22) (.t 25))),
  E0 10 (some 27) none (.i (.mv (.t 6))),
  E0 11 (some 28) none (.call F_spec_pl1Cur_pick true [(.io, .t 27), (.ro, .k (I64 11))]),
  E0 12 (some 29) none (.i (.bin .sub (.t 28) (.k (I64 1)))),
  E0 13 (some 2) none (.i (.mv (.t 17))),
  E0 14 (some 3) none (.i (.mv (.t 18))),
  E0 15 (some 4) none (.i (.mv (.t 26))),
  E0 16 (some 5) none (.i (.mv (.t 29)))]
def spec_DrawReachWithin.fi : FI := { res := [.t 2, .t 3, .t 4, .t 5], code := .seq (.reg 64 4 spec_DrawReachWithin.r0) (.seq (.reg 320 4 spec_DrawReachWithin.r1) (.seq (.reg 576 7 spec_DrawReachWithin.r2) (.seq (.reg 1024 17 spec_DrawReachWithin.r3) (.ret)))) }
attribute [go_sem] spec_DrawReachWithin.r0 spec_DrawReachWithin.r1 spec_DrawReachWithin.r2 spec_DrawReachWithin.r3
theorem spec_DrawReachWithin.ok : chkF prog F_spec_DrawReachWithin 1 spec_DrawReachWithin.fi = true := by kernel_rfl

/-! spec_DrawEnoughFor -/
def spec_DrawEnoughFor.r0 : List Ent := [
  E0 0 (some 2) none (.i (.mv (.k (I64 0)))),
  E0 1 (some 3) none (.i (.mv (.k (.nil 2)))),
  E0 2 (some 4) none (.i (.mv (.k (I64 0))))]
def spec_DrawEnoughFor.r1 : List Ent := [
  E0 0 (some 10) none (.i (.mv (.t 0))),
  E0 1 (some 11) none (.call F_spec_DrawReachWithin false (roA [.t 10])),
  E0 2 (some 9) none (.i (.mv (.t 11))),
  E0 3 (some 12) none (.i (.ext 0 (.t 9))),
  E0 4 (some 13) none (.i (.ext 1 (.t 9))),
  E0 5 (some 14) none (.i (.ext 2 (.t 9))),
  E0 6 (some 15) none (.i (.ext 3 (.t 9))),
  E0 7 (some 5) none (.i (.mv (.t 12))),
  E0 8 (some 6) none (.i (.mv (.t 13))),
  E0 9 (some 7) none (.i (.mv (.t 14))),
  E0 10 (some 8) none (.i (.mv (.t 15)))]
def spec_DrawEnoughFor.r2 : List Ent := [
  E0 0 (some 16) none (.i (.mv (.t 5))),
  E0 1 (some 17) none (.i (.mv (.t 6))),
  E0 2 (some 18) none (.i (.mv (.t 7))),
  E0 3 (some 2) none (.i (.mv (.t 16))),
  E0 4 (some 3) none (.i (.mv (.t 17))),
  E0 5 (some 4) none (.i (.mv (.t 18)))]
def spec_DrawEnoughFor.fi : FI := { res := [.t 2, .t 3, .t 4], code := .seq (.reg 64 3 spec_DrawEnoughFor.r0) (.seq (.reg 256 11 spec_DrawEnoughFor.r1) (.seq (.reg 960 6 spec_DrawEnoughFor.r2) (.ret))) }
attribute [go_sem] spec_DrawEnoughFor.r0 spec_DrawEnoughFor.r1 spec_DrawEnoughFor.r2
theorem spec_DrawEnoughFor.ok : chkF prog F_spec_DrawEnoughFor 1 spec_DrawEnoughFor.fi = true := by kernel_rfl

/-! impl_isSpots -/
def impl_isSpots.r0 : List Ent := [
  E0 0 (some 2) none (.i (.mv (.k (.dat none (.bool false)))))]
def impl_isSpots.r1 : List Ent := [
  E0 0 (some 3) none (.i (.mv (.t 0))),
  E0 1 (some 4) none (.call F_impl_in false (roA [.t 3, .k (I64 1), .k (I64 6)])),
  E0 2 (some 2) none (.i (.mv (.t 4)))]
def impl_isSpots.fi : FI := { res := [.t 2], code := .seq (.reg 64 1 impl_isSpots.r0) (.seq (.reg 128 3 impl_isSpots.r1) (.ret)) }
attribute [go_sem] impl_isSpots.r0 impl_isSpots.r1
theorem impl_isSpots.ok : chkF prog F_impl_isSpots 1 impl_isSpots.fi = true := by kernel_rfl

/-! impl_GoodArcs -/
def impl_GoodArcs.r0 : List Ent := [
  E0 0 (some 4) none (.i (.mv (.k (.dat none (.bool false)))))]
def impl_GoodArcs.r1 : List Ent := [
  E0 0 (some 8) none (.i (.mv (.t 1))),
  E0 1 (some 9) none (.i (.len (.t 8))),
  E0 2 (some 10) none (.i (.mv (.k (I64 0))))]
def impl_GoodArcs.r2 : List Ent := [
  E0 0 (some 11) none (.i (.bin .lss (.t 10) (.t 9)))]
def impl_GoodArcs.r3 : List Ent := [
  E0 0 (some 12) none (.i (.mv (.t 10))),
  E0 1 (some 13) none (.i (.iad 2 (.t 8) (.t 10))),
  E0 2 (some 14) none (.i (.load false true 2 (.t 13))),
  E0 3 (some 6) none (.i (.box (.k (.agg [.dat none (.int .i64 0), .dat none (.int .i64 0)])))),
  E0 4 (some 5) none (.i (.mv (.t 12))),
  E0 5 none none (.i (.store 2 (.t 6) (.t 14)))]
def impl_GoodArcs.r4 : List Ent := [
  E0 0 (some 15) none (.i (.fad 0 (.t 6))),
  E0 1 (some 16) none (.i (.load false false 1 (.t 15))),
  E0 2 (some 17) none (.i (.mv (.t 0))),
  E0 3 (some 18) none (.i (.bin .sub (.t 17) (.k (I64 1)))),
  E0 4 (some 19) none (.call F_impl_in false (roA [.t 16, .k (I64 0), .t 18])),
  E0 5 (some 20) none (.i (.un .not (.t 19))),
  E0 6 (some 21) none (.i (.mv (.t 20))),
  E0 7 (some 22) (some (21, false)) (.i (.fad 1 (.t 6))),
  E0 8 (some 23) (some (21, false)) (.i (.load false false 1 (.t 22))),
  E0 9 (some 24) (some (21, false)) (.i (.mv (.t 0))),
  E0 10 (some 25) (some (21, false)) (.i (.bin .sub (.t 24) (.k (I64 1)))),
  E0 11 (some 26) (some (21, false)) (.call F_impl_in false (roA [.t 23, .k (I64 0), .t 25])),
  E0 12 (some 27) (some (21, false)) (.i (.un .not (.t 26))),
  E0 13 (some 28) none (.i (.pick (.t 21) (.k (.dat none (.bool true))) (.t 27)))]
def impl_GoodArcs.r5 : List Ent := [
  E0 0 (some 4) none (.i (.mv (.k (.dat none (.bool false)))))]
def impl_GoodArcs.r6 : List Ent := [
  E0 0 (some 29) none (.i (.mv (.t 1))),
  E0 1 (some 30) none (.i (.mv (.t 5))),
  E0 2 (some 31) none (.i (.bin .sub (.t 30) (.k (I64 1)))),
  E0 3 (some 32) none (.i (.mnx true (.k (I64 0)) (.t 31))),
  E0 4 (some 33) none (.i (.iad 2 (.t 29) (.t 32))),
  E0 5 (some 34) none (.i (.load false true 2 (.t 33))),
  E0 6 (some 7) none (.i (.box (.k (.agg [.dat none (.int .i64 0), .dat none (.int .i64 0)])))),
  E0 7 none none (.i (.store 2 (.t 7) (.t 34)))]
def impl_GoodArcs.r7 : List Ent := [
  E0 0 (some 35) none (.i (.mv (.t 5))),
  E0 1 (some 36) none (.i (.bin .gtr (.t 35) (.k (I64 0)))),
  E0 2 (some 37) none (.i (.mv (.t 36))),
  E0 3 (some 38) (some (37, true)) (.i (.fad 0 (.t 7))),
  E0 4 (some 39) (some (37, true)) (.i (.load false false 1 (.t 38))),
  E0 5 (some 40) (some (37, true)) (.i (.fad 0 (.t 6))),
  E0 6 (some 41) (some (37, true)) (.i (.load false false 1 (.t 40))),
  E0 7 (some 42) (some (37, true)) (.i (.bin .gtr (.t 39) (.t 41))),
  E0 8 (some 43) (some (37, true)) (.i (.mv (.t 42))),
  E0 9 (some 44) (some (43, false)) (.i (.fad 0 (.t 7))),
  E0 10 (some 45) (some (43, false)) (.i (.load false false 1 (.t 44))),
  E0 11 (some 46) (some (43, false)) (.i (.fad 0 (.t 6))),
  E0 12 (some 47) (some (43, false)) (.i (.load false false 1 (.t 46))),
  E0 13 (some 48) (some (43, false)) (.i (.bin .eql (.t 45) (.t 47))),
  E0 14 (some 49) (some (43, false)) (.i (.mv (.t 48))),
  E0 15 (some 50) (some (49, true)) (.i (.fad 1 (.t 7))),
  E0 16 (some 51) (some (49, true)) (.i (.load false false 1 (.t 50))),
  E0 17 (some 52) (some (49, true)) (.i (.fad 1 (.t 6))),
  E0 18 (some 53) (some (49, true)) (.i (.load false false 1 (.t 52))),
  E0 19 (some 54) (some (49, true)) (.i (.bin .geq (.t 51) (.t 53))),
  E0 20 (some 55) (some (43, false)) (.i (.pick (.t 49) (.t 54) (.k (.dat none (.bool false))))),
  E0 21 (some 56) (some (37, true)) (.i (.pick (.t 43) (.k (.dat none (.bool true))) (.t 55))),
  E0 22 (some 57) none (.i (.pick (.t 37) (.t 56) (.k (.dat none (.bool false)))))]
def impl_GoodArcs.r8 : List Ent := [
  E0 0 (some 4) none (.i (.mv (.k (.dat none (.bool false)))))]
def impl_GoodArcs.r9 : List Ent := [
  E0 0 (some 58) none (.i (.bin .add (.t 10) (.k (I64 1)))),
  E0 1 (some 10) none (.i (.mv (.t 58)))]
def impl_GoodArcs.b0 : KC := .seq (.reg 320 1 impl_GoodArcs.r2) (.seq (.cond (.t 11) (.skip) (.exit 0)) (.seq (.block 1 (.seq (.reg 384 6 impl_GoodArcs.r3) (.seq (.seq (.reg 768 14 impl_GoodArcs.r4) (.cond (.t 28) (.seq (.reg 1664 1 impl_GoodArcs.r5) (.ret)) (.skip))) (.seq (.reg 1728 8 impl_GoodArcs.r6) (.seq (.reg 2240 23 impl_GoodArcs.r7) (.cond (.t 57) (.seq (.reg 3712 1 impl_GoodArcs.r8) (.ret)) (.skip))))))) (.reg 3776 2 impl_GoodArcs.r9)))
def impl_GoodArcs.r10 : List Ent := [
  E0 0 (some 59) none (.i (.mv (.t 0))),
  E0 1 (some 60) none (.call F_impl_isSpots false (roA [.t 59])),
  E0 2 (some 61) none (.i (.mv (.t 60))),
  E0 3 (some 62) (some (61, true)) (.i (.mv (.t 1))),
  E0 4 (some 63) (some (61, true)) (.i (.len (.t 62))),
  E0 5 (some 64) (some (61, true)) (.i (.bin .leq (.t 63) (.k (I64 30)))),
  E0 6 (some 65) none (.i (.pick (.t 61) (.t 64) (.k (.dat none (.bool false))))),
  E0 7 (some 4) none (.i (.mv (.t 65)))]
def impl_GoodArcs.fi : FI := { res := [.t 4], code := .seq (.reg 64 1 impl_GoodArcs.r0) (.seq (.seq (.reg 128 3 impl_GoodArcs.r1) (.block 0 (.loop impl_GoodArcs.b0))) (.seq (.reg 3904 8 impl_GoodArcs.r10) (.ret))) }
attribute [go_sem] impl_GoodArcs.r0 impl_GoodArcs.r1 impl_GoodArcs.r2 impl_GoodArcs.r3 impl_GoodArcs.r4 impl_GoodArcs.r5 impl_GoodArcs.r6 impl_GoodArcs.r7 impl_GoodArcs.r8 impl_GoodArcs.r9 impl_GoodArcs.r10
theorem impl_GoodArcs.ok : chkF prog F_impl_GoodArcs 2 impl_GoodArcs.fi = true := by kernel_rfl

/-! slices_Equal__sbool_bool -/
def slices_Equal__sbool_bool.r0 : List Ent := [
  E0 0 (some 4) none (.i (.mv (.k (.dat none (.bool false)))))]
def slices_Equal__sbool_bool.r1 : List Ent := [
  E0 0 (some 6) none (.i (.mv (.t 0))),
  E0 1 (some 7) none (.i (.len (.t 6))),
  E0 2 (some 8) none (.i (.mv (.t 1))),
  E0 3 (some 9) none (.i (.len (.t 8))),
  E0 4 (some 10) none (.i (.bin .neq (.t 7) (.t 9)))]
def slices_Equal__sbool_bool.r2 : List Ent := [
  E0 0 (some 4) none (.i (.mv (.k (.dat none (.bool false)))))]
def slices_Equal__sbool_bool.r3 : List Ent := [
  E0 0 (some 11) none (.i (.mv (.t 0))),
  E0 1 (some 12) none (.i (.len (.t 11))),
  E0 2 (some 13) none (.i (.mv (.k (I64 0))))]
def slices_Equal__sbool_bool.r4 : List Ent := [
  E0 0 (some 14) none (.i (.bin .lss (.t 13) (.t 12)))]
def slices_Equal__sbool_bool.r5 : List Ent := [
  E0 0 (some 15) none (.i (.mv (.t 13))),
  E0 1 (some 5) none (.i (.mv (.t 15)))]
def slices_Equal__sbool_bool.r6 : List Ent := [
  E0 0 (some 16) none (.i (.mv (.t 0))),
  E0 1 (some 17) none (.i (.mv (.t 5))),
  ER 2 (some 18) none (.iad 1 (.t 16) (.t 17)),
  ER 3 (some 19) none (.load false false 1 (.t 18)),
  E0 4 (some 20) none (.i (.mv (.t 1))),
  E0 5 (some 21) none (.i (.mv (.t 5))),
  ER 6 (some 22) none (.iad 1 (.t 20) (.t 21)),
  ER 7 (some 23) none (.load false false 1 (.t 22)),
  E0 8 (some 24) none (.i (.eqb true (.t 19) (.t 23)))]
def slices_Equal__sbool_bool.r7 : List Ent := [
  E0 0 (some 4) none (.i (.mv (.k (.dat none (.bool false)))))]
def slices_Equal__sbool_bool.r8 : List Ent := [
  E0 0 (some 25) none (.i (.bin .add (.t 13) (.k (I64 1)))),
  E0 1 (some 13) none (.i (.mv (.t 25)))]
def slices_Equal__sbool_bool.b0 : KC := .seq (.reg 704 1 slices_Equal__sbool_bool.r4) (.seq (.cond (.t 14) (.skip) (.exit 0)) (.seq (.block 1 (.seq (.reg 768 2 slices_Equal__sbool_bool.r5) (.seq (.reg 896 9 slices_Equal__sbool_bool.r6) (.cond (.t 24) (.seq (.reg 1472 1 slices_Equal__sbool_bool.r7) (.ret)) (.skip))))) (.reg 1536 2 slices_Equal__sbool_bool.r8)))
def slices_Equal__sbool_bool.r9 : List Ent := [
  E0 0 (some 4) none (.i (.mv (.k (.dat none (.bool true)))))]
def slices_Equal__sbool_bool.fi : FI := { res := [.t 4], code := .seq (.reg 64 1 slices_Equal__sbool_bool.r0) (.seq (.seq (.reg 128 5 slices_Equal__sbool_bool.r1) (.cond (.t 10) (.seq (.reg 448 1 slices_Equal__sbool_bool.r2) (.ret)) (.skip))) (.seq (.seq (.reg 512 3 slices_Equal__sbool_bool.r3) (.block 0 (.loop slices_Equal__sbool_bool.b0))) (.seq (.reg 1664 1 slices_Equal__sbool_bool.r9) (.ret)))) }
attribute [go_sem] slices_Equal__sbool_bool.r0 slices_Equal__sbool_bool.r1 slices_Equal__sbool_bool.r2 slices_Equal__sbool_bool.r3 slices_Equal__sbool_bool.r4 slices_Equal__sbool_bool.r5 slices_Equal__sbool_bool.r6 slices_Equal__sbool_bool.r7 slices_Equal__sbool_bool.r8 slices_Equal__sbool_bool.r9
theorem slices_Equal__sbool_bool.ok : chkF prog F_slices_Equal__sbool_bool 2 slices_Equal__sbool_bool.fi = true := by kernel_rfl

/-! slices_Clone__sbool_bool -/
def slices_Clone__sbool_bool.r0 : List Ent := [
  E0 0 (some 2) none (.i (.mv (.k (.nil 1))))]
def slices_Clone__sbool_bool.r1 : List Ent := [
  E0 0 (some 3) none (.i (.mv (.t 0))),
  E0 1 (some 4) none (.i (.eqnil false (.t 3)))]
def slices_Clone__sbool_bool.r2 : List Ent := [
  E0 0 (some 2) none (.i (.mv (.k (.nil 1))))]
def slices_Clone__sbool_bool.r3 : List Ent := [
  E0 0 (some 5) none (.i (.bsl false 1 [])),
  E0 1 (some 6) none (.i (.mv (.t 0))),
  E0 2 (some 7) none (.i (.app 1 1 (.t 5) (.t 6))),
  E0 3 (some 2) none (.i (.mv (.t 7)))]
def slices_Clone__sbool_bool.fi : FI := { res := [.t 2], code := .seq (.reg 64 1 slices_Clone__sbool_bool.r0) (.seq (.seq (.reg 128 2 slices_Clone__sbool_bool.r1) (.cond (.t 4) (.seq (.reg 256 1 slices_Clone__sbool_bool.r2) (.ret)) (.skip))) (.seq (.reg 320 4 slices_Clone__sbool_bool.r3) (.ret))) }
attribute [go_sem] slices_Clone__sbool_bool.r0 slices_Clone__sbool_bool.r1 slices_Clone__sbool_bool.r2 slices_Clone__sbool_bool.r3
theorem slices_Clone__sbool_bool.ok : chkF prog F_slices_Clone__sbool_bool 1 slices_Clone__sbool_bool.fi = true := by kernel_rfl

/-! impl_within -/
def impl_within.r0 : List Ent := [
  E0 0 (some 8) none (.i (.mv (.k (.nil 1))))]
def impl_within.r1 : List Ent := [
  E0 0 (some 13) none (.i (.mv (.t 0))),
  E0 1 (some 14) none (.i (.mks 1 1 (.bool false) (.t 13) (.t 13))),
  E0 2 (some 9) none (.i (.mv (.t 14)))]
def impl_within.r2 : List Ent := [
  E0 0 (some 15) none (.i (.mv (.t 9))),
  E0 1 (some 16) none (.i (.mv (.t 2))),
  E0 2 (some 17) none (.i (.iad 1 (.t 15) (.t 16))),
  E0 3 none none (.i (.store 1 (.t 17) (.k (.dat none (.bool true)))))]
def impl_within.r3 : List Ent := [
  E0 0 (some 18) none (.i (.mv (.t 3))),
  E0 1 (some 19) none (.i (.mv (.k (I64 0))))]
def impl_within.r4 : List Ent := [
  E0 0 (some 20) none (.i (.bin .lss (.t 19) (.t 18)))]
def impl_within.r5 : List Ent := [
  E0 0 (some 21) none (.i (.mv (.t 9))),
  E0 1 (some 22) none (.call F_slices_Clone__sbool_bool false (roA [.t 21])),
  E0 2 (some 10) none (.i (.mv (.t 22)))]
def impl_within.r6 : List Ent := [
  E0 0 (some 23) none (.i (.mv (.t 1))),
  E0 1 (some 24) none (.i (.len (.t 23))),
  E0 2 (some 25) none (.i (.mv (.k (I64 0))))]
def impl_within.r7 : List Ent := [
  E0 0 (some 26) none (.i (.bin .lss (.t 25) (.t 24)))]
def impl_within.r8 : List Ent := [
  E0 0 (some 27) none (.i (.iad 2 (.t 23) (.t 25))),
  E0 1 (some 28) none (.i (.load false true 2 (.t 27))),
  E0 2 (some 12) none (.i (.box (.k (.agg [.dat none (.int .i64 0), .dat none (.int .i64 0)])))),
  E0 3 none none (.i (.store 2 (.t 12) (.t 28)))]
def impl_within.r9 : List Ent := [
  E0 0 (some 29) none (.i (.mv (.t 10))),
  E0 1 (some 30) none (.i (.fad 0 (.t 12))),
  E0 2 (some 31) none (.i (.load false false 1 (.t 30))),
  E0 3 (some 32) none (.i (.iad 1 (.t 29) (.t 31))),
  E0 4 (some 33) none (.i (.load false false 1 (.t 32)))]
def impl_within.r10 : List Ent := [
  E0 0 (some 34) none (.i (.mv (.t 9))),
  E0 1 (some 35) none (.i (.fad 1 (.t 12))),
  E0 2 (some 36) none (.i (.load false false 1 (.t 35))),
  E0 3 (some 37) none (.i (.iad 1 (.t 34) (.t 36))),
  E0 4 none none (.i (.store 1 (.t 37) (.k (.dat none (.bool true)))))]
def impl_within.r11 : List Ent := [
  E0 0 (some 38) none (.i (.bin .add (.t 25) (.k (I64 1)))),
  E0 1 (some 25) none (.i (.mv (.t 38)))]
def impl_within.b0 : KC := .seq (.reg 1152 1 impl_within.r7) (.seq (.cond (.t 26) (.skip) (.exit 2)) (.seq (.block 3 (.seq (.reg 1216 4 impl_within.r8) (.seq (.reg 1472 5 impl_within.r9) (.cond (.t 33) (.reg 1792 5 impl_within.r10) (.skip))))) (.reg 2112 2 impl_within.r11)))
def impl_within.r12 : List Ent := [
  E0 0 (some 39) none (.i (.bin .add (.t 19) (.k (I64 1)))),
  E0 1 (some 19) none (.i (.mv (.t 39)))]
def impl_within.b1 : KC := .seq (.reg 704 1 impl_within.r4) (.seq (.cond (.t 20) (.skip) (.exit 0)) (.seq (.block 1 (.seq (.reg 768 3 impl_within.r5) (.seq (.reg 960 3 impl_within.r6) (.block 2 (.loop impl_within.b0))))) (.reg 2240 2 impl_within.r12)))
def impl_within.r13 : List Ent := [
  E0 0 (some 40) none (.i (.mv (.t 9))),
  E0 1 (some 8) none (.i (.mv (.t 40)))]
def impl_within.fi : FI := { res := [.t 8], code := .seq (.reg 64 1 impl_within.r0) (.seq (.reg 128 3 impl_within.r1) (.seq (.reg 320 4 impl_within.r2) (.seq (.seq (.reg 576 2 impl_within.r3) (.block 0 (.loop impl_within.b1))) (.seq (.reg 2368 2 impl_within.r13) (.ret))))) }
attribute [go_sem] impl_within.r0 impl_within.r1 impl_within.r2 impl_within.r3 impl_within.r4 impl_within.r5 impl_within.r6 impl_within.r7 impl_within.r8 impl_within.r9 impl_within.r10 impl_within.r11 impl_within.r12 impl_within.r13
theorem impl_within.ok : chkF prog F_impl_within 4 impl_within.fi = true := by kernel_rfl

/-! impl_EnoughFor -/
def impl_EnoughFor.r0 : List Ent := [
  E0 0 (some 6) none (.i (.mv (.k (I64 0)))),
  E0 1 (some 7) none (.i (.mv (.k (.dat none (.bool false)))))]
def impl_EnoughFor.r1 : List Ent := [
  E0 0 (some 9) none (.i (.mv (.t 0))),
  E0 1 (some 10) none (.i (.mv (.t 1))),
  E0 2 (some 11) none (.call F_impl_GoodArcs false (roA [.t 9, .t 10])),
  E0 3 (some 12) none (.i (.un .not (.t 11))),
  E0 4 (some 13) none (.i (.mv (.t 12))),
  E0 5 (some 14) (some (13, false)) (.i (.mv (.t 2))),
  E0 6 (some 15) (some (13, false)) (.i (.mv (.t 0))),
  E0 7 (some 16) (some (13, false)) (.i (.bin .sub (.t 15) (.k (I64 1)))),
  E0 8 (some 17) (some (13, false)) (.call F_impl_in false (roA [.t 14, .k (I64 0), .t 16])),
  E0 9 (some 18) (some (13, false)) (.i (.un .not (.t 17))),
  E0 10 (some 19) none (.i (.pick (.t 13) (.k (.dat none (.bool true))) (.t 18)))]
def impl_EnoughFor.r2 : List Ent := [
  E0 0 (some 6) none (.i (.mv (.k (I64 0)))),
  E0 1 (some 7) none (.i (.mv (.k (.dat none (.bool false)))))]
def impl_EnoughFor.r3 : List Ent := [
  E0 0 (some 8) none (.i (.mv (.k (I64 0))))]
def impl_EnoughFor.r4 : List Ent := [
  E0 0 (some 20) none (.i (.mv (.t 0))),
  E0 1 (some 21) none (.i (.mv (.t 1))),
  E0 2 (some 22) none (.i (.mv (.t 2))),
  E0 3 (some 23) none (.i (.mv (.t 8))),
  E0 4 (some 24) none (.call F_impl_within false (roA [.t 20, .t 21, .t 22, .t 23])),
  E0 5 (some 25) none (.i (.mv (.t 0))),
  E0 6 (some 26) none (.i (.mv (.t 1))),
  E0 7 (some 27) none (.i (.mv (.t 2))),
  E0 8 (some 28) none (.i (.mv (.t 8))),
  E0 9 (some 29) none (.i (.bin .add (.t 28) (.k (I64 1)))),
  E0 10 (some 30) none (.call F_impl_within false (roA [.t 25, .t 26, .t 27, .t 29])),
  E0 11 (some 31) none (.call F_slices_Equal__sbool_bool false (roA [.t 24, .t 30])),
  E0 12 (some 32) none (.i (.un .not (.t 31)))]
def impl_EnoughFor.r5 : List Ent := [
  E0 0 (some 33) none (.i (.mv (.t 8))),
  E0 1 (some 34) none (.i (.bin .add (.t 33) (.k (I64 1)))),
  E0 2 (some 8) none (.i (.mv (.t 34)))]
def impl_EnoughFor.b0 : KC := .seq (.seq (.reg 1088 13 impl_EnoughFor.r4) (.cond (.t 32) (.skip) (.exit 0))) (.block 1 (.reg 1920 3 impl_EnoughFor.r5))
def impl_EnoughFor.r6 : List Ent := [
  E0 0 (some 35) none (.i (.mv (.t 8))),
  E0 1 (some 6) none (.i (.mv (.t 35))),
  E0 2 (some 7) none (.i (.mv (.k (.dat none (.bool true)))))]
def impl_EnoughFor.fi : FI := { res := [.t 6, .t 7], code := .seq (.reg 64 2 impl_EnoughFor.r0) (.seq (.seq (.reg 192 11 impl_EnoughFor.r1) (.cond (.t 19) (.seq (.reg 896 2 impl_EnoughFor.r2) (.ret)) (.skip))) (.seq (.reg 1024 1 impl_EnoughFor.r3) (.seq (.block 0 (.loop impl_EnoughFor.b0)) (.seq (.reg 2112 3 impl_EnoughFor.r6) (.ret))))) }
attribute [go_sem] impl_EnoughFor.r0 impl_EnoughFor.r1 impl_EnoughFor.r2 impl_EnoughFor.r3 impl_EnoughFor.r4 impl_EnoughFor.r5 impl_EnoughFor.r6
theorem impl_EnoughFor.ok : chkF prog F_impl_EnoughFor 3 impl_EnoughFor.fi = true := by kernel_rfl

/-! spec_GoodArcs -/
def spec_GoodArcs.r0 : List Ent := [
  E0 0 (some 4) none (.i (.mv (.k (.dat none (.bool false)))))]
def spec_GoodArcs.r1 : List Ent := [
  E0 0 (some 7) none (.i (.mv (.t 1))),
  E0 1 (some 8) none (.i (.len (.t 7))),
  E0 2 (some 9) none (.i (.mv (.k (I64 0))))]
def spec_GoodArcs.r2 : List Ent := [
  E0 0 (some 10) none (.i (.bin .lss (.t 9) (.t 8)))]
def spec_GoodArcs.r3 : List Ent := [
  E0 0 (some 11) none (.i (.mv (.t 9))),
  E0 1 (some 12) none (.i (.iad 2 (.t 7) (.t 9))),
  E0 2 (some 13) none (.i (.load false true 2 (.t 12))),
  E0 3 (some 6) none (.i (.box (.k (.agg [.dat none (.int .i64 0), .dat none (.int .i64 0)])))),
  E0 4 (some 5) none (.i (.mv (.t 11))),
  E0 5 none none (.i (.store 2 (.t 6) (.t 13)))]
def spec_GoodArcs.r4 : List Ent := [
  E0 0 (some 14) none (.i (.fad 0 (.t 6))),
  E0 1 (some 15) none (.i (.load false false 1 (.t 14))),
  E0 2 (some 16) none (.i (.mv (.t 0))),
  E0 3 (some 17) none (.i (.bin .sub (.t 16) (.k (I64 1)))),
  E0 4 (some 18) none (.call F_spec_l1In false (roA [.t 15, .k (I64 0), .t 17])),
  E0 5 (some 19) none (.i (.un .not (.t 18))),
  E0 6 (some 20) none (.i (.mv (.t 19))),
  E0 7 (some 21) (some (20, false)) (.i (.fad 1 (.t 6))),
  E0 8 (some 22) (some (20, false)) (.i (.load false false 1 (.t 21))),
  E0 9 (some 23) (some (20, false)) (.i (.mv (.t 0))),
  E0 10 (some 24) (some (20, false)) (.i (.bin .sub (.t 23) (.k (I64 1)))),
  E0 11 (some 25) (some (20, false)) (.call F_spec_l1In false (roA [.t 22, .k (I64 0), .t 24])),
  E0 12 (some 26) (some (20, false)) (.i (.un .not (.t 25))),
  E0 13 (some 27) none (.i (.pick (.t 20) (.k (.dat none (.bool true))) (.t 26)))]
def spec_GoodArcs.r5 : List Ent := [
  E0 0 (some 4) none (.i (.mv (.k (.dat none (.bool false)))))]
def spec_GoodArcs.r6 : List Ent := [
  E0 0 (some 28) none (.i (.mv (.t 5))),
  E0 1 (some 29) none (.i (.bin .gtr (.t 28) (.k (I64 0)))),
  E0 2 (some 30) none (.i (.mv (.t 29))),
  E0 3 (some 31) (some (30, true)) (.i (.mv (.t 1))),
  E0 4 (some 32) (some (30, true)) (.i (.mv (.t 5))),
  E0 5 (some 33) (some (30, true)) (.i (.bin .sub (.t 32) (.k (I64 1)))),
  ER 6 (some 34) (some (30, true)) (.iad 2 (.t 31) (.t 33)),
  ER 7 (some 35) (some (30, true)) (.fad 0 (.t 34)),
  ER 8 (some 36) (some (30, true)) (.load false false 1 (.t 35)),
  ER 9 (some 37) (some (30, true)) (.fad 0 (.t 6)),
  ER 10 (some 38) (some (30, true)) (.load false false 1 (.t 37)),
  E0 11 (some 39) (some (30, true)) (.i (.bin .gtr (.t 36) (.t 38))),
  E0 12 (some 40) (some (30, true)) (.i (.mv (.t 39))),
  E0 13 (some 41) (some (40, false)) (.i (.mv (.t 1))),
  E0 14 (some 42) (some (40, false)) (.i (.mv (.t 5))),
  E0 15 (some 43) (some (40, false)) (.i (.bin .sub (.t 42) (.k (I64 1)))),
  ER 16 (some 44) (some (40, false)) (.iad 2 (.t 41) (.t 43)),
  ER 17 (some 45) (some (40, false)) (.fad 0 (.t 44)),
  ER 18 (some 46) (some (40, false)) (.load false false 1 (.t 45)),
  ER 19 (some 47) (some (40, false)) (.fad 0 (.t 6)),
  ER 20 (some 48) (some (40, false)) (.load false false 1 (.t 47)),
  E0 21 (some 49) (some (40, false)) (.i (.bin .eql (.t 46) (.t 48))),
  E0 22 (some 50) (some (40, false)) (.i (.mv (.t 49))),
  E0 23 (some 51) (some (50, true)) (.i (.mv (.t 1))),
  E0 24 (some 52) (some (50, true)) (.i (.mv (.t 5))),
  E0 25 (some 53) (some (50, true)) (.i (.bin .sub (.t 52) (.k (I64 1)))),
  ER 26 (some 54) (some (50, true)) (.iad 2 (.t 51) (.t 53)),
  ER 27 (some 55) (some (50, true)) (.fad 1 (.t 54)),
  ER 28 (some 56) (some (50, true)) (.load false false 1 (.t 55)),
  ER 29 (some 57) (some (50, true)) (.fad 1 (.t 6)),
  ER 30 (some 58) (some (50, true)) (.load false false 1 (.t 57)),
  E0 31 (some 59) (some (50, true)) (.i (.bin .geq (.t 56) (.t 58))),
  E0 32 (some 60) (some (40, false)) (.i (.pick (.t 50) (.t 59) (.k (.dat none (.bool false))))),
  E0 33 (some 61) (some (30, true)) (.i (.pick (.t 40) (.k (.dat none (.bool true))) (.t 60))),
  E0 34 (some 62) none (.i (.pick (.t 30) (.t 61) (.k (.dat none (.bool false)))))]
def spec_GoodArcs.r7 : List Ent := [
  E0 0 (some 4) none (.i (.mv (.k (.dat none (.bool false)))))]
def spec_GoodArcs.r8 : List Ent := [
  E0 0 (some 63) none (.i (.bin .add (.t 9) (.k (I64 1)))),
  E0 1 (some 9) none (.i (.mv (.t 63)))]
def spec_GoodArcs.b0 : KC := .seq (.reg 320 1 spec_GoodArcs.r2) (.seq (.cond (.t 10) (.skip) (.exit 0)) (.seq (.block 1 (.seq (.reg 384 6 spec_GoodArcs.r3) (.seq (.seq (.reg 768 14 spec_GoodArcs.r4) (.cond (.t 27) (.seq (.reg 1664 1 spec_GoodArcs.r5) (.ret)) (.skip))) (.seq (.reg 1728 35 spec_GoodArcs.r6) (.cond (.t 62) (.seq (.reg 3968 1 spec_GoodArcs.r7) (.ret)) (.skip)))))) (.reg 4032 2 spec_GoodArcs.r8)))
def spec_GoodArcs.r9 : List Ent := [
  E0 0 (some 64) none (.i (.mv (.t 0))),
  E0 1 (some 65) none (.call F_spec_l1In false (roA [.t 64, .k (I64 1), .k (I64 6)])),
  E0 2 (some 66) none (.i (.mv (.t 65))),
  E0 3 (some 67) (some (66, true)) (.i (.mv (.t 1))),
  E0 4 (some 68) (some (66, true)) (.i (.len (.t 67))),
  E0 5 (some 69) (some (66, true)) (.i (.bin .leq (.t 68) (.k (I64 30)))),
  E0 6 (some 70) none (.i (.pick (.t 66) (.t 69) (.k (.dat none (.bool false))))),
  E0 7 (some 4) none (.i (.mv (.t 70)))]
def spec_GoodArcs.fi : FI := { res := [.t 4], code := .seq (.reg 64 1 spec_GoodArcs.r0) (.seq (.seq (.reg 128 3 spec_GoodArcs.r1) (.block 0 (.loop spec_GoodArcs.b0))) (.seq (.reg 4160 8 spec_GoodArcs.r9) (.ret))) }
attribute [go_sem] spec_GoodArcs.r0 spec_GoodArcs.r1 spec_GoodArcs.r2 spec_GoodArcs.r3 spec_GoodArcs.r4 spec_GoodArcs.r5 spec_GoodArcs.r6 spec_GoodArcs.r7 spec_GoodArcs.r8 spec_GoodArcs.r9
theorem spec_GoodArcs.ok : chkF prog F_spec_GoodArcs 2 spec_GoodArcs.fi = true := by kernel_rfl

/-! spec_l12Reach -/
def spec_l12Reach.r0 : List Ent := [
  E0 0 (some 6) none (.i (.mv (.k (.nil 1))))]
def spec_l12Reach.r1 : List Ent := [
  E0 0 (some 11) none (.i (.mv (.t 1))),
  E0 1 (some 12) none (.i (.bsl false 1 [.t 11])),
  E0 2 (some 7) none (.i (.mv (.t 12)))]
def spec_l12Reach.r2 : List Ent := [
  E0 0 (some 13) none (.i (.mv (.t 2))),
  E0 1 (some 14) none (.i (.bin .gtr (.t 13) (.k (I64 0))))]
def spec_l12Reach.r3 : List Ent := [
  E0 0 (some 17) none (.i (.mv (.t 7))),
  E0 1 (some 8) none (.i (.mv (.t 17)))]
def spec_l12Reach.r4 : List Ent := [
  E0 0 (some 18) none (.i (.mv (.t 0))),
  E0 1 (some 19) none (.i (.len (.t 18))),
  E0 2 (some 20) none (.i (.mv (.k (I64 0))))]
def spec_l12Reach.r5 : List Ent := [
  E0 0 (some 21) none (.i (.bin .lss (.t 20) (.t 19)))]
def spec_l12Reach.r6 : List Ent := [
  E0 0 (some 22) none (.i (.iad 2 (.t 18) (.t 20))),
  E0 1 (some 23) none (.i (.load false true 2 (.t 22))),
  E0 2 (some 10) none (.i (.box (.k (.agg [.dat none (.int .i64 0), .dat none (.int .i64 0)])))),
  E0 3 none none (.i (.store 2 (.t 10) (.t 23)))]
def spec_l12Reach.r7 : List Ent := [
  E0 0 (some 24) none (.i (.mv (.t 7))),
  E0 1 (some 25) none (.i (.fad 0 (.t 10))),
  E0 2 (some 26) none (.i (.load false false 1 (.t 25))),
  E0 3 (some 27) none (.call F_spec_l1Has false (roA [.t 24, .t 26]))]
def spec_l12Reach.r8 : List Ent := [
  E0 0 (some 28) none (.i (.mv (.t 8))),
  E0 1 (some 29) none (.i (.fad 1 (.t 10))),
  E0 2 (some 30) none (.i (.load false false 1 (.t 29))),
  E0 3 (some 31) none (.call F_spec_l1Put true (roA [.t 28, .t 30])),
  E0 4 (some 8) none (.i (.mv (.t 31)))]
def spec_l12Reach.r9 : List Ent := [
  E0 0 (some 32) none (.i (.bin .add (.t 20) (.k (I64 1)))),
  E0 1 (some 20) none (.i (.mv (.t 32)))]
def spec_l12Reach.b0 : KC := .seq (.reg 768 1 spec_l12Reach.r5) (.seq (.cond (.t 21) (.skip) (.exit 2)) (.seq (.block 3 (.seq (.reg 832 4 spec_l12Reach.r6) (.seq (.reg 1088 4 spec_l12Reach.r7) (.cond (.t 27) (.reg 1344 5 spec_l12Reach.r8) (.skip))))) (.reg 1664 2 spec_l12Reach.r9)))
def spec_l12Reach.r10 : List Ent := [
  E0 0 (some 33) none (.i (.mv (.t 8))),
  E0 1 (some 7) none (.i (.mv (.t 33)))]
def spec_l12Reach.r11 : List Ent := [
  E0 0 (some 15) none (.i (.mv (.t 2))),
  E0 1 (some 16) none (.i (.bin .sub (.t 15) (.k (I64 1)))),
  E0 2 (some 2) none (.i (.mv (.t 16)))]
def spec_l12Reach.b1 : KC := .seq (.seq (.reg 320 2 spec_l12Reach.r2) (.cond (.t 14) (.skip) (.exit 0))) (.seq (.block 1 (.seq (.reg 448 2 spec_l12Reach.r3) (.seq (.seq (.reg 576 3 spec_l12Reach.r4) (.block 2 (.loop spec_l12Reach.b0))) (.reg 1792 2 spec_l12Reach.r10)))) (.reg 1920 3 spec_l12Reach.r11))
def spec_l12Reach.r12 : List Ent := [
  E0 0 (some 34) none (.i (.mv (.t 7))),
  E0 1 (some 6) none (.i (.mv (.t 34)))]
def spec_l12Reach.fi : FI := { res := [.t 6], code := .seq (.reg 64 1 spec_l12Reach.r0) (.seq (.reg 128 3 spec_l12Reach.r1) (.seq (.fz 7 (.block 0 (.loop spec_l12Reach.b1))) (.seq (.reg 2112 2 spec_l12Reach.r12) (.fz 6 (.ret))))) }
attribute [go_sem] spec_l12Reach.r0 spec_l12Reach.r1 spec_l12Reach.r2 spec_l12Reach.r3 spec_l12Reach.r4 spec_l12Reach.r5 spec_l12Reach.r6 spec_l12Reach.r7 spec_l12Reach.r8 spec_l12Reach.r9 spec_l12Reach.r10 spec_l12Reach.r11 spec_l12Reach.r12
theorem spec_l12Reach.ok : chkF prog F_spec_l12Reach 3 spec_l12Reach.fi = true := by kernel_rfl

/-! spec_EnoughFor -/
def spec_EnoughFor.r0 : List Ent := [
  E0 0 (some 6) none (.i (.mv (.k (I64 0)))),
  E0 1 (some 7) none (.i (.mv (.k (.dat none (.bool false)))))]
def spec_EnoughFor.r1 : List Ent := [
  E0 0 (some 9) none (.i (.mv (.t 0))),
  E0 1 (some 10) none (.i (.mv (.t 1))),
  E0 2 (some 11) none (.call F_spec_GoodArcs false (roA [.t 9, .t 10])),
  E0 3 (some 12) none (.i (.un .not (.t 11))),
  E0 4 (some 13) none (.i (.mv (.t 12))),
  E0 5 (some 14) (some (13, false)) (.i (.mv (.t 2))),
  E0 6 (some 15) (some (13, false)) (.i (.mv (.t 0))),
  E0 7 (some 16) (some (13, false)) (.i (.bin .sub (.t 15) (.k (I64 1)))),
  E0 8 (some 17) (some (13, false)) (.call F_spec_l1In false (roA [.t 14, .k (I64 0), .t 16])),
  E0 9 (some 18) (some (13, false)) (.i (.un .not (.t 17))),
  E0 10 (some 19) none (.i (.pick (.t 13) (.k (.dat none (.bool true))) (.t 18)))]
def spec_EnoughFor.r2 : List Ent := [
  E0 0 (some 6) none (.i (.mv (.k (I64 0)))),
  E0 1 (some 7) none (.i (.mv (.k (.dat none (.bool false)))))]
def spec_EnoughFor.r3 : List Ent := [
  E0 0 (some 8) none (.i (.mv (.k (I64 0))))]
def spec_EnoughFor.r4 : List Ent := [
  E0 0 (some 20) none (.i (.mv (.t 1))),
  E0 1 (some 21) none (.i (.mv (.t 2))),
  E0 2 (some 22) none (.i (.mv (.t 8))),
  E0 3 (some 23) none (.i (.bin .add (.t 22) (.k (I64 1)))),
  E0 4 (some 24) none (.call F_spec_l12Reach true (roA [.t 20, .t 21, .t 23])),
  E0 5 (some 25) none (.i (.len (.t 24))),
  E0 6 (some 26) none (.i (.mv (.t 1))),
  E0 7 (some 27) none (.i (.mv (.t 2))),
  E0 8 (some 28) none (.i (.mv (.t 8))),
  E0 9 (some 29) none (.call F_spec_l12Reach true (roA [.t 26, .t 27, .t 28])),
  E0 10 (some 30) none (.i (.len (.t 29))),
  E0 11 (some 31) none (.i (.bin .gtr (.t 25) (.t 30)))]
def spec_EnoughFor.r5 : List Ent := [
  E0 0 (some 32) none (.i (.mv (.t 8))),
  E0 1 (some 33) none (.i (.bin .add (.t 32) (.k (I64 1)))),
  E0 2 (some 8) none (.i (.mv (.t 33)))]
def spec_EnoughFor.b0 : KC := .seq (.seq (.reg 1088 12 spec_EnoughFor.r4) (.cond (.t 31) (.skip) (.exit 0))) (.block 1 (.reg 1856 3 spec_EnoughFor.r5))
def spec_EnoughFor.r6 : List Ent := [
  E0 0 (some 34) none (.i (.mv (.t 8))),
  E0 1 (some 6) none (.i (.mv (.t 34))),
  E0 2 (some 7) none (.i (.mv (.k (.dat none (.bool true)))))]
def spec_EnoughFor.fi : FI := { res := [.t 6, .t 7], code := .seq (.reg 64 2 spec_EnoughFor.r0) (.seq (.seq (.reg 192 11 spec_EnoughFor.r1) (.cond (.t 19) (.seq (.reg 896 2 spec_EnoughFor.r2) (.ret)) (.skip))) (.seq (.reg 1024 1 spec_EnoughFor.r3) (.seq (.block 0 (.loop spec_EnoughFor.b0)) (.seq (.reg 2048 3 spec_EnoughFor.r6) (.ret))))) }
attribute [go_sem] spec_EnoughFor.r0 spec_EnoughFor.r1 spec_EnoughFor.r2 spec_EnoughFor.r3 spec_EnoughFor.r4 spec_EnoughFor.r5 spec_EnoughFor.r6
theorem spec_EnoughFor.ok : chkF prog F_spec_EnoughFor 3 spec_EnoughFor.fi = true := by kernel_rfl

/-! impl_ReachWithin_c1 -/
def impl_ReachWithin_c1.r0 : List Ent := [
  E0 0 (some 3) none (.i (.mv (.k (.dat none (.bool false)))))]
def impl_ReachWithin_c1.r1 : List Ent := [
  E0 0 (some 4) none (.i (.load false false 1 (.t 1))),
  E0 1 (some 5) none (.i (.mv (.t 0))),
  E0 2 (some 6) none (.i (.iad 1 (.t 4) (.t 5))),
  E0 3 (some 7) none (.i (.load false false 1 (.t 6))),
  E0 4 (some 3) none (.i (.mv (.t 7)))]
def impl_ReachWithin_c1.fi : FI := { res := [.t 3], code := .seq (.reg 64 1 impl_ReachWithin_c1.r0) (.seq (.reg 128 5 impl_ReachWithin_c1.r1) (.ret)) }
attribute [go_sem] impl_ReachWithin_c1.r0 impl_ReachWithin_c1.r1
theorem impl_ReachWithin_c1.ok : chkF prog F_impl_ReachWithin_c1 2 impl_ReachWithin_c1.fi = true := by kernel_rfl

/-! impl_ReachWithin -/
def impl_ReachWithin.r0 : List Ent := [
  E0 0 (some 8) none (.i (.mv (.k (.nil 1)))),
  E0 1 (some 9) none (.i (.mv (.k (.dat none (.bool false)))))]
def impl_ReachWithin.r1 : List Ent := [
  E0 0 (some 11) none (.i (.mv (.t 0))),
  E0 1 (some 12) none (.i (.mv (.t 1))),
  E0 2 (some 13) none (.call F_impl_GoodArcs false (roA [.t 11, .t 12])),
  E0 3 (some 14) none (.i (.un .not (.t 13))),
  E0 4 (some 15) none (.i (.mv (.t 14))),
  E0 5 (some 16) (some (15, false)) (.i (.mv (.t 2))),
  E0 6 (some 17) (some (15, false)) (.i (.mv (.t 0))),
  E0 7 (some 18) (some (15, false)) (.i (.bin .sub (.t 17) (.k (I64 1)))),
  E0 8 (some 19) (some (15, false)) (.call F_impl_in false (roA [.t 16, .k (I64 0), .t 18])),
  E0 9 (some 20) (some (15, false)) (.i (.un .not (.t 19))),
  E0 10 (some 21) none (.i (.pick (.t 15) (.k (.dat none (.bool true))) (.t 20))),
  E0 11 (some 22) none (.i (.mv (.t 21))),
  E0 12 (some 23) (some (22, false)) (.i (.mv (.t 3))),
  E0 13 (some 24) (some (22, false)) (.call F_impl_in false (roA [.t 23, .k (I64 0), .k (I64 8)])),
  E0 14 (some 25) (some (22, false)) (.i (.un .not (.t 24))),
  E0 15 (some 26) none (.i (.pick (.t 22) (.k (.dat none (.bool true))) (.t 25)))]
def impl_ReachWithin.r2 : List Ent := [
  E0 0 (some 8) none (.i (.mv (.k (.nil 1)))),
  E0 1 (some 9) none (.i (.mv (.k (.dat none (.bool false)))))]
def impl_ReachWithin.r3 : List Ent := [
  E0 0 (some 27) none (.i (.mv (.t 0))),
  E0 1 (some 28) none (.i (.mv (.t 1))),
  E0 2 (some 29) none (.i (.mv (.t 2))),
  E0 3 (some 30) none (.i (.mv (.t 3))),
  E0 4 (some 31) none (.call F_impl_within false (roA [.t 27, .t 28, .t 29, .t 30])),
  E0 5 (some 10) none (.i (.box (.k (.nil 1)))),
  E0 6 none none (.i (.store 1 (.t 10) (.t 31)))]
def impl_ReachWithin.r4 : List Ent := [
  E0 0 (some 32) none (.i (.mv (.t 0))),
  E0 1 (some 33) none (.i (.mkf F_impl_ReachWithin_c1 [.t 10])),
  E0 2 (some 34) none (.call F_impl_list false (roA [.t 32, .t 33])),
  E0 3 (some 8) none (.i (.mv (.t 34))),
  E0 4 (some 9) none (.i (.mv (.k (.dat none (.bool true)))))]
def impl_ReachWithin.fi : FI := { res := [.t 8, .t 9], code := .seq (.reg 64 2 impl_ReachWithin.r0) (.seq (.seq (.reg 192 16 impl_ReachWithin.r1) (.cond (.t 26) (.seq (.reg 1216 2 impl_ReachWithin.r2) (.ret)) (.skip))) (.seq (.reg 1344 7 impl_ReachWithin.r3) (.seq (.reg 1792 5 impl_ReachWithin.r4) (.ret)))) }
attribute [go_sem] impl_ReachWithin.r0 impl_ReachWithin.r1 impl_ReachWithin.r2 impl_ReachWithin.r3 impl_ReachWithin.r4
theorem impl_ReachWithin.ok : chkF prog F_impl_ReachWithin 4 impl_ReachWithin.fi = true := by kernel_rfl

/-! spec_DrawWalksOf -/
def spec_DrawWalksOf.r0 : List Ent := [
  E0 0 (some 2) none (.i (.mv (.k (I64 0)))),
  E0 1 (some 3) none (.i (.mv (.k (.nil 2)))),
  E0 2 (some 4) none (.i (.mv (.k (I64 0)))),
  E0 3 (some 5) none (.i (.mv (.k (I64 0)))),
  E0 4 (some 6) none (.i (.mv (.k (I64 0))))]
def spec_DrawWalksOf.r1 : List Ent := [
  E0 0 (some 10) none (.i (.mv (.t 0))),
  E0 1 (some 11) none (.i (.bld [.t 10, .k (.dat none (.int .i64 0)), .k (.dat none (.int .u64 0))])),
  E0 2 (some 12) none (.i (.box (.t 11))),
  E0 3 (some 7) none (.i (.mv (.t 12)))]
def spec_DrawWalksOf.r2 : List Ent := [
  E0 0 (some 14) none (.i (.mv (.t 7))),
  E0 1 (some 15) none (.call F_spec_pl1Cur_arcs true [(.io, .t 14)]),
  E0 2 (some 13) none (.i (.mv (.t 15))),
  E0 3 (some 16) none (.i (.ext 0 (.t 13))),
  E0 4 (some 17) none (.i (.ext 1 (.t 13))),
  E0 5 (some 8) none (.i (.mv (.t 16))),
  E0 6 (some 9) none (.i (.mv (.t 17)))]
def spec_DrawWalksOf.r3 : List Ent := [
  E0 0 (some 18) none (.i (.mv (.t 8))),
  E0 1 (some 19) none (.i (.mv (.t 9))),
  E0 2 (some 20) none (.i (.mv (.t 7))),
  E0 3 (some 21) none (.i (.mv (.t 8))),
  E0 4 (some 22) none (.call F_spec_pl1Cur_pick true [(.io, .t 20), (.ro, .t 21)]),
  E0 5 (some 23) none (.i (.mv (.t 7))),
  E0 6 (some 24) none (.i (.mv (.t 8))),
  E0 7 (some 25) none (.i (.mv (.t 7))),
  E0 8 (some 26) none (.call F_spec_pl1Cur_pick true [(.io, .t 25), (.ro, .k (I64 20))]),
  E0 9 (some 27) none (.i (.bin .quo (.t 26) (.k (I64 19)))),
  E0 10 (some 28) none (.i (.bin .add (.t 24) (.t 27))),
  E0 11 (some 29) none (.call F_spec_pl1Cur_pick true [(.io, .t 23), (.ro, .t 28)]),
  E0 12 (some 30) none (.i (.mv (.t 7))),
  E0 13 (some 31) none (.call F_spec_pl1Cur_pick true [(.io, .t 30), (.ro, .k (I64 10))]),
  E0 14 (some 2) none (.i (.mv (.t 18))),
  E0 15 (some 3) none (.i (.mv (.t 19))),
  E0 16 (some 4) none (.i (.mv (.t 22))),
  E0 17 (some 5) none (.i (.mv (.t 29))),
  E0 18 (some 6) none (.i (.mv (.t 31)))]
def spec_DrawWalksOf.fi : FI := { res := [.t 2, .t 3, .t 4, .t 5, .t 6], code := .seq (.reg 64 5 spec_DrawWalksOf.r0) (.seq (.reg 384 4 spec_DrawWalksOf.r1) (.seq (.reg 640 7 spec_DrawWalksOf.r2) (.seq (.reg 1088 19 spec_DrawWalksOf.r3) (.ret)))) }
attribute [go_sem] spec_DrawWalksOf.r0 spec_DrawWalksOf.r1 spec_DrawWalksOf.r2 spec_DrawWalksOf.r3
theorem spec_DrawWalksOf.ok : chkF prog F_spec_DrawWalksOf 1 spec_DrawWalksOf.fi = true := by kernel_rfl

/-! impl_WalksOf -/
def impl_WalksOf.r0 : List Ent := [
  E0 0 (some 10) none (.i (.mv (.k (I64 0)))),
  E0 1 (some 11) none (.i (.mv (.k (.dat none (.bool false)))))]
def impl_WalksOf.r1 : List Ent := [
  E0 0 (some 16) none (.i (.mv (.t 0))),
  E0 1 (some 17) none (.i (.mv (.t 1))),
  E0 2 (some 18) none (.call F_impl_GoodArcs false (roA [.t 16, .t 17])),
  E0 3 (some 19) none (.i (.un .not (.t 18))),
  E0 4 (some 20) none (.i (.mv (.t 19))),
  E0 5 (some 21) (some (20, false)) (.i (.mv (.t 2))),
  E0 6 (some 22) (some (20, false)) (.i (.mv (.t 0))),
  E0 7 (some 23) (some (20, false)) (.i (.bin .sub (.t 22) (.k (I64 1)))),
  E0 8 (some 24) (some (20, false)) (.call F_impl_in false (roA [.t 21, .k (I64 0), .t 23])),
  E0 9 (some 25) (some (20, false)) (.i (.un .not (.t 24))),
  E0 10 (some 26) none (.i (.pick (.t 20) (.k (.dat none (.bool true))) (.t 25))),
  E0 11 (some 27) none (.i (.mv (.t 26))),
  E0 12 (some 28) (some (27, false)) (.i (.mv (.t 3))),
  E0 13 (some 29) (some (27, false)) (.i (.mv (.t 0))),
  E0 14 (some 30) (some (27, false)) (.i (.bin .sub (.t 29) (.k (I64 1)))),
  E0 15 (some 31) (some (27, false)) (.call F_impl_in false (roA [.t 28, .k (I64 0), .t 30])),
  E0 16 (some 32) (some (27, false)) (.i (.un .not (.t 31))),
  E0 17 (some 33) none (.i (.pick (.t 27) (.k (.dat none (.bool true))) (.t 32))),
  E0 18 (some 34) none (.i (.mv (.t 33))),
  E0 19 (some 35) (some (34, false)) (.i (.mv (.t 4))),
  E0 20 (some 36) (some (34, false)) (.call F_impl_in false (roA [.t 35, .k (I64 1), .k (I64 8)])),
  E0 21 (some 37) (some (34, false)) (.i (.un .not (.t 36))),
  E0 22 (some 38) none (.i (.pick (.t 34) (.k (.dat none (.bool true))) (.t 37)))]
def impl_WalksOf.r2 : List Ent := [
  E0 0 (some 10) none (.i (.mv (.k (I64 0)))),
  E0 1 (some 11) none (.i (.mv (.k (.dat none (.bool false)))))]
def impl_WalksOf.r3 : List Ent := [
  E0 0 (some 39) none (.i (.mv (.t 0))),
  E0 1 (some 40) none (.i (.mks 1 8 (.int .i64 0) (.t 39) (.t 39))),
  E0 2 (some 12) none (.i (.mv (.t 40)))]
def impl_WalksOf.r4 : List Ent := [
  E0 0 (some 41) none (.i (.mv (.t 12))),
  E0 1 (some 42) none (.i (.mv (.t 2))),
  E0 2 (some 43) none (.i (.iad 1 (.t 41) (.t 42))),
  E0 3 none none (.i (.store 1 (.t 43) (.k (I64 1))))]
def impl_WalksOf.r5 : List Ent := [
  E0 0 (some 44) none (.i (.mv (.t 4))),
  E0 1 (some 45) none (.i (.bin .sub (.t 44) (.k (I64 1)))),
  E0 2 (some 46) none (.i (.mv (.k (I64 0))))]
def impl_WalksOf.r6 : List Ent := [
  E0 0 (some 47) none (.i (.bin .lss (.t 46) (.t 45)))]
def impl_WalksOf.r7 : List Ent := [
  E0 0 (some 48) none (.i (.mv (.t 0))),
  E0 1 (some 49) none (.i (.mks 1 8 (.int .i64 0) (.t 48) (.t 48))),
  E0 2 (some 13) none (.i (.mv (.t 49)))]
def impl_WalksOf.r8 : List Ent := [
  E0 0 (some 50) none (.i (.mv (.t 1))),
  E0 1 (some 51) none (.i (.len (.t 50))),
  E0 2 (some 52) none (.i (.mv (.k (I64 0))))]
def impl_WalksOf.r9 : List Ent := [
  E0 0 (some 53) none (.i (.bin .lss (.t 52) (.t 51)))]
def impl_WalksOf.r10 : List Ent := [
  E0 0 (some 54) none (.i (.iad 2 (.t 50) (.t 52))),
  E0 1 (some 55) none (.i (.load false true 2 (.t 54))),
  E0 2 (some 15) none (.i (.box (.k (.agg [.dat none (.int .i64 0), .dat none (.int .i64 0)])))),
  E0 3 none none (.i (.store 2 (.t 15) (.t 55)))]
def impl_WalksOf.r11 : List Ent := [
  E0 0 (some 56) none (.i (.mv (.t 13))),
  ER 1 (some 57) none (.fad 1 (.t 15)),
  ER 2 (some 58) none (.load false false 1 (.t 57)),
  ER 3 (some 59) none (.iad 1 (.t 56) (.t 58)),
  ER 4 (some 60) none (.load false false 1 (.t 59)),
  E0 5 (some 61) none (.i (.mv (.t 12))),
  ER 6 (some 62) none (.fad 0 (.t 15)),
  ER 7 (some 63) none (.load false false 1 (.t 62)),
  ER 8 (some 64) none (.iad 1 (.t 61) (.t 63)),
  ER 9 (some 65) none (.load false false 1 (.t 64)),
  E0 10 (some 66) none (.i (.bin .add (.t 60) (.t 65))),
  E0 11 (some 67) none (.i (.iad 1 (.t 56) (.t 58))),
  E0 12 none none (.i (.store 1 (.t 67) (.t 66)))]
def impl_WalksOf.r12 : List Ent := [
  E0 0 (some 68) none (.i (.bin .add (.t 52) (.k (I64 1)))),
  E0 1 (some 52) none (.i (.mv (.t 68)))]
def impl_WalksOf.b0 : KC := .seq (.reg 2880 1 impl_WalksOf.r9) (.seq (.cond (.t 53) (.skip) (.exit 2)) (.seq (.block 3 (.seq (.reg 2944 4 impl_WalksOf.r10) (.reg 3200 13 impl_WalksOf.r11))) (.reg 4032 2 impl_WalksOf.r12)))
def impl_WalksOf.r13 : List Ent := [
  E0 0 (some 69) none (.i (.mv (.t 13))),
  E0 1 (some 12) none (.i (.mv (.t 69)))]
def impl_WalksOf.r14 : List Ent := [
  E0 0 (some 70) none (.i (.bin .add (.t 46) (.k (I64 1)))),
  E0 1 (some 46) none (.i (.mv (.t 70)))]
def impl_WalksOf.b1 : KC := .seq (.reg 2432 1 impl_WalksOf.r6) (.seq (.cond (.t 47) (.skip) (.exit 0)) (.seq (.block 1 (.seq (.reg 2496 3 impl_WalksOf.r7) (.seq (.seq (.reg 2688 3 impl_WalksOf.r8) (.block 2 (.loop impl_WalksOf.b0))) (.reg 4160 2 impl_WalksOf.r13)))) (.fz 12 (.reg 4288 2 impl_WalksOf.r14))))
def impl_WalksOf.r15 : List Ent := [
  E0 0 (some 71) none (.i (.mv (.t 12))),
  E0 1 (some 72) none (.i (.mv (.t 3))),
  E0 2 (some 73) none (.i (.iad 1 (.t 71) (.t 72))),
  E0 3 (some 74) none (.i (.load false false 1 (.t 73))),
  E0 4 (some 10) none (.i (.mv (.t 74))),
  E0 5 (some 11) none (.i (.mv (.k (.dat none (.bool true)))))]
def impl_WalksOf.fi : FI := { res := [.t 10, .t 11], code := .seq (.reg 64 2 impl_WalksOf.r0) (.seq (.seq (.reg 192 23 impl_WalksOf.r1) (.cond (.t 38) (.seq (.reg 1664 2 impl_WalksOf.r2) (.ret)) (.skip))) (.seq (.reg 1792 3 impl_WalksOf.r3) (.seq (.reg 1984 4 impl_WalksOf.r4) (.seq (.seq (.reg 2240 3 impl_WalksOf.r5) (.fz 12 (.block 0 (.loop impl_WalksOf.b1)))) (.seq (.reg 4416 6 impl_WalksOf.r15) (.ret)))))) }
attribute [go_sem] impl_WalksOf.r0 impl_WalksOf.r1 impl_WalksOf.r2 impl_WalksOf.r3 impl_WalksOf.r4 impl_WalksOf.r5 impl_WalksOf.r6 impl_WalksOf.r7 impl_WalksOf.r8 impl_WalksOf.r9 impl_WalksOf.r10 impl_WalksOf.r11 impl_WalksOf.r12 impl_WalksOf.r13 impl_WalksOf.r14 impl_WalksOf.r15
theorem impl_WalksOf.ok : chkF prog F_impl_WalksOf 5 impl_WalksOf.fi = true := by kernel_rfl

/-! spec_WalksOf -/
def spec_WalksOf.r0 : List Ent := [
  E0 0 (some 10) none (.i (.mv (.k (I64 0)))),
  E0 1 (some 11) none (.i (.mv (.k (.dat none (.bool false)))))]
def spec_WalksOf.r1 : List Ent := [
  E0 0 (some 17) none (.i (.mv (.t 0))),
  E0 1 (some 18) none (.i (.mv (.t 1))),
  E0 2 (some 19) none (.call F_spec_GoodArcs false (roA [.t 17, .t 18])),
  E0 3 (some 20) none (.i (.un .not (.t 19))),
  E0 4 (some 21) none (.i (.mv (.t 20))),
  E0 5 (some 22) (some (21, false)) (.i (.mv (.t 2))),
  E0 6 (some 23) (some (21, false)) (.i (.mv (.t 0))),
  E0 7 (some 24) (some (21, false)) (.i (.bin .sub (.t 23) (.k (I64 1)))),
  E0 8 (some 25) (some (21, false)) (.call F_spec_l1In false (roA [.t 22, .k (I64 0), .t 24])),
  E0 9 (some 26) (some (21, false)) (.i (.un .not (.t 25))),
  E0 10 (some 27) none (.i (.pick (.t 21) (.k (.dat none (.bool true))) (.t 26))),
  E0 11 (some 28) none (.i (.mv (.t 27))),
  E0 12 (some 29) (some (28, false)) (.i (.mv (.t 3))),
  E0 13 (some 30) (some (28, false)) (.i (.mv (.t 0))),
  E0 14 (some 31) (some (28, false)) (.i (.bin .sub (.t 30) (.k (I64 1)))),
  E0 15 (some 32) (some (28, false)) (.call F_spec_l1In false (roA [.t 29, .k (I64 0), .t 31])),
  E0 16 (some 33) (some (28, false)) (.i (.un .not (.t 32))),
  E0 17 (some 34) none (.i (.pick (.t 28) (.k (.dat none (.bool true))) (.t 33))),
  E0 18 (some 35) none (.i (.mv (.t 34))),
  E0 19 (some 36) (some (35, false)) (.i (.mv (.t 4))),
  E0 20 (some 37) (some (35, false)) (.call F_spec_l1In false (roA [.t 36, .k (I64 1), .k (I64 8)])),
  E0 21 (some 38) (some (35, false)) (.i (.un .not (.t 37))),
  E0 22 (some 39) none (.i (.pick (.t 35) (.k (.dat none (.bool true))) (.t 38)))]
def spec_WalksOf.r2 : List Ent := [
  E0 0 (some 10) none (.i (.mv (.k (I64 0)))),
  E0 1 (some 11) none (.i (.mv (.k (.dat none (.bool false)))))]
def spec_WalksOf.r3 : List Ent := [
  E0 0 (some 40) none (.i (.mv (.t 0))),
  E0 1 (some 41) none (.i (.mks 1 8 (.int .i64 0) (.t 40) (.t 40))),
  E0 2 (some 12) none (.i (.mv (.t 41)))]
def spec_WalksOf.r4 : List Ent := [
  E0 0 (some 42) none (.i (.mv (.t 12))),
  E0 1 (some 43) none (.i (.mv (.t 2))),
  E0 2 (some 44) none (.i (.iad 1 (.t 42) (.t 43))),
  E0 3 none none (.i (.store 1 (.t 44) (.k (I64 1))))]
def spec_WalksOf.r5 : List Ent := [
  E0 0 (some 13) none (.i (.mv (.k (I64 1))))]
def spec_WalksOf.r6 : List Ent := [
  E0 0 (some 45) none (.i (.mv (.t 13))),
  E0 1 (some 46) none (.i (.mv (.t 4))),
  E0 2 (some 47) none (.i (.bin .lss (.t 45) (.t 46)))]
def spec_WalksOf.r7 : List Ent := [
  E0 0 (some 50) none (.i (.mv (.t 0))),
  E0 1 (some 51) none (.i (.mks 1 8 (.int .i64 0) (.t 50) (.t 50))),
  E0 2 (some 14) none (.i (.mv (.t 51)))]
def spec_WalksOf.r8 : List Ent := [
  E0 0 (some 52) none (.i (.mv (.t 1))),
  E0 1 (some 53) none (.i (.len (.t 52))),
  E0 2 (some 54) none (.i (.mv (.k (I64 0))))]
def spec_WalksOf.r9 : List Ent := [
  E0 0 (some 55) none (.i (.bin .lss (.t 54) (.t 53)))]
def spec_WalksOf.r10 : List Ent := [
  E0 0 (some 56) none (.i (.iad 2 (.t 52) (.t 54))),
  E0 1 (some 57) none (.i (.load false true 2 (.t 56))),
  E0 2 (some 16) none (.i (.box (.k (.agg [.dat none (.int .i64 0), .dat none (.int .i64 0)])))),
  E0 3 none none (.i (.store 2 (.t 16) (.t 57)))]
def spec_WalksOf.r11 : List Ent := [
  E0 0 (some 58) none (.i (.mv (.t 14))),
  ER 1 (some 59) none (.fad 1 (.t 16)),
  ER 2 (some 60) none (.load false false 1 (.t 59)),
  ER 3 (some 61) none (.iad 1 (.t 58) (.t 60)),
  ER 4 (some 62) none (.load false false 1 (.t 61)),
  E0 5 (some 63) none (.i (.mv (.t 12))),
  ER 6 (some 64) none (.fad 0 (.t 16)),
  ER 7 (some 65) none (.load false false 1 (.t 64)),
  ER 8 (some 66) none (.iad 1 (.t 63) (.t 65)),
  ER 9 (some 67) none (.load false false 1 (.t 66)),
  E0 10 (some 68) none (.i (.bin .add (.t 62) (.t 67))),
  E0 11 (some 69) none (.i (.iad 1 (.t 58) (.t 60))),
  E0 12 none none (.i (.store 1 (.t 69) (.t 68)))]
def spec_WalksOf.r12 : List Ent := [
  E0 0 (some 70) none (.i (.bin .add (.t 54) (.k (I64 1)))),
  E0 1 (some 54) none (.i (.mv (.t 70)))]
def spec_WalksOf.b0 : KC := .seq (.reg 2880 1 spec_WalksOf.r9) (.seq (.cond (.t 55) (.skip) (.exit 2)) (.seq (.block 3 (.seq (.reg 2944 4 spec_WalksOf.r10) (.reg 3200 13 spec_WalksOf.r11))) (.reg 4032 2 spec_WalksOf.r12)))
def spec_WalksOf.r13 : List Ent := [
  E0 0 (some 71) none (.i (.mv (.t 14))),
  E0 1 (some 12) none (.i (.mv (.t 71)))]
def spec_WalksOf.r14 : List Ent := [
  E0 0 (some 48) none (.i (.mv (.t 13))),
  E0 1 (some 49) none (.i (.bin .add (.t 48) (.k (I64 1)))),
  E0 2 (some 13) none (.i (.mv (.t 49)))]
def spec_WalksOf.b1 : KC := .seq (.seq (.reg 2304 3 spec_WalksOf.r6) (.cond (.t 47) (.skip) (.exit 0))) (.seq (.block 1 (.seq (.reg 2496 3 spec_WalksOf.r7) (.seq (.seq (.reg 2688 3 spec_WalksOf.r8) (.block 2 (.loop spec_WalksOf.b0))) (.reg 4160 2 spec_WalksOf.r13)))) (.fz 12 (.reg 4288 3 spec_WalksOf.r14)))
def spec_WalksOf.r15 : List Ent := [
  E0 0 (some 72) none (.i (.mv (.t 12))),
  E0 1 (some 73) none (.i (.mv (.t 3))),
  E0 2 (some 74) none (.i (.iad 1 (.t 72) (.t 73))),
  E0 3 (some 75) none (.i (.load false false 1 (.t 74))),
  E0 4 (some 10) none (.i (.mv (.t 75))),
  E0 5 (some 11) none (.i (.mv (.k (.dat none (.bool true)))))]
def spec_WalksOf.fi : FI := { res := [.t 10, .t 11], code := .seq (.reg 64 2 spec_WalksOf.r0) (.seq (.seq (.reg 192 23 spec_WalksOf.r1) (.cond (.t 39) (.seq (.reg 1664 2 spec_WalksOf.r2) (.ret)) (.skip))) (.seq (.reg 1792 3 spec_WalksOf.r3) (.seq (.reg 1984 4 spec_WalksOf.r4) (.seq (.seq (.reg 2240 1 spec_WalksOf.r5) (.fz 12 (.block 0 (.loop spec_WalksOf.b1)))) (.seq (.reg 4480 6 spec_WalksOf.r15) (.ret)))))) }
attribute [go_sem] spec_WalksOf.r0 spec_WalksOf.r1 spec_WalksOf.r2 spec_WalksOf.r3 spec_WalksOf.r4 spec_WalksOf.r5 spec_WalksOf.r6 spec_WalksOf.r7 spec_WalksOf.r8 spec_WalksOf.r9 spec_WalksOf.r10 spec_WalksOf.r11 spec_WalksOf.r12 spec_WalksOf.r13 spec_WalksOf.r14 spec_WalksOf.r15
theorem spec_WalksOf.ok : chkF prog F_spec_WalksOf 5 spec_WalksOf.fi = true := by kernel_rfl

/-! laws_hasArc -/
def laws_hasArc.r0 : List Ent := [
  E0 0 (some 6) none (.i (.mv (.k (.dat none (.bool false)))))]
def laws_hasArc.r1 : List Ent := [
  E0 0 (some 9) none (.i (.mv (.t 0))),
  E0 1 (some 10) none (.i (.len (.t 9))),
  E0 2 (some 11) none (.i (.mv (.k (I64 0))))]
def laws_hasArc.r2 : List Ent := [
  E0 0 (some 12) none (.i (.bin .lss (.t 11) (.t 10)))]
def laws_hasArc.r3 : List Ent := [
  E0 0 (some 13) none (.i (.iad 2 (.t 9) (.t 11))),
  E0 1 (some 14) none (.i (.load false true 2 (.t 13))),
  E0 2 (some 8) none (.i (.box (.k (.agg [.dat none (.int .i64 0), .dat none (.int .i64 0)])))),
  E0 3 none none (.i (.store 2 (.t 8) (.t 14)))]
def laws_hasArc.r4 : List Ent := [
  E0 0 (some 15) none (.i (.fad 0 (.t 8))),
  E0 1 (some 16) none (.i (.load false false 1 (.t 15))),
  E0 2 (some 17) none (.i (.mv (.t 1))),
  E0 3 (some 18) none (.i (.bin .eql (.t 16) (.t 17))),
  E0 4 (some 19) none (.i (.mv (.t 18))),
  E0 5 (some 20) (some (19, true)) (.i (.fad 1 (.t 8))),
  E0 6 (some 21) (some (19, true)) (.i (.load false false 1 (.t 20))),
  E0 7 (some 22) (some (19, true)) (.i (.mv (.t 2))),
  E0 8 (some 23) (some (19, true)) (.i (.bin .eql (.t 21) (.t 22))),
  E0 9 (some 24) none (.i (.pick (.t 19) (.t 23) (.k (.dat none (.bool false)))))]
def laws_hasArc.r5 : List Ent := [
  E0 0 (some 6) none (.i (.mv (.k (.dat none (.bool true)))))]
def laws_hasArc.r6 : List Ent := [
  E0 0 (some 25) none (.i (.bin .add (.t 11) (.k (I64 1)))),
  E0 1 (some 11) none (.i (.mv (.t 25)))]
def laws_hasArc.b0 : KC := .seq (.reg 320 1 laws_hasArc.r2) (.seq (.cond (.t 12) (.skip) (.exit 0)) (.seq (.block 1 (.seq (.reg 384 4 laws_hasArc.r3) (.seq (.reg 640 10 laws_hasArc.r4) (.cond (.t 24) (.seq (.reg 1280 1 laws_hasArc.r5) (.ret)) (.skip))))) (.reg 1344 2 laws_hasArc.r6)))
def laws_hasArc.r7 : List Ent := [
  E0 0 (some 6) none (.i (.mv (.k (.dat none (.bool false)))))]
def laws_hasArc.fi : FI := { res := [.t 6], code := .seq (.reg 64 1 laws_hasArc.r0) (.seq (.seq (.reg 128 3 laws_hasArc.r1) (.block 0 (.loop laws_hasArc.b0))) (.seq (.reg 1472 1 laws_hasArc.r7) (.ret))) }
attribute [go_sem] laws_hasArc.r0 laws_hasArc.r1 laws_hasArc.r2 laws_hasArc.r3 laws_hasArc.r4 laws_hasArc.r5 laws_hasArc.r6 laws_hasArc.r7
theorem laws_hasArc.ok : chkF prog F_laws_hasArc 3 laws_hasArc.fi = true := by kernel_rfl

/-! spec_ReachWithin -/
def spec_ReachWithin.r0 : List Ent := [
  E0 0 (some 8) none (.i (.mv (.k (.nil 1)))),
  E0 1 (some 9) none (.i (.mv (.k (.dat none (.bool false)))))]
def spec_ReachWithin.r1 : List Ent := [
  E0 0 (some 10) none (.i (.mv (.t 0))),
  E0 1 (some 11) none (.i (.mv (.t 1))),
  E0 2 (some 12) none (.call F_spec_GoodArcs false (roA [.t 10, .t 11])),
  E0 3 (some 13) none (.i (.un .not (.t 12))),
  E0 4 (some 14) none (.i (.mv (.t 13))),
  E0 5 (some 15) (some (14, false)) (.i (.mv (.t 2))),
  E0 6 (some 16) (some (14, false)) (.i (.mv (.t 0))),
  E0 7 (some 17) (some (14, false)) (.i (.bin .sub (.t 16) (.k (I64 1)))),
  E0 8 (some 18) (some (14, false)) (.call F_spec_l1In false (roA [.t 15, .k (I64 0), .t 17])),
  E0 9 (some 19) (some (14, false)) (.i (.un .not (.t 18))),
  E0 10 (some 20) none (.i (.pick (.t 14) (.k (.dat none (.bool true))) (.t 19))),
  E0 11 (some 21) none (.i (.mv (.t 20))),
  E0 12 (some 22) (some (21, false)) (.i (.mv (.t 3))),
  E0 13 (some 23) (some (21, false)) (.call F_spec_l1In false (roA [.t 22, .k (I64 0), .k (I64 8)])),
  E0 14 (some 24) (some (21, false)) (.i (.un .not (.t 23))),
  E0 15 (some 25) none (.i (.pick (.t 21) (.k (.dat none (.bool true))) (.t 24)))]
def spec_ReachWithin.r2 : List Ent := [
  E0 0 (some 8) none (.i (.mv (.k (.nil 1)))),
  E0 1 (some 9) none (.i (.mv (.k (.dat none (.bool false)))))]
def spec_ReachWithin.r3 : List Ent := [
  E0 0 (some 26) none (.i (.bsl false 1 [])),
  E0 1 (some 27) none (.i (.mv (.t 1))),
  E0 2 (some 28) none (.i (.mv (.t 2))),
  E0 3 (some 29) none (.i (.mv (.t 3))),
  E0 4 (some 30) none (.call F_spec_l12Reach true (roA [.t 27, .t 28, .t 29])),
  E0 5 (some 31) none (.i (.app 1 8 (.t 26) (.t 30))),
  E0 6 (some 8) none (.i (.mv (.t 31))),
  E0 7 (some 9) none (.i (.mv (.k (.dat none (.bool true)))))]
def spec_ReachWithin.fi : FI := { res := [.t 8, .t 9], code := .seq (.reg 64 2 spec_ReachWithin.r0) (.seq (.seq (.reg 192 16 spec_ReachWithin.r1) (.cond (.t 25) (.seq (.reg 1216 2 spec_ReachWithin.r2) (.ret)) (.skip))) (.seq (.reg 1344 8 spec_ReachWithin.r3) (.ret))) }
attribute [go_sem] spec_ReachWithin.r0 spec_ReachWithin.r1 spec_ReachWithin.r2 spec_ReachWithin.r3
theorem spec_ReachWithin.ok : chkF prog F_spec_ReachWithin 4 spec_ReachWithin.fi = true := by kernel_rfl

/-! laws_FnEnough -/
def laws_FnEnough.r0 : List Ent := [
  E0 0 (some 4) none (.i (.mv (.k (.dat none (.bool false)))))]
def laws_FnEnough.r1 : List Ent := [
  E0 0 (some 39) none (.i (.mv (.t 0))),
  E0 1 (some 40) none (.i (.len (.t 39))),
  E0 2 (some 41) none (.i (.mv (.t 1))),
  E0 3 (some 42) none (.i (.len (.t 41))),
  E0 4 (some 43) none (.i (.bin .add (.t 40) (.t 42))),
  E0 5 (some 44) none (.i (.bin .gtr (.t 43) (.k (I64 1048576))))]
def laws_FnEnough.r2 : List Ent := [
  E0 0 (some 4) none (.i (.mv (.k (.dat none (.bool true)))))]
def laws_FnEnough.r3 : List Ent := [
  E0 0 (some 46) none (.i (.mv (.t 0))),
  E0 1 (some 47) none (.call F_spec_DrawEnoughFor false (roA [.t 46])),
  E0 2 (some 45) none (.i (.mv (.t 47))),
  E0 3 (some 48) none (.i (.ext 0 (.t 45))),
  E0 4 (some 49) none (.i (.ext 1 (.t 45))),
  E0 5 (some 50) none (.i (.ext 2 (.t 45))),
  E0 6 (some 5) none (.i (.mv (.t 48))),
  E0 7 (some 6) none (.i (.mv (.t 49))),
  E0 8 (some 7) none (.i (.mv (.t 50)))]
def laws_FnEnough.r4 : List Ent := [
  E0 0 (some 52) none (.i (.mv (.t 5))),
  E0 1 (some 53) none (.i (.mv (.t 6))),
  E0 2 (some 54) none (.i (.mv (.t 7))),
  E0 3 (some 55) none (.call F_impl_EnoughFor false (roA [.t 52, .t 53, .t 54])),
  E0 4 (some 51) none (.i (.mv (.t 55))),
  E0 5 (some 56) none (.i (.ext 0 (.t 51))),
  E0 6 (some 57) none (.i (.ext 1 (.t 51))),
  E0 7 (some 8) none (.i (.mv (.t 56))),
  E0 8 (some 9) none (.i (.mv (.t 57)))]
def laws_FnEnough.r5 : List Ent := [
  E0 0 (some 59) none (.i (.mv (.t 5))),
  E0 1 (some 60) none (.i (.mv (.t 6))),
  E0 2 (some 61) none (.i (.mv (.t 7))),
  E0 3 (some 62) none (.call F_spec_EnoughFor false (roA [.t 59, .t 60, .t 61])),
  E0 4 (some 58) none (.i (.mv (.t 62))),
  E0 5 (some 63) none (.i (.ext 0 (.t 58))),
  E0 6 (some 64) none (.i (.ext 1 (.t 58))),
  E0 7 (some 10) none (.i (.mv (.t 63))),
  E0 8 (some 11) none (.i (.mv (.t 64)))]
def laws_FnEnough.r6 : List Ent := [
  E0 0 (some 65) none (.i (.mv (.t 9))),
  E0 1 (some 66) none (.i (.mv (.t 11))),
  E0 2 (some 67) none (.i (.eqb true (.t 65) (.t 66))),
  E0 3 (some 68) none (.i (.mv (.t 67))),
  E0 4 (some 69) (some (68, false)) (.i (.mv (.t 8))),
  E0 5 (some 70) (some (68, false)) (.i (.mv (.t 10))),
  E0 6 (some 71) (some (68, false)) (.i (.bin .neq (.t 69) (.t 70))),
  E0 7 (some 72) none (.i (.pick (.t 68) (.k (.dat none (.bool true))) (.t 71)))]
def laws_FnEnough.r7 : List Ent := [
  E0 0 (some 4) none (.i (.mv (.k (.dat none (.bool false)))))]
def laws_FnEnough.r8 : List Ent := [
  E0 0 (some 73) none (.i (.mv (.t 9)))]
def laws_FnEnough.r9 : List Ent := [
  E0 0 (some 75) none (.i (.mv (.t 5))),
  E0 1 (some 76) none (.i (.mv (.t 6))),
  E0 2 (some 77) none (.i (.mv (.t 7))),
  E0 3 (some 78) none (.i (.mv (.t 8))),
  E0 4 (some 79) none (.call F_impl_ReachWithin false (roA [.t 75, .t 76, .t 77, .t 78])),
  E0 5 (some 74) none (.i (.mv (.t 79))),
  E0 6 (some 80) none (.i (.ext 0 (.t 74))),
  E0 7 (some 81) none (.i (.ext 1 (.t 74))),
  E0 8 (some 12) none (.i (.mv (.t 80))),
  E0 9 (some 13) none (.i (.mv (.t 81)))]
def laws_FnEnough.r10 : List Ent := [
  E0 0 (some 83) none (.i (.mv (.t 5))),
  E0 1 (some 84) none (.i (.mv (.t 6))),
  E0 2 (some 85) none (.i (.mv (.t 7))),
  E0 3 (some 86) none (.call F_impl_ReachWithin false (roA [.t 83, .t 84, .t 85, .k (I64 8)])),
  E0 4 (some 82) none (.i (.mv (.t 86))),
  E0 5 (some 87) none (.i (.ext 0 (.t 82))),
  E0 6 (some 88) none (.i (.ext 1 (.t 82))),
  E0 7 (some 14) none (.i (.mv (.t 87))),
  E0 8 (some 15) none (.i (.mv (.t 88)))]
def laws_FnEnough.r11 : List Ent := [
  E0 0 (some 89) none (.i (.mv (.t 13))),
  E0 1 (some 90) none (.i (.un .not (.t 89))),
  E0 2 (some 91) none (.i (.mv (.t 90))),
  E0 3 (some 92) (some (91, false)) (.i (.mv (.t 15))),
  E0 4 (some 93) (some (91, false)) (.i (.un .not (.t 92))),
  E0 5 (some 94) none (.i (.pick (.t 91) (.k (.dat none (.bool true))) (.t 93))),
  E0 6 (some 95) none (.i (.mv (.t 94))),
  E0 7 (some 96) (some (95, false)) (.i (.mv (.t 12))),
  E0 8 (some 97) (some (95, false)) (.i (.mv (.t 14))),
  E0 9 (some 98) (some (95, false)) (.call F_laws_sameInts false (roA [.t 96, .t 97])),
  E0 10 (some 99) (some (95, false)) (.i (.un .not (.t 98))),
  E0 11 (some 100) none (.i (.pick (.t 95) (.k (.dat none (.bool true))) (.t 99))),
  E0 12 (some 101) none (.i (.mv (.t 100))),
  E0 13 (some 102) (some (101, false)) (.i (.mv (.t 8))),
  E0 14 (some 103) (some (101, false)) (.i (.mv (.t 5))),
  E0 15 (some 104) (some (101, false)) (.i (.bin .geq (.t 102) (.t 103))),
  E0 16 (some 105) none (.i (.pick (.t 101) (.k (.dat none (.bool true))) (.t 104)))]
def laws_FnEnough.r12 : List Ent := [
  E0 0 (some 4) none (.i (.mv (.k (.dat none (.bool false)))))]
def laws_FnEnough.r13 : List Ent := [
  E0 0 (some 106) none (.i (.mv (.t 8))),
  E0 1 (some 107) none (.i (.bin .gtr (.t 106) (.k (I64 0))))]
def laws_FnEnough.r14 : List Ent := [
  E0 0 (some 109) none (.i (.mv (.t 5))),
  E0 1 (some 110) none (.i (.mv (.t 6))),
  E0 2 (some 111) none (.i (.mv (.t 7))),
  E0 3 (some 112) none (.i (.mv (.t 8))),
  E0 4 (some 113) none (.i (.bin .sub (.t 112) (.k (I64 1)))),
  E0 5 (some 114) none (.call F_impl_ReachWithin false (roA [.t 109, .t 110, .t 111, .t 113])),
  E0 6 (some 108) none (.i (.mv (.t 114))),
  E0 7 (some 115) none (.i (.ext 0 (.t 108))),
  E0 8 (some 116) none (.i (.ext 1 (.t 108))),
  E0 9 (some 16) none (.i (.mv (.t 115))),
  E0 10 (some 17) none (.i (.mv (.t 116)))]
def laws_FnEnough.r15 : List Ent := [
  E0 0 (some 117) none (.i (.mv (.t 17))),
  E0 1 (some 118) none (.i (.un .not (.t 117))),
  E0 2 (some 119) none (.i (.mv (.t 118))),
  E0 3 (some 120) (some (119, false)) (.i (.mv (.t 16))),
  E0 4 (some 121) (some (119, false)) (.i (.len (.t 120))),
  E0 5 (some 122) (some (119, false)) (.i (.mv (.t 12))),
  E0 6 (some 123) (some (119, false)) (.i (.len (.t 122))),
  E0 7 (some 124) (some (119, false)) (.i (.bin .geq (.t 121) (.t 123))),
  E0 8 (some 125) none (.i (.pick (.t 119) (.k (.dat none (.bool true))) (.t 124)))]
def laws_FnEnough.r16 : List Ent := [
  E0 0 (some 4) none (.i (.mv (.k (.dat none (.bool false)))))]
def laws_FnEnough.r17 : List Ent := [
  E0 0 (some 127) none (.i (.mv (.t 1))),
  E0 1 (some 128) none (.call F_spec_DrawWalksOf false (roA [.t 127])),
  E0 2 (some 126) none (.i (.mv (.t 128))),
  E0 3 (some 129) none (.i (.ext 0 (.t 126))),
  E0 4 (some 130) none (.i (.ext 1 (.t 126))),
  E0 5 (some 131) none (.i (.ext 2 (.t 126))),
  E0 6 (some 132) none (.i (.ext 3 (.t 126))),
  E0 7 (some 133) none (.i (.ext 4 (.t 126))),
  E0 8 (some 18) none (.i (.mv (.t 129))),
  E0 9 (some 19) none (.i (.mv (.t 130))),
  E0 10 (some 20) none (.i (.mv (.t 131))),
  E0 11 (some 21) none (.i (.mv (.t 132))),
  E0 12 (some 22) none (.i (.mv (.t 133)))]
def laws_FnEnough.r18 : List Ent := [
  E0 0 (some 135) none (.i (.mv (.t 18))),
  E0 1 (some 136) none (.i (.mv (.t 19))),
  E0 2 (some 137) none (.i (.mv (.t 20))),
  E0 3 (some 138) none (.i (.mv (.t 21))),
  E0 4 (some 139) none (.i (.mv (.t 22))),
  E0 5 (some 140) none (.call F_impl_WalksOf false (roA [.t 135, .t 136, .t 137, .t 138, .t 139])),
  E0 6 (some 134) none (.i (.mv (.t 140))),
  E0 7 (some 141) none (.i (.ext 0 (.t 134))),
  E0 8 (some 142) none (.i (.ext 1 (.t 134))),
  E0 9 (some 23) none (.i (.mv (.t 141))),
  E0 10 (some 24) none (.i (.mv (.t 142)))]
def laws_FnEnough.r19 : List Ent := [
  E0 0 (some 144) none (.i (.mv (.t 18))),
  E0 1 (some 145) none (.i (.mv (.t 19))),
  E0 2 (some 146) none (.i (.mv (.t 20))),
  E0 3 (some 147) none (.i (.mv (.t 21))),
  E0 4 (some 148) none (.i (.mv (.t 22))),
  E0 5 (some 149) none (.call F_spec_WalksOf false (roA [.t 144, .t 145, .t 146, .t 147, .t 148])),
  E0 6 (some 143) none (.i (.mv (.t 149))),
  E0 7 (some 150) none (.i (.ext 0 (.t 143))),
  E0 8 (some 151) none (.i (.ext 1 (.t 143))),
  E0 9 (some 25) none (.i (.mv (.t 150))),
  E0 10 (some 26) none (.i (.mv (.t 151)))]
def laws_FnEnough.r20 : List Ent := [
  E0 0 (some 152) none (.i (.mv (.t 24))),
  E0 1 (some 153) none (.i (.mv (.t 26))),
  E0 2 (some 154) none (.i (.eqb true (.t 152) (.t 153))),
  E0 3 (some 155) none (.i (.mv (.t 154))),
  E0 4 (some 156) (some (155, false)) (.i (.mv (.t 23))),
  E0 5 (some 157) (some (155, false)) (.i (.mv (.t 25))),
  E0 6 (some 158) (some (155, false)) (.i (.bin .neq (.t 156) (.t 157))),
  E0 7 (some 159) none (.i (.pick (.t 155) (.k (.dat none (.bool true))) (.t 158)))]
def laws_FnEnough.r21 : List Ent := [
  E0 0 (some 4) none (.i (.mv (.k (.dat none (.bool false)))))]
def laws_FnEnough.r22 : List Ent := [
  E0 0 (some 160) none (.i (.mv (.t 24))),
  E0 1 (some 161) none (.i (.mv (.t 160))),
  E0 2 (some 162) (some (161, true)) (.i (.mv (.t 22))),
  E0 3 (some 163) (some (161, true)) (.i (.bin .gtr (.t 162) (.k (I64 1)))),
  E0 4 (some 164) none (.i (.pick (.t 161) (.t 163) (.k (.dat none (.bool false)))))]
def laws_FnEnough.r23 : List Ent := [
  E0 0 (some 27) none (.i (.mv (.k (I64 0))))]
def laws_FnEnough.r24 : List Ent := [
  E0 0 (some 28) none (.i (.mv (.k (I64 0))))]
def laws_FnEnough.r25 : List Ent := [
  E0 0 (some 165) none (.i (.mv (.t 28))),
  E0 1 (some 166) none (.i (.mv (.t 18))),
  E0 2 (some 167) none (.i (.bin .lss (.t 165) (.t 166)))]
def laws_FnEnough.r26 : List Ent := [
  E0 0 (some 171) none (.i (.mv (.t 18))),
  E0 1 (some 172) none (.i (.mv (.t 19))),
  E0 2 (some 173) none (.i (.mv (.t 20))),
  E0 3 (some 174) none (.i (.mv (.t 28))),
  E0 4 (some 175) none (.i (.mv (.t 22))),
  E0 5 (some 176) none (.i (.bin .sub (.t 175) (.k (I64 1)))),
  E0 6 (some 177) none (.call F_impl_WalksOf false (roA [.t 171, .t 172, .t 173, .t 174, .t 176])),
  E0 7 (some 170) none (.i (.mv (.t 177))),
  E0 8 (some 178) none (.i (.ext 0 (.t 170))),
  E0 9 (some 179) none (.i (.ext 1 (.t 170))),
  E0 10 (some 29) none (.i (.mv (.t 178))),
  E0 11 (some 30) none (.i (.mv (.t 179)))]
def laws_FnEnough.r27 : List Ent := [
  E0 0 (some 180) none (.i (.mv (.t 30))),
  E0 1 (some 181) none (.i (.un .not (.t 180)))]
def laws_FnEnough.r28 : List Ent := [
  E0 0 (some 4) none (.i (.mv (.k (.dat none (.bool false)))))]
def laws_FnEnough.r29 : List Ent := [
  E0 0 (some 182) none (.i (.mv (.t 19))),
  E0 1 (some 183) none (.i (.mv (.t 28))),
  E0 2 (some 184) none (.i (.mv (.t 21))),
  E0 3 (some 185) none (.call F_laws_hasArc false (roA [.t 182, .t 183, .t 184]))]
def laws_FnEnough.r30 : List Ent := [
  E0 0 (some 186) none (.i (.mv (.t 27))),
  E0 1 (some 187) none (.i (.mv (.t 29))),
  E0 2 (some 188) none (.i (.bin .add (.t 186) (.t 187))),
  E0 3 (some 27) none (.i (.mv (.t 188)))]
def laws_FnEnough.r31 : List Ent := [
  E0 0 (some 168) none (.i (.mv (.t 28))),
  E0 1 (some 169) none (.i (.bin .add (.t 168) (.k (I64 1)))),
  E0 2 (some 28) none (.i (.mv (.t 169)))]
def laws_FnEnough.b0 : KC := .seq (.seq (.reg 10048 3 laws_FnEnough.r25) (.cond (.t 167) (.skip) (.exit 0))) (.seq (.block 1 (.seq (.reg 10240 12 laws_FnEnough.r26) (.seq (.seq (.reg 11008 2 laws_FnEnough.r27) (.cond (.t 181) (.seq (.reg 11136 1 laws_FnEnough.r28) (.ret)) (.skip))) (.seq (.reg 11200 4 laws_FnEnough.r29) (.cond (.t 185) (.reg 11456 4 laws_FnEnough.r30) (.skip)))))) (.reg 11712 3 laws_FnEnough.r31))
def laws_FnEnough.r32 : List Ent := [
  E0 0 (some 189) none (.i (.mv (.t 27))),
  E0 1 (some 190) none (.i (.mv (.t 23))),
  E0 2 (some 191) none (.i (.bin .neq (.t 189) (.t 190)))]
def laws_FnEnough.r33 : List Ent := [
  E0 0 (some 4) none (.i (.mv (.k (.dat none (.bool false)))))]
def laws_FnEnough.r34 : List Ent := [
  E0 0 (some 193) none (.i (.mv (.t 1))),
  E0 1 (some 194) none (.call F_spec_DrawReachWithin false (roA [.t 193])),
  E0 2 (some 192) none (.i (.mv (.t 194))),
  E0 3 (some 195) none (.i (.ext 0 (.t 192))),
  E0 4 (some 196) none (.i (.ext 1 (.t 192))),
  E0 5 (some 197) none (.i (.ext 2 (.t 192))),
  E0 6 (some 198) none (.i (.ext 3 (.t 192))),
  E0 7 (some 31) none (.i (.mv (.t 195))),
  E0 8 (some 32) none (.i (.mv (.t 196))),
  E0 9 (some 33) none (.i (.mv (.t 197))),
  E0 10 (some 34) none (.i (.mv (.t 198)))]
def laws_FnEnough.r35 : List Ent := [
  E0 0 (some 200) none (.i (.mv (.t 31))),
  E0 1 (some 201) none (.i (.mv (.t 32))),
  E0 2 (some 202) none (.i (.mv (.t 33))),
  E0 3 (some 203) none (.i (.mv (.t 34))),
  E0 4 (some 204) none (.call F_impl_ReachWithin false (roA [.t 200, .t 201, .t 202, .t 203])),
  E0 5 (some 199) none (.i (.mv (.t 204))),
  E0 6 (some 205) none (.i (.ext 0 (.t 199))),
  E0 7 (some 206) none (.i (.ext 1 (.t 199))),
  E0 8 (some 35) none (.i (.mv (.t 205))),
  E0 9 (some 36) none (.i (.mv (.t 206)))]
def laws_FnEnough.r36 : List Ent := [
  E0 0 (some 208) none (.i (.mv (.t 31))),
  E0 1 (some 209) none (.i (.mv (.t 32))),
  E0 2 (some 210) none (.i (.mv (.t 33))),
  E0 3 (some 211) none (.i (.mv (.t 34))),
  E0 4 (some 212) none (.call F_spec_ReachWithin false (roA [.t 208, .t 209, .t 210, .t 211])),
  E0 5 (some 207) none (.i (.mv (.t 212))),
  E0 6 (some 213) none (.i (.ext 0 (.t 207))),
  E0 7 (some 214) none (.i (.ext 1 (.t 207))),
  E0 8 (some 37) none (.i (.mv (.t 213))),
  E0 9 (some 38) none (.i (.mv (.t 214)))]
def laws_FnEnough.r37 : List Ent := [
  E0 0 (some 215) none (.i (.mv (.t 36))),
  E0 1 (some 216) none (.i (.mv (.t 38))),
  E0 2 (some 217) none (.i (.eqb false (.t 215) (.t 216))),
  E0 3 (some 218) none (.i (.mv (.t 217))),
  E0 4 (some 219) (some (218, true)) (.i (.mv (.t 35))),
  E0 5 (some 220) (some (218, true)) (.i (.mv (.t 37))),
  E0 6 (some 221) (some (218, true)) (.call F_laws_sameInts false (roA [.t 219, .t 220])),
  E0 7 (some 222) none (.i (.pick (.t 218) (.t 221) (.k (.dat none (.bool false))))),
  E0 8 (some 4) none (.i (.mv (.t 222)))]
def laws_FnEnough.fi : FI := { res := [.t 4], code := .seq (.reg 64 1 laws_FnEnough.r0) (.seq (.seq (.reg 128 6 laws_FnEnough.r1) (.cond (.t 44) (.seq (.reg 512 1 laws_FnEnough.r2) (.ret)) (.skip))) (.seq (.reg 576 9 laws_FnEnough.r3) (.seq (.reg 1152 9 laws_FnEnough.r4) (.seq (.reg 1728 9 laws_FnEnough.r5) (.seq (.seq (.reg 2304 8 laws_FnEnough.r6) (.cond (.t 72) (.seq (.reg 2816 1 laws_FnEnough.r7) (.ret)) (.skip))) (.seq (.seq (.reg 2880 1 laws_FnEnough.r8) (.cond (.t 73) (.seq (.reg 2944 10 laws_FnEnough.r9) (.seq (.reg 3584 9 laws_FnEnough.r10) (.seq (.seq (.reg 4160 17 laws_FnEnough.r11) (.cond (.t 105) (.seq (.reg 5248 1 laws_FnEnough.r12) (.ret)) (.skip))) (.seq (.reg 5312 2 laws_FnEnough.r13) (.cond (.t 107) (.seq (.reg 5440 11 laws_FnEnough.r14) (.seq (.reg 6144 9 laws_FnEnough.r15) (.cond (.t 125) (.seq (.reg 6720 1 laws_FnEnough.r16) (.ret)) (.skip)))) (.skip)))))) (.skip))) (.seq (.reg 6784 13 laws_FnEnough.r17) (.seq (.reg 7616 11 laws_FnEnough.r18) (.seq (.reg 8320 11 laws_FnEnough.r19) (.seq (.seq (.reg 9024 8 laws_FnEnough.r20) (.cond (.t 159) (.seq (.reg 9536 1 laws_FnEnough.r21) (.ret)) (.skip))) (.seq (.seq (.reg 9600 5 laws_FnEnough.r22) (.cond (.t 164) (.seq (.reg 9920 1 laws_FnEnough.r23) (.seq (.seq (.reg 9984 1 laws_FnEnough.r24) (.block 0 (.loop laws_FnEnough.b0))) (.seq (.reg 11904 3 laws_FnEnough.r32) (.cond (.t 191) (.seq (.reg 12096 1 laws_FnEnough.r33) (.ret)) (.skip))))) (.skip))) (.seq (.reg 12160 11 laws_FnEnough.r34) (.seq (.reg 12864 10 laws_FnEnough.r35) (.seq (.reg 13504 10 laws_FnEnough.r36) (.seq (.reg 14144 9 laws_FnEnough.r37) (.ret)))))))))))))))) }
attribute [go_sem] laws_FnEnough.r0 laws_FnEnough.r1 laws_FnEnough.r2 laws_FnEnough.r3 laws_FnEnough.r4 laws_FnEnough.r5 laws_FnEnough.r6 laws_FnEnough.r7 laws_FnEnough.r8 laws_FnEnough.r9 laws_FnEnough.r10 laws_FnEnough.r11 laws_FnEnough.r12 laws_FnEnough.r13 laws_FnEnough.r14 laws_FnEnough.r15 laws_FnEnough.r16 laws_FnEnough.r17 laws_FnEnough.r18 laws_FnEnough.r19 laws_FnEnough.r20 laws_FnEnough.r21 laws_FnEnough.r22 laws_FnEnough.r23 laws_FnEnough.r24 laws_FnEnough.r25 laws_FnEnough.r26 laws_FnEnough.r27 laws_FnEnough.r28 laws_FnEnough.r29 laws_FnEnough.r30 laws_FnEnough.r31 laws_FnEnough.r32 laws_FnEnough.r33 laws_FnEnough.r34 laws_FnEnough.r35 laws_FnEnough.r36 laws_FnEnough.r37
theorem laws_FnEnough.ok : chkF prog F_laws_FnEnough 2 laws_FnEnough.fi = true := by kernel_rfl
end Go.Vm.Ytdebllkmblakkaa
