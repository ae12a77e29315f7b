/- The functions that the law reaches, in the text of the interpreter, and that this text fits them (no condition). -/
import Derived.Test.YtdebllkmblakkaaVmc
import Derived.Test.YtdebllkmblakkaaProg
import Derived.KernelRfl
/- PRINTED BY irgen.py, a program of this claim's author: the functions that the claim reaches, in the text of the interpreter, and that they fit. -/
namespace Go.Vm.Ytdebllkmblakkaa
open Go Go.Vm
set_option linter.unusedVariables false
set_option maxRecDepth 100000
noncomputable abbrev prog : Program := Go.Proofs.Try.prog
abbrev F_laws_FnExactOpposed : FuncId := 3
abbrev F_laws_FnExactLeadsTo : FuncId := 4
abbrev F_laws_FnExactFixed : FuncId := 5
abbrev F_laws_FnExactLoopsOf : FuncId := 6
abbrev F_laws_FnExactSolveTwo : FuncId := 7
abbrev F_laws_FnLeads : FuncId := 8
abbrev F_laws_FnTwos : FuncId := 9
abbrev F_laws_FnLeast : FuncId := 10
abbrev F_laws_FnHorn : FuncId := 11
abbrev F_laws_FnEnough : FuncId := 12
abbrev F_laws_FnLaidOut : FuncId := 13
abbrev F_laws_szIntSS : FuncId := 14
abbrev F_spec_Opposed : FuncId := 15
abbrev F_laws_toIntSS : FuncId := 16
abbrev F_impl_Opposed : FuncId := 17
abbrev F_laws_eqIntSS : FuncId := 18
abbrev F_spec_LeadsTo : FuncId := 19
abbrev F_impl_LeadsTo : FuncId := 20
abbrev F_laws_eqIntS : FuncId := 21
abbrev F_laws_markIntSS : FuncId := 22
abbrev F_laws_markIntS : FuncId := 23
abbrev F_laws_heldIntS : FuncId := 24
abbrev F_spec_Fixed : FuncId := 25
abbrev F_impl_Fixed : FuncId := 26
abbrev F_spec_LoopsOf : FuncId := 27
abbrev F_impl_LoopsOf : FuncId := 28
abbrev F_laws_heldIntSS : FuncId := 29
abbrev F_spec_SolveTwo : FuncId := 30
abbrev F_impl_SolveTwo : FuncId := 31
abbrev F_laws_eqBoolS : FuncId := 32
abbrev F_laws_markBoolS : FuncId := 33
abbrev F_laws_heldBoolS : FuncId := 34
abbrev F_spec_DrawLeadsTo : FuncId := 35
abbrev F_laws_sameInts : FuncId := 36
abbrev F_laws_has : FuncId := 37
abbrev F_spec_DrawLoopsOf : FuncId := 38
abbrev F_spec_DrawTwoOf : FuncId := 39
abbrev F_impl_TwoOf : FuncId := 40
abbrev F_spec_TwoOf : FuncId := 41
abbrev F_laws_sameRows : FuncId := 42
abbrev F_spec_DrawSolveTwo : FuncId := 43
abbrev F_laws_sameBools : FuncId := 44
abbrev F_impl_IsTwo : FuncId := 45
abbrev F_impl_CountModels : FuncId := 46
abbrev F_impl_Solve : FuncId := 47
abbrev F_impl_HoldsAll : FuncId := 48
abbrev F_laws_allIn : FuncId := 49
abbrev F_impl_SolveWith : FuncId := 50
abbrev F_spec_DrawFixed : FuncId := 51
abbrev F_spec_DrawLeastOf : FuncId := 52
abbrev F_impl_LeastOf : FuncId := 53
abbrev F_spec_LeastOf : FuncId := 54
abbrev F_impl_GoodRules : FuncId := 55
abbrev F_impl_HoldsIn : FuncId := 56
abbrev F_impl_RulesAsClauses : FuncId := 57
abbrev F_impl_IsHorn : FuncId := 58
abbrev F_laws_modelOf : FuncId := 59
abbrev F_spec_DrawHoldsIn : FuncId := 60
abbrev F_spec_HoldsIn : FuncId := 61
abbrev F_spec_DrawWhyOf : FuncId := 62
abbrev F_impl_WhyOf : FuncId := 63
abbrev F_spec_WhyOf : FuncId := 64
abbrev F_laws_listOf : FuncId := 65
abbrev F_laws_numberOf : FuncId := 66
abbrev F_impl_MeetOf : FuncId := 67
abbrev F_spec_DrawMeetOf : FuncId := 68
abbrev F_spec_MeetOf : FuncId := 69
abbrev F_spec_DrawRulesAsClauses : FuncId := 70
abbrev F_spec_RulesAsClauses : FuncId := 71
abbrev F_spec_DrawIsHorn : FuncId := 72
abbrev F_spec_IsHorn : FuncId := 73
abbrev F_laws_sameRules : FuncId := 74
abbrev F_spec_DrawEnoughFor : FuncId := 75
abbrev F_impl_EnoughFor : FuncId := 76
abbrev F_spec_EnoughFor : FuncId := 77
abbrev F_impl_ReachWithin : FuncId := 78
abbrev F_spec_DrawWalksOf : FuncId := 79
abbrev F_impl_WalksOf : FuncId := 80
abbrev F_spec_WalksOf : FuncId := 81
abbrev F_laws_hasArc : FuncId := 82
abbrev F_spec_DrawReachWithin : FuncId := 83
abbrev F_spec_ReachWithin : FuncId := 84
abbrev F_spec_DrawIsWalk : FuncId := 85
abbrev F_impl_IsWalk : FuncId := 86
abbrev F_spec_IsWalk : FuncId := 87
abbrev F_impl_LaidWalk : FuncId := 88
abbrev F_spec_LaidWalk : FuncId := 89
abbrev F_impl_LayOut : FuncId := 90
abbrev F_spec_DrawLayOut : FuncId := 91
abbrev F_spec_LayOut : FuncId := 92
abbrev F_impl_BackArcs : FuncId := 93
abbrev F_spec_BackArcs : FuncId := 94
abbrev F_laws_sameArcs : FuncId := 95
abbrev F_impl_GoodArcs : FuncId := 96
abbrev F_laws_szIntS : FuncId := 97
abbrev F_spec_IsTwo : FuncId := 98
abbrev F_spec_l15Opposed : FuncId := 99
abbrev F_laws_toIntS : FuncId := 100
abbrev F_impl_opposed : FuncId := 101
abbrev F_spec_l1In : FuncId := 102
abbrev F_spec_l15Leads : FuncId := 103
abbrev F_impl_isLiteral : FuncId := 104
abbrev F_impl_leadsTo : FuncId := 105
abbrev F_spec_l1Has : FuncId := 106
abbrev F_impl_leads : FuncId := 107
abbrev F_slices_DeleteFunc__sint_int : FuncId := 108
abbrev F_impl_LoopsOf_c1 : FuncId := 109
abbrev F_spec_l1Put : FuncId := 110
abbrev F_slices_Contains__sint_int : FuncId := 111
abbrev F_spec_pl1Cur_twos : FuncId := 112
abbrev F_spec_pl1Cur_pick : FuncId := 113
abbrev F_spec_DrawIsTwo : FuncId := 114
abbrev F_spec_pl1Cur_one : FuncId := 115
abbrev F_impl_in : FuncId := 116
abbrev F_impl_isClause : FuncId := 117
abbrev F_spec_l4Clause : FuncId := 118
abbrev F_impl_GoodClauses : FuncId := 119
abbrev F_slices_ContainsFunc__ssint_sint : FuncId := 120
abbrev F_impl_IsTwo_c1 : FuncId := 121
abbrev F_impl_countModels : FuncId := 122
abbrev F_impl_solve : FuncId := 123
abbrev F_impl_holds : FuncId := 124
abbrev F_slices_Concat__ssint_sint : FuncId := 125
abbrev F_impl_units : FuncId := 126
abbrev F_spec_DrawGoodRules : FuncId := 127
abbrev F_impl_least : FuncId := 128
abbrev F_slices_ContainsFunc__sRule_Rule : FuncId := 129
abbrev F_impl_LeastOf_c1 : FuncId := 130
abbrev F_impl_Rule_met : FuncId := 131
abbrev F_impl_list : FuncId := 132
abbrev F_impl_LeastOf_c2 : FuncId := 133
abbrev F_spec_GoodRules : FuncId := 134
abbrev F_spec_l16Least : FuncId := 135
abbrev F_impl_GoodRules_c1 : FuncId := 136
abbrev F_impl_areFacts : FuncId := 137
abbrev F_impl_HoldsIn_c1 : FuncId := 138
abbrev F_impl_learn : FuncId := 139
abbrev F_slices_Clone__sint_int : FuncId := 140
abbrev F_impl_IsHorn_c1 : FuncId := 141
abbrev F_spec_pl1Cur_rules : FuncId := 142
abbrev F_spec_pl1Cur_facts : FuncId := 143
abbrev F_spec_l16Facts : FuncId := 144
abbrev F_spec_l16All : FuncId := 145
abbrev F_slices_IndexFunc__sint_int : FuncId := 146
abbrev F_impl_WhyOf_c1 : FuncId := 147
abbrev F_impl_MeetOf_c1 : FuncId := 148
abbrev F_spec_l5Negate : FuncId := 149
abbrev F_spec_DrawGoodClauses : FuncId := 150
abbrev F_spec_GoodClauses : FuncId := 151
abbrev F_slices_Equal__sbool_bool : FuncId := 152
abbrev F_impl_within : FuncId := 153
abbrev F_spec_GoodArcs : FuncId := 154
abbrev F_spec_l12Reach : FuncId := 155
abbrev F_impl_ReachWithin_c1 : FuncId := 156
abbrev F_spec_pl1Cur_arcs : FuncId := 157
abbrev F_spec_pl1Cur_walk : FuncId := 158
abbrev F_impl_isVertices : FuncId := 159
abbrev F_slices_Contains__sArc_Arc : FuncId := 160
abbrev F_spec_l12Walk : FuncId := 161
abbrev F_spec_l12Arc : FuncId := 162
abbrev F_impl_isSpots : FuncId := 163
abbrev F_impl_BackArcs_c1 : FuncId := 164
abbrev F_spec_l15Next : FuncId := 165
abbrev F_slices_Sort__sint_int : FuncId := 166
abbrev F_slices_Index__sint_int : FuncId := 167
abbrev F_spec_pl1Cur_among : FuncId := 168
abbrev F_spec_pl1Cur_lit : FuncId := 169
abbrev F_spec_CleanClause : FuncId := 170
abbrev F_spec_pl1Cur_among3 : FuncId := 171
abbrev F_spec_pl1Cur_next : FuncId := 172
abbrev F_slices_ContainsFunc__sint_int : FuncId := 173
abbrev F_impl_isClause_c1 : FuncId := 174
abbrev F_impl_variable : FuncId := 175
abbrev F_impl_areClauses : FuncId := 176
abbrev F_slices_IndexFunc__ssint_sint : FuncId := 177
abbrev F_impl_model : FuncId := 178
abbrev F_impl_propagate : FuncId := 179
abbrev F_impl_decide : FuncId := 180
abbrev F_impl_holds_c1 : FuncId := 181
abbrev F_slices_Grow__ssint_sint : FuncId := 182
abbrev F_slices_IndexFunc__sRule_Rule : FuncId := 183
abbrev F_impl_least_c1 : FuncId := 184
abbrev F_impl_Rule_met_c1 : FuncId := 185
abbrev F_spec_l1Least : FuncId := 186
abbrev F_spec_l1Rising : FuncId := 187
abbrev F_spec_pl1Cur_clauses : FuncId := 188
abbrev F_spec_l4Good : FuncId := 189
abbrev F_slices_Clone__sbool_bool : FuncId := 190
abbrev F_impl_isVertices_c1 : FuncId := 191
abbrev F_slices_Index__sArc_Arc : FuncId := 192
abbrev F_spec_l1All : FuncId := 193
abbrev F_slices_pdqsortOrdered__int : FuncId := 194
abbrev F_bits_Len : FuncId := 195
abbrev F_impl_areClauses_c1 : FuncId := 196
abbrev F_impl_meets : FuncId := 197
abbrev F_impl_without : FuncId := 198
abbrev F_slices_insertionSortOrdered__int : FuncId := 199
abbrev F_slices_heapSortOrdered__int : FuncId := 200
abbrev F_slices_breakPatternsOrdered__int : FuncId := 201
abbrev F_slices_choosePivotOrdered__int : FuncId := 202
abbrev F_slices_reverseRangeOrdered__int : FuncId := 203
abbrev F_slices_partialInsertionSortOrdered__int : FuncId := 204
abbrev F_cmp_Less__int : FuncId := 205
abbrev F_slices_partitionEqualOrdered__int : FuncId := 206
abbrev F_slices_partitionOrdered__int : FuncId := 207
abbrev F_bits_Len32 : FuncId := 208
abbrev F_bits_Len64 : FuncId := 209
abbrev F_impl_meets_c1 : FuncId := 210
abbrev F_impl_without_c1 : FuncId := 211
abbrev F_slices_siftDownOrdered__int : FuncId := 212
abbrev F_slices_nextPowerOfTwo : FuncId := 213
abbrev F_slices_pxorshift_Next : FuncId := 214
abbrev F_slices_medianAdjacentOrdered__int : FuncId := 215
abbrev F_slices_medianOrdered__int : FuncId := 216
abbrev F_cmp_isNaN__int : FuncId := 217
abbrev F_slices_order2Ordered__int : FuncId := 218
abbrev F_runtime_boundsError_Error : FuncId := 219
abbrev F_runtime_boundsError_RuntimeError : FuncId := 220
abbrev F_runtime_errorString_Error : FuncId := 221
abbrev F_runtime_errorString_RuntimeError : FuncId := 222
abbrev F_runtime_plainError_Error : FuncId := 223
abbrev F_runtime_plainError_RuntimeError : FuncId := 224
abbrev F_runtime_errorAddressString_Error : FuncId := 225
abbrev F_runtime_errorAddressString_RuntimeError : FuncId := 226
abbrev F_runtime_pTypeAssertionError_Error : FuncId := 227
abbrev F_runtime_pTypeAssertionError_RuntimeError : FuncId := 228
abbrev F_runtime_pPanicNilError_Error : FuncId := 229
abbrev F_runtime_pPanicNilError_RuntimeError : FuncId := 230
abbrev F_abi_pType_Align : FuncId := 231
abbrev F_maps_unhashableTypeError_Error : FuncId := 232
abbrev F_maps_unhashableTypeError_RuntimeError : FuncId := 233
abbrev F_abi_Kind_String : FuncId := 234

/-! spec_l1In -/
def spec_l1In.r0 : List Ent := [
  E0 0 (some 6) none (.i (.mv (.k (.dat none (.bool false)))))]
def spec_l1In.r1 : List Ent := [
  E0 0 (some 7) none (.i (.mv (.t 0))),
  E0 1 (some 8) none (.i (.mv (.t 1))),
  E0 2 (some 9) none (.i (.bin .geq (.t 7) (.t 8))),
  E0 3 (some 10) none (.i (.mv (.t 9))),
  E0 4 (some 11) (some (10, true)) (.i (.mv (.t 0))),
  E0 5 (some 12) (some (10, true)) (.i (.mv (.t 2))),
  E0 6 (some 13) (some (10, true)) (.i (.bin .leq (.t 11) (.t 12))),
  E0 7 (some 14) none (.i (.pick (.t 10) (.t 13) (.k (.dat none (.bool false))))),
  E0 8 (some 6) none (.i (.mv (.t 14)))]
def spec_l1In.fi : FI := { res := [.t 6], code := .seq (.reg 64 1 spec_l1In.r0) (.seq (.reg 128 9 spec_l1In.r1) (.ret)) }
attribute [go_sem] spec_l1In.r0 spec_l1In.r1
theorem spec_l1In.ok : chkF prog F_spec_l1In 3 spec_l1In.fi = true := by kernel_rfl

/-! spec_l1Has -/
def spec_l1Has.r0 : List Ent := [
  E0 0 (some 4) none (.i (.mv (.k (.dat none (.bool false)))))]
def spec_l1Has.r1 : List Ent := [
  E0 0 (some 7) none (.i (.mv (.t 0))),
  E0 1 (some 8) none (.i (.len (.t 7))),
  E0 2 (some 9) none (.i (.mv (.k (I64 0))))]
def spec_l1Has.r2 : List Ent := [
  E0 0 (some 10) none (.i (.bin .lss (.t 9) (.t 8)))]
def spec_l1Has.r3 : List Ent := [
  E0 0 (some 11) none (.i (.iad 1 (.t 7) (.t 9))),
  E0 1 (some 12) none (.i (.load false false 1 (.t 11))),
  E0 2 (some 6) none (.i (.mv (.t 12)))]
def spec_l1Has.r4 : List Ent := [
  E0 0 (some 13) none (.i (.mv (.t 6))),
  E0 1 (some 14) none (.i (.mv (.t 1))),
  E0 2 (some 15) none (.i (.bin .eql (.t 13) (.t 14)))]
def spec_l1Has.r5 : List Ent := [
  E0 0 (some 4) none (.i (.mv (.k (.dat none (.bool true)))))]
def spec_l1Has.r6 : List Ent := [
  E0 0 (some 16) none (.i (.bin .add (.t 9) (.k (I64 1)))),
  E0 1 (some 9) none (.i (.mv (.t 16)))]
def spec_l1Has.b0 : KC := .seq (.reg 320 1 spec_l1Has.r2) (.seq (.cond (.t 10) (.skip) (.exit 0)) (.seq (.block 1 (.seq (.reg 384 3 spec_l1Has.r3) (.seq (.reg 576 3 spec_l1Has.r4) (.cond (.t 15) (.seq (.reg 768 1 spec_l1Has.r5) (.ret)) (.skip))))) (.reg 832 2 spec_l1Has.r6)))
def spec_l1Has.r7 : List Ent := [
  E0 0 (some 4) none (.i (.mv (.k (.dat none (.bool false)))))]
def spec_l1Has.fi : FI := { res := [.t 4], code := .seq (.reg 64 1 spec_l1Has.r0) (.seq (.seq (.reg 128 3 spec_l1Has.r1) (.block 0 (.loop spec_l1Has.b0))) (.seq (.reg 960 1 spec_l1Has.r7) (.ret))) }
attribute [go_sem] spec_l1Has.r0 spec_l1Has.r1 spec_l1Has.r2 spec_l1Has.r3 spec_l1Has.r4 spec_l1Has.r5 spec_l1Has.r6 spec_l1Has.r7
theorem spec_l1Has.ok : chkF prog F_spec_l1Has 2 spec_l1Has.fi = true := by kernel_rfl

/-! spec_l1Put -/
def spec_l1Put.r0 : List Ent := [
  E0 0 (some 4) none (.i (.mv (.k (.nil 1))))]
def spec_l1Put.r1 : List Ent := [
  E0 0 (some 5) none (.i (.mv (.k (I64 0))))]
def spec_l1Put.r2 : List Ent := [
  E0 0 (some 7) none (.i (.mv (.t 5))),
  E0 1 (some 8) none (.i (.mv (.t 0))),
  E0 2 (some 9) none (.i (.len (.t 8))),
  E0 3 (some 10) none (.i (.bin .lss (.t 7) (.t 9))),
  E0 4 (some 11) none (.i (.mv (.t 10))),
  E0 5 (some 12) (some (11, true)) (.i (.mv (.t 0))),
  E0 6 (some 13) (some (11, true)) (.i (.mv (.t 5))),
  E0 7 (some 14) (some (11, true)) (.i (.iad 1 (.t 12) (.t 13))),
  E0 8 (some 15) (some (11, true)) (.i (.load false false 1 (.t 14))),
  E0 9 (some 16) (some (11, true)) (.i (.mv (.t 1))),
  E0 10 (some 17) (some (11, true)) (.i (.bin .lss (.t 15) (.t 16))),
  E0 11 (some 18) none (.i (.pick (.t 11) (.t 17) (.k (.dat none (.bool false)))))]
def spec_l1Put.r3 : List Ent := [
  E0 0 (some 19) none (.i (.mv (.t 5))),
  E0 1 (some 20) none (.i (.bin .add (.t 19) (.k (I64 1)))),
  E0 2 (some 5) none (.i (.mv (.t 20)))]
def spec_l1Put.b0 : KC := .seq (.seq (.reg 192 12 spec_l1Put.r2) (.cond (.t 18) (.skip) (.exit 0))) (.block 1 (.reg 960 3 spec_l1Put.r3))
def spec_l1Put.r4 : List Ent := [
  E0 0 (some 21) none (.i (.mv (.t 5))),
  E0 1 (some 22) none (.i (.mv (.t 0))),
  E0 2 (some 23) none (.i (.len (.t 22))),
  E0 3 (some 24) none (.i (.bin .lss (.t 21) (.t 23))),
  E0 4 (some 25) none (.i (.mv (.t 24))),
  E0 5 (some 26) (some (25, true)) (.i (.mv (.t 0))),
  E0 6 (some 27) (some (25, true)) (.i (.mv (.t 5))),
  E0 7 (some 28) (some (25, true)) (.i (.iad 1 (.t 26) (.t 27))),
  E0 8 (some 29) (some (25, true)) (.i (.load false false 1 (.t 28))),
  E0 9 (some 30) (some (25, true)) (.i (.mv (.t 1))),
  E0 10 (some 31) (some (25, true)) (.i (.bin .eql (.t 29) (.t 30))),
  E0 11 (some 32) none (.i (.pick (.t 25) (.t 31) (.k (.dat none (.bool false)))))]
def spec_l1Put.r5 : List Ent := [
  E0 0 (some 33) none (.i (.mv (.t 0))),
  E0 1 (some 4) none (.i (.mv (.t 33)))]
def spec_l1Put.r6 : List Ent := [
  E0 0 (some 34) none (.i (.bsl false 1 [])),
  E0 1 (some 35) none (.i (.mv (.t 0))),
  E0 2 (some 36) none (.i (.mv (.t 5))),
  E0 3 (some 37) none (.i (.slc 1 (.t 35) (none) (some (.t 36)))),
  E0 4 (some 38) none (.i (.app 1 8 (.t 34) (.t 37))),
  E0 5 (some 6) none (.i (.mv (.t 38)))]
def spec_l1Put.r7 : List Ent := [
  E0 0 (some 39) none (.i (.mv (.t 6))),
  E0 1 (some 40) none (.i (.mv (.t 1))),
  E0 2 (some 41) none (.i (.bsl true 1 [.t 40])),
  E0 3 (some 42) none (.i (.app 1 8 (.t 39) (.t 41))),
  E0 4 (some 6) none (.i (.mv (.t 42)))]
def spec_l1Put.r8 : List Ent := [
  E0 0 (some 43) none (.i (.mv (.t 6))),
  E0 1 (some 44) none (.i (.mv (.t 0))),
  E0 2 (some 45) none (.i (.mv (.t 5))),
  E0 3 (some 46) none (.i (.slc 1 (.t 44) (some (.t 45)) (none))),
  E0 4 (some 47) none (.i (.app 1 8 (.t 43) (.t 46))),
  E0 5 (some 4) none (.i (.mv (.t 47)))]
def spec_l1Put.fi : FI := { res := [.t 4], code := .seq (.reg 64 1 spec_l1Put.r0) (.seq (.reg 128 1 spec_l1Put.r1) (.seq (.block 0 (.loop spec_l1Put.b0)) (.seq (.seq (.reg 1152 12 spec_l1Put.r4) (.cond (.t 32) (.seq (.reg 1920 2 spec_l1Put.r5) (.fz 4 (.ret))) (.skip))) (.seq (.reg 2048 6 spec_l1Put.r6) (.seq (.reg 2432 5 spec_l1Put.r7) (.seq (.reg 2752 6 spec_l1Put.r8) (.fz 4 (.ret)))))))) }
attribute [go_sem] spec_l1Put.r0 spec_l1Put.r1 spec_l1Put.r2 spec_l1Put.r3 spec_l1Put.r4 spec_l1Put.r5 spec_l1Put.r6 spec_l1Put.r7 spec_l1Put.r8
theorem spec_l1Put.ok : chkF prog F_spec_l1Put 2 spec_l1Put.fi = true := by kernel_rfl

/-! impl_in -/
def impl_in.r0 : List Ent := [
  E0 0 (some 6) none (.i (.mv (.k (.dat none (.bool false)))))]
def impl_in.r1 : List Ent := [
  E0 0 (some 7) none (.i (.mv (.t 0))),
  E0 1 (some 8) none (.i (.mv (.t 1))),
  E0 2 (some 9) none (.i (.bin .geq (.t 7) (.t 8))),
  E0 3 (some 10) none (.i (.mv (.t 9))),
  E0 4 (some 11) (some (10, true)) (.i (.mv (.t 0))),
  E0 5 (some 12) (some (10, true)) (.i (.mv (.t 2))),
  E0 6 (some 13) (some (10, true)) (.i (.bin .leq (.t 11) (.t 12))),
  E0 7 (some 14) none (.i (.pick (.t 10) (.t 13) (.k (.dat none (.bool false))))),
  E0 8 (some 6) none (.i (.mv (.t 14)))]
def impl_in.fi : FI := { res := [.t 6], code := .seq (.reg 64 1 impl_in.r0) (.seq (.reg 128 9 impl_in.r1) (.ret)) }
attribute [go_sem] impl_in.r0 impl_in.r1
theorem impl_in.ok : chkF prog F_impl_in 3 impl_in.fi = true := by kernel_rfl

/-! slices_IndexFunc__sint_int -/
def slices_IndexFunc__sint_int.r0 : List Ent := [
  E0 0 (some 4) none (.i (.mv (.k (I64 0))))]
def slices_IndexFunc__sint_int.r1 : List Ent := [
  E0 0 (some 6) none (.i (.mv (.t 0))),
  E0 1 (some 7) none (.i (.len (.t 6))),
  E0 2 (some 8) none (.i (.mv (.k (I64 0))))]
def slices_IndexFunc__sint_int.r2 : List Ent := [
  E0 0 (some 9) none (.i (.bin .lss (.t 8) (.t 7)))]
def slices_IndexFunc__sint_int.r3 : List Ent := [
  E0 0 (some 10) none (.i (.mv (.t 8))),
  E0 1 (some 5) none (.i (.mv (.t 10)))]
def slices_IndexFunc__sint_int.r4 : List Ent := [
  E0 0 (some 11) none (.i (.mv (.t 1))),
  E0 1 (some 12) none (.i (.mv (.t 0))),
  E0 2 (some 13) none (.i (.mv (.t 5))),
  E0 3 (some 14) none (.i (.iad 1 (.t 12) (.t 13))),
  E0 4 (some 15) none (.i (.load false false 1 (.t 14))),
  E0 5 (some 16) none (.ccl (.t 11) false [.t 15])]
def slices_IndexFunc__sint_int.r5 : List Ent := [
  E0 0 (some 17) none (.i (.mv (.t 5))),
  E0 1 (some 4) none (.i (.mv (.t 17)))]
def slices_IndexFunc__sint_int.r6 : List Ent := [
  E0 0 (some 18) none (.i (.bin .add (.t 8) (.k (I64 1)))),
  E0 1 (some 8) none (.i (.mv (.t 18)))]
def slices_IndexFunc__sint_int.b0 : KC := .seq (.reg 320 1 slices_IndexFunc__sint_int.r2) (.seq (.cond (.t 9) (.skip) (.exit 0)) (.seq (.block 1 (.seq (.reg 384 2 slices_IndexFunc__sint_int.r3) (.seq (.reg 512 6 slices_IndexFunc__sint_int.r4) (.cond (.t 16) (.seq (.reg 896 2 slices_IndexFunc__sint_int.r5) (.ret)) (.skip))))) (.reg 1024 2 slices_IndexFunc__sint_int.r6)))
def slices_IndexFunc__sint_int.r7 : List Ent := [
  E0 0 (some 4) none (.i (.mv (.k (I64 (-1)))))]
def slices_IndexFunc__sint_int.fi : FI := { res := [.t 4], code := .seq (.reg 64 1 slices_IndexFunc__sint_int.r0) (.seq (.seq (.reg 128 3 slices_IndexFunc__sint_int.r1) (.block 0 (.loop slices_IndexFunc__sint_int.b0))) (.seq (.reg 1152 1 slices_IndexFunc__sint_int.r7) (.ret))) }
attribute [go_sem] slices_IndexFunc__sint_int.r0 slices_IndexFunc__sint_int.r1 slices_IndexFunc__sint_int.r2 slices_IndexFunc__sint_int.r3 slices_IndexFunc__sint_int.r4 slices_IndexFunc__sint_int.r5 slices_IndexFunc__sint_int.r6 slices_IndexFunc__sint_int.r7
theorem slices_IndexFunc__sint_int.ok : chkF prog F_slices_IndexFunc__sint_int 2 slices_IndexFunc__sint_int.fi = true := by kernel_rfl

/-! slices_ContainsFunc__sint_int -/
def slices_ContainsFunc__sint_int.r0 : List Ent := [
  E0 0 (some 4) none (.i (.mv (.k (.dat none (.bool false)))))]
def slices_ContainsFunc__sint_int.r1 : List Ent := [
  E0 0 (some 5) none (.i (.mv (.t 0))),
  E0 1 (some 6) none (.i (.mv (.t 1))),
  E0 2 (some 7) none (.call F_slices_IndexFunc__sint_int false (roA [.t 5, .t 6])),
  E0 3 (some 8) none (.i (.bin .geq (.t 7) (.k (I64 0)))),
  E0 4 (some 4) none (.i (.mv (.t 8)))]
def slices_ContainsFunc__sint_int.fi : FI := { res := [.t 4], code := .seq (.reg 64 1 slices_ContainsFunc__sint_int.r0) (.seq (.reg 128 5 slices_ContainsFunc__sint_int.r1) (.ret)) }
attribute [go_sem] slices_ContainsFunc__sint_int.r0 slices_ContainsFunc__sint_int.r1
theorem slices_ContainsFunc__sint_int.ok : chkF prog F_slices_ContainsFunc__sint_int 2 slices_ContainsFunc__sint_int.fi = true := by kernel_rfl

/-! spec_pl1Cur_next -/
def spec_pl1Cur_next.r0 : List Ent := [
  E0 0 (some 2) none (.i (.mv (.k (I64 0))))]
def spec_pl1Cur_next.r1 : List Ent := [
  E0 0 (some 3) none (.i (.mv (.k (I64 0))))]
def spec_pl1Cur_next.r2 : List Ent := [
  E0 0 (some 4) none (.i (.mv (.t 0))),
  E0 1 (some 5) none (.i (.nck (.t 4))),
  ER 2 (some 6) none (.fad 1 (.t 5)),
  ER 3 (some 7) none (.load false false 1 (.t 6)),
  E0 4 (some 8) none (.i (.mv (.t 0))),
  E0 5 (some 9) none (.i (.nck (.t 8))),
  ER 6 (some 10) none (.fad 0 (.t 9)),
  ER 7 (some 11) none (.load false false 1 (.t 10)),
  ER 8 (some 12) none (.len (.t 11)),
  E0 9 (some 13) none (.i (.bin .lss (.t 7) (.t 12)))]
def spec_pl1Cur_next.r3 : List Ent := [
  E0 0 (some 14) none (.i (.mv (.t 0))),
  E0 1 (some 15) none (.i (.nck (.t 14))),
  ER 2 (some 16) none (.fad 0 (.t 15)),
  ER 3 (some 17) none (.load false false 1 (.t 16)),
  E0 4 (some 18) none (.i (.mv (.t 0))),
  E0 5 (some 19) none (.i (.nck (.t 18))),
  ER 6 (some 20) none (.fad 1 (.t 19)),
  ER 7 (some 21) none (.load false false 1 (.t 20)),
  E0 8 (some 22) none (.i (.iad 1 (.t 17) (.t 21))),
  E0 9 (some 23) none (.i (.load false false 1 (.t 22))),
  E0 10 (some 24) none (.i (.cnv .i64 (.t 23))),
  E0 11 (some 3) none (.i (.mv (.t 24)))]
def spec_pl1Cur_next.r4 : List Ent := [
  E0 0 (some 25) none (.i (.mv (.t 0))),
  E0 1 (some 26) none (.i (.nck (.t 25))),
  E0 2 (some 27) none (.i (.fad 1 (.t 26))),
  E0 3 (some 28) none (.i (.load false false 1 (.t 27))),
  E0 4 (some 29) none (.i (.bin .add (.t 28) (.k (I64 1)))),
  E0 5 (some 30) none (.i (.nck (.t 25))),
  E0 6 (some 31) none (.i (.fad 1 (.t 30))),
  E0 7 none none (.i (.store 1 (.t 31) (.t 29)))]
def spec_pl1Cur_next.r5 : List Ent := [
  E0 0 (some 32) none (.i (.mv (.t 0))),
  E0 1 (some 33) none (.i (.mv (.t 0))),
  E0 2 (some 34) none (.i (.nck (.t 33))),
  E0 3 (some 35) none (.i (.fad 2 (.t 34))),
  E0 4 (some 36) none (.i (.load false false 1 (.t 35))),
  E0 5 (some 37) none (.i (.bin .mul (.t 36) (.k (.dat none (.int .u64 6364136223846793005))))),
  E0 6 (some 38) none (.i (.mv (.t 3))),
  E0 7 (some 39) none (.i (.cnv .u64 (.t 38))),
  E0 8 (some 40) none (.i (.bin .add (.t 37) (.t 39))),
  E0 9 (some 41) none (.i (.bin .add (.t 40) (.k (.dat none (.int .u64 1442695040888963407))))),
  E0 10 (some 42) none (.i (.nck (.t 32))),
  E0 11 (some 43) none (.i (.fad 2 (.t 42))),
  E0 12 none none (.i (.store 1 (.t 43) (.t 41)))]
def spec_pl1Cur_next.r6 : List Ent := [
  E0 0 (some 44) none (.i (.mv (.t 0))),
  E0 1 (some 45) none (.i (.nck (.t 44))),
  ER 2 (some 46) none (.fad 1 (.t 45)),
  ER 3 (some 47) none (.load false false 1 (.t 46)),
  E0 4 (some 48) none (.i (.mv (.t 0))),
  E0 5 (some 49) none (.i (.nck (.t 48))),
  ER 6 (some 50) none (.fad 0 (.t 49)),
  ER 7 (some 51) none (.load false false 1 (.t 50)),
  ER 8 (some 52) none (.len (.t 51)),
  E0 9 (some 53) none (.i (.bin .leq (.t 47) (.t 52)))]
def spec_pl1Cur_next.r7 : List Ent := [
  E0 0 (some 54) none (.i (.mv (.t 3))),
  E0 1 (some 2) none (.i (.mv (.t 54)))]
def spec_pl1Cur_next.r8 : List Ent := [
  E0 0 (some 55) none (.i (.mv (.t 0))),
  E0 1 (some 56) none (.i (.nck (.t 55))),
  E0 2 (some 57) none (.i (.fad 2 (.t 56))),
  E0 3 (some 58) none (.i (.load false false 1 (.t 57))),
  E0 4 (some 59) none (.i (.bin .shr (.t 58) (.k (.dat none (.int .u64 40))))),
  E0 5 (some 60) none (.i (.bin .and (.t 59) (.k (.dat none (.int .u64 255))))),
  E0 6 (some 61) none (.i (.cnv .i64 (.t 60))),
  E0 7 (some 2) none (.i (.mv (.t 61)))]
def spec_pl1Cur_next.fi : FI := { res := [.t 2], code := .seq (.reg 64 1 spec_pl1Cur_next.r0) (.seq (.reg 128 1 spec_pl1Cur_next.r1) (.seq (.seq (.reg 192 10 spec_pl1Cur_next.r2) (.cond (.t 13) (.reg 832 12 spec_pl1Cur_next.r3) (.skip))) (.seq (.reg 1600 8 spec_pl1Cur_next.r4) (.seq (.reg 2112 13 spec_pl1Cur_next.r5) (.seq (.seq (.reg 2944 10 spec_pl1Cur_next.r6) (.cond (.t 53) (.seq (.reg 3584 2 spec_pl1Cur_next.r7) (.ret)) (.skip))) (.seq (.reg 3712 8 spec_pl1Cur_next.r8) (.ret))))))) }
attribute [go_sem] spec_pl1Cur_next.r0 spec_pl1Cur_next.r1 spec_pl1Cur_next.r2 spec_pl1Cur_next.r3 spec_pl1Cur_next.r4 spec_pl1Cur_next.r5 spec_pl1Cur_next.r6 spec_pl1Cur_next.r7 spec_pl1Cur_next.r8
theorem spec_pl1Cur_next.ok : chkF prog F_spec_pl1Cur_next 1 spec_pl1Cur_next.fi = true := by kernel_rfl

/-! spec_pl1Cur_pick -/
def spec_pl1Cur_pick.r0 : List Ent := [
  E0 0 (some 4) none (.i (.mv (.k (I64 0))))]
def spec_pl1Cur_pick.r1 : List Ent := [
  E0 0 (some 6) none (.i (.mv (.t 1))),
  E0 1 (some 7) none (.i (.bin .leq (.t 6) (.k (I64 1))))]
def spec_pl1Cur_pick.r2 : List Ent := [
  E0 0 (some 4) none (.i (.mv (.k (I64 0))))]
def spec_pl1Cur_pick.r3 : List Ent := [
  E0 0 (some 8) none (.i (.mv (.t 0))),
  E0 1 (some 9) none (.call F_spec_pl1Cur_next true [(.io, .t 8)]),
  E0 2 (some 5) none (.i (.mv (.t 9)))]
def spec_pl1Cur_pick.r4 : List Ent := [
  E0 0 (some 10) none (.i (.mv (.t 1))),
  E0 1 (some 11) none (.i (.bin .gtr (.t 10) (.k (I64 200))))]
def spec_pl1Cur_pick.r5 : List Ent := [
  E0 0 (some 12) none (.i (.mv (.t 5))),
  E0 1 (some 13) none (.i (.bin .mul (.t 12) (.k (I64 256)))),
  E0 2 (some 14) none (.i (.mv (.t 0))),
  E0 3 (some 15) none (.call F_spec_pl1Cur_next true [(.io, .t 14)]),
  E0 4 (some 16) none (.i (.bin .add (.t 13) (.t 15))),
  E0 5 (some 5) none (.i (.mv (.t 16)))]
def spec_pl1Cur_pick.r6 : List Ent := [
  E0 0 (some 17) none (.i (.mv (.t 5))),
  E0 1 (some 18) none (.i (.mv (.t 1))),
  E0 2 (some 19) none (.i (.bin .rem (.t 17) (.t 18))),
  E0 3 (some 4) none (.i (.mv (.t 19)))]
def spec_pl1Cur_pick.fi : FI := { res := [.t 4], code := .seq (.reg 64 1 spec_pl1Cur_pick.r0) (.seq (.seq (.reg 128 2 spec_pl1Cur_pick.r1) (.cond (.t 7) (.seq (.reg 256 1 spec_pl1Cur_pick.r2) (.ret)) (.skip))) (.seq (.reg 320 3 spec_pl1Cur_pick.r3) (.seq (.seq (.reg 512 2 spec_pl1Cur_pick.r4) (.cond (.t 11) (.reg 640 6 spec_pl1Cur_pick.r5) (.skip))) (.seq (.reg 1024 4 spec_pl1Cur_pick.r6) (.ret))))) }
attribute [go_sem] spec_pl1Cur_pick.r0 spec_pl1Cur_pick.r1 spec_pl1Cur_pick.r2 spec_pl1Cur_pick.r3 spec_pl1Cur_pick.r4 spec_pl1Cur_pick.r5 spec_pl1Cur_pick.r6
theorem spec_pl1Cur_pick.ok : chkF prog F_spec_pl1Cur_pick 2 spec_pl1Cur_pick.fi = true := by kernel_rfl

/-! spec_pl1Cur_one -/
def spec_pl1Cur_one.r0 : List Ent := [
  E0 0 (some 4) none (.i (.mv (.k (.dat none (.bool false)))))]
def spec_pl1Cur_one.r1 : List Ent := [
  E0 0 (some 5) none (.i (.mv (.t 0))),
  E0 1 (some 6) none (.i (.mv (.t 1))),
  E0 2 (some 7) none (.call F_spec_pl1Cur_pick true [(.io, .t 5), (.ro, .t 6)]),
  E0 3 (some 8) none (.i (.bin .eql (.t 7) (.k (I64 0)))),
  E0 4 (some 4) none (.i (.mv (.t 8)))]
def spec_pl1Cur_one.fi : FI := { res := [.t 4], code := .seq (.reg 64 1 spec_pl1Cur_one.r0) (.seq (.reg 128 5 spec_pl1Cur_one.r1) (.ret)) }
attribute [go_sem] spec_pl1Cur_one.r0 spec_pl1Cur_one.r1
theorem spec_pl1Cur_one.ok : chkF prog F_spec_pl1Cur_one 2 spec_pl1Cur_one.fi = true := by kernel_rfl

/-! spec_pl1Cur_among -/
def spec_pl1Cur_among.r0 : List Ent := [
  E0 0 (some 4) none (.i (.mv (.k (I64 0))))]
def spec_pl1Cur_among.r1 : List Ent := [
  E0 0 (some 5) none (.i (.mv (.t 1))),
  E0 1 (some 6) none (.i (.mv (.t 0))),
  E0 2 (some 7) none (.i (.mv (.t 1))),
  E0 3 (some 8) none (.i (.len (.t 7))),
  E0 4 (some 9) none (.call F_spec_pl1Cur_pick true [(.io, .t 6), (.ro, .t 8)]),
  E0 5 (some 10) none (.i (.iad 1 (.t 5) (.t 9))),
  E0 6 (some 11) none (.i (.load false false 1 (.t 10))),
  E0 7 (some 4) none (.i (.mv (.t 11)))]
def spec_pl1Cur_among.fi : FI := { res := [.t 4], code := .seq (.reg 64 1 spec_pl1Cur_among.r0) (.seq (.reg 128 8 spec_pl1Cur_among.r1) (.ret)) }
attribute [go_sem] spec_pl1Cur_among.r0 spec_pl1Cur_among.r1
theorem spec_pl1Cur_among.ok : chkF prog F_spec_pl1Cur_among 2 spec_pl1Cur_among.fi = true := by kernel_rfl

/-! laws_sameInts -/
def laws_sameInts.r0 : List Ent := [
  E0 0 (some 4) none (.i (.mv (.k (.dat none (.bool false)))))]
def laws_sameInts.r1 : List Ent := [
  E0 0 (some 6) none (.i (.mv (.t 0))),
  E0 1 (some 7) none (.i (.len (.t 6))),
  E0 2 (some 8) none (.i (.mv (.t 1))),
  E0 3 (some 9) none (.i (.len (.t 8))),
  E0 4 (some 10) none (.i (.bin .neq (.t 7) (.t 9)))]
def laws_sameInts.r2 : List Ent := [
  E0 0 (some 4) none (.i (.mv (.k (.dat none (.bool false)))))]
def laws_sameInts.r3 : List Ent := [
  E0 0 (some 11) none (.i (.mv (.t 0))),
  E0 1 (some 12) none (.i (.len (.t 11))),
  E0 2 (some 13) none (.i (.mv (.k (I64 0))))]
def laws_sameInts.r4 : List Ent := [
  E0 0 (some 14) none (.i (.bin .lss (.t 13) (.t 12)))]
def laws_sameInts.r5 : List Ent := [
  E0 0 (some 15) none (.i (.mv (.t 13))),
  E0 1 (some 5) none (.i (.mv (.t 15)))]
def laws_sameInts.r6 : List Ent := [
  E0 0 (some 16) none (.i (.mv (.t 0))),
  E0 1 (some 17) none (.i (.mv (.t 5))),
  ER 2 (some 18) none (.iad 1 (.t 16) (.t 17)),
  ER 3 (some 19) none (.load false false 1 (.t 18)),
  E0 4 (some 20) none (.i (.mv (.t 1))),
  E0 5 (some 21) none (.i (.mv (.t 5))),
  ER 6 (some 22) none (.iad 1 (.t 20) (.t 21)),
  ER 7 (some 23) none (.load false false 1 (.t 22)),
  E0 8 (some 24) none (.i (.bin .neq (.t 19) (.t 23)))]
def laws_sameInts.r7 : List Ent := [
  E0 0 (some 4) none (.i (.mv (.k (.dat none (.bool false)))))]
def laws_sameInts.r8 : List Ent := [
  E0 0 (some 25) none (.i (.bin .add (.t 13) (.k (I64 1)))),
  E0 1 (some 13) none (.i (.mv (.t 25)))]
def laws_sameInts.b0 : KC := .seq (.reg 704 1 laws_sameInts.r4) (.seq (.cond (.t 14) (.skip) (.exit 0)) (.seq (.block 1 (.seq (.reg 768 2 laws_sameInts.r5) (.seq (.reg 896 9 laws_sameInts.r6) (.cond (.t 24) (.seq (.reg 1472 1 laws_sameInts.r7) (.ret)) (.skip))))) (.reg 1536 2 laws_sameInts.r8)))
def laws_sameInts.r9 : List Ent := [
  E0 0 (some 4) none (.i (.mv (.k (.dat none (.bool true)))))]
def laws_sameInts.fi : FI := { res := [.t 4], code := .seq (.reg 64 1 laws_sameInts.r0) (.seq (.seq (.reg 128 5 laws_sameInts.r1) (.cond (.t 10) (.seq (.reg 448 1 laws_sameInts.r2) (.ret)) (.skip))) (.seq (.seq (.reg 512 3 laws_sameInts.r3) (.block 0 (.loop laws_sameInts.b0))) (.seq (.reg 1664 1 laws_sameInts.r9) (.ret)))) }
attribute [go_sem] laws_sameInts.r0 laws_sameInts.r1 laws_sameInts.r2 laws_sameInts.r3 laws_sameInts.r4 laws_sameInts.r5 laws_sameInts.r6 laws_sameInts.r7 laws_sameInts.r8 laws_sameInts.r9
theorem laws_sameInts.ok : chkF prog F_laws_sameInts 2 laws_sameInts.fi = true := by kernel_rfl

/-! impl_list -/
def impl_list.r0 : List Ent := [
  E0 0 (some 4) none (.i (.mv (.k (.nil 1))))]
def impl_list.r1 : List Ent := [
  E0 0 (some 5) none (.i (.mv (.k (.nil 1))))]
def impl_list.r2 : List Ent := [
  E0 0 (some 7) none (.i (.mv (.t 0))),
  E0 1 (some 8) none (.i (.mv (.k (I64 0))))]
def impl_list.r3 : List Ent := [
  E0 0 (some 9) none (.i (.bin .lss (.t 8) (.t 7)))]
def impl_list.r4 : List Ent := [
  E0 0 (some 10) none (.i (.mv (.t 8))),
  E0 1 (some 6) none (.i (.mv (.t 10)))]
def impl_list.r5 : List Ent := [
  E0 0 (some 11) none (.i (.mv (.t 1))),
  E0 1 (some 12) none (.i (.mv (.t 6))),
  E0 2 (some 13) none (.ccl (.t 11) false [.t 12])]
def impl_list.r6 : List Ent := [
  E0 0 (some 14) none (.i (.mv (.t 5))),
  E0 1 (some 15) none (.i (.mv (.t 6))),
  E0 2 (some 16) none (.i (.bsl true 1 [.t 15])),
  E0 3 (some 17) none (.i (.app 1 8 (.t 14) (.t 16))),
  E0 4 (some 5) none (.i (.mv (.t 17)))]
def impl_list.r7 : List Ent := [
  E0 0 (some 18) none (.i (.bin .add (.t 8) (.k (I64 1)))),
  E0 1 (some 8) none (.i (.mv (.t 18)))]
def impl_list.b0 : KC := .seq (.reg 320 1 impl_list.r3) (.seq (.cond (.t 9) (.skip) (.exit 0)) (.seq (.block 1 (.seq (.reg 384 2 impl_list.r4) (.seq (.reg 512 3 impl_list.r5) (.cond (.t 13) (.reg 704 5 impl_list.r6) (.skip))))) (.reg 1024 2 impl_list.r7)))
def impl_list.r8 : List Ent := [
  E0 0 (some 19) none (.i (.mv (.t 5))),
  E0 1 (some 4) none (.i (.mv (.t 19)))]
def impl_list.fi : FI := { res := [.t 4], code := .seq (.reg 64 1 impl_list.r0) (.seq (.reg 128 1 impl_list.r1) (.seq (.seq (.reg 192 2 impl_list.r2) (.nrm 5 896 1 (.block 0 (.loop impl_list.b0)))) (.seq (.reg 1152 2 impl_list.r8) (.ret)))) }
attribute [go_sem] impl_list.r0 impl_list.r1 impl_list.r2 impl_list.r3 impl_list.r4 impl_list.r5 impl_list.r6 impl_list.r7 impl_list.r8
theorem impl_list.ok : chkF prog F_impl_list 2 impl_list.fi = true := by kernel_rfl

/-! spec_pl1Cur_arcs -/
def spec_pl1Cur_arcs.r0 : List Ent := [
  E0 0 (some 2) none (.i (.mv (.k (I64 0)))),
  E0 1 (some 3) none (.i (.mv (.k (.nil 2))))]
def spec_pl1Cur_arcs.r1 : List Ent := [
  E0 0 (some 8) none (.i (.mv (.t 0))),
  E0 1 (some 9) none (.call F_spec_pl1Cur_pick true [(.io, .t 8), (.ro, .k (I64 6))]),
  E0 2 (some 10) none (.i (.bin .add (.k (I64 1)) (.t 9))),
  E0 3 (some 4) none (.i (.mv (.t 10)))]
def spec_pl1Cur_arcs.r2 : List Ent := [
  E0 0 (some 11) none (.i (.mv (.t 0))),
  E0 1 (some 12) none (.call F_spec_pl1Cur_one true [(.io, .t 11), (.ro, .k (I64 30))])]
def spec_pl1Cur_arcs.r3 : List Ent := [
  E0 0 (some 13) none (.i (.mv (.t 0))),
  E0 1 (some 14) none (.i (.bsl false 1 [.k (I64 0), .k (I64 6), .k (I64 7)])),
  E0 2 (some 15) none (.call F_spec_pl1Cur_among true [(.io, .t 13), (.co, .t 14)]),
  E0 3 (some 4) none (.i (.mv (.t 15)))]
def spec_pl1Cur_arcs.r4 : List Ent := [
  E0 0 (some 5) none (.i (.mv (.k (.nil 2))))]
def spec_pl1Cur_arcs.r5 : List Ent := [
  E0 0 (some 6) none (.i (.mv (.k (I64 0))))]
def spec_pl1Cur_arcs.r6 : List Ent := [
  E0 0 (some 16) none (.i (.mv (.t 6))),
  E0 1 (some 17) none (.i (.mv (.t 4))),
  E0 2 (some 18) none (.i (.bin .lss (.t 16) (.t 17)))]
def spec_pl1Cur_arcs.r7 : List Ent := [
  E0 0 (some 7) none (.i (.mv (.k (I64 0))))]
def spec_pl1Cur_arcs.r8 : List Ent := [
  E0 0 (some 21) none (.i (.mv (.t 7))),
  E0 1 (some 22) none (.i (.mv (.t 4))),
  E0 2 (some 23) none (.i (.bin .lss (.t 21) (.t 22)))]
def spec_pl1Cur_arcs.r9 : List Ent := [
  E0 0 (some 26) none (.i (.mv (.t 0))),
  E0 1 (some 27) none (.call F_spec_pl1Cur_one true [(.io, .t 26), (.ro, .k (I64 3))]),
  E0 2 (some 28) none (.i (.mv (.t 27))),
  E0 3 (some 29) (some (28, true)) (.i (.mv (.t 5))),
  E0 4 (some 30) (some (28, true)) (.i (.len (.t 29))),
  E0 5 (some 31) (some (28, true)) (.i (.bin .lss (.t 30) (.k (I64 30)))),
  E0 6 (some 32) none (.i (.pick (.t 28) (.t 31) (.k (.dat none (.bool false)))))]
def spec_pl1Cur_arcs.r10 : List Ent := [
  E0 0 (some 33) none (.i (.mv (.t 5))),
  E0 1 (some 34) none (.i (.mv (.t 6))),
  E0 2 (some 35) none (.i (.mv (.t 7))),
  E0 3 (some 36) none (.i (.bld [.t 34, .t 35])),
  E0 4 (some 37) none (.i (.bsl true 2 [.t 36])),
  E0 5 (some 38) none (.i (.app 2 16 (.t 33) (.t 37))),
  E0 6 (some 5) none (.i (.mv (.t 38)))]
def spec_pl1Cur_arcs.r11 : List Ent := [
  E0 0 (some 24) none (.i (.mv (.t 7))),
  E0 1 (some 25) none (.i (.bin .add (.t 24) (.k (I64 1)))),
  E0 2 (some 7) none (.i (.mv (.t 25)))]
def spec_pl1Cur_arcs.b0 : KC := .seq (.seq (.reg 1216 3 spec_pl1Cur_arcs.r8) (.cond (.t 23) (.skip) (.exit 2))) (.seq (.block 3 (.seq (.reg 1408 7 spec_pl1Cur_arcs.r9) (.cond (.t 32) (.reg 1856 7 spec_pl1Cur_arcs.r10) (.skip)))) (.reg 2304 3 spec_pl1Cur_arcs.r11))
def spec_pl1Cur_arcs.r12 : List Ent := [
  E0 0 (some 19) none (.i (.mv (.t 6))),
  E0 1 (some 20) none (.i (.bin .add (.t 19) (.k (I64 1)))),
  E0 2 (some 6) none (.i (.mv (.t 20)))]
def spec_pl1Cur_arcs.b1 : KC := .seq (.seq (.reg 960 3 spec_pl1Cur_arcs.r6) (.cond (.t 18) (.skip) (.exit 0))) (.seq (.block 1 (.seq (.reg 1152 1 spec_pl1Cur_arcs.r7) (.block 2 (.loop spec_pl1Cur_arcs.b0)))) (.reg 2496 3 spec_pl1Cur_arcs.r12))
def spec_pl1Cur_arcs.r13 : List Ent := [
  E0 0 (some 39) none (.i (.mv (.t 5))),
  E0 1 (some 40) none (.i (.len (.t 39))),
  E0 2 (some 41) none (.i (.bin .gtr (.t 40) (.k (I64 1)))),
  E0 3 (some 42) none (.i (.mv (.t 41))),
  E0 4 (some 43) (some (42, true)) (.i (.mv (.t 0))),
  E0 5 (some 44) (some (42, true)) (.call F_spec_pl1Cur_one true [(.io, .t 43), (.ro, .k (I64 30))]),
  E0 6 (some 45) none (.i (.pick (.t 42) (.t 44) (.k (.dat none (.bool false)))))]
def spec_pl1Cur_arcs.r14 : List Ent := [
  E0 0 (some 46) none (.i (.mv (.t 5))),
  E0 1 (some 47) none (.i (.mv (.t 5))),
  E0 2 (some 48) none (.i (.iad 2 (.t 47) (.k (I64 1)))),
  E0 3 (some 49) none (.i (.load false true 2 (.t 48))),
  E0 4 (some 50) none (.i (.iad 2 (.t 46) (.k (I64 0)))),
  E0 5 none none (.i (.store 2 (.t 50) (.t 49)))]
def spec_pl1Cur_arcs.r15 : List Ent := [
  E0 0 (some 51) none (.i (.mv (.t 4))),
  E0 1 (some 52) none (.i (.mv (.t 5))),
  E0 2 (some 2) none (.i (.mv (.t 51))),
  E0 3 (some 3) none (.i (.mv (.t 52)))]
def spec_pl1Cur_arcs.fi : FI := { res := [.t 2, .t 3], code := .seq (.reg 64 2 spec_pl1Cur_arcs.r0) (.seq (.reg 192 4 spec_pl1Cur_arcs.r1) (.seq (.seq (.reg 448 2 spec_pl1Cur_arcs.r2) (.cond (.t 12) (.reg 576 4 spec_pl1Cur_arcs.r3) (.skip))) (.seq (.reg 832 1 spec_pl1Cur_arcs.r4) (.seq (.seq (.reg 896 1 spec_pl1Cur_arcs.r5) (.nrm 5 2176 2 (.block 0 (.loop spec_pl1Cur_arcs.b1)))) (.seq (.seq (.reg 2688 7 spec_pl1Cur_arcs.r13) (.cond (.t 45) (.reg 3136 6 spec_pl1Cur_arcs.r14) (.skip))) (.seq (.reg 3520 4 spec_pl1Cur_arcs.r15) (.ret))))))) }
attribute [go_sem] spec_pl1Cur_arcs.r0 spec_pl1Cur_arcs.r1 spec_pl1Cur_arcs.r2 spec_pl1Cur_arcs.r3 spec_pl1Cur_arcs.r4 spec_pl1Cur_arcs.r5 spec_pl1Cur_arcs.r6 spec_pl1Cur_arcs.r7 spec_pl1Cur_arcs.r8 spec_pl1Cur_arcs.r9 spec_pl1Cur_arcs.r10 spec_pl1Cur_arcs.r11 spec_pl1Cur_arcs.r12 spec_pl1Cur_arcs.r13 spec_pl1Cur_arcs.r14 spec_pl1Cur_arcs.r15
theorem spec_pl1Cur_arcs.ok : chkF prog F_spec_pl1Cur_arcs 1 spec_pl1Cur_arcs.fi = true := by kernel_rfl

/-! impl_isSpots -/
def impl_isSpots.r0 : List Ent := [
  E0 0 (some 2) none (.i (.mv (.k (.dat none (.bool false)))))]
def impl_isSpots.r1 : List Ent := [
  E0 0 (some 3) none (.i (.mv (.t 0))),
  E0 1 (some 4) none (.call F_impl_in false (roA [.t 3, .k (I64 1), .k (I64 6)])),
  E0 2 (some 2) none (.i (.mv (.t 4)))]
def impl_isSpots.fi : FI := { res := [.t 2], code := .seq (.reg 64 1 impl_isSpots.r0) (.seq (.reg 128 3 impl_isSpots.r1) (.ret)) }
attribute [go_sem] impl_isSpots.r0 impl_isSpots.r1
theorem impl_isSpots.ok : chkF prog F_impl_isSpots 1 impl_isSpots.fi = true := by kernel_rfl

/-! impl_GoodArcs -/
def impl_GoodArcs.r0 : List Ent := [
  E0 0 (some 4) none (.i (.mv (.k (.dat none (.bool false)))))]
def impl_GoodArcs.r1 : List Ent := [
  E0 0 (some 8) none (.i (.mv (.t 1))),
  E0 1 (some 9) none (.i (.len (.t 8))),
  E0 2 (some 10) none (.i (.mv (.k (I64 0))))]
def impl_GoodArcs.r2 : List Ent := [
  E0 0 (some 11) none (.i (.bin .lss (.t 10) (.t 9)))]
def impl_GoodArcs.r3 : List Ent := [
  E0 0 (some 12) none (.i (.mv (.t 10))),
  E0 1 (some 13) none (.i (.iad 2 (.t 8) (.t 10))),
  E0 2 (some 14) none (.i (.load false true 2 (.t 13))),
  E0 3 (some 6) none (.i (.box (.k (.agg [.dat none (.int .i64 0), .dat none (.int .i64 0)])))),
  E0 4 (some 5) none (.i (.mv (.t 12))),
  E0 5 none none (.i (.store 2 (.t 6) (.t 14)))]
def impl_GoodArcs.r4 : List Ent := [
  E0 0 (some 15) none (.i (.fad 0 (.t 6))),
  E0 1 (some 16) none (.i (.load false false 1 (.t 15))),
  E0 2 (some 17) none (.i (.mv (.t 0))),
  E0 3 (some 18) none (.i (.bin .sub (.t 17) (.k (I64 1)))),
  E0 4 (some 19) none (.call F_impl_in false (roA [.t 16, .k (I64 0), .t 18])),
  E0 5 (some 20) none (.i (.un .not (.t 19))),
  E0 6 (some 21) none (.i (.mv (.t 20))),
  E0 7 (some 22) (some (21, false)) (.i (.fad 1 (.t 6))),
  E0 8 (some 23) (some (21, false)) (.i (.load false false 1 (.t 22))),
  E0 9 (some 24) (some (21, false)) (.i (.mv (.t 0))),
  E0 10 (some 25) (some (21, false)) (.i (.bin .sub (.t 24) (.k (I64 1)))),
  E0 11 (some 26) (some (21, false)) (.call F_impl_in false (roA [.t 23, .k (I64 0), .t 25])),
  E0 12 (some 27) (some (21, false)) (.i (.un .not (.t 26))),
  E0 13 (some 28) none (.i (.pick (.t 21) (.k (.dat none (.bool true))) (.t 27)))]
def impl_GoodArcs.r5 : List Ent := [
  E0 0 (some 4) none (.i (.mv (.k (.dat none (.bool false)))))]
def impl_GoodArcs.r6 : List Ent := [
  E0 0 (some 29) none (.i (.mv (.t 1))),
  E0 1 (some 30) none (.i (.mv (.t 5))),
  E0 2 (some 31) none (.i (.bin .sub (.t 30) (.k (I64 1)))),
  E0 3 (some 32) none (.i (.mnx true (.k (I64 0)) (.t 31))),
  E0 4 (some 33) none (.i (.iad 2 (.t 29) (.t 32))),
  E0 5 (some 34) none (.i (.load false true 2 (.t 33))),
  E0 6 (some 7) none (.i (.box (.k (.agg [.dat none (.int .i64 0), .dat none (.int .i64 0)])))),
  E0 7 none none (.i (.store 2 (.t 7) (.t 34)))]
def impl_GoodArcs.r7 : List Ent := [
  E0 0 (some 35) none (.i (.mv (.t 5))),
  E0 1 (some 36) none (.i (.bin .gtr (.t 35) (.k (I64 0)))),
  E0 2 (some 37) none (.i (.mv (.t 36))),
  E0 3 (some 38) (some (37, true)) (.i (.fad 0 (.t 7))),
  E0 4 (some 39) (some (37, true)) (.i (.load false false 1 (.t 38))),
  E0 5 (some 40) (some (37, true)) (.i (.fad 0 (.t 6))),
  E0 6 (some 41) (some (37, true)) (.i (.load false false 1 (.t 40))),
  E0 7 (some 42) (some (37, true)) (.i (.bin .gtr (.t 39) (.t 41))),
  E0 8 (some 43) (some (37, true)) (.i (.mv (.t 42))),
  E0 9 (some 44) (some (43, false)) (.i (.fad 0 (.t 7))),
  E0 10 (some 45) (some (43, false)) (.i (.load false false 1 (.t 44))),
  E0 11 (some 46) (some (43, false)) (.i (.fad 0 (.t 6))),
  E0 12 (some 47) (some (43, false)) (.i (.load false false 1 (.t 46))),
  E0 13 (some 48) (some (43, false)) (.i (.bin .eql (.t 45) (.t 47))),
  E0 14 (some 49) (some (43, false)) (.i (.mv (.t 48))),
  E0 15 (some 50) (some (49, true)) (.i (.fad 1 (.t 7))),
  E0 16 (some 51) (some (49, true)) (.i (.load false false 1 (.t 50))),
  E0 17 (some 52) (some (49, true)) (.i (.fad 1 (.t 6))),
  E0 18 (some 53) (some (49, true)) (.i (.load false false 1 (.t 52))),
  E0 19 (some 54) (some (49, true)) (.i (.bin .geq (.t 51) (.t 53))),
  E0 20 (some 55) (some (43, false)) (.i (.pick (.t 49) (.t 54) (.k (.dat none (.bool false))))),
  E0 21 (some 56) (some (37, true)) (.i (.pick (.t 43) (.k (.dat none (.bool true))) (.t 55))),
  E0 22 (some 57) none (.i (.pick (.t 37) (.t 56) (.k (.dat none (.bool false)))))]
def impl_GoodArcs.r8 : List Ent := [
  E0 0 (some 4) none (.i (.mv (.k (.dat none (.bool false)))))]
def impl_GoodArcs.r9 : List Ent := [
  E0 0 (some 58) none (.i (.bin .add (.t 10) (.k (I64 1)))),
  E0 1 (some 10) none (.i (.mv (.t 58)))]
def impl_GoodArcs.b0 : KC := .seq (.reg 320 1 impl_GoodArcs.r2) (.seq (.cond (.t 11) (.skip) (.exit 0)) (.seq (.block 1 (.seq (.reg 384 6 impl_GoodArcs.r3) (.seq (.seq (.reg 768 14 impl_GoodArcs.r4) (.cond (.t 28) (.seq (.reg 1664 1 impl_GoodArcs.r5) (.ret)) (.skip))) (.seq (.reg 1728 8 impl_GoodArcs.r6) (.seq (.reg 2240 23 impl_GoodArcs.r7) (.cond (.t 57) (.seq (.reg 3712 1 impl_GoodArcs.r8) (.ret)) (.skip))))))) (.reg 3776 2 impl_GoodArcs.r9)))
def impl_GoodArcs.r10 : List Ent := [
  E0 0 (some 59) none (.i (.mv (.t 0))),
  E0 1 (some 60) none (.call F_impl_isSpots false (roA [.t 59])),
  E0 2 (some 61) none (.i (.mv (.t 60))),
  E0 3 (some 62) (some (61, true)) (.i (.mv (.t 1))),
  E0 4 (some 63) (some (61, true)) (.i (.len (.t 62))),
  E0 5 (some 64) (some (61, true)) (.i (.bin .leq (.t 63) (.k (I64 30)))),
  E0 6 (some 65) none (.i (.pick (.t 61) (.t 64) (.k (.dat none (.bool false))))),
  E0 7 (some 4) none (.i (.mv (.t 65)))]
def impl_GoodArcs.fi : FI := { res := [.t 4], code := .seq (.reg 64 1 impl_GoodArcs.r0) (.seq (.seq (.reg 128 3 impl_GoodArcs.r1) (.block 0 (.loop impl_GoodArcs.b0))) (.seq (.reg 3904 8 impl_GoodArcs.r10) (.ret))) }
attribute [go_sem] impl_GoodArcs.r0 impl_GoodArcs.r1 impl_GoodArcs.r2 impl_GoodArcs.r3 impl_GoodArcs.r4 impl_GoodArcs.r5 impl_GoodArcs.r6 impl_GoodArcs.r7 impl_GoodArcs.r8 impl_GoodArcs.r9 impl_GoodArcs.r10
theorem impl_GoodArcs.ok : chkF prog F_impl_GoodArcs 2 impl_GoodArcs.fi = true := by kernel_rfl

/-! slices_Clone__sbool_bool -/
def slices_Clone__sbool_bool.r0 : List Ent := [
  E0 0 (some 2) none (.i (.mv (.k (.nil 1))))]
def slices_Clone__sbool_bool.r1 : List Ent := [
  E0 0 (some 3) none (.i (.mv (.t 0))),
  E0 1 (some 4) none (.i (.eqnil false (.t 3)))]
def slices_Clone__sbool_bool.r2 : List Ent := [
  E0 0 (some 2) none (.i (.mv (.k (.nil 1))))]
def slices_Clone__sbool_bool.r3 : List Ent := [
  E0 0 (some 5) none (.i (.bsl false 1 [])),
  E0 1 (some 6) none (.i (.mv (.t 0))),
  E0 2 (some 7) none (.i (.app 1 1 (.t 5) (.t 6))),
  E0 3 (some 2) none (.i (.mv (.t 7)))]
def slices_Clone__sbool_bool.fi : FI := { res := [.t 2], code := .seq (.reg 64 1 slices_Clone__sbool_bool.r0) (.seq (.seq (.reg 128 2 slices_Clone__sbool_bool.r1) (.condu (.t 4) (.seq (.reg 256 1 slices_Clone__sbool_bool.r2) (.ret)) (.skip))) (.seq (.reg 320 4 slices_Clone__sbool_bool.r3) (.ret))) }
attribute [go_sem] slices_Clone__sbool_bool.r0 slices_Clone__sbool_bool.r1 slices_Clone__sbool_bool.r2 slices_Clone__sbool_bool.r3
theorem slices_Clone__sbool_bool.ok : chkF prog F_slices_Clone__sbool_bool 1 slices_Clone__sbool_bool.fi = true := by kernel_rfl

/-! impl_within -/
def impl_within.r0 : List Ent := [
  E0 0 (some 8) none (.i (.mv (.k (.nil 1))))]
def impl_within.r1 : List Ent := [
  E0 0 (some 13) none (.i (.mv (.t 0))),
  E0 1 (some 14) none (.i (.mks 1 1 (.bool false) (.t 13) (.t 13))),
  E0 2 (some 9) none (.i (.mv (.t 14)))]
def impl_within.r2 : List Ent := [
  E0 0 (some 15) none (.i (.mv (.t 9))),
  E0 1 (some 16) none (.i (.mv (.t 2))),
  E0 2 (some 17) none (.i (.iad 1 (.t 15) (.t 16))),
  E0 3 none none (.i (.store 1 (.t 17) (.k (.dat none (.bool true)))))]
def impl_within.r3 : List Ent := [
  E0 0 (some 18) none (.i (.mv (.t 3))),
  E0 1 (some 19) none (.i (.mv (.k (I64 0))))]
def impl_within.r4 : List Ent := [
  E0 0 (some 20) none (.i (.bin .lss (.t 19) (.t 18)))]
def impl_within.r5 : List Ent := [
  E0 0 (some 21) none (.i (.mv (.t 9))),
  E0 1 (some 22) none (.call F_slices_Clone__sbool_bool false (roA [.t 21])),
  E0 2 (some 10) none (.i (.mv (.t 22)))]
def impl_within.r6 : List Ent := [
  E0 0 (some 23) none (.i (.mv (.t 1))),
  E0 1 (some 24) none (.i (.len (.t 23))),
  E0 2 (some 25) none (.i (.mv (.k (I64 0))))]
def impl_within.r7 : List Ent := [
  E0 0 (some 26) none (.i (.bin .lss (.t 25) (.t 24)))]
def impl_within.r8 : List Ent := [
  E0 0 (some 27) none (.i (.iad 2 (.t 23) (.t 25))),
  E0 1 (some 28) none (.i (.load false true 2 (.t 27))),
  E0 2 (some 12) none (.i (.box (.k (.agg [.dat none (.int .i64 0), .dat none (.int .i64 0)])))),
  E0 3 none none (.i (.store 2 (.t 12) (.t 28)))]
def impl_within.r9 : List Ent := [
  E0 0 (some 29) none (.i (.mv (.t 10))),
  E0 1 (some 30) none (.i (.fad 0 (.t 12))),
  E0 2 (some 31) none (.i (.load false false 1 (.t 30))),
  E0 3 (some 32) none (.i (.iad 1 (.t 29) (.t 31))),
  E0 4 (some 33) none (.i (.load false false 1 (.t 32)))]
def impl_within.r10 : List Ent := [
  E0 0 (some 34) none (.i (.mv (.t 9))),
  E0 1 (some 35) none (.i (.fad 1 (.t 12))),
  E0 2 (some 36) none (.i (.load false false 1 (.t 35))),
  E0 3 (some 37) none (.i (.iad 1 (.t 34) (.t 36))),
  E0 4 none none (.i (.store 1 (.t 37) (.k (.dat none (.bool true)))))]
def impl_within.r11 : List Ent := [
  E0 0 (some 38) none (.i (.bin .add (.t 25) (.k (I64 1)))),
  E0 1 (some 25) none (.i (.mv (.t 38)))]
def impl_within.b0 : KC := .seq (.reg 1152 1 impl_within.r7) (.seq (.cond (.t 26) (.skip) (.exit 2)) (.seq (.block 3 (.seq (.reg 1216 4 impl_within.r8) (.seq (.reg 1472 5 impl_within.r9) (.cond (.t 33) (.reg 1792 5 impl_within.r10) (.skip))))) (.reg 2112 2 impl_within.r11)))
def impl_within.r12 : List Ent := [
  E0 0 (some 39) none (.i (.bin .add (.t 19) (.k (I64 1)))),
  E0 1 (some 19) none (.i (.mv (.t 39)))]
def impl_within.b1 : KC := .seq (.reg 704 1 impl_within.r4) (.seq (.cond (.t 20) (.skip) (.exit 0)) (.seq (.block 1 (.seq (.reg 768 3 impl_within.r5) (.seq (.reg 960 3 impl_within.r6) (.block 2 (.loop impl_within.b0))))) (.reg 2240 2 impl_within.r12)))
def impl_within.r13 : List Ent := [
  E0 0 (some 40) none (.i (.mv (.t 9))),
  E0 1 (some 8) none (.i (.mv (.t 40)))]
def impl_within.fi : FI := { res := [.t 8], code := .seq (.reg 64 1 impl_within.r0) (.seq (.reg 128 3 impl_within.r1) (.seq (.reg 320 4 impl_within.r2) (.seq (.seq (.reg 576 2 impl_within.r3) (.block 0 (.loop impl_within.b1))) (.seq (.reg 2368 2 impl_within.r13) (.ret))))) }
attribute [go_sem] impl_within.r0 impl_within.r1 impl_within.r2 impl_within.r3 impl_within.r4 impl_within.r5 impl_within.r6 impl_within.r7 impl_within.r8 impl_within.r9 impl_within.r10 impl_within.r11 impl_within.r12 impl_within.r13
theorem impl_within.ok : chkF prog F_impl_within 4 impl_within.fi = true := by kernel_rfl

/-! spec_GoodArcs -/
def spec_GoodArcs.r0 : List Ent := [
  E0 0 (some 4) none (.i (.mv (.k (.dat none (.bool false)))))]
def spec_GoodArcs.r1 : List Ent := [
  E0 0 (some 7) none (.i (.mv (.t 1))),
  E0 1 (some 8) none (.i (.len (.t 7))),
  E0 2 (some 9) none (.i (.mv (.k (I64 0))))]
def spec_GoodArcs.r2 : List Ent := [
  E0 0 (some 10) none (.i (.bin .lss (.t 9) (.t 8)))]
def spec_GoodArcs.r3 : List Ent := [
  E0 0 (some 11) none (.i (.mv (.t 9))),
  E0 1 (some 12) none (.i (.iad 2 (.t 7) (.t 9))),
  E0 2 (some 13) none (.i (.load false true 2 (.t 12))),
  E0 3 (some 6) none (.i (.box (.k (.agg [.dat none (.int .i64 0), .dat none (.int .i64 0)])))),
  E0 4 (some 5) none (.i (.mv (.t 11))),
  E0 5 none none (.i (.store 2 (.t 6) (.t 13)))]
def spec_GoodArcs.r4 : List Ent := [
  E0 0 (some 14) none (.i (.fad 0 (.t 6))),
  E0 1 (some 15) none (.i (.load false false 1 (.t 14))),
  E0 2 (some 16) none (.i (.mv (.t 0))),
  E0 3 (some 17) none (.i (.bin .sub (.t 16) (.k (I64 1)))),
  E0 4 (some 18) none (.call F_spec_l1In false (roA [.t 15, .k (I64 0), .t 17])),
  E0 5 (some 19) none (.i (.un .not (.t 18))),
  E0 6 (some 20) none (.i (.mv (.t 19))),
  E0 7 (some 21) (some (20, false)) (.i (.fad 1 (.t 6))),
  E0 8 (some 22) (some (20, false)) (.i (.load false false 1 (.t 21))),
  E0 9 (some 23) (some (20, false)) (.i (.mv (.t 0))),
  E0 10 (some 24) (some (20, false)) (.i (.bin .sub (.t 23) (.k (I64 1)))),
  E0 11 (some 25) (some (20, false)) (.call F_spec_l1In false (roA [.t 22, .k (I64 0), .t 24])),
  E0 12 (some 26) (some (20, false)) (.i (.un .not (.t 25))),
  E0 13 (some 27) none (.i (.pick (.t 20) (.k (.dat none (.bool true))) (.t 26)))]
def spec_GoodArcs.r5 : List Ent := [
  E0 0 (some 4) none (.i (.mv (.k (.dat none (.bool false)))))]
def spec_GoodArcs.r6 : List Ent := [
  E0 0 (some 28) none (.i (.mv (.t 5))),
  E0 1 (some 29) none (.i (.bin .gtr (.t 28) (.k (I64 0)))),
  E0 2 (some 30) none (.i (.mv (.t 29))),
  E0 3 (some 31) (some (30, true)) (.i (.mv (.t 1))),
  E0 4 (some 32) (some (30, true)) (.i (.mv (.t 5))),
  E0 5 (some 33) (some (30, true)) (.i (.bin .sub (.t 32) (.k (I64 1)))),
  ER 6 (some 34) (some (30, true)) (.iad 2 (.t 31) (.t 33)),
  ER 7 (some 35) (some (30, true)) (.fad 0 (.t 34)),
  ER 8 (some 36) (some (30, true)) (.load false false 1 (.t 35)),
  ER 9 (some 37) (some (30, true)) (.fad 0 (.t 6)),
  ER 10 (some 38) (some (30, true)) (.load false false 1 (.t 37)),
  E0 11 (some 39) (some (30, true)) (.i (.bin .gtr (.t 36) (.t 38))),
  E0 12 (some 40) (some (30, true)) (.i (.mv (.t 39))),
  E0 13 (some 41) (some (40, false)) (.i (.mv (.t 1))),
  E0 14 (some 42) (some (40, false)) (.i (.mv (.t 5))),
  E0 15 (some 43) (some (40, false)) (.i (.bin .sub (.t 42) (.k (I64 1)))),
  ER 16 (some 44) (some (40, false)) (.iad 2 (.t 41) (.t 43)),
  ER 17 (some 45) (some (40, false)) (.fad 0 (.t 44)),
  ER 18 (some 46) (some (40, false)) (.load false false 1 (.t 45)),
  ER 19 (some 47) (some (40, false)) (.fad 0 (.t 6)),
  ER 20 (some 48) (some (40, false)) (.load false false 1 (.t 47)),
  E0 21 (some 49) (some (40, false)) (.i (.bin .eql (.t 46) (.t 48))),
  E0 22 (some 50) (some (40, false)) (.i (.mv (.t 49))),
  E0 23 (some 51) (some (50, true)) (.i (.mv (.t 1))),
  E0 24 (some 52) (some (50, true)) (.i (.mv (.t 5))),
  E0 25 (some 53) (some (50, true)) (.i (.bin .sub (.t 52) (.k (I64 1)))),
  ER 26 (some 54) (some (50, true)) (.iad 2 (.t 51) (.t 53)),
  ER 27 (some 55) (some (50, true)) (.fad 1 (.t 54)),
  ER 28 (some 56) (some (50, true)) (.load false false 1 (.t 55)),
  ER 29 (some 57) (some (50, true)) (.fad 1 (.t 6)),
  ER 30 (some 58) (some (50, true)) (.load false false 1 (.t 57)),
  E0 31 (some 59) (some (50, true)) (.i (.bin .geq (.t 56) (.t 58))),
  E0 32 (some 60) (some (40, false)) (.i (.pick (.t 50) (.t 59) (.k (.dat none (.bool false))))),
  E0 33 (some 61) (some (30, true)) (.i (.pick (.t 40) (.k (.dat none (.bool true))) (.t 60))),
  E0 34 (some 62) none (.i (.pick (.t 30) (.t 61) (.k (.dat none (.bool false)))))]
def spec_GoodArcs.r7 : List Ent := [
  E0 0 (some 4) none (.i (.mv (.k (.dat none (.bool false)))))]
def spec_GoodArcs.r8 : List Ent := [
  E0 0 (some 63) none (.i (.bin .add (.t 9) (.k (I64 1)))),
  E0 1 (some 9) none (.i (.mv (.t 63)))]
def spec_GoodArcs.b0 : KC := .seq (.reg 320 1 spec_GoodArcs.r2) (.seq (.cond (.t 10) (.skip) (.exit 0)) (.seq (.block 1 (.seq (.reg 384 6 spec_GoodArcs.r3) (.seq (.seq (.reg 768 14 spec_GoodArcs.r4) (.cond (.t 27) (.seq (.reg 1664 1 spec_GoodArcs.r5) (.ret)) (.skip))) (.seq (.reg 1728 35 spec_GoodArcs.r6) (.cond (.t 62) (.seq (.reg 3968 1 spec_GoodArcs.r7) (.ret)) (.skip)))))) (.reg 4032 2 spec_GoodArcs.r8)))
def spec_GoodArcs.r9 : List Ent := [
  E0 0 (some 64) none (.i (.mv (.t 0))),
  E0 1 (some 65) none (.call F_spec_l1In false (roA [.t 64, .k (I64 1), .k (I64 6)])),
  E0 2 (some 66) none (.i (.mv (.t 65))),
  E0 3 (some 67) (some (66, true)) (.i (.mv (.t 1))),
  E0 4 (some 68) (some (66, true)) (.i (.len (.t 67))),
  E0 5 (some 69) (some (66, true)) (.i (.bin .leq (.t 68) (.k (I64 30)))),
  E0 6 (some 70) none (.i (.pick (.t 66) (.t 69) (.k (.dat none (.bool false))))),
  E0 7 (some 4) none (.i (.mv (.t 70)))]
def spec_GoodArcs.fi : FI := { res := [.t 4], code := .seq (.reg 64 1 spec_GoodArcs.r0) (.seq (.seq (.reg 128 3 spec_GoodArcs.r1) (.block 0 (.loop spec_GoodArcs.b0))) (.seq (.reg 4160 8 spec_GoodArcs.r9) (.ret))) }
attribute [go_sem] spec_GoodArcs.r0 spec_GoodArcs.r1 spec_GoodArcs.r2 spec_GoodArcs.r3 spec_GoodArcs.r4 spec_GoodArcs.r5 spec_GoodArcs.r6 spec_GoodArcs.r7 spec_GoodArcs.r8 spec_GoodArcs.r9
theorem spec_GoodArcs.ok : chkF prog F_spec_GoodArcs 2 spec_GoodArcs.fi = true := by kernel_rfl

/-! spec_l12Reach -/
def spec_l12Reach.r0 : List Ent := [
  E0 0 (some 6) none (.i (.mv (.k (.nil 1))))]
def spec_l12Reach.r1 : List Ent := [
  E0 0 (some 11) none (.i (.mv (.t 1))),
  E0 1 (some 12) none (.i (.bsl false 1 [.t 11])),
  E0 2 (some 7) none (.i (.mv (.t 12)))]
def spec_l12Reach.r2 : List Ent := [
  E0 0 (some 13) none (.i (.mv (.t 2))),
  E0 1 (some 14) none (.i (.bin .gtr (.t 13) (.k (I64 0))))]
def spec_l12Reach.r3 : List Ent := [
  E0 0 (some 17) none (.i (.mv (.t 7))),
  E0 1 (some 8) none (.i (.mv (.t 17)))]
def spec_l12Reach.r4 : List Ent := [
  E0 0 (some 18) none (.i (.mv (.t 0))),
  E0 1 (some 19) none (.i (.len (.t 18))),
  E0 2 (some 20) none (.i (.mv (.k (I64 0))))]
def spec_l12Reach.r5 : List Ent := [
  E0 0 (some 21) none (.i (.bin .lss (.t 20) (.t 19)))]
def spec_l12Reach.r6 : List Ent := [
  E0 0 (some 22) none (.i (.iad 2 (.t 18) (.t 20))),
  E0 1 (some 23) none (.i (.load false true 2 (.t 22))),
  E0 2 (some 10) none (.i (.box (.k (.agg [.dat none (.int .i64 0), .dat none (.int .i64 0)])))),
  E0 3 none none (.i (.store 2 (.t 10) (.t 23)))]
def spec_l12Reach.r7 : List Ent := [
  E0 0 (some 24) none (.i (.mv (.t 7))),
  E0 1 (some 25) none (.i (.fad 0 (.t 10))),
  E0 2 (some 26) none (.i (.load false false 1 (.t 25))),
  E0 3 (some 27) none (.call F_spec_l1Has false (roA [.t 24, .t 26]))]
def spec_l12Reach.r8 : List Ent := [
  E0 0 (some 28) none (.i (.mv (.t 8))),
  E0 1 (some 29) none (.i (.fad 1 (.t 10))),
  E0 2 (some 30) none (.i (.load false false 1 (.t 29))),
  E0 3 (some 31) none (.call F_spec_l1Put true (roA [.t 28, .t 30])),
  E0 4 (some 8) none (.i (.mv (.t 31)))]
def spec_l12Reach.r9 : List Ent := [
  E0 0 (some 32) none (.i (.bin .add (.t 20) (.k (I64 1)))),
  E0 1 (some 20) none (.i (.mv (.t 32)))]
def spec_l12Reach.b0 : KC := .seq (.reg 768 1 spec_l12Reach.r5) (.seq (.cond (.t 21) (.skip) (.exit 2)) (.seq (.block 3 (.seq (.reg 832 4 spec_l12Reach.r6) (.seq (.reg 1088 4 spec_l12Reach.r7) (.cond (.t 27) (.reg 1344 5 spec_l12Reach.r8) (.skip))))) (.reg 1664 2 spec_l12Reach.r9)))
def spec_l12Reach.r10 : List Ent := [
  E0 0 (some 33) none (.i (.mv (.t 8))),
  E0 1 (some 7) none (.i (.mv (.t 33)))]
def spec_l12Reach.r11 : List Ent := [
  E0 0 (some 15) none (.i (.mv (.t 2))),
  E0 1 (some 16) none (.i (.bin .sub (.t 15) (.k (I64 1)))),
  E0 2 (some 2) none (.i (.mv (.t 16)))]
def spec_l12Reach.b1 : KC := .seq (.seq (.reg 320 2 spec_l12Reach.r2) (.cond (.t 14) (.skip) (.exit 0))) (.seq (.block 1 (.seq (.reg 448 2 spec_l12Reach.r3) (.seq (.seq (.reg 576 3 spec_l12Reach.r4) (.block 2 (.loop spec_l12Reach.b0))) (.reg 1792 2 spec_l12Reach.r10)))) (.reg 1920 3 spec_l12Reach.r11))
def spec_l12Reach.r12 : List Ent := [
  E0 0 (some 34) none (.i (.mv (.t 7))),
  E0 1 (some 6) none (.i (.mv (.t 34)))]
def spec_l12Reach.fi : FI := { res := [.t 6], code := .seq (.reg 64 1 spec_l12Reach.r0) (.seq (.reg 128 3 spec_l12Reach.r1) (.seq (.fz 7 (.block 0 (.loop spec_l12Reach.b1))) (.seq (.reg 2112 2 spec_l12Reach.r12) (.fz 6 (.ret))))) }
attribute [go_sem] spec_l12Reach.r0 spec_l12Reach.r1 spec_l12Reach.r2 spec_l12Reach.r3 spec_l12Reach.r4 spec_l12Reach.r5 spec_l12Reach.r6 spec_l12Reach.r7 spec_l12Reach.r8 spec_l12Reach.r9 spec_l12Reach.r10 spec_l12Reach.r11 spec_l12Reach.r12
theorem spec_l12Reach.ok : chkF prog F_spec_l12Reach 3 spec_l12Reach.fi = true := by kernel_rfl

/-! laws_hasArc -/
def laws_hasArc.r0 : List Ent := [
  E0 0 (some 6) none (.i (.mv (.k (.dat none (.bool false)))))]
def laws_hasArc.r1 : List Ent := [
  E0 0 (some 9) none (.i (.mv (.t 0))),
  E0 1 (some 10) none (.i (.len (.t 9))),
  E0 2 (some 11) none (.i (.mv (.k (I64 0))))]
def laws_hasArc.r2 : List Ent := [
  E0 0 (some 12) none (.i (.bin .lss (.t 11) (.t 10)))]
def laws_hasArc.r3 : List Ent := [
  E0 0 (some 13) none (.i (.iad 2 (.t 9) (.t 11))),
  E0 1 (some 14) none (.i (.load false true 2 (.t 13))),
  E0 2 (some 8) none (.i (.box (.k (.agg [.dat none (.int .i64 0), .dat none (.int .i64 0)])))),
  E0 3 none none (.i (.store 2 (.t 8) (.t 14)))]
def laws_hasArc.r4 : List Ent := [
  E0 0 (some 15) none (.i (.fad 0 (.t 8))),
  E0 1 (some 16) none (.i (.load false false 1 (.t 15))),
  E0 2 (some 17) none (.i (.mv (.t 1))),
  E0 3 (some 18) none (.i (.bin .eql (.t 16) (.t 17))),
  E0 4 (some 19) none (.i (.mv (.t 18))),
  E0 5 (some 20) (some (19, true)) (.i (.fad 1 (.t 8))),
  E0 6 (some 21) (some (19, true)) (.i (.load false false 1 (.t 20))),
  E0 7 (some 22) (some (19, true)) (.i (.mv (.t 2))),
  E0 8 (some 23) (some (19, true)) (.i (.bin .eql (.t 21) (.t 22))),
  E0 9 (some 24) none (.i (.pick (.t 19) (.t 23) (.k (.dat none (.bool false)))))]
def laws_hasArc.r5 : List Ent := [
  E0 0 (some 6) none (.i (.mv (.k (.dat none (.bool true)))))]
def laws_hasArc.r6 : List Ent := [
  E0 0 (some 25) none (.i (.bin .add (.t 11) (.k (I64 1)))),
  E0 1 (some 11) none (.i (.mv (.t 25)))]
def laws_hasArc.b0 : KC := .seq (.reg 320 1 laws_hasArc.r2) (.seq (.cond (.t 12) (.skip) (.exit 0)) (.seq (.block 1 (.seq (.reg 384 4 laws_hasArc.r3) (.seq (.reg 640 10 laws_hasArc.r4) (.cond (.t 24) (.seq (.reg 1280 1 laws_hasArc.r5) (.ret)) (.skip))))) (.reg 1344 2 laws_hasArc.r6)))
def laws_hasArc.r7 : List Ent := [
  E0 0 (some 6) none (.i (.mv (.k (.dat none (.bool false)))))]
def laws_hasArc.fi : FI := { res := [.t 6], code := .seq (.reg 64 1 laws_hasArc.r0) (.seq (.seq (.reg 128 3 laws_hasArc.r1) (.block 0 (.loop laws_hasArc.b0))) (.seq (.reg 1472 1 laws_hasArc.r7) (.ret))) }
attribute [go_sem] laws_hasArc.r0 laws_hasArc.r1 laws_hasArc.r2 laws_hasArc.r3 laws_hasArc.r4 laws_hasArc.r5 laws_hasArc.r6 laws_hasArc.r7
theorem laws_hasArc.ok : chkF prog F_laws_hasArc 3 laws_hasArc.fi = true := by kernel_rfl

/-! spec_pl1Cur_walk -/
def spec_pl1Cur_walk.r0 : List Ent := [
  E0 0 (some 6) none (.i (.mv (.k (.nil 1))))]
def spec_pl1Cur_walk.r1 : List Ent := [
  E0 0 (some 12) none (.i (.mv (.t 0))),
  E0 1 (some 13) none (.i (.mv (.t 1))),
  E0 2 (some 14) none (.call F_spec_pl1Cur_pick true [(.io, .t 12), (.ro, .t 13)]),
  E0 3 (some 15) none (.i (.bsl false 1 [.t 14])),
  E0 4 (some 7) none (.i (.mv (.t 15)))]
def spec_pl1Cur_walk.r2 : List Ent := [
  E0 0 (some 16) none (.i (.mv (.t 0))),
  E0 1 (some 17) none (.call F_spec_pl1Cur_pick true [(.io, .t 16), (.ro, .k (I64 8))]),
  E0 2 (some 8) none (.i (.mv (.t 17)))]
def spec_pl1Cur_walk.r3 : List Ent := [
  E0 0 (some 18) none (.i (.mv (.t 8))),
  E0 1 (some 19) none (.i (.bin .gtr (.t 18) (.k (I64 0))))]
def spec_pl1Cur_walk.r4 : List Ent := [
  E0 0 (some 22) none (.i (.mv (.t 0))),
  E0 1 (some 23) none (.i (.mv (.t 1))),
  E0 2 (some 24) none (.call F_spec_pl1Cur_pick true [(.io, .t 22), (.ro, .t 23)]),
  E0 3 (some 9) none (.i (.mv (.t 24)))]
def spec_pl1Cur_walk.r5 : List Ent := [
  E0 0 (some 25) none (.i (.mv (.t 2))),
  E0 1 (some 26) none (.i (.len (.t 25))),
  E0 2 (some 27) none (.i (.mv (.k (I64 0))))]
def spec_pl1Cur_walk.r6 : List Ent := [
  E0 0 (some 28) none (.i (.bin .lss (.t 27) (.t 26)))]
def spec_pl1Cur_walk.r7 : List Ent := [
  E0 0 (some 29) none (.i (.iad 2 (.t 25) (.t 27))),
  E0 1 (some 30) none (.i (.load false true 2 (.t 29))),
  E0 2 (some 11) none (.i (.box (.k (.agg [.dat none (.int .i64 0), .dat none (.int .i64 0)])))),
  E0 3 none none (.i (.store 2 (.t 11) (.t 30)))]
def spec_pl1Cur_walk.r8 : List Ent := [
  ER 0 (some 31) none (.fad 0 (.t 11)),
  ER 1 (some 32) none (.load false false 1 (.t 31)),
  E0 2 (some 33) none (.i (.mv (.t 7))),
  E0 3 (some 34) none (.i (.mv (.t 7))),
  ER 4 (some 35) none (.len (.t 34)),
  E0 5 (some 36) none (.i (.bin .sub (.t 35) (.k (I64 1)))),
  ER 6 (some 37) none (.iad 1 (.t 33) (.t 36)),
  ER 7 (some 38) none (.load false false 1 (.t 37)),
  E0 8 (some 39) none (.i (.bin .eql (.t 32) (.t 38))),
  E0 9 (some 40) none (.i (.mv (.t 39))),
  E0 10 (some 41) (some (40, true)) (.i (.mv (.t 0))),
  E0 11 (some 42) (some (40, true)) (.call F_spec_pl1Cur_one true [(.io, .t 41), (.ro, .k (I64 2))]),
  E0 12 (some 43) none (.i (.pick (.t 40) (.t 42) (.k (.dat none (.bool false)))))]
def spec_pl1Cur_walk.r9 : List Ent := [
  E0 0 (some 44) none (.i (.fad 1 (.t 11))),
  E0 1 (some 45) none (.i (.load false false 1 (.t 44))),
  E0 2 (some 9) none (.i (.mv (.t 45)))]
def spec_pl1Cur_walk.r10 : List Ent := [
  E0 0 (some 46) none (.i (.bin .add (.t 27) (.k (I64 1)))),
  E0 1 (some 27) none (.i (.mv (.t 46)))]
def spec_pl1Cur_walk.b0 : KC := .seq (.reg 1216 1 spec_pl1Cur_walk.r6) (.seq (.cond (.t 28) (.skip) (.exit 2)) (.seq (.block 3 (.seq (.reg 1280 4 spec_pl1Cur_walk.r7) (.seq (.reg 1536 13 spec_pl1Cur_walk.r8) (.cond (.t 43) (.reg 2368 3 spec_pl1Cur_walk.r9) (.skip))))) (.reg 2560 2 spec_pl1Cur_walk.r10)))
def spec_pl1Cur_walk.r11 : List Ent := [
  E0 0 (some 47) none (.i (.mv (.t 7))),
  E0 1 (some 48) none (.i (.mv (.t 9))),
  E0 2 (some 49) none (.i (.bsl true 1 [.t 48])),
  E0 3 (some 50) none (.i (.app 1 8 (.t 47) (.t 49))),
  E0 4 (some 7) none (.i (.mv (.t 50)))]
def spec_pl1Cur_walk.r12 : List Ent := [
  E0 0 (some 20) none (.i (.mv (.t 8))),
  E0 1 (some 21) none (.i (.bin .sub (.t 20) (.k (I64 1)))),
  E0 2 (some 8) none (.i (.mv (.t 21)))]
def spec_pl1Cur_walk.b1 : KC := .seq (.seq (.reg 640 2 spec_pl1Cur_walk.r3) (.cond (.t 19) (.skip) (.exit 0))) (.seq (.block 1 (.seq (.reg 768 4 spec_pl1Cur_walk.r4) (.seq (.seq (.reg 1024 3 spec_pl1Cur_walk.r5) (.block 2 (.loop spec_pl1Cur_walk.b0))) (.reg 2688 5 spec_pl1Cur_walk.r11)))) (.reg 3008 3 spec_pl1Cur_walk.r12))
def spec_pl1Cur_walk.r13 : List Ent := [
  E0 0 (some 51) none (.i (.mv (.t 7))),
  E0 1 (some 6) none (.i (.mv (.t 51)))]
def spec_pl1Cur_walk.fi : FI := { res := [.t 6], code := .seq (.reg 64 1 spec_pl1Cur_walk.r0) (.seq (.reg 128 5 spec_pl1Cur_walk.r1) (.seq (.seq (.reg 448 3 spec_pl1Cur_walk.r2) (.nrm 7 2880 1 (.block 0 (.loop spec_pl1Cur_walk.b1)))) (.seq (.reg 3200 2 spec_pl1Cur_walk.r13) (.ret)))) }
attribute [go_sem] spec_pl1Cur_walk.r0 spec_pl1Cur_walk.r1 spec_pl1Cur_walk.r2 spec_pl1Cur_walk.r3 spec_pl1Cur_walk.r4 spec_pl1Cur_walk.r5 spec_pl1Cur_walk.r6 spec_pl1Cur_walk.r7 spec_pl1Cur_walk.r8 spec_pl1Cur_walk.r9 spec_pl1Cur_walk.r10 spec_pl1Cur_walk.r11 spec_pl1Cur_walk.r12 spec_pl1Cur_walk.r13
theorem spec_pl1Cur_walk.ok : chkF prog F_spec_pl1Cur_walk 3 spec_pl1Cur_walk.fi = true := by kernel_rfl

/-! spec_DrawIsWalk -/
def spec_DrawIsWalk.r0 : List Ent := [
  E0 0 (some 2) none (.i (.mv (.k (I64 0)))),
  E0 1 (some 3) none (.i (.mv (.k (.nil 2)))),
  E0 2 (some 4) none (.i (.mv (.k (.nil 1))))]
def spec_DrawIsWalk.r1 : List Ent := [
  E0 0 (some 8) none (.i (.mv (.t 0))),
  E0 1 (some 9) none (.i (.bld [.t 8, .k (.dat none (.int .i64 0)), .k (.dat none (.int .u64 0))])),
  E0 2 (some 10) none (.i (.box (.t 9))),
  E0 3 (some 5) none (.i (.mv (.t 10)))]
def spec_DrawIsWalk.r2 : List Ent := [
  E0 0 (some 12) none (.i (.mv (.t 5))),
  E0 1 (some 13) none (.call F_spec_pl1Cur_arcs true [(.io, .t 12)]),
  E0 2 (some 11) none (.i (.mv (.t 13))),
  E0 3 (some 14) none (.i (.ext 0 (.t 11))),
  E0 4 (some 15) none (.i (.ext 1 (.t 11))),
  E0 5 (some 6) none (.i (.mv (.t 14))),
  E0 6 (some 7) none (.i (.mv (.t 15)))]
def spec_DrawIsWalk.r3 : List Ent := [
  E0 0 (some 16) none (.i (.mv (.t 6))),
  E0 1 (some 17) none (.i (.mv (.t 7))),
  E0 2 (some 18) none (.i (.mv (.t 5))),
  E0 3 (some 19) none (.i (.mv (.t 6))),
  E0 4 (some 20) none (.i (.mv (.t 7))),
  E0 5 (some 21) none (.call F_spec_pl1Cur_walk true [(.io, .t 18), (.ro, .t 19), (.ro, .t 20)]),
  E0 6 (some 2) none (.i (.mv (.t 16))),
  E0 7 (some 3) none (.i (.mv (.t 17))),
  E0 8 (some 4) none (.i (.mv (.t 21)))]
def spec_DrawIsWalk.fi : FI := { res := [.t 2, .t 3, .t 4], code := .seq (.reg 64 3 spec_DrawIsWalk.r0) (.seq (.reg 256 4 spec_DrawIsWalk.r1) (.seq (.reg 512 7 spec_DrawIsWalk.r2) (.seq (.fz 7 (.reg 960 9 spec_DrawIsWalk.r3)) (.ret)))) }
attribute [go_sem] spec_DrawIsWalk.r0 spec_DrawIsWalk.r1 spec_DrawIsWalk.r2 spec_DrawIsWalk.r3
theorem spec_DrawIsWalk.ok : chkF prog F_spec_DrawIsWalk 1 spec_DrawIsWalk.fi = true := by kernel_rfl

/-! impl_isVertices_c1 -/
def impl_isVertices_c1.r0 : List Ent := [
  E0 0 (some 3) none (.i (.mv (.k (.dat none (.bool false)))))]
def impl_isVertices_c1.r1 : List Ent := [
  E0 0 (some 4) none (.i (.mv (.t 0))),
  E0 1 (some 5) none (.i (.load false false 1 (.t 1))),
  E0 2 (some 6) none (.i (.bin .sub (.t 5) (.k (I64 1)))),
  E0 3 (some 7) none (.call F_impl_in false (roA [.t 4, .k (I64 0), .t 6])),
  E0 4 (some 8) none (.i (.un .not (.t 7))),
  E0 5 (some 3) none (.i (.mv (.t 8)))]
def impl_isVertices_c1.fi : FI := { res := [.t 3], code := .seq (.reg 64 1 impl_isVertices_c1.r0) (.seq (.reg 128 6 impl_isVertices_c1.r1) (.ret)) }
attribute [go_sem] impl_isVertices_c1.r0 impl_isVertices_c1.r1
theorem impl_isVertices_c1.ok : chkF prog F_impl_isVertices_c1 2 impl_isVertices_c1.fi = true := by kernel_rfl

/-! impl_isVertices -/
def impl_isVertices.r0 : List Ent := [
  E0 0 (some 2) none (.i (.box (.t 0))),
  E0 1 (some 4) none (.i (.mv (.k (.dat none (.bool false)))))]
def impl_isVertices.r1 : List Ent := [
  E0 0 (some 5) none (.i (.mv (.t 1))),
  E0 1 (some 6) none (.i (.len (.t 5))),
  E0 2 (some 7) none (.call F_impl_in false (roA [.t 6, .k (I64 1), .k (I64 8)])),
  E0 3 (some 8) none (.i (.mv (.t 7))),
  E0 4 (some 9) (some (8, true)) (.i (.mv (.t 1))),
  E0 5 (some 10) (some (8, true)) (.i (.mkf F_impl_isVertices_c1 [.t 2])),
  E0 6 (some 11) (some (8, true)) (.call F_slices_ContainsFunc__sint_int false (roA [.t 9, .t 10])),
  E0 7 (some 12) (some (8, true)) (.i (.un .not (.t 11))),
  E0 8 (some 13) none (.i (.pick (.t 8) (.t 12) (.k (.dat none (.bool false))))),
  E0 9 (some 4) none (.i (.mv (.t 13)))]
def impl_isVertices.fi : FI := { res := [.t 4], code := .seq (.reg 64 2 impl_isVertices.r0) (.seq (.reg 192 10 impl_isVertices.r1) (.ret)) }
attribute [go_sem] impl_isVertices.r0 impl_isVertices.r1
theorem impl_isVertices.ok : chkF prog F_impl_isVertices 2 impl_isVertices.fi = true := by kernel_rfl

/-! slices_Index__sArc_Arc -/
def slices_Index__sArc_Arc.r0 : List Ent := [
  E0 0 (some 3) none (.i (.box (.t 1))),
  E0 1 (some 4) none (.i (.mv (.k (I64 0))))]
def slices_Index__sArc_Arc.r1 : List Ent := [
  E0 0 (some 6) none (.i (.mv (.t 0))),
  E0 1 (some 7) none (.i (.len (.t 6))),
  E0 2 (some 8) none (.i (.mv (.k (I64 0))))]
def slices_Index__sArc_Arc.r2 : List Ent := [
  E0 0 (some 9) none (.i (.bin .lss (.t 8) (.t 7)))]
def slices_Index__sArc_Arc.r3 : List Ent := [
  E0 0 (some 10) none (.i (.mv (.t 8))),
  E0 1 (some 5) none (.i (.mv (.t 10)))]
def slices_Index__sArc_Arc.r4 : List Ent := [
  ER 0 (some 11) none (.load false true 2 (.t 3)),
  E0 1 (some 12) none (.i (.mv (.t 0))),
  E0 2 (some 13) none (.i (.mv (.t 5))),
  ER 3 (some 14) none (.iad 2 (.t 12) (.t 13)),
  ER 4 (some 15) none (.load false true 2 (.t 14)),
  E0 5 (some 16) none (.i (.eqag 2 false (.t 11) (.t 15)))]
def slices_Index__sArc_Arc.r5 : List Ent := [
  E0 0 (some 17) none (.i (.mv (.t 5))),
  E0 1 (some 4) none (.i (.mv (.t 17)))]
def slices_Index__sArc_Arc.r6 : List Ent := [
  E0 0 (some 18) none (.i (.bin .add (.t 8) (.k (I64 1)))),
  E0 1 (some 8) none (.i (.mv (.t 18)))]
def slices_Index__sArc_Arc.b0 : KC := .seq (.reg 384 1 slices_Index__sArc_Arc.r2) (.seq (.cond (.t 9) (.skip) (.exit 0)) (.seq (.block 1 (.seq (.reg 448 2 slices_Index__sArc_Arc.r3) (.seq (.reg 576 6 slices_Index__sArc_Arc.r4) (.cond (.t 16) (.seq (.reg 960 2 slices_Index__sArc_Arc.r5) (.ret)) (.skip))))) (.reg 1088 2 slices_Index__sArc_Arc.r6)))
def slices_Index__sArc_Arc.r7 : List Ent := [
  E0 0 (some 4) none (.i (.mv (.k (I64 (-1)))))]
def slices_Index__sArc_Arc.fi : FI := { res := [.t 4], code := .seq (.reg 64 2 slices_Index__sArc_Arc.r0) (.seq (.seq (.reg 192 3 slices_Index__sArc_Arc.r1) (.block 0 (.loop slices_Index__sArc_Arc.b0))) (.seq (.reg 1216 1 slices_Index__sArc_Arc.r7) (.ret))) }
attribute [go_sem] slices_Index__sArc_Arc.r0 slices_Index__sArc_Arc.r1 slices_Index__sArc_Arc.r2 slices_Index__sArc_Arc.r3 slices_Index__sArc_Arc.r4 slices_Index__sArc_Arc.r5 slices_Index__sArc_Arc.r6 slices_Index__sArc_Arc.r7
theorem slices_Index__sArc_Arc.ok : chkF prog F_slices_Index__sArc_Arc 2 slices_Index__sArc_Arc.fi = true := by kernel_rfl

/-! slices_Contains__sArc_Arc -/
def slices_Contains__sArc_Arc.r0 : List Ent := [
  E0 0 (some 3) none (.i (.box (.t 1))),
  E0 1 (some 4) none (.i (.mv (.k (.dat none (.bool false)))))]
def slices_Contains__sArc_Arc.r1 : List Ent := [
  E0 0 (some 5) none (.i (.mv (.t 0))),
  E0 1 (some 6) none (.i (.load false true 2 (.t 3))),
  E0 2 (some 7) none (.call F_slices_Index__sArc_Arc false (roA [.t 5, .t 6])),
  E0 3 (some 8) none (.i (.bin .geq (.t 7) (.k (I64 0)))),
  E0 4 (some 4) none (.i (.mv (.t 8)))]
def slices_Contains__sArc_Arc.fi : FI := { res := [.t 4], code := .seq (.reg 64 2 slices_Contains__sArc_Arc.r0) (.seq (.reg 192 5 slices_Contains__sArc_Arc.r1) (.ret)) }
attribute [go_sem] slices_Contains__sArc_Arc.r0 slices_Contains__sArc_Arc.r1
theorem slices_Contains__sArc_Arc.ok : chkF prog F_slices_Contains__sArc_Arc 2 slices_Contains__sArc_Arc.fi = true := by kernel_rfl

/-! impl_IsWalk -/
def impl_IsWalk.r0 : List Ent := [
  E0 0 (some 6) none (.i (.mv (.k (.dat none (.bool false))))),
  E0 1 (some 7) none (.i (.mv (.k (.dat none (.bool false)))))]
def impl_IsWalk.r1 : List Ent := [
  E0 0 (some 9) none (.i (.mv (.t 0))),
  E0 1 (some 10) none (.i (.mv (.t 1))),
  E0 2 (some 11) none (.call F_impl_GoodArcs false (roA [.t 9, .t 10])),
  E0 3 (some 12) none (.i (.un .not (.t 11))),
  E0 4 (some 13) none (.i (.mv (.t 12))),
  E0 5 (some 14) (some (13, false)) (.i (.mv (.t 0))),
  E0 6 (some 15) (some (13, false)) (.i (.mv (.t 2))),
  E0 7 (some 16) (some (13, false)) (.call F_impl_isVertices false (roA [.t 14, .t 15])),
  E0 8 (some 17) (some (13, false)) (.i (.un .not (.t 16))),
  E0 9 (some 18) none (.i (.pick (.t 13) (.k (.dat none (.bool true))) (.t 17)))]
def impl_IsWalk.r2 : List Ent := [
  E0 0 (some 6) none (.i (.mv (.k (.dat none (.bool false))))),
  E0 1 (some 7) none (.i (.mv (.k (.dat none (.bool false)))))]
def impl_IsWalk.r3 : List Ent := [
  E0 0 (some 8) none (.i (.mv (.k (I64 1))))]
def impl_IsWalk.r4 : List Ent := [
  E0 0 (some 19) none (.i (.mv (.t 8))),
  E0 1 (some 20) none (.i (.mv (.t 2))),
  E0 2 (some 21) none (.i (.len (.t 20))),
  E0 3 (some 22) none (.i (.bin .lss (.t 19) (.t 21)))]
def impl_IsWalk.r5 : List Ent := [
  E0 0 (some 25) none (.i (.mv (.t 1))),
  E0 1 (some 26) none (.i (.mv (.t 2))),
  E0 2 (some 27) none (.i (.mv (.t 8))),
  E0 3 (some 28) none (.i (.bin .sub (.t 27) (.k (I64 1)))),
  ER 4 (some 29) none (.iad 1 (.t 26) (.t 28)),
  ER 5 (some 30) none (.load false false 1 (.t 29)),
  E0 6 (some 31) none (.i (.mv (.t 2))),
  E0 7 (some 32) none (.i (.mv (.t 8))),
  ER 8 (some 33) none (.iad 1 (.t 31) (.t 32)),
  ER 9 (some 34) none (.load false false 1 (.t 33)),
  E0 10 (some 35) none (.i (.bld [.t 30, .t 34])),
  E0 11 (some 36) none (.call F_slices_Contains__sArc_Arc false (roA [.t 25, .t 35])),
  E0 12 (some 37) none (.i (.un .not (.t 36)))]
def impl_IsWalk.r6 : List Ent := [
  E0 0 (some 6) none (.i (.mv (.k (.dat none (.bool false))))),
  E0 1 (some 7) none (.i (.mv (.k (.dat none (.bool true)))))]
def impl_IsWalk.r7 : List Ent := [
  E0 0 (some 23) none (.i (.mv (.t 8))),
  E0 1 (some 24) none (.i (.bin .add (.t 23) (.k (I64 1)))),
  E0 2 (some 8) none (.i (.mv (.t 24)))]
def impl_IsWalk.b0 : KC := .seq (.seq (.reg 1024 4 impl_IsWalk.r4) (.cond (.t 22) (.skip) (.exit 0))) (.seq (.block 1 (.seq (.reg 1280 13 impl_IsWalk.r5) (.cond (.t 37) (.seq (.reg 2112 2 impl_IsWalk.r6) (.ret)) (.skip)))) (.reg 2240 3 impl_IsWalk.r7))
def impl_IsWalk.r8 : List Ent := [
  E0 0 (some 6) none (.i (.mv (.k (.dat none (.bool true))))),
  E0 1 (some 7) none (.i (.mv (.k (.dat none (.bool true)))))]
def impl_IsWalk.fi : FI := { res := [.t 6, .t 7], code := .seq (.reg 64 2 impl_IsWalk.r0) (.seq (.seq (.reg 192 10 impl_IsWalk.r1) (.cond (.t 18) (.seq (.reg 832 2 impl_IsWalk.r2) (.ret)) (.skip))) (.seq (.seq (.reg 960 1 impl_IsWalk.r3) (.block 0 (.loop impl_IsWalk.b0))) (.seq (.reg 2432 2 impl_IsWalk.r8) (.ret)))) }
attribute [go_sem] impl_IsWalk.r0 impl_IsWalk.r1 impl_IsWalk.r2 impl_IsWalk.r3 impl_IsWalk.r4 impl_IsWalk.r5 impl_IsWalk.r6 impl_IsWalk.r7 impl_IsWalk.r8
theorem impl_IsWalk.ok : chkF prog F_impl_IsWalk 3 impl_IsWalk.fi = true := by kernel_rfl

/-! spec_l1All -/
def spec_l1All.r0 : List Ent := [
  E0 0 (some 6) none (.i (.mv (.k (.dat none (.bool false)))))]
def spec_l1All.r1 : List Ent := [
  E0 0 (some 9) none (.i (.mv (.t 0))),
  E0 1 (some 10) none (.i (.len (.t 9))),
  E0 2 (some 11) none (.i (.mv (.k (I64 0))))]
def spec_l1All.r2 : List Ent := [
  E0 0 (some 12) none (.i (.bin .lss (.t 11) (.t 10)))]
def spec_l1All.r3 : List Ent := [
  E0 0 (some 13) none (.i (.iad 1 (.t 9) (.t 11))),
  E0 1 (some 14) none (.i (.load false false 1 (.t 13))),
  E0 2 (some 8) none (.i (.mv (.t 14)))]
def spec_l1All.r4 : List Ent := [
  E0 0 (some 15) none (.i (.mv (.t 8))),
  E0 1 (some 16) none (.i (.mv (.t 1))),
  E0 2 (some 17) none (.i (.mv (.t 2))),
  E0 3 (some 18) none (.call F_spec_l1In false (roA [.t 15, .t 16, .t 17])),
  E0 4 (some 19) none (.i (.un .not (.t 18)))]
def spec_l1All.r5 : List Ent := [
  E0 0 (some 6) none (.i (.mv (.k (.dat none (.bool false)))))]
def spec_l1All.r6 : List Ent := [
  E0 0 (some 20) none (.i (.bin .add (.t 11) (.k (I64 1)))),
  E0 1 (some 11) none (.i (.mv (.t 20)))]
def spec_l1All.b0 : KC := .seq (.reg 320 1 spec_l1All.r2) (.seq (.cond (.t 12) (.skip) (.exit 0)) (.seq (.block 1 (.seq (.reg 384 3 spec_l1All.r3) (.seq (.reg 576 5 spec_l1All.r4) (.cond (.t 19) (.seq (.reg 896 1 spec_l1All.r5) (.ret)) (.skip))))) (.reg 960 2 spec_l1All.r6)))
def spec_l1All.r7 : List Ent := [
  E0 0 (some 6) none (.i (.mv (.k (.dat none (.bool true)))))]
def spec_l1All.fi : FI := { res := [.t 6], code := .seq (.reg 64 1 spec_l1All.r0) (.seq (.seq (.reg 128 3 spec_l1All.r1) (.block 0 (.loop spec_l1All.b0))) (.seq (.reg 1088 1 spec_l1All.r7) (.ret))) }
attribute [go_sem] spec_l1All.r0 spec_l1All.r1 spec_l1All.r2 spec_l1All.r3 spec_l1All.r4 spec_l1All.r5 spec_l1All.r6 spec_l1All.r7
theorem spec_l1All.ok : chkF prog F_spec_l1All 3 spec_l1All.fi = true := by kernel_rfl

/-! spec_l12Walk -/
def spec_l12Walk.r0 : List Ent := [
  E0 0 (some 4) none (.i (.mv (.k (.dat none (.bool false)))))]
def spec_l12Walk.r1 : List Ent := [
  E0 0 (some 5) none (.i (.mv (.t 0))),
  E0 1 (some 6) none (.call F_spec_l1In false (roA [.t 5, .k (I64 1), .k (I64 6)])),
  E0 2 (some 7) none (.i (.mv (.t 6))),
  E0 3 (some 8) (some (7, true)) (.i (.mv (.t 1))),
  E0 4 (some 9) (some (7, true)) (.i (.len (.t 8))),
  E0 5 (some 10) (some (7, true)) (.call F_spec_l1In false (roA [.t 9, .k (I64 1), .k (I64 8)])),
  E0 6 (some 11) none (.i (.pick (.t 7) (.t 10) (.k (.dat none (.bool false))))),
  E0 7 (some 12) none (.i (.mv (.t 11))),
  E0 8 (some 13) (some (12, true)) (.i (.mv (.t 1))),
  E0 9 (some 14) (some (12, true)) (.i (.mv (.t 0))),
  E0 10 (some 15) (some (12, true)) (.i (.bin .sub (.t 14) (.k (I64 1)))),
  E0 11 (some 16) (some (12, true)) (.call F_spec_l1All false (roA [.t 13, .k (I64 0), .t 15])),
  E0 12 (some 17) none (.i (.pick (.t 12) (.t 16) (.k (.dat none (.bool false))))),
  E0 13 (some 4) none (.i (.mv (.t 17)))]
def spec_l12Walk.fi : FI := { res := [.t 4], code := .seq (.reg 64 1 spec_l12Walk.r0) (.seq (.reg 128 14 spec_l12Walk.r1) (.ret)) }
attribute [go_sem] spec_l12Walk.r0 spec_l12Walk.r1
theorem spec_l12Walk.ok : chkF prog F_spec_l12Walk 2 spec_l12Walk.fi = true := by kernel_rfl

/-! spec_l12Arc -/
def spec_l12Arc.r0 : List Ent := [
  E0 0 (some 6) none (.i (.mv (.k (.dat none (.bool false)))))]
def spec_l12Arc.r1 : List Ent := [
  E0 0 (some 9) none (.i (.mv (.t 0))),
  E0 1 (some 10) none (.i (.len (.t 9))),
  E0 2 (some 11) none (.i (.mv (.k (I64 0))))]
def spec_l12Arc.r2 : List Ent := [
  E0 0 (some 12) none (.i (.bin .lss (.t 11) (.t 10)))]
def spec_l12Arc.r3 : List Ent := [
  E0 0 (some 13) none (.i (.iad 2 (.t 9) (.t 11))),
  E0 1 (some 14) none (.i (.load false true 2 (.t 13))),
  E0 2 (some 8) none (.i (.box (.k (.agg [.dat none (.int .i64 0), .dat none (.int .i64 0)])))),
  E0 3 none none (.i (.store 2 (.t 8) (.t 14)))]
def spec_l12Arc.r4 : List Ent := [
  E0 0 (some 15) none (.i (.fad 0 (.t 8))),
  E0 1 (some 16) none (.i (.load false false 1 (.t 15))),
  E0 2 (some 17) none (.i (.mv (.t 1))),
  E0 3 (some 18) none (.i (.bin .eql (.t 16) (.t 17))),
  E0 4 (some 19) none (.i (.mv (.t 18))),
  E0 5 (some 20) (some (19, true)) (.i (.fad 1 (.t 8))),
  E0 6 (some 21) (some (19, true)) (.i (.load false false 1 (.t 20))),
  E0 7 (some 22) (some (19, true)) (.i (.mv (.t 2))),
  E0 8 (some 23) (some (19, true)) (.i (.bin .eql (.t 21) (.t 22))),
  E0 9 (some 24) none (.i (.pick (.t 19) (.t 23) (.k (.dat none (.bool false)))))]
def spec_l12Arc.r5 : List Ent := [
  E0 0 (some 6) none (.i (.mv (.k (.dat none (.bool true)))))]
def spec_l12Arc.r6 : List Ent := [
  E0 0 (some 25) none (.i (.bin .add (.t 11) (.k (I64 1)))),
  E0 1 (some 11) none (.i (.mv (.t 25)))]
def spec_l12Arc.b0 : KC := .seq (.reg 320 1 spec_l12Arc.r2) (.seq (.cond (.t 12) (.skip) (.exit 0)) (.seq (.block 1 (.seq (.reg 384 4 spec_l12Arc.r3) (.seq (.reg 640 10 spec_l12Arc.r4) (.cond (.t 24) (.seq (.reg 1280 1 spec_l12Arc.r5) (.ret)) (.skip))))) (.reg 1344 2 spec_l12Arc.r6)))
def spec_l12Arc.r7 : List Ent := [
  E0 0 (some 6) none (.i (.mv (.k (.dat none (.bool false)))))]
def spec_l12Arc.fi : FI := { res := [.t 6], code := .seq (.reg 64 1 spec_l12Arc.r0) (.seq (.seq (.reg 128 3 spec_l12Arc.r1) (.block 0 (.loop spec_l12Arc.b0))) (.seq (.reg 1472 1 spec_l12Arc.r7) (.ret))) }
attribute [go_sem] spec_l12Arc.r0 spec_l12Arc.r1 spec_l12Arc.r2 spec_l12Arc.r3 spec_l12Arc.r4 spec_l12Arc.r5 spec_l12Arc.r6 spec_l12Arc.r7
theorem spec_l12Arc.ok : chkF prog F_spec_l12Arc 3 spec_l12Arc.fi = true := by kernel_rfl

/-! spec_IsWalk -/
def spec_IsWalk.r0 : List Ent := [
  E0 0 (some 6) none (.i (.mv (.k (.dat none (.bool false))))),
  E0 1 (some 7) none (.i (.mv (.k (.dat none (.bool false)))))]
def spec_IsWalk.r1 : List Ent := [
  E0 0 (some 9) none (.i (.mv (.t 0))),
  E0 1 (some 10) none (.i (.mv (.t 1))),
  E0 2 (some 11) none (.call F_spec_GoodArcs false (roA [.t 9, .t 10])),
  E0 3 (some 12) none (.i (.un .not (.t 11))),
  E0 4 (some 13) none (.i (.mv (.t 12))),
  E0 5 (some 14) (some (13, false)) (.i (.mv (.t 0))),
  E0 6 (some 15) (some (13, false)) (.i (.mv (.t 2))),
  E0 7 (some 16) (some (13, false)) (.call F_spec_l12Walk false (roA [.t 14, .t 15])),
  E0 8 (some 17) (some (13, false)) (.i (.un .not (.t 16))),
  E0 9 (some 18) none (.i (.pick (.t 13) (.k (.dat none (.bool true))) (.t 17)))]
def spec_IsWalk.r2 : List Ent := [
  E0 0 (some 6) none (.i (.mv (.k (.dat none (.bool false))))),
  E0 1 (some 7) none (.i (.mv (.k (.dat none (.bool false)))))]
def spec_IsWalk.r3 : List Ent := [
  E0 0 (some 8) none (.i (.mv (.k (I64 1))))]
def spec_IsWalk.r4 : List Ent := [
  E0 0 (some 19) none (.i (.mv (.t 8))),
  E0 1 (some 20) none (.i (.mv (.t 2))),
  E0 2 (some 21) none (.i (.len (.t 20))),
  E0 3 (some 22) none (.i (.bin .lss (.t 19) (.t 21)))]
def spec_IsWalk.r5 : List Ent := [
  E0 0 (some 25) none (.i (.mv (.t 1))),
  E0 1 (some 26) none (.i (.mv (.t 2))),
  E0 2 (some 27) none (.i (.mv (.t 8))),
  E0 3 (some 28) none (.i (.bin .sub (.t 27) (.k (I64 1)))),
  ER 4 (some 29) none (.iad 1 (.t 26) (.t 28)),
  ER 5 (some 30) none (.load false false 1 (.t 29)),
  E0 6 (some 31) none (.i (.mv (.t 2))),
  E0 7 (some 32) none (.i (.mv (.t 8))),
  ER 8 (some 33) none (.iad 1 (.t 31) (.t 32)),
  ER 9 (some 34) none (.load false false 1 (.t 33)),
  E0 10 (some 35) none (.call F_spec_l12Arc false (roA [.t 25, .t 30, .t 34])),
  E0 11 (some 36) none (.i (.un .not (.t 35)))]
def spec_IsWalk.r6 : List Ent := [
  E0 0 (some 6) none (.i (.mv (.k (.dat none (.bool false))))),
  E0 1 (some 7) none (.i (.mv (.k (.dat none (.bool true)))))]
def spec_IsWalk.r7 : List Ent := [
  E0 0 (some 23) none (.i (.mv (.t 8))),
  E0 1 (some 24) none (.i (.bin .add (.t 23) (.k (I64 1)))),
  E0 2 (some 8) none (.i (.mv (.t 24)))]
def spec_IsWalk.b0 : KC := .seq (.seq (.reg 1024 4 spec_IsWalk.r4) (.cond (.t 22) (.skip) (.exit 0))) (.seq (.block 1 (.seq (.reg 1280 12 spec_IsWalk.r5) (.cond (.t 36) (.seq (.reg 2048 2 spec_IsWalk.r6) (.ret)) (.skip)))) (.reg 2176 3 spec_IsWalk.r7))
def spec_IsWalk.r8 : List Ent := [
  E0 0 (some 6) none (.i (.mv (.k (.dat none (.bool true))))),
  E0 1 (some 7) none (.i (.mv (.k (.dat none (.bool true)))))]
def spec_IsWalk.fi : FI := { res := [.t 6, .t 7], code := .seq (.reg 64 2 spec_IsWalk.r0) (.seq (.seq (.reg 192 10 spec_IsWalk.r1) (.cond (.t 18) (.seq (.reg 832 2 spec_IsWalk.r2) (.ret)) (.skip))) (.seq (.seq (.reg 960 1 spec_IsWalk.r3) (.block 0 (.loop spec_IsWalk.b0))) (.seq (.reg 2368 2 spec_IsWalk.r8) (.ret)))) }
attribute [go_sem] spec_IsWalk.r0 spec_IsWalk.r1 spec_IsWalk.r2 spec_IsWalk.r3 spec_IsWalk.r4 spec_IsWalk.r5 spec_IsWalk.r6 spec_IsWalk.r7 spec_IsWalk.r8
theorem spec_IsWalk.ok : chkF prog F_spec_IsWalk 3 spec_IsWalk.fi = true := by kernel_rfl

/-! impl_LaidWalk -/
def impl_LaidWalk.r0 : List Ent := [
  E0 0 (some 4) none (.i (.mv (.k (.nil 1)))),
  E0 1 (some 5) none (.i (.mv (.k (.dat none (.bool false)))))]
def impl_LaidWalk.r1 : List Ent := [
  E0 0 (some 9) none (.i (.mv (.t 0))),
  E0 1 (some 10) none (.call F_impl_isSpots false (roA [.t 9])),
  E0 2 (some 11) none (.i (.un .not (.t 10))),
  E0 3 (some 12) none (.i (.mv (.t 11))),
  E0 4 (some 13) (some (12, false)) (.i (.mv (.t 0))),
  E0 5 (some 14) (some (12, false)) (.i (.mv (.t 1))),
  E0 6 (some 15) (some (12, false)) (.call F_impl_isVertices false (roA [.t 13, .t 14])),
  E0 7 (some 16) (some (12, false)) (.i (.un .not (.t 15))),
  E0 8 (some 17) none (.i (.pick (.t 12) (.k (.dat none (.bool true))) (.t 16)))]
def impl_LaidWalk.r2 : List Ent := [
  E0 0 (some 4) none (.i (.mv (.k (.nil 1)))),
  E0 1 (some 5) none (.i (.mv (.k (.dat none (.bool false)))))]
def impl_LaidWalk.r3 : List Ent := [
  E0 0 (some 6) none (.i (.mv (.k (.nil 1))))]
def impl_LaidWalk.r4 : List Ent := [
  E0 0 (some 18) none (.i (.mv (.t 1))),
  E0 1 (some 19) none (.i (.len (.t 18))),
  E0 2 (some 20) none (.i (.mv (.k (I64 0))))]
def impl_LaidWalk.r5 : List Ent := [
  E0 0 (some 21) none (.i (.bin .lss (.t 20) (.t 19)))]
def impl_LaidWalk.r6 : List Ent := [
  E0 0 (some 22) none (.i (.mv (.t 20))),
  E0 1 (some 23) none (.i (.iad 1 (.t 18) (.t 20))),
  E0 2 (some 24) none (.i (.load false false 1 (.t 23))),
  E0 3 (some 7) none (.i (.mv (.t 22))),
  E0 4 (some 8) none (.i (.mv (.t 24)))]
def impl_LaidWalk.r7 : List Ent := [
  E0 0 (some 25) none (.i (.mv (.t 6))),
  E0 1 (some 26) none (.i (.mv (.t 7))),
  E0 2 (some 27) none (.i (.mv (.t 0))),
  E0 3 (some 28) none (.i (.bin .mul (.t 26) (.t 27))),
  E0 4 (some 29) none (.i (.mv (.t 8))),
  E0 5 (some 30) none (.i (.bin .add (.t 28) (.t 29))),
  E0 6 (some 31) none (.i (.bsl true 1 [.t 30])),
  E0 7 (some 32) none (.i (.app 1 8 (.t 25) (.t 31))),
  E0 8 (some 6) none (.i (.mv (.t 32)))]
def impl_LaidWalk.r8 : List Ent := [
  E0 0 (some 33) none (.i (.bin .add (.t 20) (.k (I64 1)))),
  E0 1 (some 20) none (.i (.mv (.t 33)))]
def impl_LaidWalk.b0 : KC := .seq (.reg 1152 1 impl_LaidWalk.r5) (.seq (.cond (.t 21) (.skip) (.exit 0)) (.seq (.block 1 (.seq (.reg 1216 5 impl_LaidWalk.r6) (.reg 1536 9 impl_LaidWalk.r7))) (.reg 2112 2 impl_LaidWalk.r8)))
def impl_LaidWalk.r9 : List Ent := [
  E0 0 (some 34) none (.i (.mv (.t 6))),
  E0 1 (some 4) none (.i (.mv (.t 34))),
  E0 2 (some 5) none (.i (.mv (.k (.dat none (.bool true)))))]
def impl_LaidWalk.fi : FI := { res := [.t 4, .t 5], code := .seq (.reg 64 2 impl_LaidWalk.r0) (.seq (.seq (.reg 192 9 impl_LaidWalk.r1) (.cond (.t 17) (.seq (.reg 768 2 impl_LaidWalk.r2) (.ret)) (.skip))) (.seq (.reg 896 1 impl_LaidWalk.r3) (.seq (.seq (.reg 960 3 impl_LaidWalk.r4) (.nrm 6 1984 1 (.block 0 (.loop impl_LaidWalk.b0)))) (.seq (.reg 2240 3 impl_LaidWalk.r9) (.ret))))) }
attribute [go_sem] impl_LaidWalk.r0 impl_LaidWalk.r1 impl_LaidWalk.r2 impl_LaidWalk.r3 impl_LaidWalk.r4 impl_LaidWalk.r5 impl_LaidWalk.r6 impl_LaidWalk.r7 impl_LaidWalk.r8 impl_LaidWalk.r9
theorem impl_LaidWalk.ok : chkF prog F_impl_LaidWalk 2 impl_LaidWalk.fi = true := by kernel_rfl

/-! spec_LaidWalk -/
def spec_LaidWalk.r0 : List Ent := [
  E0 0 (some 4) none (.i (.mv (.k (.nil 1)))),
  E0 1 (some 5) none (.i (.mv (.k (.dat none (.bool false)))))]
def spec_LaidWalk.r1 : List Ent := [
  E0 0 (some 9) none (.i (.mv (.t 0))),
  E0 1 (some 10) none (.i (.mv (.t 1))),
  E0 2 (some 11) none (.call F_spec_l12Walk false (roA [.t 9, .t 10])),
  E0 3 (some 12) none (.i (.un .not (.t 11)))]
def spec_LaidWalk.r2 : List Ent := [
  E0 0 (some 4) none (.i (.mv (.k (.nil 1)))),
  E0 1 (some 5) none (.i (.mv (.k (.dat none (.bool false)))))]
def spec_LaidWalk.r3 : List Ent := [
  E0 0 (some 6) none (.i (.mv (.k (.nil 1))))]
def spec_LaidWalk.r4 : List Ent := [
  E0 0 (some 13) none (.i (.mv (.t 1))),
  E0 1 (some 14) none (.i (.len (.t 13))),
  E0 2 (some 15) none (.i (.mv (.k (I64 0))))]
def spec_LaidWalk.r5 : List Ent := [
  E0 0 (some 16) none (.i (.bin .lss (.t 15) (.t 14)))]
def spec_LaidWalk.r6 : List Ent := [
  E0 0 (some 17) none (.i (.mv (.t 15))),
  E0 1 (some 18) none (.i (.iad 1 (.t 13) (.t 15))),
  E0 2 (some 19) none (.i (.load false false 1 (.t 18))),
  E0 3 (some 7) none (.i (.mv (.t 17))),
  E0 4 (some 8) none (.i (.mv (.t 19)))]
def spec_LaidWalk.r7 : List Ent := [
  E0 0 (some 20) none (.i (.mv (.t 6))),
  E0 1 (some 21) none (.i (.mv (.t 7))),
  E0 2 (some 22) none (.i (.mv (.t 0))),
  E0 3 (some 23) none (.i (.bin .mul (.t 21) (.t 22))),
  E0 4 (some 24) none (.i (.mv (.t 8))),
  E0 5 (some 25) none (.i (.bin .add (.t 23) (.t 24))),
  E0 6 (some 26) none (.i (.bsl true 1 [.t 25])),
  E0 7 (some 27) none (.i (.app 1 8 (.t 20) (.t 26))),
  E0 8 (some 6) none (.i (.mv (.t 27)))]
def spec_LaidWalk.r8 : List Ent := [
  E0 0 (some 28) none (.i (.bin .add (.t 15) (.k (I64 1)))),
  E0 1 (some 15) none (.i (.mv (.t 28)))]
def spec_LaidWalk.b0 : KC := .seq (.reg 832 1 spec_LaidWalk.r5) (.seq (.cond (.t 16) (.skip) (.exit 0)) (.seq (.block 1 (.seq (.reg 896 5 spec_LaidWalk.r6) (.reg 1216 9 spec_LaidWalk.r7))) (.reg 1792 2 spec_LaidWalk.r8)))
def spec_LaidWalk.r9 : List Ent := [
  E0 0 (some 29) none (.i (.mv (.t 6))),
  E0 1 (some 4) none (.i (.mv (.t 29))),
  E0 2 (some 5) none (.i (.mv (.k (.dat none (.bool true)))))]
def spec_LaidWalk.fi : FI := { res := [.t 4, .t 5], code := .seq (.reg 64 2 spec_LaidWalk.r0) (.seq (.seq (.reg 192 4 spec_LaidWalk.r1) (.cond (.t 12) (.seq (.reg 448 2 spec_LaidWalk.r2) (.ret)) (.skip))) (.seq (.reg 576 1 spec_LaidWalk.r3) (.seq (.seq (.reg 640 3 spec_LaidWalk.r4) (.nrm 6 1664 1 (.block 0 (.loop spec_LaidWalk.b0)))) (.seq (.reg 1920 3 spec_LaidWalk.r9) (.ret))))) }
attribute [go_sem] spec_LaidWalk.r0 spec_LaidWalk.r1 spec_LaidWalk.r2 spec_LaidWalk.r3 spec_LaidWalk.r4 spec_LaidWalk.r5 spec_LaidWalk.r6 spec_LaidWalk.r7 spec_LaidWalk.r8 spec_LaidWalk.r9
theorem spec_LaidWalk.ok : chkF prog F_spec_LaidWalk 2 spec_LaidWalk.fi = true := by kernel_rfl

/-! impl_LayOut -/
def impl_LayOut.r0 : List Ent := [
  E0 0 (some 6) none (.i (.mv (.k (.nil 2)))),
  E0 1 (some 7) none (.i (.mv (.k (.dat none (.bool false)))))]
def impl_LayOut.r1 : List Ent := [
  E0 0 (some 12) none (.i (.mv (.t 0))),
  E0 1 (some 13) none (.i (.mv (.t 1))),
  E0 2 (some 14) none (.call F_impl_GoodArcs false (roA [.t 12, .t 13])),
  E0 3 (some 15) none (.i (.un .not (.t 14))),
  E0 4 (some 16) none (.i (.mv (.t 15))),
  E0 5 (some 17) (some (16, false)) (.i (.mv (.t 2))),
  E0 6 (some 18) (some (16, false)) (.call F_impl_in false (roA [.t 17, .k (I64 1), .k (I64 8)])),
  E0 7 (some 19) (some (16, false)) (.i (.un .not (.t 18))),
  E0 8 (some 20) none (.i (.pick (.t 16) (.k (.dat none (.bool true))) (.t 19)))]
def impl_LayOut.r2 : List Ent := [
  E0 0 (some 6) none (.i (.mv (.k (.nil 2)))),
  E0 1 (some 7) none (.i (.mv (.k (.dat none (.bool false)))))]
def impl_LayOut.r3 : List Ent := [
  E0 0 (some 8) none (.i (.mv (.k (.nil 2))))]
def impl_LayOut.r4 : List Ent := [
  E0 0 (some 21) none (.i (.mv (.t 2))),
  E0 1 (some 22) none (.i (.bin .sub (.t 21) (.k (I64 1)))),
  E0 2 (some 23) none (.i (.mv (.k (I64 0))))]
def impl_LayOut.r5 : List Ent := [
  E0 0 (some 24) none (.i (.bin .lss (.t 23) (.t 22)))]
def impl_LayOut.r6 : List Ent := [
  E0 0 (some 25) none (.i (.mv (.t 23))),
  E0 1 (some 9) none (.i (.mv (.t 25)))]
def impl_LayOut.r7 : List Ent := [
  E0 0 (some 26) none (.i (.mv (.t 1))),
  E0 1 (some 27) none (.i (.len (.t 26))),
  E0 2 (some 28) none (.i (.mv (.k (I64 0))))]
def impl_LayOut.r8 : List Ent := [
  E0 0 (some 29) none (.i (.bin .lss (.t 28) (.t 27)))]
def impl_LayOut.r9 : List Ent := [
  E0 0 (some 30) none (.i (.iad 2 (.t 26) (.t 28))),
  E0 1 (some 31) none (.i (.load false true 2 (.t 30))),
  E0 2 (some 11) none (.i (.box (.k (.agg [.dat none (.int .i64 0), .dat none (.int .i64 0)])))),
  E0 3 none none (.i (.store 2 (.t 11) (.t 31)))]
def impl_LayOut.r10 : List Ent := [
  E0 0 (some 32) none (.i (.mv (.t 8))),
  E0 1 (some 33) none (.i (.mv (.t 9))),
  E0 2 (some 34) none (.i (.mv (.t 0))),
  E0 3 (some 35) none (.i (.bin .mul (.t 33) (.t 34))),
  E0 4 (some 36) none (.i (.fad 0 (.t 11))),
  E0 5 (some 37) none (.i (.load false false 1 (.t 36))),
  E0 6 (some 38) none (.i (.bin .add (.t 35) (.t 37))),
  E0 7 (some 39) none (.i (.mv (.t 9))),
  E0 8 (some 40) none (.i (.bin .add (.t 39) (.k (I64 1)))),
  E0 9 (some 41) none (.i (.mv (.t 0))),
  E0 10 (some 42) none (.i (.bin .mul (.t 40) (.t 41))),
  E0 11 (some 43) none (.i (.fad 1 (.t 11))),
  E0 12 (some 44) none (.i (.load false false 1 (.t 43))),
  E0 13 (some 45) none (.i (.bin .add (.t 42) (.t 44))),
  E0 14 (some 46) none (.i (.bld [.t 38, .t 45])),
  E0 15 (some 47) none (.i (.bsl true 2 [.t 46])),
  E0 16 (some 48) none (.i (.app 2 16 (.t 32) (.t 47))),
  E0 17 (some 8) none (.i (.mv (.t 48)))]
def impl_LayOut.r11 : List Ent := [
  E0 0 (some 49) none (.i (.bin .add (.t 28) (.k (I64 1)))),
  E0 1 (some 28) none (.i (.mv (.t 49)))]
def impl_LayOut.b0 : KC := .seq (.reg 1536 1 impl_LayOut.r8) (.seq (.cond (.t 29) (.skip) (.exit 2)) (.seq (.block 3 (.seq (.reg 1600 4 impl_LayOut.r9) (.reg 1856 18 impl_LayOut.r10))) (.reg 3008 2 impl_LayOut.r11)))
def impl_LayOut.r12 : List Ent := [
  E0 0 (some 50) none (.i (.bin .add (.t 23) (.k (I64 1)))),
  E0 1 (some 23) none (.i (.mv (.t 50)))]
def impl_LayOut.b1 : KC := .seq (.reg 1152 1 impl_LayOut.r5) (.seq (.cond (.t 24) (.skip) (.exit 0)) (.seq (.block 1 (.seq (.reg 1216 2 impl_LayOut.r6) (.seq (.reg 1344 3 impl_LayOut.r7) (.block 2 (.loop impl_LayOut.b0))))) (.reg 3136 2 impl_LayOut.r12)))
def impl_LayOut.r13 : List Ent := [
  E0 0 (some 51) none (.i (.mv (.t 8))),
  E0 1 (some 6) none (.i (.mv (.t 51))),
  E0 2 (some 7) none (.i (.mv (.k (.dat none (.bool true)))))]
def impl_LayOut.fi : FI := { res := [.t 6, .t 7], code := .seq (.reg 64 2 impl_LayOut.r0) (.seq (.seq (.reg 192 9 impl_LayOut.r1) (.cond (.t 20) (.seq (.reg 768 2 impl_LayOut.r2) (.ret)) (.skip))) (.seq (.reg 896 1 impl_LayOut.r3) (.seq (.seq (.reg 960 3 impl_LayOut.r4) (.nrm 8 2880 2 (.block 0 (.loop impl_LayOut.b1)))) (.seq (.reg 3264 3 impl_LayOut.r13) (.ret))))) }
attribute [go_sem] impl_LayOut.r0 impl_LayOut.r1 impl_LayOut.r2 impl_LayOut.r3 impl_LayOut.r4 impl_LayOut.r5 impl_LayOut.r6 impl_LayOut.r7 impl_LayOut.r8 impl_LayOut.r9 impl_LayOut.r10 impl_LayOut.r11 impl_LayOut.r12 impl_LayOut.r13
theorem impl_LayOut.ok : chkF prog F_impl_LayOut 3 impl_LayOut.fi = true := by kernel_rfl

/-! spec_DrawLayOut -/
def spec_DrawLayOut.r0 : List Ent := [
  E0 0 (some 2) none (.i (.mv (.k (I64 0)))),
  E0 1 (some 3) none (.i (.mv (.k (.nil 2)))),
  E0 2 (some 4) none (.i (.mv (.k (I64 0))))]
def spec_DrawLayOut.r1 : List Ent := [
  E0 0 (some 8) none (.i (.mv (.t 0))),
  E0 1 (some 9) none (.i (.bld [.t 8, .k (.dat none (.int .i64 0)), .k (.dat none (.int .u64 0))])),
  E0 2 (some 10) none (.i (.box (.t 9))),
  E0 3 (some 5) none (.i (.mv (.t 10)))]
def spec_DrawLayOut.r2 : List Ent := [
  E0 0 (some 12) none (.i (.mv (.t 5))),
  E0 1 (some 13) none (.call F_spec_pl1Cur_arcs true [(.io, .t 12)]),
  E0 2 (some 11) none (.i (.mv (.t 13))),
  E0 3 (some 14) none (.i (.ext 0 (.t 11))),
  E0 4 (some 15) none (.i (.ext 1 (.t 11))),
  E0 5 (some 6) none (.i (.mv (.t 14))),
  E0 6 (some 7) none (.i (.mv (.t 15)))]
def spec_DrawLayOut.r3 : List Ent := [
  E0 0 (some 16) none (.i (.mv (.t 6))),
  E0 1 (some 17) none (.i (.mv (.t 7))),
  E0 2 (some 18) none (.i (.mv (.t 5))),
  E0 3 (some 19) none (.call F_spec_pl1Cur_pick true [(.io, .t 18), (.ro, .k (I64 10))]),
  E0 4 (some 2) none (.i (.mv (.t 16))),
  E0 5 (some 3) none (.i (.mv (.t 17))),
  E0 6 (some 4) none (.i (.mv (.t 19)))]
def spec_DrawLayOut.fi : FI := { res := [.t 2, .t 3, .t 4], code := .seq (.reg 64 3 spec_DrawLayOut.r0) (.seq (.reg 256 4 spec_DrawLayOut.r1) (.seq (.reg 512 7 spec_DrawLayOut.r2) (.seq (.reg 960 7 spec_DrawLayOut.r3) (.ret)))) }
attribute [go_sem] spec_DrawLayOut.r0 spec_DrawLayOut.r1 spec_DrawLayOut.r2 spec_DrawLayOut.r3
theorem spec_DrawLayOut.ok : chkF prog F_spec_DrawLayOut 1 spec_DrawLayOut.fi = true := by kernel_rfl

/-! spec_LayOut -/
def spec_LayOut.r0 : List Ent := [
  E0 0 (some 6) none (.i (.mv (.k (.nil 2)))),
  E0 1 (some 7) none (.i (.mv (.k (.dat none (.bool false)))))]
def spec_LayOut.r1 : List Ent := [
  E0 0 (some 12) none (.i (.mv (.t 0))),
  E0 1 (some 13) none (.i (.mv (.t 1))),
  E0 2 (some 14) none (.call F_spec_GoodArcs false (roA [.t 12, .t 13])),
  E0 3 (some 15) none (.i (.un .not (.t 14))),
  E0 4 (some 16) none (.i (.mv (.t 15))),
  E0 5 (some 17) (some (16, false)) (.i (.mv (.t 2))),
  E0 6 (some 18) (some (16, false)) (.call F_spec_l1In false (roA [.t 17, .k (I64 1), .k (I64 8)])),
  E0 7 (some 19) (some (16, false)) (.i (.un .not (.t 18))),
  E0 8 (some 20) none (.i (.pick (.t 16) (.k (.dat none (.bool true))) (.t 19)))]
def spec_LayOut.r2 : List Ent := [
  E0 0 (some 6) none (.i (.mv (.k (.nil 2)))),
  E0 1 (some 7) none (.i (.mv (.k (.dat none (.bool false)))))]
def spec_LayOut.r3 : List Ent := [
  E0 0 (some 8) none (.i (.mv (.k (.nil 2))))]
def spec_LayOut.r4 : List Ent := [
  E0 0 (some 9) none (.i (.mv (.k (I64 0))))]
def spec_LayOut.r5 : List Ent := [
  E0 0 (some 21) none (.i (.mv (.t 9))),
  E0 1 (some 22) none (.i (.mv (.t 2))),
  E0 2 (some 23) none (.i (.bin .sub (.t 22) (.k (I64 1)))),
  E0 3 (some 24) none (.i (.bin .lss (.t 21) (.t 23)))]
def spec_LayOut.r6 : List Ent := [
  E0 0 (some 27) none (.i (.mv (.t 1))),
  E0 1 (some 28) none (.i (.len (.t 27))),
  E0 2 (some 29) none (.i (.mv (.k (I64 0))))]
def spec_LayOut.r7 : List Ent := [
  E0 0 (some 30) none (.i (.bin .lss (.t 29) (.t 28)))]
def spec_LayOut.r8 : List Ent := [
  E0 0 (some 31) none (.i (.iad 2 (.t 27) (.t 29))),
  E0 1 (some 32) none (.i (.load false true 2 (.t 31))),
  E0 2 (some 11) none (.i (.box (.k (.agg [.dat none (.int .i64 0), .dat none (.int .i64 0)])))),
  E0 3 none none (.i (.store 2 (.t 11) (.t 32)))]
def spec_LayOut.r9 : List Ent := [
  E0 0 (some 33) none (.i (.mv (.t 8))),
  E0 1 (some 34) none (.i (.mv (.t 9))),
  E0 2 (some 35) none (.i (.mv (.t 0))),
  E0 3 (some 36) none (.i (.bin .mul (.t 34) (.t 35))),
  E0 4 (some 37) none (.i (.fad 0 (.t 11))),
  E0 5 (some 38) none (.i (.load false false 1 (.t 37))),
  E0 6 (some 39) none (.i (.bin .add (.t 36) (.t 38))),
  E0 7 (some 40) none (.i (.mv (.t 9))),
  E0 8 (some 41) none (.i (.bin .add (.t 40) (.k (I64 1)))),
  E0 9 (some 42) none (.i (.mv (.t 0))),
  E0 10 (some 43) none (.i (.bin .mul (.t 41) (.t 42))),
  E0 11 (some 44) none (.i (.fad 1 (.t 11))),
  E0 12 (some 45) none (.i (.load false false 1 (.t 44))),
  E0 13 (some 46) none (.i (.bin .add (.t 43) (.t 45))),
  E0 14 (some 47) none (.i (.bld [.t 39, .t 46])),
  E0 15 (some 48) none (.i (.bsl true 2 [.t 47])),
  E0 16 (some 49) none (.i (.app 2 16 (.t 33) (.t 48))),
  E0 17 (some 8) none (.i (.mv (.t 49)))]
def spec_LayOut.r10 : List Ent := [
  E0 0 (some 50) none (.i (.bin .add (.t 29) (.k (I64 1)))),
  E0 1 (some 29) none (.i (.mv (.t 50)))]
def spec_LayOut.b0 : KC := .seq (.reg 1472 1 spec_LayOut.r7) (.seq (.cond (.t 30) (.skip) (.exit 2)) (.seq (.block 3 (.seq (.reg 1536 4 spec_LayOut.r8) (.reg 1792 18 spec_LayOut.r9))) (.reg 2944 2 spec_LayOut.r10)))
def spec_LayOut.r11 : List Ent := [
  E0 0 (some 25) none (.i (.mv (.t 9))),
  E0 1 (some 26) none (.i (.bin .add (.t 25) (.k (I64 1)))),
  E0 2 (some 9) none (.i (.mv (.t 26)))]
def spec_LayOut.b1 : KC := .seq (.seq (.reg 1024 4 spec_LayOut.r5) (.cond (.t 24) (.skip) (.exit 0))) (.seq (.block 1 (.seq (.reg 1280 3 spec_LayOut.r6) (.block 2 (.loop spec_LayOut.b0)))) (.reg 3072 3 spec_LayOut.r11))
def spec_LayOut.r12 : List Ent := [
  E0 0 (some 51) none (.i (.mv (.t 8))),
  E0 1 (some 6) none (.i (.mv (.t 51))),
  E0 2 (some 7) none (.i (.mv (.k (.dat none (.bool true)))))]
def spec_LayOut.fi : FI := { res := [.t 6, .t 7], code := .seq (.reg 64 2 spec_LayOut.r0) (.seq (.seq (.reg 192 9 spec_LayOut.r1) (.cond (.t 20) (.seq (.reg 768 2 spec_LayOut.r2) (.ret)) (.skip))) (.seq (.reg 896 1 spec_LayOut.r3) (.seq (.seq (.reg 960 1 spec_LayOut.r4) (.nrm 8 2816 2 (.block 0 (.loop spec_LayOut.b1)))) (.seq (.reg 3264 3 spec_LayOut.r12) (.ret))))) }
attribute [go_sem] spec_LayOut.r0 spec_LayOut.r1 spec_LayOut.r2 spec_LayOut.r3 spec_LayOut.r4 spec_LayOut.r5 spec_LayOut.r6 spec_LayOut.r7 spec_LayOut.r8 spec_LayOut.r9 spec_LayOut.r10 spec_LayOut.r11 spec_LayOut.r12
theorem spec_LayOut.ok : chkF prog F_spec_LayOut 3 spec_LayOut.fi = true := by kernel_rfl

/-! impl_BackArcs_c1 -/
def impl_BackArcs_c1.r0 : List Ent := [
  E0 0 (some 4) none (.i (.mv (.k (.dat none (.bool false)))))]
def impl_BackArcs_c1.r1 : List Ent := [
  ER 0 (some 5) none (.load false false 1 (.t 1)),
  ER 1 (some 6) none (.load false false 1 (.t 2)),
  ER 2 (some 7) none (.load false false 1 (.t 2)),
  E0 3 (some 8) none (.i (.mv (.t 0))),
  ER 4 (some 9) none (.iad 2 (.t 7) (.t 8)),
  ER 5 (some 10) none (.fad 1 (.t 9)),
  ER 6 (some 11) none (.load false false 1 (.t 10)),
  ER 7 (some 12) none (.load false false 1 (.t 1)),
  EP 8 (some 13) none (.call F_impl_within false (roA [.t 5, .t 6, .t 11, .t 12])) 1 false,
  EX 9 (some 14) none (.i (.load false false 1 (.t 2))) 2 [8] [] false,
  E0 10 (some 15) none (.i (.mv (.t 0))),
  EX 11 (some 16) none (.i (.iad 2 (.t 14) (.t 15))) 2 [8] [] false,
  EX 12 (some 17) none (.i (.fad 0 (.t 16))) 2 [8] [] false,
  EX 13 (some 18) none (.i (.load false false 1 (.t 17))) 2 [8] [] false,
  E0 14 (some 19) none (.i (.iad 1 (.t 13) (.t 18))),
  E0 15 (some 20) none (.i (.load false false 1 (.t 19))),
  E0 16 (some 4) none (.i (.mv (.t 20)))]
def impl_BackArcs_c1.fi : FI := { res := [.t 4], code := .seq (.reg 64 1 impl_BackArcs_c1.r0) (.seq (.reg 128 17 impl_BackArcs_c1.r1) (.ret)) }
attribute [go_sem] impl_BackArcs_c1.r0 impl_BackArcs_c1.r1
theorem impl_BackArcs_c1.ok : chkF prog F_impl_BackArcs_c1 3 impl_BackArcs_c1.fi = true := by kernel_rfl

/-! impl_BackArcs -/
def impl_BackArcs.r0 : List Ent := [
  E0 0 (some 2) none (.i (.box (.t 0))),
  E0 1 (some 3) none (.i (.box (.t 1))),
  E0 2 (some 4) none (.i (.mv (.k (.nil 1)))),
  E0 3 (some 5) none (.i (.mv (.k (.dat none (.bool false)))))]
def impl_BackArcs.r1 : List Ent := [
  E0 0 (some 6) none (.i (.load false false 1 (.t 2))),
  E0 1 (some 7) none (.i (.load false false 1 (.t 3))),
  E0 2 (some 8) none (.call F_impl_GoodArcs false (roA [.t 6, .t 7])),
  E0 3 (some 9) none (.i (.un .not (.t 8)))]
def impl_BackArcs.r2 : List Ent := [
  E0 0 (some 4) none (.i (.mv (.k (.nil 1)))),
  E0 1 (some 5) none (.i (.mv (.k (.dat none (.bool false)))))]
def impl_BackArcs.r3 : List Ent := [
  E0 0 (some 10) none (.i (.load false false 1 (.t 3))),
  E0 1 (some 11) none (.i (.len (.t 10))),
  E0 2 (some 12) none (.i (.mkf F_impl_BackArcs_c1 [.t 2, .t 3])),
  E0 3 (some 13) none (.call F_impl_list false (roA [.t 11, .t 12])),
  E0 4 (some 4) none (.i (.mv (.t 13))),
  E0 5 (some 5) none (.i (.mv (.k (.dat none (.bool true)))))]
def impl_BackArcs.fi : FI := { res := [.t 4, .t 5], code := .seq (.reg 64 4 impl_BackArcs.r0) (.seq (.seq (.reg 320 4 impl_BackArcs.r1) (.cond (.t 9) (.seq (.reg 576 2 impl_BackArcs.r2) (.ret)) (.skip))) (.seq (.reg 704 6 impl_BackArcs.r3) (.ret))) }
attribute [go_sem] impl_BackArcs.r0 impl_BackArcs.r1 impl_BackArcs.r2 impl_BackArcs.r3
theorem impl_BackArcs.ok : chkF prog F_impl_BackArcs 2 impl_BackArcs.fi = true := by kernel_rfl

/-! spec_BackArcs -/
def spec_BackArcs.r0 : List Ent := [
  E0 0 (some 4) none (.i (.mv (.k (.nil 1)))),
  E0 1 (some 5) none (.i (.mv (.k (.dat none (.bool false)))))]
def spec_BackArcs.r1 : List Ent := [
  E0 0 (some 9) none (.i (.mv (.t 0))),
  E0 1 (some 10) none (.i (.mv (.t 1))),
  E0 2 (some 11) none (.call F_spec_GoodArcs false (roA [.t 9, .t 10])),
  E0 3 (some 12) none (.i (.un .not (.t 11)))]
def spec_BackArcs.r2 : List Ent := [
  E0 0 (some 4) none (.i (.mv (.k (.nil 1)))),
  E0 1 (some 5) none (.i (.mv (.k (.dat none (.bool false)))))]
def spec_BackArcs.r3 : List Ent := [
  E0 0 (some 6) none (.i (.mv (.k (.nil 1))))]
def spec_BackArcs.r4 : List Ent := [
  E0 0 (some 13) none (.i (.mv (.t 1))),
  E0 1 (some 14) none (.i (.len (.t 13))),
  E0 2 (some 15) none (.i (.mv (.k (I64 0))))]
def spec_BackArcs.r5 : List Ent := [
  E0 0 (some 16) none (.i (.bin .lss (.t 15) (.t 14)))]
def spec_BackArcs.r6 : List Ent := [
  E0 0 (some 17) none (.i (.mv (.t 15))),
  E0 1 (some 18) none (.i (.iad 2 (.t 13) (.t 15))),
  E0 2 (some 19) none (.i (.load false true 2 (.t 18))),
  E0 3 (some 8) none (.i (.box (.k (.agg [.dat none (.int .i64 0), .dat none (.int .i64 0)])))),
  E0 4 (some 7) none (.i (.mv (.t 17))),
  E0 5 none none (.i (.store 2 (.t 8) (.t 19)))]
def spec_BackArcs.r7 : List Ent := [
  E0 0 (some 20) none (.i (.mv (.t 1))),
  ER 1 (some 21) none (.fad 1 (.t 8)),
  ER 2 (some 22) none (.load false false 1 (.t 21)),
  E0 3 (some 23) none (.i (.mv (.t 0))),
  EP 4 (some 24) none (.call F_spec_l12Reach true (roA [.t 20, .t 22, .t 23])) 1 false,
  EX 5 (some 25) none (.i (.fad 0 (.t 8))) 2 [4] [] false,
  EX 6 (some 26) none (.i (.load false false 1 (.t 25))) 2 [4] [] false,
  E0 7 (some 27) none (.call F_spec_l1Has false (roA [.t 24, .t 26]))]
def spec_BackArcs.r8 : List Ent := [
  E0 0 (some 28) none (.i (.mv (.t 6))),
  E0 1 (some 29) none (.i (.mv (.t 7))),
  E0 2 (some 30) none (.i (.bsl true 1 [.t 29])),
  E0 3 (some 31) none (.i (.app 1 8 (.t 28) (.t 30))),
  E0 4 (some 6) none (.i (.mv (.t 31)))]
def spec_BackArcs.r9 : List Ent := [
  E0 0 (some 32) none (.i (.bin .add (.t 15) (.k (I64 1)))),
  E0 1 (some 15) none (.i (.mv (.t 32)))]
def spec_BackArcs.b0 : KC := .seq (.reg 832 1 spec_BackArcs.r5) (.seq (.cond (.t 16) (.skip) (.exit 0)) (.seq (.block 1 (.seq (.reg 896 6 spec_BackArcs.r6) (.seq (.reg 1280 8 spec_BackArcs.r7) (.cond (.t 27) (.reg 1792 5 spec_BackArcs.r8) (.skip))))) (.reg 2112 2 spec_BackArcs.r9)))
def spec_BackArcs.r10 : List Ent := [
  E0 0 (some 33) none (.i (.mv (.t 6))),
  E0 1 (some 4) none (.i (.mv (.t 33))),
  E0 2 (some 5) none (.i (.mv (.k (.dat none (.bool true)))))]
def spec_BackArcs.fi : FI := { res := [.t 4, .t 5], code := .seq (.reg 64 2 spec_BackArcs.r0) (.seq (.seq (.reg 192 4 spec_BackArcs.r1) (.cond (.t 12) (.seq (.reg 448 2 spec_BackArcs.r2) (.ret)) (.skip))) (.seq (.reg 576 1 spec_BackArcs.r3) (.seq (.seq (.reg 640 3 spec_BackArcs.r4) (.nrm 6 1984 1 (.block 0 (.loop spec_BackArcs.b0)))) (.seq (.reg 2240 3 spec_BackArcs.r10) (.ret))))) }
attribute [go_sem] spec_BackArcs.r0 spec_BackArcs.r1 spec_BackArcs.r2 spec_BackArcs.r3 spec_BackArcs.r4 spec_BackArcs.r5 spec_BackArcs.r6 spec_BackArcs.r7 spec_BackArcs.r8 spec_BackArcs.r9 spec_BackArcs.r10
theorem spec_BackArcs.ok : chkF prog F_spec_BackArcs 2 spec_BackArcs.fi = true := by kernel_rfl

/-! laws_sameArcs -/
def laws_sameArcs.r0 : List Ent := [
  E0 0 (some 4) none (.i (.mv (.k (.dat none (.bool false)))))]
def laws_sameArcs.r1 : List Ent := [
  E0 0 (some 6) none (.i (.mv (.t 0))),
  E0 1 (some 7) none (.i (.len (.t 6))),
  E0 2 (some 8) none (.i (.mv (.t 1))),
  E0 3 (some 9) none (.i (.len (.t 8))),
  E0 4 (some 10) none (.i (.bin .neq (.t 7) (.t 9)))]
def laws_sameArcs.r2 : List Ent := [
  E0 0 (some 4) none (.i (.mv (.k (.dat none (.bool false)))))]
def laws_sameArcs.r3 : List Ent := [
  E0 0 (some 11) none (.i (.mv (.t 0))),
  E0 1 (some 12) none (.i (.len (.t 11))),
  E0 2 (some 13) none (.i (.mv (.k (I64 0))))]
def laws_sameArcs.r4 : List Ent := [
  E0 0 (some 14) none (.i (.bin .lss (.t 13) (.t 12)))]
def laws_sameArcs.r5 : List Ent := [
  E0 0 (some 15) none (.i (.mv (.t 13))),
  E0 1 (some 5) none (.i (.mv (.t 15)))]
def laws_sameArcs.r6 : List Ent := [
  E0 0 (some 16) none (.i (.mv (.t 0))),
  E0 1 (some 17) none (.i (.mv (.t 5))),
  ER 2 (some 18) none (.iad 2 (.t 16) (.t 17)),
  ER 3 (some 19) none (.load false true 2 (.t 18)),
  E0 4 (some 20) none (.i (.mv (.t 1))),
  E0 5 (some 21) none (.i (.mv (.t 5))),
  ER 6 (some 22) none (.iad 2 (.t 20) (.t 21)),
  ER 7 (some 23) none (.load false true 2 (.t 22)),
  E0 8 (some 24) none (.i (.eqag 2 true (.t 19) (.t 23)))]
def laws_sameArcs.r7 : List Ent := [
  E0 0 (some 4) none (.i (.mv (.k (.dat none (.bool false)))))]
def laws_sameArcs.r8 : List Ent := [
  E0 0 (some 25) none (.i (.bin .add (.t 13) (.k (I64 1)))),
  E0 1 (some 13) none (.i (.mv (.t 25)))]
def laws_sameArcs.b0 : KC := .seq (.reg 704 1 laws_sameArcs.r4) (.seq (.cond (.t 14) (.skip) (.exit 0)) (.seq (.block 1 (.seq (.reg 768 2 laws_sameArcs.r5) (.seq (.reg 896 9 laws_sameArcs.r6) (.cond (.t 24) (.seq (.reg 1472 1 laws_sameArcs.r7) (.ret)) (.skip))))) (.reg 1536 2 laws_sameArcs.r8)))
def laws_sameArcs.r9 : List Ent := [
  E0 0 (some 4) none (.i (.mv (.k (.dat none (.bool true)))))]
def laws_sameArcs.fi : FI := { res := [.t 4], code := .seq (.reg 64 1 laws_sameArcs.r0) (.seq (.seq (.reg 128 5 laws_sameArcs.r1) (.cond (.t 10) (.seq (.reg 448 1 laws_sameArcs.r2) (.ret)) (.skip))) (.seq (.seq (.reg 512 3 laws_sameArcs.r3) (.block 0 (.loop laws_sameArcs.b0))) (.seq (.reg 1664 1 laws_sameArcs.r9) (.ret)))) }
attribute [go_sem] laws_sameArcs.r0 laws_sameArcs.r1 laws_sameArcs.r2 laws_sameArcs.r3 laws_sameArcs.r4 laws_sameArcs.r5 laws_sameArcs.r6 laws_sameArcs.r7 laws_sameArcs.r8 laws_sameArcs.r9
theorem laws_sameArcs.ok : chkF prog F_laws_sameArcs 2 laws_sameArcs.fi = true := by kernel_rfl

/-! laws_FnLaidOut -/
def laws_FnLaidOut.r0 : List Ent := [
  E0 0 (some 4) none (.i (.mv (.k (.dat none (.bool false)))))]
def laws_FnLaidOut.r1 : List Ent := [
  E0 0 (some 33) none (.i (.mv (.t 0))),
  E0 1 (some 34) none (.i (.len (.t 33))),
  E0 2 (some 35) none (.i (.mv (.t 1))),
  E0 3 (some 36) none (.i (.len (.t 35))),
  E0 4 (some 37) none (.i (.bin .add (.t 34) (.t 36))),
  E0 5 (some 38) none (.i (.bin .gtr (.t 37) (.k (I64 1048576))))]
def laws_FnLaidOut.r2 : List Ent := [
  E0 0 (some 4) none (.i (.mv (.k (.dat none (.bool true)))))]
def laws_FnLaidOut.r3 : List Ent := [
  E0 0 (some 40) none (.i (.mv (.t 0))),
  E0 1 (some 41) none (.call F_spec_DrawIsWalk true (roA [.t 40])),
  E0 2 (some 39) none (.i (.mv (.t 41))),
  E0 3 (some 42) none (.i (.ext 0 (.t 39))),
  E0 4 (some 43) none (.i (.ext 1 (.t 39))),
  E0 5 (some 44) none (.i (.ext 2 (.t 39))),
  E0 6 (some 5) none (.i (.mv (.t 42))),
  E0 7 (some 6) none (.i (.mv (.t 43))),
  E0 8 (some 7) none (.i (.mv (.t 44)))]
def laws_FnLaidOut.r4 : List Ent := [
  E0 0 (some 46) none (.i (.mv (.t 5))),
  E0 1 (some 47) none (.i (.mv (.t 6))),
  E0 2 (some 48) none (.i (.mv (.t 7))),
  E0 3 (some 49) none (.call F_impl_IsWalk false (roA [.t 46, .t 47, .t 48])),
  E0 4 (some 45) none (.i (.mv (.t 49))),
  E0 5 (some 50) none (.i (.ext 0 (.t 45))),
  E0 6 (some 51) none (.i (.ext 1 (.t 45))),
  E0 7 (some 8) none (.i (.mv (.t 50))),
  E0 8 (some 9) none (.i (.mv (.t 51)))]
def laws_FnLaidOut.r5 : List Ent := [
  E0 0 (some 53) none (.i (.mv (.t 5))),
  E0 1 (some 54) none (.i (.mv (.t 6))),
  E0 2 (some 55) none (.i (.mv (.t 7))),
  E0 3 (some 56) none (.call F_spec_IsWalk false (roA [.t 53, .t 54, .t 55])),
  E0 4 (some 52) none (.i (.mv (.t 56))),
  E0 5 (some 57) none (.i (.ext 0 (.t 52))),
  E0 6 (some 58) none (.i (.ext 1 (.t 52))),
  E0 7 (some 10) none (.i (.mv (.t 57))),
  E0 8 (some 11) none (.i (.mv (.t 58)))]
def laws_FnLaidOut.r6 : List Ent := [
  E0 0 (some 60) none (.i (.mv (.t 5))),
  E0 1 (some 61) none (.i (.mv (.t 7))),
  E0 2 (some 62) none (.call F_impl_LaidWalk false (roA [.t 60, .t 61])),
  E0 3 (some 59) none (.i (.mv (.t 62))),
  E0 4 (some 63) none (.i (.ext 0 (.t 59))),
  E0 5 (some 64) none (.i (.ext 1 (.t 59))),
  E0 6 (some 12) none (.i (.mv (.t 63))),
  E0 7 (some 13) none (.i (.mv (.t 64)))]
def laws_FnLaidOut.r7 : List Ent := [
  E0 0 (some 66) none (.i (.mv (.t 5))),
  E0 1 (some 67) none (.i (.mv (.t 7))),
  E0 2 (some 68) none (.call F_spec_LaidWalk false (roA [.t 66, .t 67])),
  E0 3 (some 65) none (.i (.mv (.t 68))),
  E0 4 (some 69) none (.i (.ext 0 (.t 65))),
  E0 5 (some 70) none (.i (.ext 1 (.t 65))),
  E0 6 (some 14) none (.i (.mv (.t 69))),
  E0 7 (some 15) none (.i (.mv (.t 70)))]
def laws_FnLaidOut.r8 : List Ent := [
  E0 0 (some 71) none (.i (.mv (.t 9))),
  E0 1 (some 72) none (.i (.mv (.t 11))),
  E0 2 (some 73) none (.i (.eqb true (.t 71) (.t 72))),
  E0 3 (some 74) none (.i (.mv (.t 73))),
  E0 4 (some 75) (some (74, false)) (.i (.mv (.t 8))),
  E0 5 (some 76) (some (74, false)) (.i (.mv (.t 10))),
  E0 6 (some 77) (some (74, false)) (.i (.eqb true (.t 75) (.t 76))),
  E0 7 (some 78) none (.i (.pick (.t 74) (.k (.dat none (.bool true))) (.t 77))),
  E0 8 (some 79) none (.i (.mv (.t 78))),
  E0 9 (some 80) (some (79, false)) (.i (.mv (.t 13))),
  E0 10 (some 81) (some (79, false)) (.i (.mv (.t 15))),
  E0 11 (some 82) (some (79, false)) (.i (.eqb true (.t 80) (.t 81))),
  E0 12 (some 83) none (.i (.pick (.t 79) (.k (.dat none (.bool true))) (.t 82))),
  E0 13 (some 84) none (.i (.mv (.t 83))),
  E0 14 (some 85) (some (84, false)) (.i (.mv (.t 12))),
  E0 15 (some 86) (some (84, false)) (.i (.mv (.t 14))),
  E0 16 (some 87) (some (84, false)) (.call F_laws_sameInts false (roA [.t 85, .t 86])),
  E0 17 (some 88) (some (84, false)) (.i (.un .not (.t 87))),
  E0 18 (some 89) none (.i (.pick (.t 84) (.k (.dat none (.bool true))) (.t 88)))]
def laws_FnLaidOut.r9 : List Ent := [
  E0 0 (some 4) none (.i (.mv (.k (.dat none (.bool false)))))]
def laws_FnLaidOut.r10 : List Ent := [
  E0 0 (some 90) none (.i (.mv (.t 9)))]
def laws_FnLaidOut.r11 : List Ent := [
  E0 0 (some 92) none (.i (.mv (.t 5))),
  E0 1 (some 93) none (.i (.mv (.t 6))),
  E0 2 (some 94) none (.i (.mv (.t 7))),
  E0 3 (some 95) none (.i (.len (.t 94))),
  E0 4 (some 96) none (.call F_impl_LayOut false (roA [.t 92, .t 93, .t 95])),
  E0 5 (some 91) none (.i (.mv (.t 96))),
  E0 6 (some 97) none (.i (.ext 0 (.t 91))),
  E0 7 (some 98) none (.i (.ext 1 (.t 91))),
  E0 8 (some 16) none (.i (.mv (.t 97))),
  E0 9 (some 17) none (.i (.mv (.t 98)))]
def laws_FnLaidOut.r12 : List Ent := [
  E0 0 (some 99) none (.i (.mv (.t 13))),
  E0 1 (some 100) none (.i (.un .not (.t 99))),
  E0 2 (some 101) none (.i (.mv (.t 100))),
  E0 3 (some 102) (some (101, false)) (.i (.mv (.t 17))),
  E0 4 (some 103) (some (101, false)) (.i (.un .not (.t 102))),
  E0 5 (some 104) none (.i (.pick (.t 101) (.k (.dat none (.bool true))) (.t 103)))]
def laws_FnLaidOut.r13 : List Ent := [
  E0 0 (some 4) none (.i (.mv (.k (.dat none (.bool false)))))]
def laws_FnLaidOut.r14 : List Ent := [
  E0 0 (some 18) none (.i (.mv (.k (.dat none (.bool true)))))]
def laws_FnLaidOut.r15 : List Ent := [
  E0 0 (some 19) none (.i (.mv (.k (I64 1))))]
def laws_FnLaidOut.r16 : List Ent := [
  E0 0 (some 105) none (.i (.mv (.t 19))),
  E0 1 (some 106) none (.i (.mv (.t 12))),
  E0 2 (some 107) none (.i (.len (.t 106))),
  E0 3 (some 108) none (.i (.bin .lss (.t 105) (.t 107)))]
def laws_FnLaidOut.r17 : List Ent := [
  E0 0 (some 111) none (.i (.mv (.t 18))),
  E0 1 (some 112) none (.i (.mv (.t 111))),
  E0 2 (some 113) (some (112, true)) (.i (.mv (.t 16))),
  E0 3 (some 114) (some (112, true)) (.i (.mv (.t 12))),
  E0 4 (some 115) (some (112, true)) (.i (.mv (.t 19))),
  E0 5 (some 116) (some (112, true)) (.i (.bin .sub (.t 115) (.k (I64 1)))),
  ER 6 (some 117) (some (112, true)) (.iad 1 (.t 114) (.t 116)),
  ER 7 (some 118) (some (112, true)) (.load false false 1 (.t 117)),
  E0 8 (some 119) (some (112, true)) (.i (.mv (.t 12))),
  E0 9 (some 120) (some (112, true)) (.i (.mv (.t 19))),
  ER 10 (some 121) (some (112, true)) (.iad 1 (.t 119) (.t 120)),
  ER 11 (some 122) (some (112, true)) (.load false false 1 (.t 121)),
  E0 12 (some 123) (some (112, true)) (.call F_laws_hasArc false (roA [.t 113, .t 118, .t 122])),
  E0 13 (some 124) none (.i (.pick (.t 112) (.t 123) (.k (.dat none (.bool false))))),
  E0 14 (some 18) none (.i (.mv (.t 124)))]
def laws_FnLaidOut.r18 : List Ent := [
  E0 0 (some 109) none (.i (.mv (.t 19))),
  E0 1 (some 110) none (.i (.bin .add (.t 109) (.k (I64 1)))),
  E0 2 (some 19) none (.i (.mv (.t 110)))]
def laws_FnLaidOut.b0 : KC := .seq (.seq (.reg 5888 4 laws_FnLaidOut.r16) (.cond (.t 108) (.skip) (.exit 0))) (.seq (.block 1 (.reg 6144 15 laws_FnLaidOut.r17)) (.reg 7104 3 laws_FnLaidOut.r18))
def laws_FnLaidOut.r19 : List Ent := [
  E0 0 (some 125) none (.i (.mv (.t 18))),
  E0 1 (some 126) none (.i (.mv (.t 8))),
  E0 2 (some 127) none (.i (.eqb true (.t 125) (.t 126)))]
def laws_FnLaidOut.r20 : List Ent := [
  E0 0 (some 4) none (.i (.mv (.k (.dat none (.bool false)))))]
def laws_FnLaidOut.r21 : List Ent := [
  E0 0 (some 128) none (.i (.mv (.t 16))),
  E0 1 (some 129) none (.i (.len (.t 128))),
  E0 2 (some 130) none (.i (.mv (.k (I64 0))))]
def laws_FnLaidOut.r22 : List Ent := [
  E0 0 (some 131) none (.i (.bin .lss (.t 130) (.t 129)))]
def laws_FnLaidOut.r23 : List Ent := [
  E0 0 (some 132) none (.i (.iad 2 (.t 128) (.t 130))),
  E0 1 (some 133) none (.i (.load false true 2 (.t 132))),
  E0 2 (some 21) none (.i (.box (.k (.agg [.dat none (.int .i64 0), .dat none (.int .i64 0)])))),
  E0 3 none none (.i (.store 2 (.t 21) (.t 133)))]
def laws_FnLaidOut.r24 : List Ent := [
  ER 0 (some 134) none (.fad 1 (.t 21)),
  ER 1 (some 135) none (.load false false 1 (.t 134)),
  E0 2 (some 136) none (.i (.mv (.t 5))),
  E0 3 (some 137) none (.i (.bin .quo (.t 135) (.t 136))),
  ER 4 (some 138) none (.fad 0 (.t 21)),
  ER 5 (some 139) none (.load false false 1 (.t 138)),
  E0 6 (some 140) none (.i (.mv (.t 5))),
  E0 7 (some 141) none (.i (.bin .quo (.t 139) (.t 140))),
  E0 8 (some 142) none (.i (.bin .add (.t 141) (.k (I64 1)))),
  E0 9 (some 143) none (.i (.bin .neq (.t 137) (.t 142))),
  E0 10 (some 144) none (.i (.mv (.t 143))),
  E0 11 (some 145) (some (144, false)) (.i (.mv (.t 6))),
  ER 12 (some 146) (some (144, false)) (.fad 0 (.t 21)),
  ER 13 (some 147) (some (144, false)) (.load false false 1 (.t 146)),
  E0 14 (some 148) (some (144, false)) (.i (.mv (.t 5))),
  E0 15 (some 149) (some (144, false)) (.i (.bin .rem (.t 147) (.t 148))),
  ER 16 (some 150) (some (144, false)) (.fad 1 (.t 21)),
  ER 17 (some 151) (some (144, false)) (.load false false 1 (.t 150)),
  E0 18 (some 152) (some (144, false)) (.i (.mv (.t 5))),
  E0 19 (some 153) (some (144, false)) (.i (.bin .rem (.t 151) (.t 152))),
  E0 20 (some 154) (some (144, false)) (.call F_laws_hasArc false (roA [.t 145, .t 149, .t 153])),
  E0 21 (some 155) (some (144, false)) (.i (.un .not (.t 154))),
  E0 22 (some 156) none (.i (.pick (.t 144) (.k (.dat none (.bool true))) (.t 155)))]
def laws_FnLaidOut.r25 : List Ent := [
  E0 0 (some 4) none (.i (.mv (.k (.dat none (.bool false)))))]
def laws_FnLaidOut.r26 : List Ent := [
  E0 0 (some 157) none (.i (.bin .add (.t 130) (.k (I64 1)))),
  E0 1 (some 130) none (.i (.mv (.t 157)))]
def laws_FnLaidOut.b1 : KC := .seq (.reg 7744 1 laws_FnLaidOut.r22) (.seq (.cond (.t 131) (.skip) (.exit 2)) (.seq (.block 3 (.seq (.reg 7808 4 laws_FnLaidOut.r23) (.seq (.reg 8064 23 laws_FnLaidOut.r24) (.cond (.t 156) (.seq (.reg 9536 1 laws_FnLaidOut.r25) (.ret)) (.skip))))) (.reg 9600 2 laws_FnLaidOut.r26)))
def laws_FnLaidOut.r27 : List Ent := [
  E0 0 (some 159) none (.i (.mv (.t 1))),
  E0 1 (some 160) none (.call F_spec_DrawLayOut false (roA [.t 159])),
  E0 2 (some 158) none (.i (.mv (.t 160))),
  E0 3 (some 161) none (.i (.ext 0 (.t 158))),
  E0 4 (some 162) none (.i (.ext 1 (.t 158))),
  E0 5 (some 163) none (.i (.ext 2 (.t 158))),
  E0 6 (some 22) none (.i (.mv (.t 161))),
  E0 7 (some 23) none (.i (.mv (.t 162))),
  E0 8 (some 24) none (.i (.mv (.t 163)))]
def laws_FnLaidOut.r28 : List Ent := [
  E0 0 (some 165) none (.i (.mv (.t 22))),
  E0 1 (some 166) none (.i (.mv (.t 23))),
  E0 2 (some 167) none (.i (.mv (.t 24))),
  E0 3 (some 168) none (.call F_impl_LayOut false (roA [.t 165, .t 166, .t 167])),
  E0 4 (some 164) none (.i (.mv (.t 168))),
  E0 5 (some 169) none (.i (.ext 0 (.t 164))),
  E0 6 (some 170) none (.i (.ext 1 (.t 164))),
  E0 7 (some 25) none (.i (.mv (.t 169))),
  E0 8 (some 26) none (.i (.mv (.t 170)))]
def laws_FnLaidOut.r29 : List Ent := [
  E0 0 (some 172) none (.i (.mv (.t 22))),
  E0 1 (some 173) none (.i (.mv (.t 23))),
  E0 2 (some 174) none (.i (.mv (.t 24))),
  E0 3 (some 175) none (.call F_spec_LayOut false (roA [.t 172, .t 173, .t 174])),
  E0 4 (some 171) none (.i (.mv (.t 175))),
  E0 5 (some 176) none (.i (.ext 0 (.t 171))),
  E0 6 (some 177) none (.i (.ext 1 (.t 171))),
  E0 7 (some 27) none (.i (.mv (.t 176))),
  E0 8 (some 28) none (.i (.mv (.t 177)))]
def laws_FnLaidOut.r30 : List Ent := [
  E0 0 (some 179) none (.i (.mv (.t 22))),
  E0 1 (some 180) none (.i (.mv (.t 23))),
  E0 2 (some 181) none (.call F_impl_BackArcs false (roA [.t 179, .t 180])),
  E0 3 (some 178) none (.i (.mv (.t 181))),
  E0 4 (some 182) none (.i (.ext 0 (.t 178))),
  E0 5 (some 183) none (.i (.ext 1 (.t 178))),
  E0 6 (some 29) none (.i (.mv (.t 182))),
  E0 7 (some 30) none (.i (.mv (.t 183)))]
def laws_FnLaidOut.r31 : List Ent := [
  E0 0 (some 185) none (.i (.mv (.t 22))),
  E0 1 (some 186) none (.i (.mv (.t 23))),
  E0 2 (some 187) none (.call F_spec_BackArcs false (roA [.t 185, .t 186])),
  E0 3 (some 184) none (.i (.mv (.t 187))),
  E0 4 (some 188) none (.i (.ext 0 (.t 184))),
  E0 5 (some 189) none (.i (.ext 1 (.t 184))),
  E0 6 (some 31) none (.i (.mv (.t 188))),
  E0 7 (some 32) none (.i (.mv (.t 189)))]
def laws_FnLaidOut.r32 : List Ent := [
  E0 0 (some 190) none (.i (.mv (.t 26))),
  E0 1 (some 191) none (.i (.mv (.t 28))),
  E0 2 (some 192) none (.i (.eqb false (.t 190) (.t 191))),
  E0 3 (some 193) none (.i (.mv (.t 192))),
  E0 4 (some 194) (some (193, true)) (.i (.mv (.t 25))),
  E0 5 (some 195) (some (193, true)) (.i (.mv (.t 27))),
  E0 6 (some 196) (some (193, true)) (.call F_laws_sameArcs false (roA [.t 194, .t 195])),
  E0 7 (some 197) none (.i (.pick (.t 193) (.t 196) (.k (.dat none (.bool false))))),
  E0 8 (some 198) none (.i (.mv (.t 197))),
  E0 9 (some 199) (some (198, true)) (.i (.mv (.t 30))),
  E0 10 (some 200) (some (198, true)) (.i (.mv (.t 32))),
  E0 11 (some 201) (some (198, true)) (.i (.eqb false (.t 199) (.t 200))),
  E0 12 (some 202) none (.i (.pick (.t 198) (.t 201) (.k (.dat none (.bool false))))),
  E0 13 (some 203) none (.i (.mv (.t 202))),
  E0 14 (some 204) (some (203, true)) (.i (.mv (.t 29))),
  E0 15 (some 205) (some (203, true)) (.i (.mv (.t 31))),
  E0 16 (some 206) (some (203, true)) (.call F_laws_sameInts false (roA [.t 204, .t 205])),
  E0 17 (some 207) none (.i (.pick (.t 203) (.t 206) (.k (.dat none (.bool false))))),
  E0 18 (some 208) none (.i (.mv (.t 207))),
  E0 19 (some 209) (some (208, true)) (.i (.mv (.t 22))),
  E0 20 (some 210) (some (208, true)) (.i (.mv (.t 23))),
  E0 21 (some 211) (some (208, true)) (.call F_impl_GoodArcs false (roA [.t 209, .t 210])),
  E0 22 (some 212) (some (208, true)) (.i (.mv (.t 30))),
  E0 23 (some 213) (some (208, true)) (.i (.eqb false (.t 211) (.t 212))),
  E0 24 (some 214) none (.i (.pick (.t 208) (.t 213) (.k (.dat none (.bool false))))),
  E0 25 (some 4) none (.i (.mv (.t 214)))]
def laws_FnLaidOut.fi : FI := { res := [.t 4], code := .seq (.reg 64 1 laws_FnLaidOut.r0) (.seq (.seq (.reg 128 6 laws_FnLaidOut.r1) (.cond (.t 38) (.seq (.reg 512 1 laws_FnLaidOut.r2) (.ret)) (.skip))) (.seq (.reg 576 9 laws_FnLaidOut.r3) (.seq (.reg 1152 9 laws_FnLaidOut.r4) (.seq (.reg 1728 9 laws_FnLaidOut.r5) (.seq (.reg 2304 8 laws_FnLaidOut.r6) (.seq (.reg 2816 8 laws_FnLaidOut.r7) (.seq (.seq (.reg 3328 19 laws_FnLaidOut.r8) (.cond (.t 89) (.seq (.reg 4544 1 laws_FnLaidOut.r9) (.ret)) (.skip))) (.seq (.seq (.reg 4608 1 laws_FnLaidOut.r10) (.cond (.t 90) (.seq (.reg 4672 10 laws_FnLaidOut.r11) (.seq (.seq (.reg 5312 6 laws_FnLaidOut.r12) (.cond (.t 104) (.seq (.reg 5696 1 laws_FnLaidOut.r13) (.ret)) (.skip))) (.seq (.reg 5760 1 laws_FnLaidOut.r14) (.seq (.seq (.reg 5824 1 laws_FnLaidOut.r15) (.block 0 (.loop laws_FnLaidOut.b0))) (.seq (.seq (.reg 7296 3 laws_FnLaidOut.r19) (.cond (.t 127) (.seq (.reg 7488 1 laws_FnLaidOut.r20) (.ret)) (.skip))) (.seq (.reg 7552 3 laws_FnLaidOut.r21) (.block 2 (.loop laws_FnLaidOut.b1)))))))) (.skip))) (.seq (.reg 9728 9 laws_FnLaidOut.r27) (.seq (.reg 10304 9 laws_FnLaidOut.r28) (.seq (.reg 10880 9 laws_FnLaidOut.r29) (.seq (.reg 11456 8 laws_FnLaidOut.r30) (.seq (.reg 11968 8 laws_FnLaidOut.r31) (.seq (.reg 12480 26 laws_FnLaidOut.r32) (.ret))))))))))))))) }
attribute [go_sem] laws_FnLaidOut.r0 laws_FnLaidOut.r1 laws_FnLaidOut.r2 laws_FnLaidOut.r3 laws_FnLaidOut.r4 laws_FnLaidOut.r5 laws_FnLaidOut.r6 laws_FnLaidOut.r7 laws_FnLaidOut.r8 laws_FnLaidOut.r9 laws_FnLaidOut.r10 laws_FnLaidOut.r11 laws_FnLaidOut.r12 laws_FnLaidOut.r13 laws_FnLaidOut.r14 laws_FnLaidOut.r15 laws_FnLaidOut.r16 laws_FnLaidOut.r17 laws_FnLaidOut.r18 laws_FnLaidOut.r19 laws_FnLaidOut.r20 laws_FnLaidOut.r21 laws_FnLaidOut.r22 laws_FnLaidOut.r23 laws_FnLaidOut.r24 laws_FnLaidOut.r25 laws_FnLaidOut.r26 laws_FnLaidOut.r27 laws_FnLaidOut.r28 laws_FnLaidOut.r29 laws_FnLaidOut.r30 laws_FnLaidOut.r31 laws_FnLaidOut.r32
theorem laws_FnLaidOut.ok : chkF prog F_laws_FnLaidOut 2 laws_FnLaidOut.fi = true := by kernel_rfl
end Go.Vm.Ytdebllkmblakkaa
