/- The functions that the law reaches, in the text of the interpreter, and that this text fits them (no condition). -/
import Derived.Test.YtdebllkmblakkaaVmc
import Derived.Test.YtdebllkmblakkaaProg
import Derived.KernelRfl
/- PRINTED BY irgen.py, a program of this claim's author: the functions that the claim reaches, in the text of the interpreter, and that they fit. -/
namespace Go.Vm.Ytdebllkmblakkaa
open Go Go.Vm
set_option linter.unusedVariables false
set_option maxRecDepth 100000
noncomputable abbrev prog : Program := Go.Proofs.Try.prog
abbrev F_laws_FnExactOpposed : FuncId := 3
abbrev F_laws_FnExactLeadsTo : FuncId := 4
abbrev F_laws_FnExactFixed : FuncId := 5
abbrev F_laws_FnExactLoopsOf : FuncId := 6
abbrev F_laws_FnExactSolveTwo : FuncId := 7
abbrev F_laws_FnLeads : FuncId := 8
abbrev F_laws_FnTwos : FuncId := 9
abbrev F_laws_FnLeast : FuncId := 10
abbrev F_laws_FnHorn : FuncId := 11
abbrev F_laws_FnEnough : FuncId := 12
abbrev F_laws_FnLaidOut : FuncId := 13
abbrev F_laws_szIntSS : FuncId := 14
abbrev F_spec_Opposed : FuncId := 15
abbrev F_laws_toIntSS : FuncId := 16
abbrev F_impl_Opposed : FuncId := 17
abbrev F_laws_eqIntSS : FuncId := 18
abbrev F_spec_LeadsTo : FuncId := 19
abbrev F_impl_LeadsTo : FuncId := 20
abbrev F_laws_eqIntS : FuncId := 21
abbrev F_laws_markIntSS : FuncId := 22
abbrev F_laws_markIntS : FuncId := 23
abbrev F_laws_heldIntS : FuncId := 24
abbrev F_spec_Fixed : FuncId := 25
abbrev F_impl_Fixed : FuncId := 26
abbrev F_spec_LoopsOf : FuncId := 27
abbrev F_impl_LoopsOf : FuncId := 28
abbrev F_laws_heldIntSS : FuncId := 29
abbrev F_spec_SolveTwo : FuncId := 30
abbrev F_impl_SolveTwo : FuncId := 31
abbrev F_laws_eqBoolS : FuncId := 32
abbrev F_laws_markBoolS : FuncId := 33
abbrev F_laws_heldBoolS : FuncId := 34
abbrev F_spec_DrawLeadsTo : FuncId := 35
abbrev F_laws_sameInts : FuncId := 36
abbrev F_laws_has : FuncId := 37
abbrev F_spec_DrawLoopsOf : FuncId := 38
abbrev F_spec_DrawTwoOf : FuncId := 39
abbrev F_impl_TwoOf : FuncId := 40
abbrev F_spec_TwoOf : FuncId := 41
abbrev F_laws_sameRows : FuncId := 42
abbrev F_spec_DrawSolveTwo : FuncId := 43
abbrev F_laws_sameBools : FuncId := 44
abbrev F_impl_IsTwo : FuncId := 45
abbrev F_impl_CountModels : FuncId := 46
abbrev F_impl_Solve : FuncId := 47
abbrev F_impl_HoldsAll : FuncId := 48
abbrev F_laws_allIn : FuncId := 49
abbrev F_impl_SolveWith : FuncId := 50
abbrev F_spec_DrawFixed : FuncId := 51
abbrev F_spec_DrawLeastOf : FuncId := 52
abbrev F_impl_LeastOf : FuncId := 53
abbrev F_spec_LeastOf : FuncId := 54
abbrev F_impl_GoodRules : FuncId := 55
abbrev F_impl_HoldsIn : FuncId := 56
abbrev F_impl_RulesAsClauses : FuncId := 57
abbrev F_impl_IsHorn : FuncId := 58
abbrev F_laws_modelOf : FuncId := 59
abbrev F_spec_DrawHoldsIn : FuncId := 60
abbrev F_spec_HoldsIn : FuncId := 61
abbrev F_spec_DrawWhyOf : FuncId := 62
abbrev F_impl_WhyOf : FuncId := 63
abbrev F_spec_WhyOf : FuncId := 64
abbrev F_laws_listOf : FuncId := 65
abbrev F_laws_numberOf : FuncId := 66
abbrev F_impl_MeetOf : FuncId := 67
abbrev F_spec_DrawMeetOf : FuncId := 68
abbrev F_spec_MeetOf : FuncId := 69
abbrev F_spec_DrawRulesAsClauses : FuncId := 70
abbrev F_spec_RulesAsClauses : FuncId := 71
abbrev F_spec_DrawIsHorn : FuncId := 72
abbrev F_spec_IsHorn : FuncId := 73
abbrev F_laws_sameRules : FuncId := 74
abbrev F_spec_DrawEnoughFor : FuncId := 75
abbrev F_impl_EnoughFor : FuncId := 76
abbrev F_spec_EnoughFor : FuncId := 77
abbrev F_impl_ReachWithin : FuncId := 78
abbrev F_spec_DrawWalksOf : FuncId := 79
abbrev F_impl_WalksOf : FuncId := 80
abbrev F_spec_WalksOf : FuncId := 81
abbrev F_laws_hasArc : FuncId := 82
abbrev F_spec_DrawReachWithin : FuncId := 83
abbrev F_spec_ReachWithin : FuncId := 84
abbrev F_spec_DrawIsWalk : FuncId := 85
abbrev F_impl_IsWalk : FuncId := 86
abbrev F_spec_IsWalk : FuncId := 87
abbrev F_impl_LaidWalk : FuncId := 88
abbrev F_spec_LaidWalk : FuncId := 89
abbrev F_impl_LayOut : FuncId := 90
abbrev F_spec_DrawLayOut : FuncId := 91
abbrev F_spec_LayOut : FuncId := 92
abbrev F_impl_BackArcs : FuncId := 93
abbrev F_spec_BackArcs : FuncId := 94
abbrev F_laws_sameArcs : FuncId := 95
abbrev F_impl_GoodArcs : FuncId := 96
abbrev F_laws_szIntS : FuncId := 97
abbrev F_spec_IsTwo : FuncId := 98
abbrev F_spec_l15Opposed : FuncId := 99
abbrev F_laws_toIntS : FuncId := 100
abbrev F_impl_opposed : FuncId := 101
abbrev F_spec_l1In : FuncId := 102
abbrev F_spec_l15Leads : FuncId := 103
abbrev F_impl_isLiteral : FuncId := 104
abbrev F_impl_leadsTo : FuncId := 105
abbrev F_spec_l1Has : FuncId := 106
abbrev F_impl_leads : FuncId := 107
abbrev F_slices_DeleteFunc__sint_int : FuncId := 108
abbrev F_impl_LoopsOf_c1 : FuncId := 109
abbrev F_spec_l1Put : FuncId := 110
abbrev F_slices_Contains__sint_int : FuncId := 111
abbrev F_spec_pl1Cur_twos : FuncId := 112
abbrev F_spec_pl1Cur_pick : FuncId := 113
abbrev F_spec_DrawIsTwo : FuncId := 114
abbrev F_spec_pl1Cur_one : FuncId := 115
abbrev F_impl_in : FuncId := 116
abbrev F_impl_isClause : FuncId := 117
abbrev F_spec_l4Clause : FuncId := 118
abbrev F_impl_GoodClauses : FuncId := 119
abbrev F_slices_ContainsFunc__ssint_sint : FuncId := 120
abbrev F_impl_IsTwo_c1 : FuncId := 121
abbrev F_impl_countModels : FuncId := 122
abbrev F_impl_solve : FuncId := 123
abbrev F_impl_holds : FuncId := 124
abbrev F_slices_Concat__ssint_sint : FuncId := 125
abbrev F_impl_units : FuncId := 126
abbrev F_spec_DrawGoodRules : FuncId := 127
abbrev F_impl_least : FuncId := 128
abbrev F_slices_ContainsFunc__sRule_Rule : FuncId := 129
abbrev F_impl_LeastOf_c1 : FuncId := 130
abbrev F_impl_Rule_met : FuncId := 131
abbrev F_impl_list : FuncId := 132
abbrev F_impl_LeastOf_c2 : FuncId := 133
abbrev F_spec_GoodRules : FuncId := 134
abbrev F_spec_l16Least : FuncId := 135
abbrev F_impl_GoodRules_c1 : FuncId := 136
abbrev F_impl_areFacts : FuncId := 137
abbrev F_impl_HoldsIn_c1 : FuncId := 138
abbrev F_impl_learn : FuncId := 139
abbrev F_slices_Clone__sint_int : FuncId := 140
abbrev F_impl_IsHorn_c1 : FuncId := 141
abbrev F_spec_pl1Cur_rules : FuncId := 142
abbrev F_spec_pl1Cur_facts : FuncId := 143
abbrev F_spec_l16Facts : FuncId := 144
abbrev F_spec_l16All : FuncId := 145
abbrev F_slices_IndexFunc__sint_int : FuncId := 146
abbrev F_impl_WhyOf_c1 : FuncId := 147
abbrev F_impl_MeetOf_c1 : FuncId := 148
abbrev F_spec_l5Negate : FuncId := 149
abbrev F_spec_DrawGoodClauses : FuncId := 150
abbrev F_spec_GoodClauses : FuncId := 151
abbrev F_slices_Equal__sbool_bool : FuncId := 152
abbrev F_impl_within : FuncId := 153
abbrev F_spec_GoodArcs : FuncId := 154
abbrev F_spec_l12Reach : FuncId := 155
abbrev F_impl_ReachWithin_c1 : FuncId := 156
abbrev F_spec_pl1Cur_arcs : FuncId := 157
abbrev F_spec_pl1Cur_walk : FuncId := 158
abbrev F_impl_isVertices : FuncId := 159
abbrev F_slices_Contains__sArc_Arc : FuncId := 160
abbrev F_spec_l12Walk : FuncId := 161
abbrev F_spec_l12Arc : FuncId := 162
abbrev F_impl_isSpots : FuncId := 163
abbrev F_impl_BackArcs_c1 : FuncId := 164
abbrev F_spec_l15Next : FuncId := 165
abbrev F_slices_Sort__sint_int : FuncId := 166
abbrev F_slices_Index__sint_int : FuncId := 167
abbrev F_spec_pl1Cur_among : FuncId := 168
abbrev F_spec_pl1Cur_lit : FuncId := 169
abbrev F_spec_CleanClause : FuncId := 170
abbrev F_spec_pl1Cur_among3 : FuncId := 171
abbrev F_spec_pl1Cur_next : FuncId := 172
abbrev F_slices_ContainsFunc__sint_int : FuncId := 173
abbrev F_impl_isClause_c1 : FuncId := 174
abbrev F_impl_variable : FuncId := 175
abbrev F_impl_areClauses : FuncId := 176
abbrev F_slices_IndexFunc__ssint_sint : FuncId := 177
abbrev F_impl_model : FuncId := 178
abbrev F_impl_propagate : FuncId := 179
abbrev F_impl_decide : FuncId := 180
abbrev F_impl_holds_c1 : FuncId := 181
abbrev F_slices_Grow__ssint_sint : FuncId := 182
abbrev F_slices_IndexFunc__sRule_Rule : FuncId := 183
abbrev F_impl_least_c1 : FuncId := 184
abbrev F_impl_Rule_met_c1 : FuncId := 185
abbrev F_spec_l1Least : FuncId := 186
abbrev F_spec_l1Rising : FuncId := 187
abbrev F_spec_pl1Cur_clauses : FuncId := 188
abbrev F_spec_l4Good : FuncId := 189
abbrev F_slices_Clone__sbool_bool : FuncId := 190
abbrev F_impl_isVertices_c1 : FuncId := 191
abbrev F_slices_Index__sArc_Arc : FuncId := 192
abbrev F_spec_l1All : FuncId := 193
abbrev F_slices_pdqsortOrdered__int : FuncId := 194
abbrev F_bits_Len : FuncId := 195
abbrev F_impl_areClauses_c1 : FuncId := 196
abbrev F_impl_meets : FuncId := 197
abbrev F_impl_without : FuncId := 198
abbrev F_slices_insertionSortOrdered__int : FuncId := 199
abbrev F_slices_heapSortOrdered__int : FuncId := 200
abbrev F_slices_breakPatternsOrdered__int : FuncId := 201
abbrev F_slices_choosePivotOrdered__int : FuncId := 202
abbrev F_slices_reverseRangeOrdered__int : FuncId := 203
abbrev F_slices_partialInsertionSortOrdered__int : FuncId := 204
abbrev F_cmp_Less__int : FuncId := 205
abbrev F_slices_partitionEqualOrdered__int : FuncId := 206
abbrev F_slices_partitionOrdered__int : FuncId := 207
abbrev F_bits_Len32 : FuncId := 208
abbrev F_bits_Len64 : FuncId := 209
abbrev F_impl_meets_c1 : FuncId := 210
abbrev F_impl_without_c1 : FuncId := 211
abbrev F_slices_siftDownOrdered__int : FuncId := 212
abbrev F_slices_nextPowerOfTwo : FuncId := 213
abbrev F_slices_pxorshift_Next : FuncId := 214
abbrev F_slices_medianAdjacentOrdered__int : FuncId := 215
abbrev F_slices_medianOrdered__int : FuncId := 216
abbrev F_cmp_isNaN__int : FuncId := 217
abbrev F_slices_order2Ordered__int : FuncId := 218
abbrev F_runtime_boundsError_Error : FuncId := 219
abbrev F_runtime_boundsError_RuntimeError : FuncId := 220
abbrev F_runtime_errorString_Error : FuncId := 221
abbrev F_runtime_errorString_RuntimeError : FuncId := 222
abbrev F_runtime_plainError_Error : FuncId := 223
abbrev F_runtime_plainError_RuntimeError : FuncId := 224
abbrev F_runtime_errorAddressString_Error : FuncId := 225
abbrev F_runtime_errorAddressString_RuntimeError : FuncId := 226
abbrev F_runtime_pTypeAssertionError_Error : FuncId := 227
abbrev F_runtime_pTypeAssertionError_RuntimeError : FuncId := 228
abbrev F_runtime_pPanicNilError_Error : FuncId := 229
abbrev F_runtime_pPanicNilError_RuntimeError : FuncId := 230
abbrev F_abi_pType_Align : FuncId := 231
abbrev F_maps_unhashableTypeError_Error : FuncId := 232
abbrev F_maps_unhashableTypeError_RuntimeError : FuncId := 233
abbrev F_abi_Kind_String : FuncId := 234

/-! laws_szIntS -/
def laws_szIntS.r0 : List Ent := [
  E0 0 (some 4) none (.i (.mv (.k (I64 0))))]
def laws_szIntS.r1 : List Ent := [
  E0 0 (some 5) none (.i (.mv (.t 1))),
  E0 1 (some 6) none (.i (.mv (.t 0))),
  E0 2 (some 7) none (.i (.len (.t 6))),
  E0 3 (some 8) none (.i (.bin .sub (.t 5) (.t 7))),
  E0 4 (some 1) none (.i (.mv (.t 8)))]
def laws_szIntS.r2 : List Ent := [
  E0 0 (some 9) none (.i (.mv (.t 1))),
  E0 1 (some 10) none (.i (.bin .lss (.t 9) (.k (I64 0))))]
def laws_szIntS.r3 : List Ent := [
  E0 0 (some 4) none (.i (.mv (.k (I64 (-1)))))]
def laws_szIntS.r4 : List Ent := [
  E0 0 (some 11) none (.i (.mv (.t 1))),
  E0 1 (some 4) none (.i (.mv (.t 11)))]
def laws_szIntS.fi : FI := { res := [.t 4], code := .seq (.reg 64 1 laws_szIntS.r0) (.seq (.reg 128 5 laws_szIntS.r1) (.seq (.seq (.reg 448 2 laws_szIntS.r2) (.cond (.t 10) (.seq (.reg 576 1 laws_szIntS.r3) (.ret)) (.skip))) (.seq (.reg 640 2 laws_szIntS.r4) (.ret)))) }
attribute [go_sem] laws_szIntS.r0 laws_szIntS.r1 laws_szIntS.r2 laws_szIntS.r3 laws_szIntS.r4
theorem laws_szIntS.ok : chkF prog F_laws_szIntS 2 laws_szIntS.fi = true := by kernel_rfl

/-! laws_szIntSS -/
def laws_szIntSS.r0 : List Ent := [
  E0 0 (some 4) none (.i (.mv (.k (I64 0))))]
def laws_szIntSS.r1 : List Ent := [
  E0 0 (some 6) none (.i (.mv (.t 1))),
  E0 1 (some 7) none (.i (.mv (.t 0))),
  E0 2 (some 8) none (.i (.len (.t 7))),
  E0 3 (some 9) none (.i (.bin .sub (.t 6) (.t 8))),
  E0 4 (some 1) none (.i (.mv (.t 9)))]
def laws_szIntSS.r2 : List Ent := [
  E0 0 (some 10) none (.i (.mv (.t 1))),
  E0 1 (some 11) none (.i (.bin .lss (.t 10) (.k (I64 0))))]
def laws_szIntSS.r3 : List Ent := [
  E0 0 (some 4) none (.i (.mv (.k (I64 (-1)))))]
def laws_szIntSS.r4 : List Ent := [
  E0 0 (some 5) none (.i (.mv (.k (I64 0))))]
def laws_szIntSS.r5 : List Ent := [
  E0 0 (some 12) none (.i (.mv (.t 5))),
  E0 1 (some 13) none (.i (.mv (.t 0))),
  E0 2 (some 14) none (.i (.len (.t 13))),
  E0 3 (some 15) none (.i (.bin .lss (.t 12) (.t 14)))]
def laws_szIntSS.r6 : List Ent := [
  E0 0 (some 18) none (.i (.mv (.t 0))),
  E0 1 (some 19) none (.i (.mv (.t 5))),
  E0 2 (some 20) none (.i (.iad 1 (.t 18) (.t 19))),
  E0 3 (some 21) none (.i (.load false false 1 (.t 20))),
  E0 4 (some 22) none (.i (.mv (.t 1))),
  E0 5 (some 23) none (.call F_laws_szIntS false (roA [.t 21, .t 22])),
  E0 6 (some 1) none (.i (.mv (.t 23)))]
def laws_szIntSS.r7 : List Ent := [
  E0 0 (some 24) none (.i (.mv (.t 1))),
  E0 1 (some 25) none (.i (.bin .lss (.t 24) (.k (I64 0))))]
def laws_szIntSS.r8 : List Ent := [
  E0 0 (some 4) none (.i (.mv (.k (I64 (-1)))))]
def laws_szIntSS.r9 : List Ent := [
  E0 0 (some 16) none (.i (.mv (.t 5))),
  E0 1 (some 17) none (.i (.bin .add (.t 16) (.k (I64 1)))),
  E0 2 (some 5) none (.i (.mv (.t 17)))]
def laws_szIntSS.b0 : KC := .seq (.seq (.reg 704 4 laws_szIntSS.r5) (.cond (.t 15) (.skip) (.exit 0))) (.seq (.block 1 (.seq (.reg 960 7 laws_szIntSS.r6) (.seq (.reg 1408 2 laws_szIntSS.r7) (.cond (.t 25) (.seq (.reg 1536 1 laws_szIntSS.r8) (.ret)) (.skip))))) (.reg 1600 3 laws_szIntSS.r9))
def laws_szIntSS.r10 : List Ent := [
  E0 0 (some 26) none (.i (.mv (.t 1))),
  E0 1 (some 4) none (.i (.mv (.t 26)))]
def laws_szIntSS.fi : FI := { res := [.t 4], code := .seq (.reg 64 1 laws_szIntSS.r0) (.seq (.reg 128 5 laws_szIntSS.r1) (.seq (.seq (.reg 448 2 laws_szIntSS.r2) (.cond (.t 11) (.seq (.reg 576 1 laws_szIntSS.r3) (.ret)) (.skip))) (.seq (.seq (.reg 640 1 laws_szIntSS.r4) (.block 0 (.loop laws_szIntSS.b0))) (.seq (.reg 1792 2 laws_szIntSS.r10) (.ret))))) }
attribute [go_sem] laws_szIntSS.r0 laws_szIntSS.r1 laws_szIntSS.r2 laws_szIntSS.r3 laws_szIntSS.r4 laws_szIntSS.r5 laws_szIntSS.r6 laws_szIntSS.r7 laws_szIntSS.r8 laws_szIntSS.r9 laws_szIntSS.r10
theorem laws_szIntSS.ok : chkF prog F_laws_szIntSS 2 laws_szIntSS.fi = true := by kernel_rfl

/-! spec_l1In -/
def spec_l1In.r0 : List Ent := [
  E0 0 (some 6) none (.i (.mv (.k (.dat none (.bool false)))))]
def spec_l1In.r1 : List Ent := [
  E0 0 (some 7) none (.i (.mv (.t 0))),
  E0 1 (some 8) none (.i (.mv (.t 1))),
  E0 2 (some 9) none (.i (.bin .geq (.t 7) (.t 8))),
  E0 3 (some 10) none (.i (.mv (.t 9))),
  E0 4 (some 11) (some (10, true)) (.i (.mv (.t 0))),
  E0 5 (some 12) (some (10, true)) (.i (.mv (.t 2))),
  E0 6 (some 13) (some (10, true)) (.i (.bin .leq (.t 11) (.t 12))),
  E0 7 (some 14) none (.i (.pick (.t 10) (.t 13) (.k (.dat none (.bool false))))),
  E0 8 (some 6) none (.i (.mv (.t 14)))]
def spec_l1In.fi : FI := { res := [.t 6], code := .seq (.reg 64 1 spec_l1In.r0) (.seq (.reg 128 9 spec_l1In.r1) (.ret)) }
attribute [go_sem] spec_l1In.r0 spec_l1In.r1
theorem spec_l1In.ok : chkF prog F_spec_l1In 3 spec_l1In.fi = true := by kernel_rfl

/-! spec_l1Has -/
def spec_l1Has.r0 : List Ent := [
  E0 0 (some 4) none (.i (.mv (.k (.dat none (.bool false)))))]
def spec_l1Has.r1 : List Ent := [
  E0 0 (some 7) none (.i (.mv (.t 0))),
  E0 1 (some 8) none (.i (.len (.t 7))),
  E0 2 (some 9) none (.i (.mv (.k (I64 0))))]
def spec_l1Has.r2 : List Ent := [
  E0 0 (some 10) none (.i (.bin .lss (.t 9) (.t 8)))]
def spec_l1Has.r3 : List Ent := [
  E0 0 (some 11) none (.i (.iad 1 (.t 7) (.t 9))),
  E0 1 (some 12) none (.i (.load false false 1 (.t 11))),
  E0 2 (some 6) none (.i (.mv (.t 12)))]
def spec_l1Has.r4 : List Ent := [
  E0 0 (some 13) none (.i (.mv (.t 6))),
  E0 1 (some 14) none (.i (.mv (.t 1))),
  E0 2 (some 15) none (.i (.bin .eql (.t 13) (.t 14)))]
def spec_l1Has.r5 : List Ent := [
  E0 0 (some 4) none (.i (.mv (.k (.dat none (.bool true)))))]
def spec_l1Has.r6 : List Ent := [
  E0 0 (some 16) none (.i (.bin .add (.t 9) (.k (I64 1)))),
  E0 1 (some 9) none (.i (.mv (.t 16)))]
def spec_l1Has.b0 : KC := .seq (.reg 320 1 spec_l1Has.r2) (.seq (.cond (.t 10) (.skip) (.exit 0)) (.seq (.block 1 (.seq (.reg 384 3 spec_l1Has.r3) (.seq (.reg 576 3 spec_l1Has.r4) (.cond (.t 15) (.seq (.reg 768 1 spec_l1Has.r5) (.ret)) (.skip))))) (.reg 832 2 spec_l1Has.r6)))
def spec_l1Has.r7 : List Ent := [
  E0 0 (some 4) none (.i (.mv (.k (.dat none (.bool false)))))]
def spec_l1Has.fi : FI := { res := [.t 4], code := .seq (.reg 64 1 spec_l1Has.r0) (.seq (.seq (.reg 128 3 spec_l1Has.r1) (.block 0 (.loop spec_l1Has.b0))) (.seq (.reg 960 1 spec_l1Has.r7) (.ret))) }
attribute [go_sem] spec_l1Has.r0 spec_l1Has.r1 spec_l1Has.r2 spec_l1Has.r3 spec_l1Has.r4 spec_l1Has.r5 spec_l1Has.r6 spec_l1Has.r7
theorem spec_l1Has.ok : chkF prog F_spec_l1Has 2 spec_l1Has.fi = true := by kernel_rfl

/-! spec_l4Clause -/
def spec_l4Clause.r0 : List Ent := [
  E0 0 (some 4) none (.i (.mv (.k (.dat none (.bool false)))))]
def spec_l4Clause.r1 : List Ent := [
  E0 0 (some 7) none (.i (.mv (.t 1))),
  E0 1 (some 8) none (.i (.len (.t 7))),
  E0 2 (some 9) none (.i (.mv (.k (I64 0))))]
def spec_l4Clause.r2 : List Ent := [
  E0 0 (some 10) none (.i (.bin .lss (.t 9) (.t 8)))]
def spec_l4Clause.r3 : List Ent := [
  E0 0 (some 11) none (.i (.mv (.t 9))),
  E0 1 (some 12) none (.i (.iad 1 (.t 7) (.t 9))),
  E0 2 (some 13) none (.i (.load false false 1 (.t 12))),
  E0 3 (some 5) none (.i (.mv (.t 11))),
  E0 4 (some 6) none (.i (.mv (.t 13)))]
def spec_l4Clause.r4 : List Ent := [
  E0 0 (some 14) none (.i (.mv (.t 6))),
  E0 1 (some 15) none (.i (.bin .eql (.t 14) (.k (I64 0)))),
  E0 2 (some 16) none (.i (.mv (.t 15))),
  E0 3 (some 17) (some (16, false)) (.i (.mv (.t 6))),
  E0 4 (some 18) (some (16, false)) (.i (.mv (.t 0))),
  E0 5 (some 19) (some (16, false)) (.i (.un .neg (.t 18))),
  E0 6 (some 20) (some (16, false)) (.i (.mv (.t 0))),
  E0 7 (some 21) (some (16, false)) (.call F_spec_l1In false (roA [.t 17, .t 19, .t 20])),
  E0 8 (some 22) (some (16, false)) (.i (.un .not (.t 21))),
  E0 9 (some 23) none (.i (.pick (.t 16) (.k (.dat none (.bool true))) (.t 22))),
  E0 10 (some 24) none (.i (.mv (.t 23))),
  E0 11 (some 25) (some (24, false)) (.i (.mv (.t 1))),
  E0 12 (some 26) (some (24, false)) (.i (.mv (.t 5))),
  E0 13 (some 27) (some (24, false)) (.i (.slc 1 (.t 25) (none) (some (.t 26)))),
  E0 14 (some 28) (some (24, false)) (.i (.mv (.t 6))),
  E0 15 (some 29) (some (24, false)) (.call F_spec_l1Has false (roA [.t 27, .t 28])),
  E0 16 (some 30) none (.i (.pick (.t 24) (.k (.dat none (.bool true))) (.t 29))),
  E0 17 (some 31) none (.i (.mv (.t 30))),
  E0 18 (some 32) (some (31, false)) (.i (.mv (.t 1))),
  E0 19 (some 33) (some (31, false)) (.i (.mv (.t 5))),
  E0 20 (some 34) (some (31, false)) (.i (.slc 1 (.t 32) (none) (some (.t 33)))),
  E0 21 (some 35) (some (31, false)) (.i (.mv (.t 6))),
  E0 22 (some 36) (some (31, false)) (.i (.un .neg (.t 35))),
  E0 23 (some 37) (some (31, false)) (.call F_spec_l1Has false (roA [.t 34, .t 36])),
  E0 24 (some 38) none (.i (.pick (.t 31) (.k (.dat none (.bool true))) (.t 37)))]
def spec_l4Clause.r5 : List Ent := [
  E0 0 (some 4) none (.i (.mv (.k (.dat none (.bool false)))))]
def spec_l4Clause.r6 : List Ent := [
  E0 0 (some 39) none (.i (.bin .add (.t 9) (.k (I64 1)))),
  E0 1 (some 9) none (.i (.mv (.t 39)))]
def spec_l4Clause.b0 : KC := .seq (.reg 320 1 spec_l4Clause.r2) (.seq (.cond (.t 10) (.skip) (.exit 0)) (.seq (.block 1 (.seq (.reg 384 5 spec_l4Clause.r3) (.seq (.reg 704 25 spec_l4Clause.r4) (.cond (.t 38) (.seq (.reg 2304 1 spec_l4Clause.r5) (.ret)) (.skip))))) (.reg 2368 2 spec_l4Clause.r6)))
def spec_l4Clause.r7 : List Ent := [
  E0 0 (some 40) none (.i (.mv (.t 1))),
  E0 1 (some 41) none (.i (.len (.t 40))),
  E0 2 (some 42) none (.i (.bin .leq (.t 41) (.k (I64 12)))),
  E0 3 (some 4) none (.i (.mv (.t 42)))]
def spec_l4Clause.fi : FI := { res := [.t 4], code := .seq (.reg 64 1 spec_l4Clause.r0) (.seq (.seq (.reg 128 3 spec_l4Clause.r1) (.block 0 (.loop spec_l4Clause.b0))) (.seq (.reg 2496 4 spec_l4Clause.r7) (.ret))) }
attribute [go_sem] spec_l4Clause.r0 spec_l4Clause.r1 spec_l4Clause.r2 spec_l4Clause.r3 spec_l4Clause.r4 spec_l4Clause.r5 spec_l4Clause.r6 spec_l4Clause.r7
theorem spec_l4Clause.ok : chkF prog F_spec_l4Clause 2 spec_l4Clause.fi = true := by kernel_rfl

/-! spec_l4Good -/
def spec_l4Good.r0 : List Ent := [
  E0 0 (some 6) none (.i (.mv (.k (.dat none (.bool false)))))]
def spec_l4Good.r1 : List Ent := [
  E0 0 (some 9) none (.i (.mv (.t 0))),
  E0 1 (some 10) none (.call F_spec_l1In false (roA [.t 9, .k (I64 0), .k (I64 12)])),
  E0 2 (some 11) none (.i (.un .not (.t 10))),
  E0 3 (some 12) none (.i (.mv (.t 11))),
  E0 4 (some 13) (some (12, false)) (.i (.mv (.t 1))),
  E0 5 (some 14) (some (12, false)) (.i (.len (.t 13))),
  E0 6 (some 15) (some (12, false)) (.i (.mv (.t 2))),
  E0 7 (some 16) (some (12, false)) (.i (.bin .gtr (.t 14) (.t 15))),
  E0 8 (some 17) none (.i (.pick (.t 12) (.k (.dat none (.bool true))) (.t 16)))]
def spec_l4Good.r2 : List Ent := [
  E0 0 (some 6) none (.i (.mv (.k (.dat none (.bool false)))))]
def spec_l4Good.r3 : List Ent := [
  E0 0 (some 18) none (.i (.mv (.t 1))),
  E0 1 (some 19) none (.i (.len (.t 18))),
  E0 2 (some 20) none (.i (.mv (.k (I64 0))))]
def spec_l4Good.r4 : List Ent := [
  E0 0 (some 21) none (.i (.bin .lss (.t 20) (.t 19)))]
def spec_l4Good.r5 : List Ent := [
  E0 0 (some 22) none (.i (.iad 1 (.t 18) (.t 20))),
  E0 1 (some 23) none (.i (.load false false 1 (.t 22))),
  E0 2 (some 8) none (.i (.mv (.t 23)))]
def spec_l4Good.r6 : List Ent := [
  E0 0 (some 24) none (.i (.mv (.t 0))),
  E0 1 (some 25) none (.i (.mv (.t 8))),
  E0 2 (some 26) none (.call F_spec_l4Clause false (roA [.t 24, .t 25])),
  E0 3 (some 27) none (.i (.un .not (.t 26)))]
def spec_l4Good.r7 : List Ent := [
  E0 0 (some 6) none (.i (.mv (.k (.dat none (.bool false)))))]
def spec_l4Good.r8 : List Ent := [
  E0 0 (some 28) none (.i (.bin .add (.t 20) (.k (I64 1)))),
  E0 1 (some 20) none (.i (.mv (.t 28)))]
def spec_l4Good.b0 : KC := .seq (.reg 960 1 spec_l4Good.r4) (.seq (.cond (.t 21) (.skip) (.exit 0)) (.seq (.block 1 (.seq (.reg 1024 3 spec_l4Good.r5) (.seq (.reg 1216 4 spec_l4Good.r6) (.cond (.t 27) (.seq (.reg 1472 1 spec_l4Good.r7) (.ret)) (.skip))))) (.reg 1536 2 spec_l4Good.r8)))
def spec_l4Good.r9 : List Ent := [
  E0 0 (some 6) none (.i (.mv (.k (.dat none (.bool true)))))]
def spec_l4Good.fi : FI := { res := [.t 6], code := .seq (.reg 64 1 spec_l4Good.r0) (.seq (.seq (.reg 128 9 spec_l4Good.r1) (.cond (.t 17) (.seq (.reg 704 1 spec_l4Good.r2) (.ret)) (.skip))) (.seq (.seq (.reg 768 3 spec_l4Good.r3) (.block 0 (.loop spec_l4Good.b0))) (.seq (.reg 1664 1 spec_l4Good.r9) (.ret)))) }
attribute [go_sem] spec_l4Good.r0 spec_l4Good.r1 spec_l4Good.r2 spec_l4Good.r3 spec_l4Good.r4 spec_l4Good.r5 spec_l4Good.r6 spec_l4Good.r7 spec_l4Good.r8 spec_l4Good.r9
theorem spec_l4Good.ok : chkF prog F_spec_l4Good 3 spec_l4Good.fi = true := by kernel_rfl

/-! spec_GoodClauses -/
def spec_GoodClauses.r0 : List Ent := [
  E0 0 (some 4) none (.i (.mv (.k (.dat none (.bool false)))))]
def spec_GoodClauses.r1 : List Ent := [
  E0 0 (some 5) none (.i (.mv (.t 0))),
  E0 1 (some 6) none (.i (.mv (.t 1))),
  E0 2 (some 7) none (.call F_spec_l4Good false (roA [.t 5, .t 6, .k (I64 60)])),
  E0 3 (some 4) none (.i (.mv (.t 7)))]
def spec_GoodClauses.fi : FI := { res := [.t 4], code := .seq (.reg 64 1 spec_GoodClauses.r0) (.seq (.reg 128 4 spec_GoodClauses.r1) (.ret)) }
attribute [go_sem] spec_GoodClauses.r0 spec_GoodClauses.r1
theorem spec_GoodClauses.ok : chkF prog F_spec_GoodClauses 2 spec_GoodClauses.fi = true := by kernel_rfl

/-! spec_IsTwo -/
def spec_IsTwo.r0 : List Ent := [
  E0 0 (some 4) none (.i (.mv (.k (.dat none (.bool false)))))]
def spec_IsTwo.r1 : List Ent := [
  E0 0 (some 7) none (.i (.mv (.t 1))),
  E0 1 (some 8) none (.i (.len (.t 7))),
  E0 2 (some 9) none (.i (.mv (.k (I64 0))))]
def spec_IsTwo.r2 : List Ent := [
  E0 0 (some 10) none (.i (.bin .lss (.t 9) (.t 8)))]
def spec_IsTwo.r3 : List Ent := [
  E0 0 (some 11) none (.i (.iad 1 (.t 7) (.t 9))),
  E0 1 (some 12) none (.i (.load false false 1 (.t 11))),
  E0 2 (some 6) none (.i (.mv (.t 12)))]
def spec_IsTwo.r4 : List Ent := [
  E0 0 (some 13) none (.i (.mv (.t 6))),
  E0 1 (some 14) none (.i (.len (.t 13))),
  E0 2 (some 15) none (.call F_spec_l1In false (roA [.t 14, .k (I64 1), .k (I64 2)])),
  E0 3 (some 16) none (.i (.un .not (.t 15)))]
def spec_IsTwo.r5 : List Ent := [
  E0 0 (some 4) none (.i (.mv (.k (.dat none (.bool false)))))]
def spec_IsTwo.r6 : List Ent := [
  E0 0 (some 17) none (.i (.bin .add (.t 9) (.k (I64 1)))),
  E0 1 (some 9) none (.i (.mv (.t 17)))]
def spec_IsTwo.b0 : KC := .seq (.reg 320 1 spec_IsTwo.r2) (.seq (.cond (.t 10) (.skip) (.exit 0)) (.seq (.block 1 (.seq (.reg 384 3 spec_IsTwo.r3) (.seq (.reg 576 4 spec_IsTwo.r4) (.cond (.t 16) (.seq (.reg 832 1 spec_IsTwo.r5) (.ret)) (.skip))))) (.reg 896 2 spec_IsTwo.r6)))
def spec_IsTwo.r7 : List Ent := [
  E0 0 (some 18) none (.i (.mv (.t 0))),
  E0 1 (some 19) none (.i (.mv (.t 1))),
  E0 2 (some 20) none (.call F_spec_GoodClauses false (roA [.t 18, .t 19])),
  E0 3 (some 4) none (.i (.mv (.t 20)))]
def spec_IsTwo.fi : FI := { res := [.t 4], code := .seq (.reg 64 1 spec_IsTwo.r0) (.seq (.seq (.reg 128 3 spec_IsTwo.r1) (.block 0 (.loop spec_IsTwo.b0))) (.seq (.reg 1024 4 spec_IsTwo.r7) (.ret))) }
attribute [go_sem] spec_IsTwo.r0 spec_IsTwo.r1 spec_IsTwo.r2 spec_IsTwo.r3 spec_IsTwo.r4 spec_IsTwo.r5 spec_IsTwo.r6 spec_IsTwo.r7
theorem spec_IsTwo.ok : chkF prog F_spec_IsTwo 2 spec_IsTwo.fi = true := by kernel_rfl

/-! spec_l15Next -/
def spec_l15Next.r0 : List Ent := [
  E0 0 (some 4) none (.i (.mv (.k (.nil 1))))]
def spec_l15Next.r1 : List Ent := [
  E0 0 (some 5) none (.i (.mv (.k (.nil 1))))]
def spec_l15Next.r2 : List Ent := [
  E0 0 (some 8) none (.i (.mv (.t 0))),
  E0 1 (some 9) none (.i (.len (.t 8))),
  E0 2 (some 10) none (.i (.mv (.k (I64 0))))]
def spec_l15Next.r3 : List Ent := [
  E0 0 (some 11) none (.i (.bin .lss (.t 10) (.t 9)))]
def spec_l15Next.r4 : List Ent := [
  E0 0 (some 12) none (.i (.iad 1 (.t 8) (.t 10))),
  E0 1 (some 13) none (.i (.load false false 1 (.t 12))),
  E0 2 (some 7) none (.i (.mv (.t 13)))]
def spec_l15Next.r5 : List Ent := [
  E0 0 (some 15) none (.i (.mv (.t 7))),
  E0 1 (some 16) none (.i (.len (.t 15))),
  E0 2 (some 17) none (.i (.bin .eql (.t 16) (.k (I64 1)))),
  E0 3 (some 18) none (.i (.mv (.t 17))),
  E0 4 (some 19) (some (18, true)) (.i (.mv (.t 7))),
  E0 5 (some 20) (some (18, true)) (.i (.iad 1 (.t 19) (.k (I64 0)))),
  E0 6 (some 21) (some (18, true)) (.i (.load false false 1 (.t 20))),
  E0 7 (some 22) (some (18, true)) (.i (.mv (.t 1))),
  E0 8 (some 23) (some (18, true)) (.i (.un .neg (.t 22))),
  E0 9 (some 24) (some (18, true)) (.i (.bin .eql (.t 21) (.t 23))),
  E0 10 (some 25) none (.i (.pick (.t 18) (.t 24) (.k (.dat none (.bool false))))),
  E0 11 (some 14) none (.i (.mv (.t 25)))]
def spec_l15Next.r6 : List Ent := [
  E0 0 (some 26) none (.i (.mv (.t 5))),
  E0 1 (some 27) none (.i (.mv (.t 7))),
  E0 2 (some 28) none (.i (.iad 1 (.t 27) (.k (I64 0)))),
  E0 3 (some 29) none (.i (.load false false 1 (.t 28))),
  E0 4 (some 30) none (.call F_spec_l1Put false [(.co, .t 26), (.ro, .t 29)]),
  E0 5 (some 5) none (.i (.mv (.t 30)))]
def spec_l15Next.r7 : List Ent := [
  E0 0 (some 32) none (.i (.mv (.t 7))),
  E0 1 (some 33) none (.i (.len (.t 32))),
  E0 2 (some 34) none (.i (.bin .eql (.t 33) (.k (I64 2)))),
  E0 3 (some 35) none (.i (.mv (.t 34))),
  E0 4 (some 36) (some (35, true)) (.i (.mv (.t 7))),
  E0 5 (some 37) (some (35, true)) (.i (.iad 1 (.t 36) (.k (I64 0)))),
  E0 6 (some 38) (some (35, true)) (.i (.load false false 1 (.t 37))),
  E0 7 (some 39) (some (35, true)) (.i (.mv (.t 1))),
  E0 8 (some 40) (some (35, true)) (.i (.un .neg (.t 39))),
  E0 9 (some 41) (some (35, true)) (.i (.bin .eql (.t 38) (.t 40))),
  E0 10 (some 42) none (.i (.pick (.t 35) (.t 41) (.k (.dat none (.bool false))))),
  E0 11 (some 31) none (.i (.mv (.t 42)))]
def spec_l15Next.r8 : List Ent := [
  E0 0 (some 43) none (.i (.mv (.t 5))),
  E0 1 (some 44) none (.i (.mv (.t 7))),
  E0 2 (some 45) none (.i (.iad 1 (.t 44) (.k (I64 1)))),
  E0 3 (some 46) none (.i (.load false false 1 (.t 45))),
  E0 4 (some 47) none (.call F_spec_l1Put false [(.co, .t 43), (.ro, .t 46)]),
  E0 5 (some 5) none (.i (.mv (.t 47)))]
def spec_l15Next.r9 : List Ent := [
  E0 0 (some 49) none (.i (.mv (.t 7))),
  E0 1 (some 50) none (.i (.len (.t 49))),
  E0 2 (some 51) none (.i (.bin .eql (.t 50) (.k (I64 2)))),
  E0 3 (some 52) none (.i (.mv (.t 51))),
  E0 4 (some 53) (some (52, true)) (.i (.mv (.t 7))),
  E0 5 (some 54) (some (52, true)) (.i (.iad 1 (.t 53) (.k (I64 1)))),
  E0 6 (some 55) (some (52, true)) (.i (.load false false 1 (.t 54))),
  E0 7 (some 56) (some (52, true)) (.i (.mv (.t 1))),
  E0 8 (some 57) (some (52, true)) (.i (.un .neg (.t 56))),
  E0 9 (some 58) (some (52, true)) (.i (.bin .eql (.t 55) (.t 57))),
  E0 10 (some 59) none (.i (.pick (.t 52) (.t 58) (.k (.dat none (.bool false))))),
  E0 11 (some 48) none (.i (.mv (.t 59)))]
def spec_l15Next.r10 : List Ent := [
  E0 0 (some 60) none (.i (.mv (.t 5))),
  E0 1 (some 61) none (.i (.mv (.t 7))),
  E0 2 (some 62) none (.i (.iad 1 (.t 61) (.k (I64 0)))),
  E0 3 (some 63) none (.i (.load false false 1 (.t 62))),
  E0 4 (some 64) none (.call F_spec_l1Put false [(.co, .t 60), (.ro, .t 63)]),
  E0 5 (some 5) none (.i (.mv (.t 64)))]
def spec_l15Next.r11 : List Ent := [
  E0 0 (some 65) none (.i (.bin .add (.t 10) (.k (I64 1)))),
  E0 1 (some 10) none (.i (.mv (.t 65)))]
def spec_l15Next.b0 : KC := .seq (.reg 384 1 spec_l15Next.r3) (.seq (.cond (.t 11) (.skip) (.exit 0)) (.seq (.block 1 (.seq (.reg 448 3 spec_l15Next.r4) (.block 2 (.seq (.reg 640 12 spec_l15Next.r5) (.cond (.t 14) (.reg 1408 6 spec_l15Next.r6) (.seq (.reg 1792 12 spec_l15Next.r7) (.cond (.t 31) (.reg 2560 6 spec_l15Next.r8) (.seq (.reg 2944 12 spec_l15Next.r9) (.cond (.t 48) (.reg 3712 6 spec_l15Next.r10) (.skip)))))))))) (.reg 4096 2 spec_l15Next.r11)))
def spec_l15Next.r12 : List Ent := [
  E0 0 (some 66) none (.i (.mv (.t 5))),
  E0 1 (some 4) none (.i (.mv (.t 66)))]
def spec_l15Next.fi : FI := { res := [.t 4], code := .seq (.reg 64 1 spec_l15Next.r0) (.seq (.reg 128 1 spec_l15Next.r1) (.seq (.seq (.reg 192 3 spec_l15Next.r2) (.block 0 (.loop spec_l15Next.b0))) (.seq (.reg 4224 2 spec_l15Next.r12) (.ret)))) }
attribute [go_sem] spec_l15Next.r0 spec_l15Next.r1 spec_l15Next.r2 spec_l15Next.r3 spec_l15Next.r4 spec_l15Next.r5 spec_l15Next.r6 spec_l15Next.r7 spec_l15Next.r8 spec_l15Next.r9 spec_l15Next.r10 spec_l15Next.r11 spec_l15Next.r12
theorem spec_l15Next.ok : chkF prog F_spec_l15Next 2 spec_l15Next.fi = true := by kernel_rfl

/-! spec_l15Leads -/
def spec_l15Leads.r0 : List Ent := [
  E0 0 (some 4) none (.i (.mv (.k (.nil 1))))]
def spec_l15Leads.r1 : List Ent := [
  E0 0 (some 10) none (.i (.mv (.t 1))),
  E0 1 (some 11) none (.i (.bsl false 1 [.t 10])),
  E0 2 (some 5) none (.i (.mv (.t 11)))]
def spec_l15Leads.r2 : List Ent := [
  E0 0 (some 12) none (.i (.mv (.t 1))),
  E0 1 (some 13) none (.i (.bsl false 1 [.t 12])),
  E0 2 (some 6) none (.i (.mv (.t 13)))]
def spec_l15Leads.r3 : List Ent := [
  E0 0 (some 14) none (.i (.mv (.t 6))),
  E0 1 (some 15) none (.i (.len (.t 14))),
  E0 2 (some 16) none (.i (.bin .gtr (.t 15) (.k (I64 0))))]
def spec_l15Leads.r4 : List Ent := [
  E0 0 (some 17) none (.i (.mv (.t 6))),
  E0 1 (some 18) none (.i (.iad 1 (.t 17) (.k (I64 0)))),
  E0 2 (some 19) none (.i (.load false false 1 (.t 18))),
  E0 3 (some 7) none (.i (.mv (.t 19)))]
def spec_l15Leads.r5 : List Ent := [
  E0 0 (some 20) none (.i (.mv (.t 6))),
  E0 1 (some 21) none (.i (.slc 1 (.t 20) (some (.k (I64 1))) (none))),
  E0 2 (some 6) none (.i (.mv (.t 21)))]
def spec_l15Leads.r6 : List Ent := [
  E0 0 (some 22) none (.i (.mv (.t 0))),
  E0 1 (some 23) none (.i (.mv (.t 7))),
  E0 2 (some 24) none (.call F_spec_l15Next false (roA [.t 22, .t 23])),
  E0 3 (some 25) none (.i (.len (.t 24))),
  E0 4 (some 26) none (.i (.mv (.k (I64 0))))]
def spec_l15Leads.r7 : List Ent := [
  E0 0 (some 27) none (.i (.bin .lss (.t 26) (.t 25)))]
def spec_l15Leads.r8 : List Ent := [
  E0 0 (some 28) none (.i (.iad 1 (.t 24) (.t 26))),
  E0 1 (some 29) none (.i (.load false false 1 (.t 28))),
  E0 2 (some 9) none (.i (.mv (.t 29)))]
def spec_l15Leads.r9 : List Ent := [
  E0 0 (some 30) none (.i (.mv (.t 5))),
  E0 1 (some 31) none (.i (.mv (.t 9))),
  E0 2 (some 32) none (.call F_spec_l1Has false (roA [.t 30, .t 31])),
  E0 3 (some 33) none (.i (.un .not (.t 32)))]
def spec_l15Leads.r10 : List Ent := [
  E0 0 (some 34) none (.i (.mv (.t 5))),
  E0 1 (some 35) none (.i (.mv (.t 9))),
  E0 2 (some 36) none (.call F_spec_l1Put false [(.co, .t 34), (.ro, .t 35)]),
  E0 3 (some 5) none (.i (.mv (.t 36)))]
def spec_l15Leads.r11 : List Ent := [
  E0 0 (some 37) none (.i (.mv (.t 6))),
  E0 1 (some 38) none (.i (.mv (.t 9))),
  E0 2 (some 39) none (.i (.bsl true 1 [.t 38])),
  E0 3 (some 40) none (.i (.app 1 8 (.t 37) (.t 39))),
  E0 4 (some 6) none (.i (.mv (.t 40)))]
def spec_l15Leads.r12 : List Ent := [
  E0 0 (some 41) none (.i (.bin .add (.t 26) (.k (I64 1)))),
  E0 1 (some 26) none (.i (.mv (.t 41)))]
def spec_l15Leads.b0 : KC := .seq (.reg 1472 1 spec_l15Leads.r7) (.seq (.cond (.t 27) (.skip) (.exit 2)) (.seq (.block 3 (.seq (.reg 1536 3 spec_l15Leads.r8) (.seq (.reg 1728 4 spec_l15Leads.r9) (.cond (.t 33) (.seq (.reg 1984 4 spec_l15Leads.r10) (.reg 2240 5 spec_l15Leads.r11)) (.skip))))) (.reg 2560 2 spec_l15Leads.r12)))
def spec_l15Leads.b1 : KC := .seq (.seq (.reg 512 3 spec_l15Leads.r3) (.cond (.t 16) (.skip) (.exit 0))) (.block 1 (.seq (.reg 704 4 spec_l15Leads.r4) (.seq (.reg 960 3 spec_l15Leads.r5) (.seq (.reg 1152 5 spec_l15Leads.r6) (.block 2 (.loop spec_l15Leads.b0))))))
def spec_l15Leads.r13 : List Ent := [
  E0 0 (some 42) none (.i (.mv (.t 5))),
  E0 1 (some 4) none (.i (.mv (.t 42)))]
def spec_l15Leads.fi : FI := { res := [.t 4], code := .seq (.reg 64 1 spec_l15Leads.r0) (.seq (.reg 128 3 spec_l15Leads.r1) (.seq (.reg 320 3 spec_l15Leads.r2) (.seq (.nrm 6 2432 1 (.block 0 (.loop spec_l15Leads.b1))) (.seq (.reg 2688 2 spec_l15Leads.r13) (.ret))))) }
attribute [go_sem] spec_l15Leads.r0 spec_l15Leads.r1 spec_l15Leads.r2 spec_l15Leads.r3 spec_l15Leads.r4 spec_l15Leads.r5 spec_l15Leads.r6 spec_l15Leads.r7 spec_l15Leads.r8 spec_l15Leads.r9 spec_l15Leads.r10 spec_l15Leads.r11 spec_l15Leads.r12 spec_l15Leads.r13
theorem spec_l15Leads.ok : chkF prog F_spec_l15Leads 2 spec_l15Leads.fi = true := by kernel_rfl

/-! laws_toIntS -/
def laws_toIntS.r0 : List Ent := [
  E0 0 (some 2) none (.i (.mv (.k (.nil 1))))]
def laws_toIntS.r1 : List Ent := [
  E0 0 (some 5) none (.i (.mv (.t 0))),
  E0 1 (some 6) none (.i (.len (.t 5))),
  E0 2 (some 7) none (.i (.mks 1 8 (.int .i64 0) (.t 6) (.t 6))),
  E0 3 (some 3) none (.i (.mv (.t 7)))]
def laws_toIntS.r2 : List Ent := [
  E0 0 (some 4) none (.i (.mv (.k (I64 0))))]
def laws_toIntS.r3 : List Ent := [
  E0 0 (some 8) none (.i (.mv (.t 4))),
  E0 1 (some 9) none (.i (.mv (.t 0))),
  E0 2 (some 10) none (.i (.len (.t 9))),
  E0 3 (some 11) none (.i (.bin .lss (.t 8) (.t 10)))]
def laws_toIntS.r4 : List Ent := [
  E0 0 (some 14) none (.i (.mv (.t 3))),
  E0 1 (some 15) none (.i (.mv (.t 4))),
  E0 2 (some 16) none (.i (.mv (.t 0))),
  E0 3 (some 17) none (.i (.mv (.t 4))),
  E0 4 (some 18) none (.i (.iad 1 (.t 16) (.t 17))),
  E0 5 (some 19) none (.i (.load false false 1 (.t 18))),
  E0 6 (some 20) none (.i (.iad 1 (.t 14) (.t 15))),
  E0 7 none none (.i (.store 1 (.t 20) (.t 19)))]
def laws_toIntS.r5 : List Ent := [
  E0 0 (some 12) none (.i (.mv (.t 4))),
  E0 1 (some 13) none (.i (.bin .add (.t 12) (.k (I64 1)))),
  E0 2 (some 4) none (.i (.mv (.t 13)))]
def laws_toIntS.b0 : KC := .seq (.seq (.reg 448 4 laws_toIntS.r3) (.cond (.t 11) (.skip) (.exit 0))) (.seq (.block 1 (.reg 704 8 laws_toIntS.r4)) (.reg 1216 3 laws_toIntS.r5))
def laws_toIntS.r6 : List Ent := [
  E0 0 (some 21) none (.i (.mv (.t 3))),
  E0 1 (some 2) none (.i (.mv (.t 21)))]
def laws_toIntS.fi : FI := { res := [.t 2], code := .seq (.reg 64 1 laws_toIntS.r0) (.seq (.reg 128 4 laws_toIntS.r1) (.seq (.seq (.reg 384 1 laws_toIntS.r2) (.block 0 (.loop laws_toIntS.b0))) (.seq (.reg 1408 2 laws_toIntS.r6) (.ret)))) }
attribute [go_sem] laws_toIntS.r0 laws_toIntS.r1 laws_toIntS.r2 laws_toIntS.r3 laws_toIntS.r4 laws_toIntS.r5 laws_toIntS.r6
theorem laws_toIntS.ok : chkF prog F_laws_toIntS 1 laws_toIntS.fi = true := by kernel_rfl

/-! laws_toIntSS -/
def laws_toIntSS.r0 : List Ent := [
  E0 0 (some 2) none (.i (.mv (.k (.nil 1))))]
def laws_toIntSS.r1 : List Ent := [
  E0 0 (some 5) none (.i (.mv (.t 0))),
  E0 1 (some 6) none (.i (.len (.t 5))),
  E0 2 (some 7) none (.i (.mks 1 24 (.sl 1 []) (.t 6) (.t 6))),
  E0 3 (some 3) none (.i (.mv (.t 7)))]
def laws_toIntSS.r2 : List Ent := [
  E0 0 (some 4) none (.i (.mv (.k (I64 0))))]
def laws_toIntSS.r3 : List Ent := [
  E0 0 (some 8) none (.i (.mv (.t 4))),
  E0 1 (some 9) none (.i (.mv (.t 0))),
  E0 2 (some 10) none (.i (.len (.t 9))),
  E0 3 (some 11) none (.i (.bin .lss (.t 8) (.t 10)))]
def laws_toIntSS.r4 : List Ent := [
  E0 0 (some 14) none (.i (.mv (.t 3))),
  E0 1 (some 15) none (.i (.mv (.t 4))),
  E0 2 (some 16) none (.i (.mv (.t 0))),
  E0 3 (some 17) none (.i (.mv (.t 4))),
  E0 4 (some 18) none (.i (.iad 1 (.t 16) (.t 17))),
  E0 5 (some 19) none (.i (.load false false 1 (.t 18))),
  E0 6 (some 20) none (.call F_laws_toIntS false (roA [.t 19])),
  E0 7 (some 21) none (.i (.iad 1 (.t 14) (.t 15))),
  E0 8 none none (.i (.store 1 (.t 21) (.t 20)))]
def laws_toIntSS.r5 : List Ent := [
  E0 0 (some 12) none (.i (.mv (.t 4))),
  E0 1 (some 13) none (.i (.bin .add (.t 12) (.k (I64 1)))),
  E0 2 (some 4) none (.i (.mv (.t 13)))]
def laws_toIntSS.b0 : KC := .seq (.seq (.reg 448 4 laws_toIntSS.r3) (.cond (.t 11) (.skip) (.exit 0))) (.seq (.block 1 (.reg 704 9 laws_toIntSS.r4)) (.reg 1280 3 laws_toIntSS.r5))
def laws_toIntSS.r6 : List Ent := [
  E0 0 (some 22) none (.i (.mv (.t 3))),
  E0 1 (some 2) none (.i (.mv (.t 22)))]
def laws_toIntSS.fi : FI := { res := [.t 2], code := .seq (.reg 64 1 laws_toIntSS.r0) (.seq (.reg 128 4 laws_toIntSS.r1) (.seq (.seq (.reg 384 1 laws_toIntSS.r2) (.block 0 (.loop laws_toIntSS.b0))) (.seq (.reg 1472 2 laws_toIntSS.r6) (.ret)))) }
attribute [go_sem] laws_toIntSS.r0 laws_toIntSS.r1 laws_toIntSS.r2 laws_toIntSS.r3 laws_toIntSS.r4 laws_toIntSS.r5 laws_toIntSS.r6
theorem laws_toIntSS.ok : chkF prog F_laws_toIntSS 1 laws_toIntSS.fi = true := by kernel_rfl

/-! impl_in -/
def impl_in.r0 : List Ent := [
  E0 0 (some 6) none (.i (.mv (.k (.dat none (.bool false)))))]
def impl_in.r1 : List Ent := [
  E0 0 (some 7) none (.i (.mv (.t 0))),
  E0 1 (some 8) none (.i (.mv (.t 1))),
  E0 2 (some 9) none (.i (.bin .geq (.t 7) (.t 8))),
  E0 3 (some 10) none (.i (.mv (.t 9))),
  E0 4 (some 11) (some (10, true)) (.i (.mv (.t 0))),
  E0 5 (some 12) (some (10, true)) (.i (.mv (.t 2))),
  E0 6 (some 13) (some (10, true)) (.i (.bin .leq (.t 11) (.t 12))),
  E0 7 (some 14) none (.i (.pick (.t 10) (.t 13) (.k (.dat none (.bool false))))),
  E0 8 (some 6) none (.i (.mv (.t 14)))]
def impl_in.fi : FI := { res := [.t 6], code := .seq (.reg 64 1 impl_in.r0) (.seq (.reg 128 9 impl_in.r1) (.ret)) }
attribute [go_sem] impl_in.r0 impl_in.r1
theorem impl_in.ok : chkF prog F_impl_in 3 impl_in.fi = true := by kernel_rfl

/-! slices_IndexFunc__ssint_sint -/
def slices_IndexFunc__ssint_sint.r0 : List Ent := [
  E0 0 (some 4) none (.i (.mv (.k (I64 0))))]
def slices_IndexFunc__ssint_sint.r1 : List Ent := [
  E0 0 (some 6) none (.i (.mv (.t 0))),
  E0 1 (some 7) none (.i (.len (.t 6))),
  E0 2 (some 8) none (.i (.mv (.k (I64 0))))]
def slices_IndexFunc__ssint_sint.r2 : List Ent := [
  E0 0 (some 9) none (.i (.bin .lss (.t 8) (.t 7)))]
def slices_IndexFunc__ssint_sint.r3 : List Ent := [
  E0 0 (some 10) none (.i (.mv (.t 8))),
  E0 1 (some 5) none (.i (.mv (.t 10)))]
def slices_IndexFunc__ssint_sint.r4 : List Ent := [
  E0 0 (some 11) none (.i (.mv (.t 1))),
  E0 1 (some 12) none (.i (.mv (.t 0))),
  E0 2 (some 13) none (.i (.mv (.t 5))),
  E0 3 (some 14) none (.i (.iad 1 (.t 12) (.t 13))),
  E0 4 (some 15) none (.i (.load false false 1 (.t 14))),
  E0 5 (some 16) none (.ccl (.t 11) false [.t 15])]
def slices_IndexFunc__ssint_sint.r5 : List Ent := [
  E0 0 (some 17) none (.i (.mv (.t 5))),
  E0 1 (some 4) none (.i (.mv (.t 17)))]
def slices_IndexFunc__ssint_sint.r6 : List Ent := [
  E0 0 (some 18) none (.i (.bin .add (.t 8) (.k (I64 1)))),
  E0 1 (some 8) none (.i (.mv (.t 18)))]
def slices_IndexFunc__ssint_sint.b0 : KC := .seq (.reg 320 1 slices_IndexFunc__ssint_sint.r2) (.seq (.cond (.t 9) (.skip) (.exit 0)) (.seq (.block 1 (.seq (.reg 384 2 slices_IndexFunc__ssint_sint.r3) (.seq (.reg 512 6 slices_IndexFunc__ssint_sint.r4) (.cond (.t 16) (.seq (.reg 896 2 slices_IndexFunc__ssint_sint.r5) (.ret)) (.skip))))) (.reg 1024 2 slices_IndexFunc__ssint_sint.r6)))
def slices_IndexFunc__ssint_sint.r7 : List Ent := [
  E0 0 (some 4) none (.i (.mv (.k (I64 (-1)))))]
def slices_IndexFunc__ssint_sint.fi : FI := { res := [.t 4], code := .seq (.reg 64 1 slices_IndexFunc__ssint_sint.r0) (.seq (.seq (.reg 128 3 slices_IndexFunc__ssint_sint.r1) (.block 0 (.loop slices_IndexFunc__ssint_sint.b0))) (.seq (.reg 1152 1 slices_IndexFunc__ssint_sint.r7) (.ret))) }
attribute [go_sem] slices_IndexFunc__ssint_sint.r0 slices_IndexFunc__ssint_sint.r1 slices_IndexFunc__ssint_sint.r2 slices_IndexFunc__ssint_sint.r3 slices_IndexFunc__ssint_sint.r4 slices_IndexFunc__ssint_sint.r5 slices_IndexFunc__ssint_sint.r6 slices_IndexFunc__ssint_sint.r7
theorem slices_IndexFunc__ssint_sint.ok : chkF prog F_slices_IndexFunc__ssint_sint 2 slices_IndexFunc__ssint_sint.fi = true := by kernel_rfl

/-! slices_ContainsFunc__ssint_sint -/
def slices_ContainsFunc__ssint_sint.r0 : List Ent := [
  E0 0 (some 4) none (.i (.mv (.k (.dat none (.bool false)))))]
def slices_ContainsFunc__ssint_sint.r1 : List Ent := [
  E0 0 (some 5) none (.i (.mv (.t 0))),
  E0 1 (some 6) none (.i (.mv (.t 1))),
  E0 2 (some 7) none (.call F_slices_IndexFunc__ssint_sint false (roA [.t 5, .t 6])),
  E0 3 (some 8) none (.i (.bin .geq (.t 7) (.k (I64 0)))),
  E0 4 (some 4) none (.i (.mv (.t 8)))]
def slices_ContainsFunc__ssint_sint.fi : FI := { res := [.t 4], code := .seq (.reg 64 1 slices_ContainsFunc__ssint_sint.r0) (.seq (.reg 128 5 slices_ContainsFunc__ssint_sint.r1) (.ret)) }
attribute [go_sem] slices_ContainsFunc__ssint_sint.r0 slices_ContainsFunc__ssint_sint.r1
theorem slices_ContainsFunc__ssint_sint.ok : chkF prog F_slices_ContainsFunc__ssint_sint 2 slices_ContainsFunc__ssint_sint.fi = true := by kernel_rfl

/-! impl_isLiteral -/
def impl_isLiteral.r0 : List Ent := [
  E0 0 (some 4) none (.i (.mv (.k (.dat none (.bool false)))))]
def impl_isLiteral.r1 : List Ent := [
  E0 0 (some 5) none (.i (.mv (.t 0))),
  E0 1 (some 6) none (.i (.bin .neq (.t 5) (.k (I64 0)))),
  E0 2 (some 7) none (.i (.mv (.t 6))),
  E0 3 (some 8) (some (7, true)) (.i (.mv (.t 0))),
  E0 4 (some 9) (some (7, true)) (.i (.mv (.t 1))),
  E0 5 (some 10) (some (7, true)) (.i (.un .neg (.t 9))),
  E0 6 (some 11) (some (7, true)) (.i (.mv (.t 1))),
  E0 7 (some 12) (some (7, true)) (.call F_impl_in false (roA [.t 8, .t 10, .t 11])),
  E0 8 (some 13) none (.i (.pick (.t 7) (.t 12) (.k (.dat none (.bool false))))),
  E0 9 (some 4) none (.i (.mv (.t 13)))]
def impl_isLiteral.fi : FI := { res := [.t 4], code := .seq (.reg 64 1 impl_isLiteral.r0) (.seq (.reg 128 10 impl_isLiteral.r1) (.ret)) }
attribute [go_sem] impl_isLiteral.r0 impl_isLiteral.r1
theorem impl_isLiteral.ok : chkF prog F_impl_isLiteral 2 impl_isLiteral.fi = true := by kernel_rfl

/-! slices_IndexFunc__sint_int -/
def slices_IndexFunc__sint_int.r0 : List Ent := [
  E0 0 (some 4) none (.i (.mv (.k (I64 0))))]
def slices_IndexFunc__sint_int.r1 : List Ent := [
  E0 0 (some 6) none (.i (.mv (.t 0))),
  E0 1 (some 7) none (.i (.len (.t 6))),
  E0 2 (some 8) none (.i (.mv (.k (I64 0))))]
def slices_IndexFunc__sint_int.r2 : List Ent := [
  E0 0 (some 9) none (.i (.bin .lss (.t 8) (.t 7)))]
def slices_IndexFunc__sint_int.r3 : List Ent := [
  E0 0 (some 10) none (.i (.mv (.t 8))),
  E0 1 (some 5) none (.i (.mv (.t 10)))]
def slices_IndexFunc__sint_int.r4 : List Ent := [
  E0 0 (some 11) none (.i (.mv (.t 1))),
  E0 1 (some 12) none (.i (.mv (.t 0))),
  E0 2 (some 13) none (.i (.mv (.t 5))),
  E0 3 (some 14) none (.i (.iad 1 (.t 12) (.t 13))),
  E0 4 (some 15) none (.i (.load false false 1 (.t 14))),
  E0 5 (some 16) none (.ccl (.t 11) false [.t 15])]
def slices_IndexFunc__sint_int.r5 : List Ent := [
  E0 0 (some 17) none (.i (.mv (.t 5))),
  E0 1 (some 4) none (.i (.mv (.t 17)))]
def slices_IndexFunc__sint_int.r6 : List Ent := [
  E0 0 (some 18) none (.i (.bin .add (.t 8) (.k (I64 1)))),
  E0 1 (some 8) none (.i (.mv (.t 18)))]
def slices_IndexFunc__sint_int.b0 : KC := .seq (.reg 320 1 slices_IndexFunc__sint_int.r2) (.seq (.cond (.t 9) (.skip) (.exit 0)) (.seq (.block 1 (.seq (.reg 384 2 slices_IndexFunc__sint_int.r3) (.seq (.reg 512 6 slices_IndexFunc__sint_int.r4) (.cond (.t 16) (.seq (.reg 896 2 slices_IndexFunc__sint_int.r5) (.ret)) (.skip))))) (.reg 1024 2 slices_IndexFunc__sint_int.r6)))
def slices_IndexFunc__sint_int.r7 : List Ent := [
  E0 0 (some 4) none (.i (.mv (.k (I64 (-1)))))]
def slices_IndexFunc__sint_int.fi : FI := { res := [.t 4], code := .seq (.reg 64 1 slices_IndexFunc__sint_int.r0) (.seq (.seq (.reg 128 3 slices_IndexFunc__sint_int.r1) (.block 0 (.loop slices_IndexFunc__sint_int.b0))) (.seq (.reg 1152 1 slices_IndexFunc__sint_int.r7) (.ret))) }
attribute [go_sem] slices_IndexFunc__sint_int.r0 slices_IndexFunc__sint_int.r1 slices_IndexFunc__sint_int.r2 slices_IndexFunc__sint_int.r3 slices_IndexFunc__sint_int.r4 slices_IndexFunc__sint_int.r5 slices_IndexFunc__sint_int.r6 slices_IndexFunc__sint_int.r7
theorem slices_IndexFunc__sint_int.ok : chkF prog F_slices_IndexFunc__sint_int 2 slices_IndexFunc__sint_int.fi = true := by kernel_rfl

/-! slices_ContainsFunc__sint_int -/
def slices_ContainsFunc__sint_int.r0 : List Ent := [
  E0 0 (some 4) none (.i (.mv (.k (.dat none (.bool false)))))]
def slices_ContainsFunc__sint_int.r1 : List Ent := [
  E0 0 (some 5) none (.i (.mv (.t 0))),
  E0 1 (some 6) none (.i (.mv (.t 1))),
  E0 2 (some 7) none (.call F_slices_IndexFunc__sint_int false (roA [.t 5, .t 6])),
  E0 3 (some 8) none (.i (.bin .geq (.t 7) (.k (I64 0)))),
  E0 4 (some 4) none (.i (.mv (.t 8)))]
def slices_ContainsFunc__sint_int.fi : FI := { res := [.t 4], code := .seq (.reg 64 1 slices_ContainsFunc__sint_int.r0) (.seq (.reg 128 5 slices_ContainsFunc__sint_int.r1) (.ret)) }
attribute [go_sem] slices_ContainsFunc__sint_int.r0 slices_ContainsFunc__sint_int.r1
theorem slices_ContainsFunc__sint_int.ok : chkF prog F_slices_ContainsFunc__sint_int 2 slices_ContainsFunc__sint_int.fi = true := by kernel_rfl

/-! impl_variable -/
def impl_variable.r0 : List Ent := [
  E0 0 (some 2) none (.i (.mv (.k (I64 0))))]
def impl_variable.r1 : List Ent := [
  E0 0 (some 3) none (.i (.mv (.t 0))),
  E0 1 (some 4) none (.i (.mv (.t 0))),
  E0 2 (some 5) none (.i (.un .neg (.t 4))),
  E0 3 (some 6) none (.i (.mnx true (.t 3) (.t 5))),
  E0 4 (some 2) none (.i (.mv (.t 6)))]
def impl_variable.fi : FI := { res := [.t 2], code := .seq (.reg 64 1 impl_variable.r0) (.seq (.reg 128 5 impl_variable.r1) (.ret)) }
attribute [go_sem] impl_variable.r0 impl_variable.r1
theorem impl_variable.ok : chkF prog F_impl_variable 1 impl_variable.fi = true := by kernel_rfl

/-! impl_isClause_c1 -/
def impl_isClause_c1.r0 : List Ent := [
  E0 0 (some 3) none (.i (.mv (.k (.dat none (.bool false)))))]
def impl_isClause_c1.r1 : List Ent := [
  E0 0 (some 4) none (.i (.mv (.t 0))),
  E2 1 (some 5) none (.call F_impl_variable false (roA [.t 4])),
  ER 2 (some 6) none (.load false false 1 (.t 1)),
  E0 3 (some 7) none (.call F_impl_variable false (roA [.t 6])),
  E0 4 (some 8) none (.i (.bin .eql (.t 5) (.t 7))),
  E0 5 (some 3) none (.i (.mv (.t 8)))]
def impl_isClause_c1.fi : FI := { res := [.t 3], code := .seq (.reg 64 1 impl_isClause_c1.r0) (.seq (.reg 128 6 impl_isClause_c1.r1) (.ret)) }
attribute [go_sem] impl_isClause_c1.r0 impl_isClause_c1.r1
theorem impl_isClause_c1.ok : chkF prog F_impl_isClause_c1 2 impl_isClause_c1.fi = true := by kernel_rfl

/-! impl_isClause -/
def impl_isClause.r0 : List Ent := [
  E0 0 (some 4) none (.i (.mv (.k (.dat none (.bool false)))))]
def impl_isClause.r1 : List Ent := [
  E0 0 (some 7) none (.i (.mv (.t 0))),
  E0 1 (some 8) none (.i (.len (.t 7))),
  E0 2 (some 9) none (.i (.mv (.k (I64 0))))]
def impl_isClause.r2 : List Ent := [
  E0 0 (some 10) none (.i (.bin .lss (.t 9) (.t 8)))]
def impl_isClause.r3 : List Ent := [
  E0 0 (some 11) none (.i (.mv (.t 9))),
  E0 1 (some 12) none (.i (.iad 1 (.t 7) (.t 9))),
  E0 2 (some 13) none (.i (.load false false 1 (.t 12))),
  E0 3 (some 6) none (.i (.box (.k (.dat none (.int .i64 0))))),
  E0 4 (some 5) none (.i (.mv (.t 11))),
  E0 5 none none (.i (.store 1 (.t 6) (.t 13)))]
def impl_isClause.r4 : List Ent := [
  E0 0 (some 14) none (.i (.load false false 1 (.t 6))),
  E0 1 (some 15) none (.i (.mv (.t 1))),
  E0 2 (some 16) none (.call F_impl_isLiteral false (roA [.t 14, .t 15])),
  E0 3 (some 17) none (.i (.un .not (.t 16))),
  E0 4 (some 18) none (.i (.mv (.t 17))),
  E0 5 (some 19) (some (18, false)) (.i (.mv (.t 0))),
  E0 6 (some 20) (some (18, false)) (.i (.mv (.t 5))),
  E0 7 (some 21) (some (18, false)) (.i (.slc 1 (.t 19) (none) (some (.t 20)))),
  E0 8 (some 22) (some (18, false)) (.i (.mkf F_impl_isClause_c1 [.t 6])),
  E0 9 (some 23) (some (18, false)) (.call F_slices_ContainsFunc__sint_int false (roA [.t 21, .t 22])),
  E0 10 (some 24) none (.i (.pick (.t 18) (.k (.dat none (.bool true))) (.t 23)))]
def impl_isClause.r5 : List Ent := [
  E0 0 (some 4) none (.i (.mv (.k (.dat none (.bool false)))))]
def impl_isClause.r6 : List Ent := [
  E0 0 (some 25) none (.i (.bin .add (.t 9) (.k (I64 1)))),
  E0 1 (some 9) none (.i (.mv (.t 25)))]
def impl_isClause.b0 : KC := .seq (.reg 320 1 impl_isClause.r2) (.seq (.cond (.t 10) (.skip) (.exit 0)) (.seq (.block 1 (.seq (.reg 384 6 impl_isClause.r3) (.seq (.reg 768 11 impl_isClause.r4) (.cond (.t 24) (.seq (.reg 1472 1 impl_isClause.r5) (.ret)) (.skip))))) (.reg 1536 2 impl_isClause.r6)))
def impl_isClause.r7 : List Ent := [
  E0 0 (some 26) none (.i (.mv (.t 0))),
  E0 1 (some 27) none (.i (.len (.t 26))),
  E0 2 (some 28) none (.i (.bin .leq (.t 27) (.k (I64 12)))),
  E0 3 (some 4) none (.i (.mv (.t 28)))]
def impl_isClause.fi : FI := { res := [.t 4], code := .seq (.reg 64 1 impl_isClause.r0) (.seq (.seq (.reg 128 3 impl_isClause.r1) (.block 0 (.loop impl_isClause.b0))) (.seq (.reg 1664 4 impl_isClause.r7) (.ret))) }
attribute [go_sem] impl_isClause.r0 impl_isClause.r1 impl_isClause.r2 impl_isClause.r3 impl_isClause.r4 impl_isClause.r5 impl_isClause.r6 impl_isClause.r7
theorem impl_isClause.ok : chkF prog F_impl_isClause 2 impl_isClause.fi = true := by kernel_rfl

/-! impl_areClauses_c1 -/
def impl_areClauses_c1.r0 : List Ent := [
  E0 0 (some 3) none (.i (.mv (.k (.dat none (.bool false)))))]
def impl_areClauses_c1.r1 : List Ent := [
  E0 0 (some 4) none (.i (.mv (.t 0))),
  E0 1 (some 5) none (.i (.load false false 1 (.t 1))),
  E0 2 (some 6) none (.call F_impl_isClause false (roA [.t 4, .t 5])),
  E0 3 (some 7) none (.i (.un .not (.t 6))),
  E0 4 (some 3) none (.i (.mv (.t 7)))]
def impl_areClauses_c1.fi : FI := { res := [.t 3], code := .seq (.reg 64 1 impl_areClauses_c1.r0) (.seq (.reg 128 5 impl_areClauses_c1.r1) (.ret)) }
attribute [go_sem] impl_areClauses_c1.r0 impl_areClauses_c1.r1
theorem impl_areClauses_c1.ok : chkF prog F_impl_areClauses_c1 2 impl_areClauses_c1.fi = true := by kernel_rfl

/-! impl_areClauses -/
def impl_areClauses.r0 : List Ent := [
  E0 0 (some 3) none (.i (.box (.t 1))),
  E0 1 (some 4) none (.i (.mv (.k (.dat none (.bool false)))))]
def impl_areClauses.r1 : List Ent := [
  E0 0 (some 5) none (.i (.mv (.t 0))),
  E0 1 (some 6) none (.i (.mkf F_impl_areClauses_c1 [.t 3])),
  E0 2 (some 7) none (.call F_slices_ContainsFunc__ssint_sint false (roA [.t 5, .t 6])),
  E0 3 (some 8) none (.i (.un .not (.t 7))),
  E0 4 (some 4) none (.i (.mv (.t 8)))]
def impl_areClauses.fi : FI := { res := [.t 4], code := .seq (.reg 64 2 impl_areClauses.r0) (.seq (.reg 192 5 impl_areClauses.r1) (.ret)) }
attribute [go_sem] impl_areClauses.r0 impl_areClauses.r1
theorem impl_areClauses.ok : chkF prog F_impl_areClauses 2 impl_areClauses.fi = true := by kernel_rfl

/-! impl_GoodClauses -/
def impl_GoodClauses.r0 : List Ent := [
  E0 0 (some 4) none (.i (.mv (.k (.dat none (.bool false)))))]
def impl_GoodClauses.r1 : List Ent := [
  E0 0 (some 5) none (.i (.mv (.t 0))),
  E0 1 (some 6) none (.call F_impl_in false (roA [.t 5, .k (I64 0), .k (I64 12)])),
  E0 2 (some 7) none (.i (.mv (.t 6))),
  E0 3 (some 8) (some (7, true)) (.i (.mv (.t 1))),
  E0 4 (some 9) (some (7, true)) (.i (.len (.t 8))),
  E0 5 (some 10) (some (7, true)) (.i (.bin .leq (.t 9) (.k (I64 60)))),
  E0 6 (some 11) none (.i (.pick (.t 7) (.t 10) (.k (.dat none (.bool false))))),
  E0 7 (some 12) none (.i (.mv (.t 11))),
  E0 8 (some 13) (some (12, true)) (.i (.mv (.t 1))),
  E0 9 (some 14) (some (12, true)) (.i (.mv (.t 0))),
  E0 10 (some 15) (some (12, true)) (.call F_impl_areClauses false (roA [.t 13, .t 14])),
  E0 11 (some 16) none (.i (.pick (.t 12) (.t 15) (.k (.dat none (.bool false))))),
  E0 12 (some 4) none (.i (.mv (.t 16)))]
def impl_GoodClauses.fi : FI := { res := [.t 4], code := .seq (.reg 64 1 impl_GoodClauses.r0) (.seq (.reg 128 13 impl_GoodClauses.r1) (.ret)) }
attribute [go_sem] impl_GoodClauses.r0 impl_GoodClauses.r1
theorem impl_GoodClauses.ok : chkF prog F_impl_GoodClauses 2 impl_GoodClauses.fi = true := by kernel_rfl

/-! impl_IsTwo_c1 -/
def impl_IsTwo_c1.r0 : List Ent := [
  E0 0 (some 2) none (.i (.mv (.k (.dat none (.bool false)))))]
def impl_IsTwo_c1.r1 : List Ent := [
  E0 0 (some 3) none (.i (.mv (.t 0))),
  E0 1 (some 4) none (.i (.len (.t 3))),
  E0 2 (some 5) none (.call F_impl_in false (roA [.t 4, .k (I64 1), .k (I64 2)])),
  E0 3 (some 6) none (.i (.un .not (.t 5))),
  E0 4 (some 2) none (.i (.mv (.t 6)))]
def impl_IsTwo_c1.fi : FI := { res := [.t 2], code := .seq (.reg 64 1 impl_IsTwo_c1.r0) (.seq (.reg 128 5 impl_IsTwo_c1.r1) (.ret)) }
attribute [go_sem] impl_IsTwo_c1.r0 impl_IsTwo_c1.r1
theorem impl_IsTwo_c1.ok : chkF prog F_impl_IsTwo_c1 1 impl_IsTwo_c1.fi = true := by kernel_rfl

/-! impl_IsTwo -/
def impl_IsTwo.r0 : List Ent := [
  E0 0 (some 4) none (.i (.mv (.k (.dat none (.bool false)))))]
def impl_IsTwo.r1 : List Ent := [
  E0 0 (some 5) none (.i (.mv (.t 0))),
  E0 1 (some 6) none (.i (.mv (.t 1))),
  E0 2 (some 7) none (.call F_impl_GoodClauses false (roA [.t 5, .t 6])),
  E0 3 (some 8) none (.i (.mv (.t 7))),
  E0 4 (some 9) (some (8, true)) (.i (.mv (.t 1))),
  E0 5 (some 10) (some (8, true)) (.call F_slices_ContainsFunc__ssint_sint false (roA [.t 9, .k (.clo F_impl_IsTwo_c1 [])])),
  E0 6 (some 11) (some (8, true)) (.i (.un .not (.t 10))),
  E0 7 (some 12) none (.i (.pick (.t 8) (.t 11) (.k (.dat none (.bool false))))),
  E0 8 (some 4) none (.i (.mv (.t 12)))]
def impl_IsTwo.fi : FI := { res := [.t 4], code := .seq (.reg 64 1 impl_IsTwo.r0) (.seq (.reg 128 9 impl_IsTwo.r1) (.ret)) }
attribute [go_sem] impl_IsTwo.r0 impl_IsTwo.r1
theorem impl_IsTwo.ok : chkF prog F_impl_IsTwo 2 impl_IsTwo.fi = true := by kernel_rfl

/-! slices_Index__sint_int -/
def slices_Index__sint_int.r0 : List Ent := [
  E0 0 (some 4) none (.i (.mv (.k (I64 0))))]
def slices_Index__sint_int.r1 : List Ent := [
  E0 0 (some 6) none (.i (.mv (.t 0))),
  E0 1 (some 7) none (.i (.len (.t 6))),
  E0 2 (some 8) none (.i (.mv (.k (I64 0))))]
def slices_Index__sint_int.r2 : List Ent := [
  E0 0 (some 9) none (.i (.bin .lss (.t 8) (.t 7)))]
def slices_Index__sint_int.r3 : List Ent := [
  E0 0 (some 10) none (.i (.mv (.t 8))),
  E0 1 (some 5) none (.i (.mv (.t 10)))]
def slices_Index__sint_int.r4 : List Ent := [
  E0 0 (some 11) none (.i (.mv (.t 1))),
  E0 1 (some 12) none (.i (.mv (.t 0))),
  E0 2 (some 13) none (.i (.mv (.t 5))),
  E0 3 (some 14) none (.i (.iad 1 (.t 12) (.t 13))),
  E0 4 (some 15) none (.i (.load false false 1 (.t 14))),
  E0 5 (some 16) none (.i (.bin .eql (.t 11) (.t 15)))]
def slices_Index__sint_int.r5 : List Ent := [
  E0 0 (some 17) none (.i (.mv (.t 5))),
  E0 1 (some 4) none (.i (.mv (.t 17)))]
def slices_Index__sint_int.r6 : List Ent := [
  E0 0 (some 18) none (.i (.bin .add (.t 8) (.k (I64 1)))),
  E0 1 (some 8) none (.i (.mv (.t 18)))]
def slices_Index__sint_int.b0 : KC := .seq (.reg 320 1 slices_Index__sint_int.r2) (.seq (.cond (.t 9) (.skip) (.exit 0)) (.seq (.block 1 (.seq (.reg 384 2 slices_Index__sint_int.r3) (.seq (.reg 512 6 slices_Index__sint_int.r4) (.cond (.t 16) (.seq (.reg 896 2 slices_Index__sint_int.r5) (.ret)) (.skip))))) (.reg 1024 2 slices_Index__sint_int.r6)))
def slices_Index__sint_int.r7 : List Ent := [
  E0 0 (some 4) none (.i (.mv (.k (I64 (-1)))))]
def slices_Index__sint_int.fi : FI := { res := [.t 4], code := .seq (.reg 64 1 slices_Index__sint_int.r0) (.seq (.seq (.reg 128 3 slices_Index__sint_int.r1) (.block 0 (.loop slices_Index__sint_int.b0))) (.seq (.reg 1152 1 slices_Index__sint_int.r7) (.ret))) }
attribute [go_sem] slices_Index__sint_int.r0 slices_Index__sint_int.r1 slices_Index__sint_int.r2 slices_Index__sint_int.r3 slices_Index__sint_int.r4 slices_Index__sint_int.r5 slices_Index__sint_int.r6 slices_Index__sint_int.r7
theorem slices_Index__sint_int.ok : chkF prog F_slices_Index__sint_int 2 slices_Index__sint_int.fi = true := by kernel_rfl

/-! slices_Contains__sint_int -/
def slices_Contains__sint_int.r0 : List Ent := [
  E0 0 (some 4) none (.i (.mv (.k (.dat none (.bool false)))))]
def slices_Contains__sint_int.r1 : List Ent := [
  E0 0 (some 5) none (.i (.mv (.t 0))),
  E0 1 (some 6) none (.i (.mv (.t 1))),
  E0 2 (some 7) none (.call F_slices_Index__sint_int false (roA [.t 5, .t 6])),
  E0 3 (some 8) none (.i (.bin .geq (.t 7) (.k (I64 0)))),
  E0 4 (some 4) none (.i (.mv (.t 8)))]
def slices_Contains__sint_int.fi : FI := { res := [.t 4], code := .seq (.reg 64 1 slices_Contains__sint_int.r0) (.seq (.reg 128 5 slices_Contains__sint_int.r1) (.ret)) }
attribute [go_sem] slices_Contains__sint_int.r0 slices_Contains__sint_int.r1
theorem slices_Contains__sint_int.ok : chkF prog F_slices_Contains__sint_int 2 slices_Contains__sint_int.fi = true := by kernel_rfl

/-! impl_leadsTo -/
def impl_leadsTo.r0 : List Ent := [
  E0 0 (some 4) none (.i (.mv (.k (.nil 1))))]
def impl_leadsTo.r1 : List Ent := [
  E0 0 (some 12) none (.i (.mv (.t 1))),
  E0 1 (some 13) none (.i (.bsl false 1 [.t 12])),
  E0 2 (some 5) none (.i (.mv (.t 13)))]
def impl_leadsTo.r2 : List Ent := [
  E0 0 (some 6) none (.i (.mv (.k (I64 0))))]
def impl_leadsTo.r3 : List Ent := [
  E0 0 (some 14) none (.i (.mv (.t 6))),
  E0 1 (some 15) none (.i (.mv (.t 5))),
  E0 2 (some 16) none (.i (.len (.t 15))),
  E0 3 (some 17) none (.i (.bin .lss (.t 14) (.t 16)))]
def impl_leadsTo.r4 : List Ent := [
  E0 0 (some 20) none (.i (.mv (.t 0))),
  E0 1 (some 21) none (.i (.len (.t 20))),
  E0 2 (some 22) none (.i (.mv (.k (I64 0))))]
def impl_leadsTo.r5 : List Ent := [
  E0 0 (some 23) none (.i (.bin .lss (.t 22) (.t 21)))]
def impl_leadsTo.r6 : List Ent := [
  E0 0 (some 24) none (.i (.iad 1 (.t 20) (.t 22))),
  E0 1 (some 25) none (.i (.load false false 1 (.t 24))),
  E0 2 (some 8) none (.i (.mv (.t 25)))]
def impl_leadsTo.r7 : List Ent := [
  E0 0 (some 26) none (.i (.mv (.t 8))),
  E0 1 (some 27) none (.i (.len (.t 26))),
  E0 2 (some 28) none (.i (.mv (.k (I64 0))))]
def impl_leadsTo.r8 : List Ent := [
  E0 0 (some 29) none (.i (.bin .lss (.t 28) (.t 27)))]
def impl_leadsTo.r9 : List Ent := [
  E0 0 (some 30) none (.i (.mv (.t 28))),
  E0 1 (some 31) none (.i (.iad 1 (.t 26) (.t 28))),
  E0 2 (some 32) none (.i (.load false false 1 (.t 31))),
  E0 3 (some 9) none (.i (.mv (.t 30))),
  E0 4 (some 10) none (.i (.mv (.t 32)))]
def impl_leadsTo.r10 : List Ent := [
  E0 0 (some 33) none (.i (.mv (.t 8))),
  E0 1 (some 34) none (.i (.mv (.t 8))),
  E0 2 (some 35) none (.i (.len (.t 34))),
  E0 3 (some 36) none (.i (.bin .sub (.t 35) (.k (I64 1)))),
  E0 4 (some 37) none (.i (.mv (.t 9))),
  E0 5 (some 38) none (.i (.bin .sub (.t 36) (.t 37))),
  E0 6 (some 39) none (.i (.iad 1 (.t 33) (.t 38))),
  E0 7 (some 40) none (.i (.load false false 1 (.t 39))),
  E0 8 (some 11) none (.i (.mv (.t 40)))]
def impl_leadsTo.r11 : List Ent := [
  E0 0 (some 41) none (.i (.mv (.t 10))),
  E0 1 (some 42) none (.i (.un .neg (.t 41))),
  E0 2 (some 43) none (.i (.mv (.t 5))),
  E0 3 (some 44) none (.i (.mv (.t 6))),
  E0 4 (some 45) none (.i (.iad 1 (.t 43) (.t 44))),
  E0 5 (some 46) none (.i (.load false false 1 (.t 45))),
  E0 6 (some 47) none (.i (.bin .eql (.t 42) (.t 46))),
  E0 7 (some 48) none (.i (.mv (.t 47))),
  E0 8 (some 49) (some (48, true)) (.i (.mv (.t 5))),
  E0 9 (some 50) (some (48, true)) (.i (.mv (.t 11))),
  E0 10 (some 51) (some (48, true)) (.call F_slices_Contains__sint_int false (roA [.t 49, .t 50])),
  E0 11 (some 52) (some (48, true)) (.i (.un .not (.t 51))),
  E0 12 (some 53) none (.i (.pick (.t 48) (.t 52) (.k (.dat none (.bool false)))))]
def impl_leadsTo.r12 : List Ent := [
  E0 0 (some 54) none (.i (.mv (.t 5))),
  E0 1 (some 55) none (.i (.mv (.t 11))),
  E0 2 (some 56) none (.i (.bsl true 1 [.t 55])),
  E0 3 (some 57) none (.i (.app 1 8 (.t 54) (.t 56))),
  E0 4 (some 5) none (.i (.mv (.t 57)))]
def impl_leadsTo.r13 : List Ent := [
  E0 0 (some 58) none (.i (.bin .add (.t 28) (.k (I64 1)))),
  E0 1 (some 28) none (.i (.mv (.t 58)))]
def impl_leadsTo.b0 : KC := .seq (.reg 1280 1 impl_leadsTo.r8) (.seq (.cond (.t 29) (.skip) (.exit 4)) (.seq (.block 5 (.seq (.reg 1344 5 impl_leadsTo.r9) (.seq (.reg 1664 9 impl_leadsTo.r10) (.seq (.reg 2240 13 impl_leadsTo.r11) (.cond (.t 53) (.reg 3072 5 impl_leadsTo.r12) (.skip)))))) (.reg 3392 2 impl_leadsTo.r13)))
def impl_leadsTo.r14 : List Ent := [
  E0 0 (some 59) none (.i (.bin .add (.t 22) (.k (I64 1)))),
  E0 1 (some 22) none (.i (.mv (.t 59)))]
def impl_leadsTo.b1 : KC := .seq (.reg 832 1 impl_leadsTo.r5) (.seq (.cond (.t 23) (.skip) (.exit 2)) (.seq (.block 3 (.seq (.reg 896 3 impl_leadsTo.r6) (.seq (.reg 1088 3 impl_leadsTo.r7) (.block 4 (.loop impl_leadsTo.b0))))) (.reg 3520 2 impl_leadsTo.r14)))
def impl_leadsTo.r15 : List Ent := [
  E0 0 (some 18) none (.i (.mv (.t 6))),
  E0 1 (some 19) none (.i (.bin .add (.t 18) (.k (I64 1)))),
  E0 2 (some 6) none (.i (.mv (.t 19)))]
def impl_leadsTo.b2 : KC := .seq (.seq (.reg 384 4 impl_leadsTo.r3) (.cond (.t 17) (.skip) (.exit 0))) (.seq (.block 1 (.seq (.reg 640 3 impl_leadsTo.r4) (.block 2 (.loop impl_leadsTo.b1)))) (.reg 3648 3 impl_leadsTo.r15))
def impl_leadsTo.r16 : List Ent := [
  E0 0 (some 60) none (.i (.mv (.t 5))),
  E0 1 (some 61) none (.call F_slices_Sort__sint_int false [(.io, .t 60)])]
def impl_leadsTo.r17 : List Ent := [
  E0 0 (some 62) none (.i (.mv (.t 5))),
  E0 1 (some 4) none (.i (.mv (.t 62)))]
def impl_leadsTo.fi : FI := { res := [.t 4], code := .seq (.reg 64 1 impl_leadsTo.r0) (.seq (.reg 128 3 impl_leadsTo.r1) (.seq (.seq (.reg 320 1 impl_leadsTo.r2) (.nrm 5 3264 1 (.block 0 (.loop impl_leadsTo.b2)))) (.seq (.reg 3840 2 impl_leadsTo.r16) (.seq (.reg 3968 2 impl_leadsTo.r17) (.ret))))) }
attribute [go_sem] impl_leadsTo.r0 impl_leadsTo.r1 impl_leadsTo.r2 impl_leadsTo.r3 impl_leadsTo.r4 impl_leadsTo.r5 impl_leadsTo.r6 impl_leadsTo.r7 impl_leadsTo.r8 impl_leadsTo.r9 impl_leadsTo.r10 impl_leadsTo.r11 impl_leadsTo.r12 impl_leadsTo.r13 impl_leadsTo.r14 impl_leadsTo.r15 impl_leadsTo.r16 impl_leadsTo.r17
theorem impl_leadsTo.ok : chkF prog F_impl_leadsTo 2 impl_leadsTo.fi = true := by kernel_rfl

/-! impl_leads -/
def impl_leads.r0 : List Ent := [
  E0 0 (some 6) none (.i (.mv (.k (.dat none (.bool false)))))]
def impl_leads.r1 : List Ent := [
  E0 0 (some 7) none (.i (.mv (.t 0))),
  E0 1 (some 8) none (.i (.mv (.t 1))),
  E0 2 (some 9) none (.call F_impl_leadsTo false (roA [.t 7, .t 8])),
  E0 3 (some 10) none (.i (.mv (.t 2))),
  E0 4 (some 11) none (.call F_slices_Contains__sint_int false (roA [.t 9, .t 10])),
  E0 5 (some 6) none (.i (.mv (.t 11)))]
def impl_leads.fi : FI := { res := [.t 6], code := .seq (.reg 64 1 impl_leads.r0) (.seq (.reg 128 6 impl_leads.r1) (.ret)) }
attribute [go_sem] impl_leads.r0 impl_leads.r1
theorem impl_leads.ok : chkF prog F_impl_leads 3 impl_leads.fi = true := by kernel_rfl

/-! laws_eqIntS -/
def laws_eqIntS.r0 : List Ent := [
  E0 0 (some 4) none (.i (.mv (.k (.dat none (.bool false)))))]
def laws_eqIntS.r1 : List Ent := [
  E0 0 (some 6) none (.i (.mv (.t 0))),
  E0 1 (some 7) none (.i (.len (.t 6))),
  E0 2 (some 8) none (.i (.mv (.t 1))),
  E0 3 (some 9) none (.i (.len (.t 8))),
  E0 4 (some 10) none (.i (.bin .neq (.t 7) (.t 9)))]
def laws_eqIntS.r2 : List Ent := [
  E0 0 (some 4) none (.i (.mv (.k (.dat none (.bool false)))))]
def laws_eqIntS.r3 : List Ent := [
  E0 0 (some 5) none (.i (.mv (.k (I64 0))))]
def laws_eqIntS.r4 : List Ent := [
  E0 0 (some 11) none (.i (.mv (.t 5))),
  E0 1 (some 12) none (.i (.mv (.t 0))),
  E0 2 (some 13) none (.i (.len (.t 12))),
  E0 3 (some 14) none (.i (.bin .lss (.t 11) (.t 13)))]
def laws_eqIntS.r5 : List Ent := [
  E0 0 (some 17) none (.i (.mv (.t 0))),
  E0 1 (some 18) none (.i (.mv (.t 5))),
  ER 2 (some 19) none (.iad 1 (.t 17) (.t 18)),
  ER 3 (some 20) none (.load false false 1 (.t 19)),
  E0 4 (some 21) none (.i (.mv (.t 1))),
  E0 5 (some 22) none (.i (.mv (.t 5))),
  ER 6 (some 23) none (.iad 1 (.t 21) (.t 22)),
  ER 7 (some 24) none (.load false false 1 (.t 23)),
  E0 8 (some 25) none (.i (.bin .neq (.t 20) (.t 24)))]
def laws_eqIntS.r6 : List Ent := [
  E0 0 (some 4) none (.i (.mv (.k (.dat none (.bool false)))))]
def laws_eqIntS.r7 : List Ent := [
  E0 0 (some 15) none (.i (.mv (.t 5))),
  E0 1 (some 16) none (.i (.bin .add (.t 15) (.k (I64 1)))),
  E0 2 (some 5) none (.i (.mv (.t 16)))]
def laws_eqIntS.b0 : KC := .seq (.seq (.reg 576 4 laws_eqIntS.r4) (.cond (.t 14) (.skip) (.exit 0))) (.seq (.block 1 (.seq (.reg 832 9 laws_eqIntS.r5) (.cond (.t 25) (.seq (.reg 1408 1 laws_eqIntS.r6) (.ret)) (.skip)))) (.reg 1472 3 laws_eqIntS.r7))
def laws_eqIntS.r8 : List Ent := [
  E0 0 (some 4) none (.i (.mv (.k (.dat none (.bool true)))))]
def laws_eqIntS.fi : FI := { res := [.t 4], code := .seq (.reg 64 1 laws_eqIntS.r0) (.seq (.seq (.reg 128 5 laws_eqIntS.r1) (.cond (.t 10) (.seq (.reg 448 1 laws_eqIntS.r2) (.ret)) (.skip))) (.seq (.seq (.reg 512 1 laws_eqIntS.r3) (.block 0 (.loop laws_eqIntS.b0))) (.seq (.reg 1664 1 laws_eqIntS.r8) (.ret)))) }
attribute [go_sem] laws_eqIntS.r0 laws_eqIntS.r1 laws_eqIntS.r2 laws_eqIntS.r3 laws_eqIntS.r4 laws_eqIntS.r5 laws_eqIntS.r6 laws_eqIntS.r7 laws_eqIntS.r8
theorem laws_eqIntS.ok : chkF prog F_laws_eqIntS 2 laws_eqIntS.fi = true := by kernel_rfl

/-! laws_eqIntSS -/
def laws_eqIntSS.r0 : List Ent := [
  E0 0 (some 4) none (.i (.mv (.k (.dat none (.bool false)))))]
def laws_eqIntSS.r1 : List Ent := [
  E0 0 (some 6) none (.i (.mv (.t 0))),
  E0 1 (some 7) none (.i (.len (.t 6))),
  E0 2 (some 8) none (.i (.mv (.t 1))),
  E0 3 (some 9) none (.i (.len (.t 8))),
  E0 4 (some 10) none (.i (.bin .neq (.t 7) (.t 9)))]
def laws_eqIntSS.r2 : List Ent := [
  E0 0 (some 4) none (.i (.mv (.k (.dat none (.bool false)))))]
def laws_eqIntSS.r3 : List Ent := [
  E0 0 (some 5) none (.i (.mv (.k (I64 0))))]
def laws_eqIntSS.r4 : List Ent := [
  E0 0 (some 11) none (.i (.mv (.t 5))),
  E0 1 (some 12) none (.i (.mv (.t 0))),
  E0 2 (some 13) none (.i (.len (.t 12))),
  E0 3 (some 14) none (.i (.bin .lss (.t 11) (.t 13)))]
def laws_eqIntSS.r5 : List Ent := [
  E0 0 (some 17) none (.i (.mv (.t 0))),
  E0 1 (some 18) none (.i (.mv (.t 5))),
  ER 2 (some 19) none (.iad 1 (.t 17) (.t 18)),
  ER 3 (some 20) none (.load false false 1 (.t 19)),
  E0 4 (some 21) none (.i (.mv (.t 1))),
  E0 5 (some 22) none (.i (.mv (.t 5))),
  ER 6 (some 23) none (.iad 1 (.t 21) (.t 22)),
  ER 7 (some 24) none (.load false false 1 (.t 23)),
  E0 8 (some 25) none (.call F_laws_eqIntS false (roA [.t 20, .t 24])),
  E0 9 (some 26) none (.i (.un .not (.t 25)))]
def laws_eqIntSS.r6 : List Ent := [
  E0 0 (some 4) none (.i (.mv (.k (.dat none (.bool false)))))]
def laws_eqIntSS.r7 : List Ent := [
  E0 0 (some 15) none (.i (.mv (.t 5))),
  E0 1 (some 16) none (.i (.bin .add (.t 15) (.k (I64 1)))),
  E0 2 (some 5) none (.i (.mv (.t 16)))]
def laws_eqIntSS.b0 : KC := .seq (.seq (.reg 576 4 laws_eqIntSS.r4) (.cond (.t 14) (.skip) (.exit 0))) (.seq (.block 1 (.seq (.reg 832 10 laws_eqIntSS.r5) (.cond (.t 26) (.seq (.reg 1472 1 laws_eqIntSS.r6) (.ret)) (.skip)))) (.reg 1536 3 laws_eqIntSS.r7))
def laws_eqIntSS.r8 : List Ent := [
  E0 0 (some 4) none (.i (.mv (.k (.dat none (.bool true)))))]
def laws_eqIntSS.fi : FI := { res := [.t 4], code := .seq (.reg 64 1 laws_eqIntSS.r0) (.seq (.seq (.reg 128 5 laws_eqIntSS.r1) (.cond (.t 10) (.seq (.reg 448 1 laws_eqIntSS.r2) (.ret)) (.skip))) (.seq (.seq (.reg 512 1 laws_eqIntSS.r3) (.block 0 (.loop laws_eqIntSS.b0))) (.seq (.reg 1728 1 laws_eqIntSS.r8) (.ret)))) }
attribute [go_sem] laws_eqIntSS.r0 laws_eqIntSS.r1 laws_eqIntSS.r2 laws_eqIntSS.r3 laws_eqIntSS.r4 laws_eqIntSS.r5 laws_eqIntSS.r6 laws_eqIntSS.r7 laws_eqIntSS.r8
theorem laws_eqIntSS.ok : chkF prog F_laws_eqIntSS 2 laws_eqIntSS.fi = true := by kernel_rfl

/-! laws_markIntS -/
def laws_markIntS.r0 : List Ent := [
  E0 0 (some 4) none (.i (.mv (.k (I64 0))))]
def laws_markIntS.r1 : List Ent := [
  E0 0 (some 5) none (.i (.mv (.k (I64 0))))]
def laws_markIntS.r2 : List Ent := [
  E0 0 (some 6) none (.i (.mv (.t 5))),
  E0 1 (some 7) none (.i (.mv (.t 0))),
  E0 2 (some 8) none (.i (.len (.t 7))),
  E0 3 (some 9) none (.i (.bin .lss (.t 6) (.t 8)))]
def laws_markIntS.r3 : List Ent := [
  E0 0 (some 12) none (.i (.mv (.t 0))),
  E0 1 (some 13) none (.i (.mv (.t 5))),
  E0 2 (some 14) none (.i (.mv (.t 1))),
  E0 3 (some 15) none (.i (.iad 1 (.t 12) (.t 13))),
  E0 4 none none (.i (.store 1 (.t 15) (.t 14)))]
def laws_markIntS.r4 : List Ent := [
  E0 0 (some 16) none (.i (.mv (.t 1))),
  E0 1 (some 17) none (.i (.bin .add (.t 16) (.k (I64 1)))),
  E0 2 (some 1) none (.i (.mv (.t 17)))]
def laws_markIntS.r5 : List Ent := [
  E0 0 (some 10) none (.i (.mv (.t 5))),
  E0 1 (some 11) none (.i (.bin .add (.t 10) (.k (I64 1)))),
  E0 2 (some 5) none (.i (.mv (.t 11)))]
def laws_markIntS.b0 : KC := .seq (.seq (.reg 192 4 laws_markIntS.r2) (.cond (.t 9) (.skip) (.exit 0))) (.seq (.block 1 (.seq (.reg 448 5 laws_markIntS.r3) (.reg 768 3 laws_markIntS.r4))) (.reg 960 3 laws_markIntS.r5))
def laws_markIntS.r6 : List Ent := [
  E0 0 (some 18) none (.i (.mv (.t 1))),
  E0 1 (some 4) none (.i (.mv (.t 18)))]
def laws_markIntS.fi : FI := { res := [.t 4], code := .seq (.reg 64 1 laws_markIntS.r0) (.seq (.seq (.reg 128 1 laws_markIntS.r1) (.block 0 (.loop laws_markIntS.b0))) (.seq (.reg 1152 2 laws_markIntS.r6) (.ret))) }
attribute [go_sem] laws_markIntS.r0 laws_markIntS.r1 laws_markIntS.r2 laws_markIntS.r3 laws_markIntS.r4 laws_markIntS.r5 laws_markIntS.r6
theorem laws_markIntS.ok : chkF prog F_laws_markIntS 2 laws_markIntS.fi = true := by kernel_rfl

/-! laws_markIntSS -/
def laws_markIntSS.r0 : List Ent := [
  E0 0 (some 4) none (.i (.mv (.k (I64 0))))]
def laws_markIntSS.r1 : List Ent := [
  E0 0 (some 5) none (.i (.mv (.k (I64 0))))]
def laws_markIntSS.r2 : List Ent := [
  E0 0 (some 6) none (.i (.mv (.t 5))),
  E0 1 (some 7) none (.i (.mv (.t 0))),
  E0 2 (some 8) none (.i (.len (.t 7))),
  E0 3 (some 9) none (.i (.bin .lss (.t 6) (.t 8)))]
def laws_markIntSS.r3 : List Ent := [
  E0 0 (some 12) none (.i (.mv (.t 0))),
  E0 1 (some 13) none (.i (.mv (.t 5))),
  E0 2 (some 14) none (.i (.iad 1 (.t 12) (.t 13))),
  E0 3 (some 15) none (.i (.load true false 1 (.t 14))),
  E0 4 (some 16) none (.i (.mv (.t 1))),
  E0 5 (some 17) none (.call F_laws_markIntS false [(.io, .t 15), (.ro, .t 16)]),
  E0 6 (some 1) none (.i (.mv (.t 17)))]
def laws_markIntSS.r4 : List Ent := [
  E0 0 (some 10) none (.i (.mv (.t 5))),
  E0 1 (some 11) none (.i (.bin .add (.t 10) (.k (I64 1)))),
  E0 2 (some 5) none (.i (.mv (.t 11)))]
def laws_markIntSS.b0 : KC := .seq (.seq (.reg 192 4 laws_markIntSS.r2) (.cond (.t 9) (.skip) (.exit 0))) (.seq (.block 1 (.reg 448 7 laws_markIntSS.r3)) (.reg 896 3 laws_markIntSS.r4))
def laws_markIntSS.r5 : List Ent := [
  E0 0 (some 18) none (.i (.mv (.t 1))),
  E0 1 (some 4) none (.i (.mv (.t 18)))]
def laws_markIntSS.fi : FI := { res := [.t 4], code := .seq (.reg 64 1 laws_markIntSS.r0) (.seq (.seq (.reg 128 1 laws_markIntSS.r1) (.block 0 (.loop laws_markIntSS.b0))) (.seq (.reg 1088 2 laws_markIntSS.r5) (.ret))) }
attribute [go_sem] laws_markIntSS.r0 laws_markIntSS.r1 laws_markIntSS.r2 laws_markIntSS.r3 laws_markIntSS.r4 laws_markIntSS.r5
theorem laws_markIntSS.ok : chkF prog F_laws_markIntSS 2 laws_markIntSS.fi = true := by kernel_rfl

/-! laws_heldIntS -/
def laws_heldIntS.r0 : List Ent := [
  E0 0 (some 4) none (.i (.mv (.k (I64 0))))]
def laws_heldIntS.r1 : List Ent := [
  E0 0 (some 5) none (.i (.mv (.k (I64 0))))]
def laws_heldIntS.r2 : List Ent := [
  E0 0 (some 6) none (.i (.mv (.t 5))),
  E0 1 (some 7) none (.i (.mv (.t 0))),
  E0 2 (some 8) none (.i (.len (.t 7))),
  E0 3 (some 9) none (.i (.bin .lss (.t 6) (.t 8)))]
def laws_heldIntS.r3 : List Ent := [
  E0 0 (some 12) none (.i (.mv (.t 0))),
  E0 1 (some 13) none (.i (.mv (.t 5))),
  E0 2 (some 14) none (.i (.iad 1 (.t 12) (.t 13))),
  E0 3 (some 15) none (.i (.load false false 1 (.t 14))),
  E0 4 (some 16) none (.i (.mv (.t 1))),
  E0 5 (some 17) none (.i (.bin .neq (.t 15) (.t 16)))]
def laws_heldIntS.r4 : List Ent := [
  E0 0 (some 4) none (.i (.mv (.k (I64 (-1)))))]
def laws_heldIntS.r5 : List Ent := [
  E0 0 (some 18) none (.i (.mv (.t 1))),
  E0 1 (some 19) none (.i (.bin .add (.t 18) (.k (I64 1)))),
  E0 2 (some 1) none (.i (.mv (.t 19)))]
def laws_heldIntS.r6 : List Ent := [
  E0 0 (some 10) none (.i (.mv (.t 5))),
  E0 1 (some 11) none (.i (.bin .add (.t 10) (.k (I64 1)))),
  E0 2 (some 5) none (.i (.mv (.t 11)))]
def laws_heldIntS.b0 : KC := .seq (.seq (.reg 192 4 laws_heldIntS.r2) (.cond (.t 9) (.skip) (.exit 0))) (.seq (.block 1 (.seq (.seq (.reg 448 6 laws_heldIntS.r3) (.cond (.t 17) (.seq (.reg 832 1 laws_heldIntS.r4) (.ret)) (.skip))) (.reg 896 3 laws_heldIntS.r5))) (.reg 1088 3 laws_heldIntS.r6))
def laws_heldIntS.r7 : List Ent := [
  E0 0 (some 20) none (.i (.mv (.t 1))),
  E0 1 (some 4) none (.i (.mv (.t 20)))]
def laws_heldIntS.fi : FI := { res := [.t 4], code := .seq (.reg 64 1 laws_heldIntS.r0) (.seq (.seq (.reg 128 1 laws_heldIntS.r1) (.block 0 (.loop laws_heldIntS.b0))) (.seq (.reg 1280 2 laws_heldIntS.r7) (.ret))) }
attribute [go_sem] laws_heldIntS.r0 laws_heldIntS.r1 laws_heldIntS.r2 laws_heldIntS.r3 laws_heldIntS.r4 laws_heldIntS.r5 laws_heldIntS.r6 laws_heldIntS.r7
theorem laws_heldIntS.ok : chkF prog F_laws_heldIntS 2 laws_heldIntS.fi = true := by kernel_rfl

/-! spec_LoopsOf -/
def spec_LoopsOf.r0 : List Ent := [
  E0 0 (some 4) none (.i (.mv (.k (.nil 1)))),
  E0 1 (some 5) none (.i (.mv (.k (.dat none (.bool false)))))]
def spec_LoopsOf.r1 : List Ent := [
  E0 0 (some 12) none (.i (.mv (.t 0))),
  E0 1 (some 13) none (.i (.mv (.t 1))),
  E0 2 (some 14) none (.call F_spec_IsTwo false (roA [.t 12, .t 13])),
  E0 3 (some 15) none (.i (.un .not (.t 14)))]
def spec_LoopsOf.r2 : List Ent := [
  E0 0 (some 4) none (.i (.mv (.k (.nil 1)))),
  E0 1 (some 5) none (.i (.mv (.k (.dat none (.bool false)))))]
def spec_LoopsOf.r3 : List Ent := [
  E0 0 (some 6) none (.i (.mv (.k (.nil 1))))]
def spec_LoopsOf.r4 : List Ent := [
  E0 0 (some 7) none (.i (.mv (.k (.nil 1))))]
def spec_LoopsOf.r5 : List Ent := [
  E0 0 (some 16) none (.i (.mv (.t 0))),
  E0 1 (some 17) none (.i (.un .neg (.t 16))),
  E0 2 (some 8) none (.i (.mv (.t 17)))]
def spec_LoopsOf.r6 : List Ent := [
  E0 0 (some 18) none (.i (.mv (.t 8))),
  E0 1 (some 19) none (.i (.mv (.t 0))),
  E0 2 (some 20) none (.i (.bin .leq (.t 18) (.t 19)))]
def spec_LoopsOf.r7 : List Ent := [
  E0 0 (some 23) none (.i (.mv (.t 8))),
  E0 1 (some 24) none (.i (.bin .eql (.t 23) (.k (I64 0)))),
  E0 2 (some 25) none (.i (.mv (.t 24))),
  E0 3 (some 26) (some (25, false)) (.i (.mv (.t 6))),
  E0 4 (some 27) (some (25, false)) (.i (.mv (.t 8))),
  E0 5 (some 28) (some (25, false)) (.call F_spec_l1Has false (roA [.t 26, .t 27])),
  E0 6 (some 29) none (.i (.pick (.t 25) (.k (.dat none (.bool true))) (.t 28)))]
def spec_LoopsOf.r8 : List Ent := [
  E0 0 (some 9) none (.i (.mv (.k (.nil 1))))]
def spec_LoopsOf.r9 : List Ent := [
  E0 0 (some 30) none (.i (.mv (.t 1))),
  E0 1 (some 31) none (.i (.mv (.t 8))),
  E0 2 (some 32) none (.call F_spec_l15Leads false (roA [.t 30, .t 31])),
  E0 3 (some 33) none (.i (.len (.t 32))),
  E0 4 (some 34) none (.i (.mv (.k (I64 0))))]
def spec_LoopsOf.r10 : List Ent := [
  E0 0 (some 35) none (.i (.bin .lss (.t 34) (.t 33)))]
def spec_LoopsOf.r11 : List Ent := [
  E0 0 (some 36) none (.i (.iad 1 (.t 32) (.t 34))),
  E0 1 (some 37) none (.i (.load false false 1 (.t 36))),
  E0 2 (some 11) none (.i (.mv (.t 37)))]
def spec_LoopsOf.r12 : List Ent := [
  E0 0 (some 38) none (.i (.mv (.t 1))),
  E0 1 (some 39) none (.i (.mv (.t 11))),
  E0 2 (some 40) none (.call F_spec_l15Leads false (roA [.t 38, .t 39])),
  E0 3 (some 41) none (.i (.mv (.t 8))),
  E0 4 (some 42) none (.call F_spec_l1Has false (roA [.t 40, .t 41]))]
def spec_LoopsOf.r13 : List Ent := [
  E0 0 (some 43) none (.i (.mv (.t 9))),
  E0 1 (some 44) none (.i (.mv (.t 11))),
  E0 2 (some 45) none (.i (.bsl true 1 [.t 44])),
  E0 3 (some 46) none (.i (.app 1 8 (.t 43) (.t 45))),
  E0 4 (some 9) none (.i (.mv (.t 46)))]
def spec_LoopsOf.r14 : List Ent := [
  E0 0 (some 47) none (.i (.mv (.t 6))),
  E0 1 (some 48) none (.i (.mv (.t 11))),
  E0 2 (some 49) none (.i (.bsl true 1 [.t 48])),
  E0 3 (some 50) none (.i (.app 1 8 (.t 47) (.t 49))),
  E0 4 (some 6) none (.i (.mv (.t 50)))]
def spec_LoopsOf.r15 : List Ent := [
  E0 0 (some 51) none (.i (.bin .add (.t 34) (.k (I64 1)))),
  E0 1 (some 34) none (.i (.mv (.t 51)))]
def spec_LoopsOf.b0 : KC := .seq (.reg 1920 1 spec_LoopsOf.r10) (.seq (.cond (.t 35) (.skip) (.exit 2)) (.seq (.block 3 (.seq (.reg 1984 3 spec_LoopsOf.r11) (.seq (.reg 2176 5 spec_LoopsOf.r12) (.cond (.t 42) (.seq (.reg 2496 5 spec_LoopsOf.r13) (.reg 2816 5 spec_LoopsOf.r14)) (.skip))))) (.reg 3136 2 spec_LoopsOf.r15)))
def spec_LoopsOf.r16 : List Ent := [
  E0 0 (some 52) none (.i (.mv (.t 7))),
  E0 1 (some 53) none (.i (.mv (.t 9))),
  E0 2 (some 54) none (.i (.bsl false 1 [.t 53])),
  E0 3 (some 55) none (.i (.app 1 24 (.t 52) (.t 54))),
  E0 4 (some 7) none (.i (.mv (.t 55)))]
def spec_LoopsOf.r17 : List Ent := [
  E0 0 (some 21) none (.i (.mv (.t 8))),
  E0 1 (some 22) none (.i (.bin .add (.t 21) (.k (I64 1)))),
  E0 2 (some 8) none (.i (.mv (.t 22)))]
def spec_LoopsOf.b1 : KC := .seq (.seq (.reg 896 3 spec_LoopsOf.r6) (.cond (.t 20) (.skip) (.exit 0))) (.seq (.block 1 (.seq (.seq (.reg 1088 7 spec_LoopsOf.r7) (.cond (.t 29) (.exit 1) (.skip))) (.seq (.reg 1536 1 spec_LoopsOf.r8) (.seq (.seq (.reg 1600 5 spec_LoopsOf.r9) (.block 2 (.loop spec_LoopsOf.b0))) (.reg 3264 5 spec_LoopsOf.r16))))) (.reg 3584 3 spec_LoopsOf.r17))
def spec_LoopsOf.r18 : List Ent := [
  E0 0 (some 56) none (.i (.mv (.t 7))),
  E0 1 (some 4) none (.i (.mv (.t 56))),
  E0 2 (some 5) none (.i (.mv (.k (.dat none (.bool true)))))]
def spec_LoopsOf.fi : FI := { res := [.t 4, .t 5], code := .seq (.reg 64 2 spec_LoopsOf.r0) (.seq (.seq (.reg 192 4 spec_LoopsOf.r1) (.cond (.t 15) (.seq (.reg 448 2 spec_LoopsOf.r2) (.ret)) (.skip))) (.seq (.reg 576 1 spec_LoopsOf.r3) (.seq (.reg 640 1 spec_LoopsOf.r4) (.seq (.seq (.reg 704 3 spec_LoopsOf.r5) (.nrm 6 3008 1 (.nrm 7 3456 1 (.nrm 9 2688 1 (.block 0 (.loop spec_LoopsOf.b1)))))) (.seq (.reg 3776 3 spec_LoopsOf.r18) (.ret)))))) }
attribute [go_sem] spec_LoopsOf.r0 spec_LoopsOf.r1 spec_LoopsOf.r2 spec_LoopsOf.r3 spec_LoopsOf.r4 spec_LoopsOf.r5 spec_LoopsOf.r6 spec_LoopsOf.r7 spec_LoopsOf.r8 spec_LoopsOf.r9 spec_LoopsOf.r10 spec_LoopsOf.r11 spec_LoopsOf.r12 spec_LoopsOf.r13 spec_LoopsOf.r14 spec_LoopsOf.r15 spec_LoopsOf.r16 spec_LoopsOf.r17 spec_LoopsOf.r18
theorem spec_LoopsOf.ok : chkF prog F_spec_LoopsOf 2 spec_LoopsOf.fi = true := by kernel_rfl

/-! slices_DeleteFunc__sint_int -/
def slices_DeleteFunc__sint_int.r0 : List Ent := [
  E0 0 (some 4) none (.i (.mv (.k (.nil 1))))]
def slices_DeleteFunc__sint_int.r1 : List Ent := [
  E0 0 (some 8) none (.i (.mv (.t 0))),
  E0 1 (some 9) none (.i (.mv (.t 1))),
  E0 2 (some 10) none (.call F_slices_IndexFunc__sint_int false (roA [.t 8, .t 9])),
  E0 3 (some 5) none (.i (.mv (.t 10)))]
def slices_DeleteFunc__sint_int.r2 : List Ent := [
  E0 0 (some 11) none (.i (.mv (.t 5))),
  E0 1 (some 12) none (.i (.bin .eql (.t 11) (.k (I64 (-1)))))]
def slices_DeleteFunc__sint_int.r3 : List Ent := [
  E0 0 (some 13) none (.i (.mv (.t 0))),
  E0 1 (some 4) none (.i (.mv (.t 13)))]
def slices_DeleteFunc__sint_int.r4 : List Ent := [
  E0 0 (some 14) none (.i (.mv (.t 5))),
  E0 1 (some 15) none (.i (.bin .add (.t 14) (.k (I64 1)))),
  E0 2 (some 6) none (.i (.mv (.t 15)))]
def slices_DeleteFunc__sint_int.r5 : List Ent := [
  E0 0 (some 16) none (.i (.mv (.t 6))),
  E0 1 (some 17) none (.i (.mv (.t 0))),
  E0 2 (some 18) none (.i (.len (.t 17))),
  E0 3 (some 19) none (.i (.bin .lss (.t 16) (.t 18)))]
def slices_DeleteFunc__sint_int.r6 : List Ent := [
  E0 0 (some 22) none (.i (.mv (.t 0))),
  E0 1 (some 23) none (.i (.mv (.t 6))),
  E0 2 (some 24) none (.i (.iad 1 (.t 22) (.t 23))),
  E0 3 (some 25) none (.i (.load false false 1 (.t 24))),
  E0 4 (some 7) none (.i (.mv (.t 25)))]
def slices_DeleteFunc__sint_int.r7 : List Ent := [
  E0 0 (some 26) none (.i (.mv (.t 1))),
  E0 1 (some 27) none (.i (.mv (.t 7))),
  E0 2 (some 28) none (.ccl (.t 26) false [.t 27]),
  E0 3 (some 29) none (.i (.un .not (.t 28)))]
def slices_DeleteFunc__sint_int.r8 : List Ent := [
  E0 0 (some 30) none (.i (.mv (.t 0))),
  E0 1 (some 31) none (.i (.mv (.t 5))),
  E0 2 (some 32) none (.i (.mv (.t 7))),
  E0 3 (some 33) none (.i (.iad 1 (.t 30) (.t 31))),
  E0 4 none none (.i (.store 1 (.t 33) (.t 32)))]
def slices_DeleteFunc__sint_int.r9 : List Ent := [
  E0 0 (some 34) none (.i (.mv (.t 5))),
  E0 1 (some 35) none (.i (.bin .add (.t 34) (.k (I64 1)))),
  E0 2 (some 5) none (.i (.mv (.t 35)))]
def slices_DeleteFunc__sint_int.r10 : List Ent := [
  E0 0 (some 20) none (.i (.mv (.t 6))),
  E0 1 (some 21) none (.i (.bin .add (.t 20) (.k (I64 1)))),
  E0 2 (some 6) none (.i (.mv (.t 21)))]
def slices_DeleteFunc__sint_int.b0 : KC := .seq (.seq (.reg 832 4 slices_DeleteFunc__sint_int.r5) (.cond (.t 19) (.skip) (.exit 0))) (.seq (.block 1 (.seq (.reg 1088 5 slices_DeleteFunc__sint_int.r6) (.seq (.reg 1408 4 slices_DeleteFunc__sint_int.r7) (.cond (.t 29) (.seq (.reg 1664 5 slices_DeleteFunc__sint_int.r8) (.reg 1984 3 slices_DeleteFunc__sint_int.r9)) (.skip))))) (.reg 2176 3 slices_DeleteFunc__sint_int.r10))
def slices_DeleteFunc__sint_int.r11 : List Ent := [
  E0 0 (some 36) none (.i (.mv (.t 0))),
  E0 1 (some 37) none (.i (.mv (.t 5))),
  E0 2 (some 38) none (.i (.slc 1 (.t 36) (some (.t 37)) (none))),
  E0 3 none none (.i (.clr 1 (.int .i64 0) (.t 38)))]
def slices_DeleteFunc__sint_int.r12 : List Ent := [
  E0 0 (some 39) none (.i (.mv (.t 0))),
  E0 1 (some 40) none (.i (.mv (.t 5))),
  E0 2 (some 41) none (.i (.slc 1 (.t 39) (none) (some (.t 40)))),
  E0 3 (some 4) none (.i (.mv (.t 41)))]
def slices_DeleteFunc__sint_int.fi : FI := { res := [.t 4], code := .seq (.reg 64 1 slices_DeleteFunc__sint_int.r0) (.seq (.reg 128 4 slices_DeleteFunc__sint_int.r1) (.seq (.seq (.reg 384 2 slices_DeleteFunc__sint_int.r2) (.cond (.t 12) (.seq (.reg 512 2 slices_DeleteFunc__sint_int.r3) (.ret)) (.skip))) (.seq (.seq (.reg 640 3 slices_DeleteFunc__sint_int.r4) (.block 0 (.loop slices_DeleteFunc__sint_int.b0))) (.seq (.reg 2368 4 slices_DeleteFunc__sint_int.r11) (.seq (.reg 2624 4 slices_DeleteFunc__sint_int.r12) (.ret)))))) }
attribute [go_sem] slices_DeleteFunc__sint_int.r0 slices_DeleteFunc__sint_int.r1 slices_DeleteFunc__sint_int.r2 slices_DeleteFunc__sint_int.r3 slices_DeleteFunc__sint_int.r4 slices_DeleteFunc__sint_int.r5 slices_DeleteFunc__sint_int.r6 slices_DeleteFunc__sint_int.r7 slices_DeleteFunc__sint_int.r8 slices_DeleteFunc__sint_int.r9 slices_DeleteFunc__sint_int.r10 slices_DeleteFunc__sint_int.r11 slices_DeleteFunc__sint_int.r12
theorem slices_DeleteFunc__sint_int.ok : chkF prog F_slices_DeleteFunc__sint_int 2 slices_DeleteFunc__sint_int.fi = true := by kernel_rfl

/-! impl_LoopsOf_c1 -/
def impl_LoopsOf_c1.r0 : List Ent := [
  E0 0 (some 4) none (.i (.mv (.k (.dat none (.bool false)))))]
def impl_LoopsOf_c1.r1 : List Ent := [
  E0 0 (some 5) none (.i (.load false false 1 (.t 1))),
  E0 1 (some 6) none (.i (.mv (.t 0))),
  E0 2 (some 7) none (.i (.load false false 1 (.t 2))),
  E0 3 (some 8) none (.call F_impl_leads false (roA [.t 5, .t 6, .t 7])),
  E0 4 (some 9) none (.i (.un .not (.t 8))),
  E0 5 (some 4) none (.i (.mv (.t 9)))]
def impl_LoopsOf_c1.fi : FI := { res := [.t 4], code := .seq (.reg 64 1 impl_LoopsOf_c1.r0) (.seq (.reg 128 6 impl_LoopsOf_c1.r1) (.ret)) }
attribute [go_sem] impl_LoopsOf_c1.r0 impl_LoopsOf_c1.r1
theorem impl_LoopsOf_c1.ok : chkF prog F_impl_LoopsOf_c1 3 impl_LoopsOf_c1.fi = true := by kernel_rfl

/-! impl_LoopsOf -/
def impl_LoopsOf.r0 : List Ent := [
  E0 0 (some 3) none (.i (.box (.t 1))),
  E0 1 (some 4) none (.i (.mv (.k (.nil 1)))),
  E0 2 (some 5) none (.i (.mv (.k (.dat none (.bool false)))))]
def impl_LoopsOf.r1 : List Ent := [
  E0 0 (some 9) none (.i (.mv (.t 0))),
  E0 1 (some 10) none (.i (.load false false 1 (.t 3))),
  E0 2 (some 11) none (.call F_impl_IsTwo false (roA [.t 9, .t 10])),
  E0 3 (some 12) none (.i (.un .not (.t 11)))]
def impl_LoopsOf.r2 : List Ent := [
  E0 0 (some 4) none (.i (.mv (.k (.nil 1)))),
  E0 1 (some 5) none (.i (.mv (.k (.dat none (.bool false)))))]
def impl_LoopsOf.r3 : List Ent := [
  E0 0 (some 6) none (.i (.mv (.k (.nil 1))))]
def impl_LoopsOf.r4 : List Ent := [
  E0 0 (some 13) none (.i (.mv (.t 0))),
  E0 1 (some 14) none (.i (.un .neg (.t 13))),
  E0 2 (some 7) none (.i (.box (.k (.dat none (.int .i64 0))))),
  E0 3 none none (.i (.store 1 (.t 7) (.t 14)))]
def impl_LoopsOf.r5 : List Ent := [
  E0 0 (some 15) none (.i (.load false false 1 (.t 7))),
  E0 1 (some 16) none (.i (.mv (.t 0))),
  E0 2 (some 17) none (.i (.bin .leq (.t 15) (.t 16)))]
def impl_LoopsOf.r6 : List Ent := [
  E0 0 (some 20) none (.i (.load false false 1 (.t 7))),
  E0 1 (some 21) none (.i (.bin .eql (.t 20) (.k (I64 0))))]
def impl_LoopsOf.r7 : List Ent := [
  E0 0 (some 22) none (.i (.load false false 1 (.t 3))),
  E0 1 (some 23) none (.i (.load false false 1 (.t 7))),
  E0 2 (some 24) none (.call F_impl_leadsTo false (roA [.t 22, .t 23])),
  E0 3 (some 25) none (.i (.mkf F_impl_LoopsOf_c1 [.t 3, .t 7])),
  E0 4 (some 26) none (.call F_slices_DeleteFunc__sint_int false [(.co, .t 24), (.ro, .t 25)]),
  E0 5 (some 8) none (.i (.mv (.t 26)))]
def impl_LoopsOf.r8 : List Ent := [
  E0 0 (some 27) none (.i (.mv (.t 8))),
  ER 1 (some 28) none (.iad 1 (.t 27) (.k (I64 0))),
  ER 2 (some 29) none (.load false false 1 (.t 28)),
  ER 3 (some 30) none (.load false false 1 (.t 7)),
  E0 4 (some 31) none (.i (.bin .eql (.t 29) (.t 30)))]
def impl_LoopsOf.r9 : List Ent := [
  E0 0 (some 32) none (.i (.mv (.t 6))),
  E0 1 (some 33) none (.i (.mv (.t 8))),
  E0 2 (some 34) none (.i (.bsl false 1 [.t 33])),
  E0 3 (some 35) none (.i (.app 1 24 (.t 32) (.t 34))),
  E0 4 (some 6) none (.i (.mv (.t 35)))]
def impl_LoopsOf.r10 : List Ent := [
  E0 0 (some 36) none (.i (.load false false 1 (.t 7)))]
def impl_LoopsOf.r11 : List Ent := [
  E0 0 (some 7) none (.i (.box (.k (.dat none (.int .i64 0))))),
  E0 1 none none (.i (.store 1 (.t 7) (.t 36)))]
def impl_LoopsOf.r12 : List Ent := [
  E0 0 (some 18) none (.i (.load false false 1 (.t 7))),
  E0 1 (some 19) none (.i (.bin .add (.t 18) (.k (I64 1)))),
  E0 2 none none (.i (.store 1 (.t 7) (.t 19)))]
def impl_LoopsOf.b0 : KC := .seq (.seq (.reg 960 3 impl_LoopsOf.r5) (.cond (.t 17) (.skip) (.exit 0))) (.seq (.block 1 (.seq (.seq (.reg 1152 2 impl_LoopsOf.r6) (.cond (.t 21) (.exit 1) (.skip))) (.seq (.reg 1280 6 impl_LoopsOf.r7) (.seq (.reg 1664 5 impl_LoopsOf.r8) (.cond (.t 31) (.reg 1984 5 impl_LoopsOf.r9) (.skip)))))) (.seq (.seq (.reg 2304 1 impl_LoopsOf.r10) (.reg 2368 2 impl_LoopsOf.r11)) (.reg 2496 3 impl_LoopsOf.r12)))
def impl_LoopsOf.r13 : List Ent := [
  E0 0 (some 37) none (.i (.mv (.t 6))),
  E0 1 (some 4) none (.i (.mv (.t 37))),
  E0 2 (some 5) none (.i (.mv (.k (.dat none (.bool true)))))]
def impl_LoopsOf.fi : FI := { res := [.t 4, .t 5], code := .seq (.reg 64 3 impl_LoopsOf.r0) (.seq (.seq (.reg 256 4 impl_LoopsOf.r1) (.cond (.t 12) (.seq (.reg 512 2 impl_LoopsOf.r2) (.ret)) (.skip))) (.seq (.reg 640 1 impl_LoopsOf.r3) (.seq (.seq (.reg 704 4 impl_LoopsOf.r4) (.nrm 6 2176 1 (.block 0 (.loop impl_LoopsOf.b0)))) (.seq (.reg 2688 3 impl_LoopsOf.r13) (.ret))))) }
attribute [go_sem] impl_LoopsOf.r0 impl_LoopsOf.r1 impl_LoopsOf.r2 impl_LoopsOf.r3 impl_LoopsOf.r4 impl_LoopsOf.r5 impl_LoopsOf.r6 impl_LoopsOf.r7 impl_LoopsOf.r8 impl_LoopsOf.r9 impl_LoopsOf.r10 impl_LoopsOf.r11 impl_LoopsOf.r12 impl_LoopsOf.r13
theorem impl_LoopsOf.ok : chkF prog F_impl_LoopsOf 2 impl_LoopsOf.fi = true := by kernel_rfl

/-! laws_heldIntSS -/
def laws_heldIntSS.r0 : List Ent := [
  E0 0 (some 4) none (.i (.mv (.k (I64 0))))]
def laws_heldIntSS.r1 : List Ent := [
  E0 0 (some 5) none (.i (.mv (.k (I64 0))))]
def laws_heldIntSS.r2 : List Ent := [
  E0 0 (some 6) none (.i (.mv (.t 5))),
  E0 1 (some 7) none (.i (.mv (.t 0))),
  E0 2 (some 8) none (.i (.len (.t 7))),
  E0 3 (some 9) none (.i (.bin .lss (.t 6) (.t 8)))]
def laws_heldIntSS.r3 : List Ent := [
  E0 0 (some 12) none (.i (.mv (.t 0))),
  E0 1 (some 13) none (.i (.mv (.t 5))),
  E0 2 (some 14) none (.i (.iad 1 (.t 12) (.t 13))),
  E0 3 (some 15) none (.i (.load false false 1 (.t 14))),
  E0 4 (some 16) none (.i (.mv (.t 1))),
  E0 5 (some 17) none (.call F_laws_heldIntS false (roA [.t 15, .t 16])),
  E0 6 (some 1) none (.i (.mv (.t 17)))]
def laws_heldIntSS.r4 : List Ent := [
  E0 0 (some 18) none (.i (.mv (.t 1))),
  E0 1 (some 19) none (.i (.bin .lss (.t 18) (.k (I64 0))))]
def laws_heldIntSS.r5 : List Ent := [
  E0 0 (some 4) none (.i (.mv (.k (I64 (-1)))))]
def laws_heldIntSS.r6 : List Ent := [
  E0 0 (some 10) none (.i (.mv (.t 5))),
  E0 1 (some 11) none (.i (.bin .add (.t 10) (.k (I64 1)))),
  E0 2 (some 5) none (.i (.mv (.t 11)))]
def laws_heldIntSS.b0 : KC := .seq (.seq (.reg 192 4 laws_heldIntSS.r2) (.cond (.t 9) (.skip) (.exit 0))) (.seq (.block 1 (.seq (.reg 448 7 laws_heldIntSS.r3) (.seq (.reg 896 2 laws_heldIntSS.r4) (.cond (.t 19) (.seq (.reg 1024 1 laws_heldIntSS.r5) (.ret)) (.skip))))) (.reg 1088 3 laws_heldIntSS.r6))
def laws_heldIntSS.r7 : List Ent := [
  E0 0 (some 20) none (.i (.mv (.t 1))),
  E0 1 (some 4) none (.i (.mv (.t 20)))]
def laws_heldIntSS.fi : FI := { res := [.t 4], code := .seq (.reg 64 1 laws_heldIntSS.r0) (.seq (.seq (.reg 128 1 laws_heldIntSS.r1) (.block 0 (.loop laws_heldIntSS.b0))) (.seq (.reg 1280 2 laws_heldIntSS.r7) (.ret))) }
attribute [go_sem] laws_heldIntSS.r0 laws_heldIntSS.r1 laws_heldIntSS.r2 laws_heldIntSS.r3 laws_heldIntSS.r4 laws_heldIntSS.r5 laws_heldIntSS.r6 laws_heldIntSS.r7
theorem laws_heldIntSS.ok : chkF prog F_laws_heldIntSS 2 laws_heldIntSS.fi = true := by kernel_rfl

/-! laws_FnExactLoopsOf -/
def laws_FnExactLoopsOf.r0 : List Ent := [
  E0 0 (some 4) none (.i (.mv (.k (.dat none (.bool false)))))]
def laws_FnExactLoopsOf.r1 : List Ent := [
  E0 0 (some 5) none (.i (.mv (.k (I64 1048576))))]
def laws_FnExactLoopsOf.r2 : List Ent := [
  E0 0 (some 16) none (.i (.mv (.t 1))),
  E0 1 (some 17) none (.i (.mv (.t 5))),
  E0 2 (some 18) none (.call F_laws_szIntSS false (roA [.t 16, .t 17])),
  E0 3 (some 5) none (.i (.mv (.t 18)))]
def laws_FnExactLoopsOf.r3 : List Ent := [
  E0 0 (some 19) none (.i (.mv (.t 5))),
  E0 1 (some 20) none (.i (.bin .lss (.t 19) (.k (I64 0))))]
def laws_FnExactLoopsOf.r4 : List Ent := [
  E0 0 (some 4) none (.i (.mv (.k (.dat none (.bool true)))))]
def laws_FnExactLoopsOf.r5 : List Ent := [
  E0 0 (some 22) none (.i (.mv (.t 0))),
  E0 1 (some 23) none (.i (.mv (.t 1))),
  E0 2 (some 24) none (.call F_laws_toIntSS false (roA [.t 23])),
  E0 3 (some 25) none (.call F_spec_LoopsOf false (roA [.t 22, .t 24])),
  E0 4 (some 21) none (.i (.mv (.t 25))),
  E0 5 (some 26) none (.i (.ext 0 (.t 21))),
  E0 6 (some 27) none (.i (.ext 1 (.t 21))),
  E0 7 (some 6) none (.i (.mv (.t 26))),
  E0 8 (some 7) none (.i (.mv (.t 27)))]
def laws_FnExactLoopsOf.r6 : List Ent := [
  E0 0 (some 28) none (.i (.mv (.t 1))),
  E0 1 (some 29) none (.call F_laws_toIntSS false (roA [.t 28])),
  E0 2 (some 8) none (.i (.mv (.t 29)))]
def laws_FnExactLoopsOf.r7 : List Ent := [
  E0 0 (some 31) none (.i (.mv (.t 0))),
  E0 1 (some 32) none (.i (.mv (.t 8))),
  E0 2 (some 33) none (.call F_impl_LoopsOf false (roA [.t 31, .t 32])),
  E0 3 (some 30) none (.i (.mv (.t 33))),
  E0 4 (some 34) none (.i (.ext 0 (.t 30))),
  E0 5 (some 35) none (.i (.ext 1 (.t 30))),
  E0 6 (some 9) none (.i (.mv (.t 34))),
  E0 7 (some 10) none (.i (.mv (.t 35)))]
def laws_FnExactLoopsOf.r8 : List Ent := [
  E0 0 (some 36) none (.i (.mv (.t 9))),
  E0 1 (some 37) none (.i (.mv (.t 6))),
  E0 2 (some 38) none (.call F_laws_eqIntSS false (roA [.t 36, .t 37])),
  E0 3 (some 39) none (.i (.un .not (.t 38))),
  E0 4 (some 40) none (.i (.mv (.t 39))),
  E0 5 (some 41) (some (40, false)) (.i (.mv (.t 10))),
  E0 6 (some 42) (some (40, false)) (.i (.mv (.t 7))),
  E0 7 (some 43) (some (40, false)) (.i (.eqb true (.t 41) (.t 42))),
  E0 8 (some 44) none (.i (.pick (.t 40) (.k (.dat none (.bool true))) (.t 43)))]
def laws_FnExactLoopsOf.r9 : List Ent := [
  E0 0 (some 4) none (.i (.mv (.k (.dat none (.bool false)))))]
def laws_FnExactLoopsOf.r10 : List Ent := [
  E0 0 (some 45) none (.i (.mv (.t 8))),
  E0 1 (some 46) none (.i (.mv (.t 1))),
  E0 2 (some 47) none (.call F_laws_toIntSS false (roA [.t 46])),
  E0 3 (some 48) none (.call F_laws_eqIntSS false (roA [.t 45, .t 47])),
  E0 4 (some 49) none (.i (.un .not (.t 48)))]
def laws_FnExactLoopsOf.r11 : List Ent := [
  E0 0 (some 4) none (.i (.mv (.k (.dat none (.bool false)))))]
def laws_FnExactLoopsOf.r12 : List Ent := [
  E0 0 (some 11) none (.i (.mv (.k (I64 1))))]
def laws_FnExactLoopsOf.r13 : List Ent := [
  E0 0 (some 50) none (.i (.mv (.t 8))),
  E0 1 (some 51) none (.i (.mv (.t 11))),
  E0 2 (some 52) none (.call F_laws_markIntSS false [(.io, .t 50), (.ro, .t 51)]),
  E0 3 (some 11) none (.i (.mv (.t 52)))]
def laws_FnExactLoopsOf.r14 : List Ent := [
  E0 0 (some 53) none (.i (.mv (.t 11))),
  E0 1 (some 54) none (.i (.bin .lss (.t 53) (.k (I64 0)))),
  E0 2 (some 55) none (.i (.mv (.t 54))),
  E0 3 (some 56) (some (55, false)) (.i (.mv (.t 9))),
  E0 4 (some 57) (some (55, false)) (.i (.mv (.t 6))),
  E0 5 (some 58) (some (55, false)) (.call F_laws_eqIntSS false (roA [.t 56, .t 57])),
  E0 6 (some 59) (some (55, false)) (.i (.un .not (.t 58))),
  E0 7 (some 60) none (.i (.pick (.t 55) (.k (.dat none (.bool true))) (.t 59))),
  E0 8 (some 61) none (.i (.mv (.t 60))),
  E0 9 (some 62) (some (61, false)) (.i (.mv (.t 10))),
  E0 10 (some 63) (some (61, false)) (.i (.mv (.t 7))),
  E0 11 (some 64) (some (61, false)) (.i (.eqb true (.t 62) (.t 63))),
  E0 12 (some 65) none (.i (.pick (.t 61) (.k (.dat none (.bool true))) (.t 64)))]
def laws_FnExactLoopsOf.r15 : List Ent := [
  E0 0 (some 4) none (.i (.mv (.k (.dat none (.bool false)))))]
def laws_FnExactLoopsOf.r16 : List Ent := [
  E0 0 (some 12) none (.i (.mv (.k (I64 1))))]
def laws_FnExactLoopsOf.r17 : List Ent := [
  E0 0 (some 66) none (.i (.mv (.t 9))),
  E0 1 (some 67) none (.i (.mv (.t 12))),
  E0 2 (some 68) none (.call F_laws_markIntSS false [(.io, .t 66), (.ro, .t 67)]),
  E0 3 (some 12) none (.i (.mv (.t 68)))]
def laws_FnExactLoopsOf.r18 : List Ent := [
  E0 0 (some 13) none (.i (.mv (.k (I64 1))))]
def laws_FnExactLoopsOf.r19 : List Ent := [
  E0 0 (some 69) none (.i (.mv (.t 9))),
  E0 1 (some 70) none (.i (.mv (.t 13))),
  E0 2 (some 71) none (.call F_laws_heldIntSS false (roA [.t 69, .t 70])),
  E0 3 (some 13) none (.i (.mv (.t 71)))]
def laws_FnExactLoopsOf.r20 : List Ent := [
  E0 0 (some 72) none (.i (.mv (.t 13))),
  E0 1 (some 73) none (.i (.bin .lss (.t 72) (.k (I64 0))))]
def laws_FnExactLoopsOf.r21 : List Ent := [
  E0 0 (some 4) none (.i (.mv (.k (.dat none (.bool false)))))]
def laws_FnExactLoopsOf.r22 : List Ent := [
  E0 0 (some 74) none (.i (.mv (.t 13))),
  E0 1 (some 75) none (.i (.mv (.t 12))),
  E0 2 (some 76) none (.i (.bin .neq (.t 74) (.t 75)))]
def laws_FnExactLoopsOf.r23 : List Ent := [
  E0 0 (some 4) none (.i (.mv (.k (.dat none (.bool false)))))]
def laws_FnExactLoopsOf.r24 : List Ent := [
  E0 0 (some 78) none (.i (.mv (.t 0))),
  E0 1 (some 79) none (.i (.mv (.t 1))),
  E0 2 (some 80) none (.call F_laws_toIntSS false (roA [.t 79])),
  E0 3 (some 81) none (.call F_impl_LoopsOf false (roA [.t 78, .t 80])),
  E0 4 (some 77) none (.i (.mv (.t 81))),
  E0 5 (some 82) none (.i (.ext 0 (.t 77))),
  E0 6 (some 83) none (.i (.ext 1 (.t 77))),
  E0 7 (some 14) none (.i (.mv (.t 82))),
  E0 8 (some 15) none (.i (.mv (.t 83)))]
def laws_FnExactLoopsOf.r25 : List Ent := [
  E0 0 (some 84) none (.i (.mv (.t 14))),
  E0 1 (some 85) none (.i (.mv (.t 6))),
  E0 2 (some 86) none (.call F_laws_eqIntSS false (roA [.t 84, .t 85])),
  E0 3 (some 87) none (.i (.un .not (.t 86))),
  E0 4 (some 88) none (.i (.mv (.t 87))),
  E0 5 (some 89) (some (88, false)) (.i (.mv (.t 15))),
  E0 6 (some 90) (some (88, false)) (.i (.mv (.t 7))),
  E0 7 (some 91) (some (88, false)) (.i (.eqb true (.t 89) (.t 90))),
  E0 8 (some 92) none (.i (.pick (.t 88) (.k (.dat none (.bool true))) (.t 91)))]
def laws_FnExactLoopsOf.r26 : List Ent := [
  E0 0 (some 4) none (.i (.mv (.k (.dat none (.bool false)))))]
def laws_FnExactLoopsOf.r27 : List Ent := [
  E0 0 (some 13) none (.i (.mv (.k (I64 1))))]
def laws_FnExactLoopsOf.r28 : List Ent := [
  E0 0 (some 93) none (.i (.mv (.t 9))),
  E0 1 (some 94) none (.i (.mv (.t 13))),
  E0 2 (some 95) none (.call F_laws_heldIntSS false (roA [.t 93, .t 94])),
  E0 3 (some 13) none (.i (.mv (.t 95)))]
def laws_FnExactLoopsOf.r29 : List Ent := [
  E0 0 (some 96) none (.i (.mv (.t 13))),
  E0 1 (some 97) none (.i (.bin .lss (.t 96) (.k (I64 0))))]
def laws_FnExactLoopsOf.r30 : List Ent := [
  E0 0 (some 4) none (.i (.mv (.k (.dat none (.bool false)))))]
def laws_FnExactLoopsOf.r31 : List Ent := [
  E0 0 (some 98) none (.i (.mv (.t 13))),
  E0 1 (some 99) none (.i (.mv (.t 12))),
  E0 2 (some 100) none (.i (.bin .neq (.t 98) (.t 99)))]
def laws_FnExactLoopsOf.r32 : List Ent := [
  E0 0 (some 4) none (.i (.mv (.k (.dat none (.bool false)))))]
def laws_FnExactLoopsOf.r33 : List Ent := [
  E0 0 (some 4) none (.i (.mv (.k (.dat none (.bool true)))))]
def laws_FnExactLoopsOf.fi : FI := { res := [.t 4], code := .seq (.reg 64 1 laws_FnExactLoopsOf.r0) (.seq (.reg 128 1 laws_FnExactLoopsOf.r1) (.seq (.reg 192 4 laws_FnExactLoopsOf.r2) (.seq (.seq (.reg 448 2 laws_FnExactLoopsOf.r3) (.cond (.t 20) (.seq (.reg 576 1 laws_FnExactLoopsOf.r4) (.ret)) (.skip))) (.seq (.reg 640 9 laws_FnExactLoopsOf.r5) (.seq (.reg 1216 3 laws_FnExactLoopsOf.r6) (.seq (.reg 1408 8 laws_FnExactLoopsOf.r7) (.seq (.seq (.reg 1920 9 laws_FnExactLoopsOf.r8) (.cond (.t 44) (.seq (.reg 2496 1 laws_FnExactLoopsOf.r9) (.ret)) (.skip))) (.seq (.seq (.reg 2560 5 laws_FnExactLoopsOf.r10) (.cond (.t 49) (.seq (.reg 2880 1 laws_FnExactLoopsOf.r11) (.ret)) (.skip))) (.seq (.reg 2944 1 laws_FnExactLoopsOf.r12) (.seq (.reg 3008 4 laws_FnExactLoopsOf.r13) (.seq (.seq (.reg 3264 13 laws_FnExactLoopsOf.r14) (.cond (.t 65) (.seq (.reg 4096 1 laws_FnExactLoopsOf.r15) (.ret)) (.skip))) (.seq (.reg 4160 1 laws_FnExactLoopsOf.r16) (.seq (.reg 4224 4 laws_FnExactLoopsOf.r17) (.seq (.reg 4480 1 laws_FnExactLoopsOf.r18) (.seq (.reg 4544 4 laws_FnExactLoopsOf.r19) (.seq (.seq (.reg 4800 2 laws_FnExactLoopsOf.r20) (.cond (.t 73) (.seq (.reg 4928 1 laws_FnExactLoopsOf.r21) (.ret)) (.skip))) (.seq (.seq (.reg 4992 3 laws_FnExactLoopsOf.r22) (.cond (.t 76) (.seq (.reg 5184 1 laws_FnExactLoopsOf.r23) (.ret)) (.skip))) (.seq (.reg 5248 9 laws_FnExactLoopsOf.r24) (.seq (.seq (.reg 5824 9 laws_FnExactLoopsOf.r25) (.cond (.t 92) (.seq (.reg 6400 1 laws_FnExactLoopsOf.r26) (.ret)) (.skip))) (.seq (.reg 6464 1 laws_FnExactLoopsOf.r27) (.seq (.reg 6528 4 laws_FnExactLoopsOf.r28) (.seq (.seq (.reg 6784 2 laws_FnExactLoopsOf.r29) (.cond (.t 97) (.seq (.reg 6912 1 laws_FnExactLoopsOf.r30) (.ret)) (.skip))) (.seq (.seq (.reg 6976 3 laws_FnExactLoopsOf.r31) (.cond (.t 100) (.seq (.reg 7168 1 laws_FnExactLoopsOf.r32) (.ret)) (.skip))) (.seq (.reg 7232 1 laws_FnExactLoopsOf.r33) (.ret))))))))))))))))))))))))) }
attribute [go_sem] laws_FnExactLoopsOf.r0 laws_FnExactLoopsOf.r1 laws_FnExactLoopsOf.r2 laws_FnExactLoopsOf.r3 laws_FnExactLoopsOf.r4 laws_FnExactLoopsOf.r5 laws_FnExactLoopsOf.r6 laws_FnExactLoopsOf.r7 laws_FnExactLoopsOf.r8 laws_FnExactLoopsOf.r9 laws_FnExactLoopsOf.r10 laws_FnExactLoopsOf.r11 laws_FnExactLoopsOf.r12 laws_FnExactLoopsOf.r13 laws_FnExactLoopsOf.r14 laws_FnExactLoopsOf.r15 laws_FnExactLoopsOf.r16 laws_FnExactLoopsOf.r17 laws_FnExactLoopsOf.r18 laws_FnExactLoopsOf.r19 laws_FnExactLoopsOf.r20 laws_FnExactLoopsOf.r21 laws_FnExactLoopsOf.r22 laws_FnExactLoopsOf.r23 laws_FnExactLoopsOf.r24 laws_FnExactLoopsOf.r25 laws_FnExactLoopsOf.r26 laws_FnExactLoopsOf.r27 laws_FnExactLoopsOf.r28 laws_FnExactLoopsOf.r29 laws_FnExactLoopsOf.r30 laws_FnExactLoopsOf.r31 laws_FnExactLoopsOf.r32 laws_FnExactLoopsOf.r33
theorem laws_FnExactLoopsOf.ok : chkF prog F_laws_FnExactLoopsOf 2 laws_FnExactLoopsOf.fi = true := by kernel_rfl

/-! spec_l1Put_co -/
def spec_l1Put_co.r0 : List Ent := [
  E0 0 (some 4) none (.i (.mv (.k (.nil 1))))]
def spec_l1Put_co.r1 : List Ent := [
  E0 0 (some 5) none (.i (.mv (.k (I64 0))))]
def spec_l1Put_co.r2 : List Ent := [
  E0 0 (some 7) none (.i (.mv (.t 5))),
  E0 1 (some 8) none (.i (.mv (.t 0))),
  E0 2 (some 9) none (.i (.len (.t 8))),
  E0 3 (some 10) none (.i (.bin .lss (.t 7) (.t 9))),
  E0 4 (some 11) none (.i (.mv (.t 10))),
  E0 5 (some 12) (some (11, true)) (.i (.mv (.t 0))),
  E0 6 (some 13) (some (11, true)) (.i (.mv (.t 5))),
  E0 7 (some 14) (some (11, true)) (.i (.iad 1 (.t 12) (.t 13))),
  E0 8 (some 15) (some (11, true)) (.i (.load false false 1 (.t 14))),
  E0 9 (some 16) (some (11, true)) (.i (.mv (.t 1))),
  E0 10 (some 17) (some (11, true)) (.i (.bin .lss (.t 15) (.t 16))),
  E0 11 (some 18) none (.i (.pick (.t 11) (.t 17) (.k (.dat none (.bool false)))))]
def spec_l1Put_co.r3 : List Ent := [
  E0 0 (some 19) none (.i (.mv (.t 5))),
  E0 1 (some 20) none (.i (.bin .add (.t 19) (.k (I64 1)))),
  E0 2 (some 5) none (.i (.mv (.t 20)))]
def spec_l1Put_co.b0 : KC := .seq (.seq (.reg 192 12 spec_l1Put_co.r2) (.cond (.t 18) (.skip) (.exit 0))) (.block 1 (.reg 960 3 spec_l1Put_co.r3))
def spec_l1Put_co.r4 : List Ent := [
  E0 0 (some 21) none (.i (.mv (.t 5))),
  E0 1 (some 22) none (.i (.mv (.t 0))),
  E0 2 (some 23) none (.i (.len (.t 22))),
  E0 3 (some 24) none (.i (.bin .lss (.t 21) (.t 23))),
  E0 4 (some 25) none (.i (.mv (.t 24))),
  E0 5 (some 26) (some (25, true)) (.i (.mv (.t 0))),
  E0 6 (some 27) (some (25, true)) (.i (.mv (.t 5))),
  E0 7 (some 28) (some (25, true)) (.i (.iad 1 (.t 26) (.t 27))),
  E0 8 (some 29) (some (25, true)) (.i (.load false false 1 (.t 28))),
  E0 9 (some 30) (some (25, true)) (.i (.mv (.t 1))),
  E0 10 (some 31) (some (25, true)) (.i (.bin .eql (.t 29) (.t 30))),
  E0 11 (some 32) none (.i (.pick (.t 25) (.t 31) (.k (.dat none (.bool false)))))]
def spec_l1Put_co.r5 : List Ent := [
  E0 0 (some 33) none (.i (.mv (.t 0))),
  E0 1 (some 4) none (.i (.mv (.t 33)))]
def spec_l1Put_co.r6 : List Ent := [
  E0 0 (some 34) none (.i (.bsl false 1 [])),
  E0 1 (some 35) none (.i (.mv (.t 0))),
  E0 2 (some 36) none (.i (.mv (.t 5))),
  E0 3 (some 37) none (.i (.slc 1 (.t 35) (none) (some (.t 36)))),
  E0 4 (some 38) none (.i (.app 1 8 (.t 34) (.t 37))),
  E0 5 (some 6) none (.i (.mv (.t 38)))]
def spec_l1Put_co.r7 : List Ent := [
  E0 0 (some 39) none (.i (.mv (.t 6))),
  E0 1 (some 40) none (.i (.mv (.t 1))),
  E0 2 (some 41) none (.i (.bsl true 1 [.t 40])),
  E0 3 (some 42) none (.i (.app 1 8 (.t 39) (.t 41))),
  E0 4 (some 6) none (.i (.mv (.t 42)))]
def spec_l1Put_co.r8 : List Ent := [
  E0 0 (some 43) none (.i (.mv (.t 6))),
  E0 1 (some 44) none (.i (.mv (.t 0))),
  E0 2 (some 45) none (.i (.mv (.t 5))),
  E0 3 (some 46) none (.i (.slc 1 (.t 44) (some (.t 45)) (none))),
  E0 4 (some 47) none (.i (.app 1 8 (.t 43) (.t 46))),
  E0 5 (some 4) none (.i (.mv (.t 47)))]
def spec_l1Put_co.fi : FI := { res := [.t 4], code := .seq (.reg 64 1 spec_l1Put_co.r0) (.seq (.reg 128 1 spec_l1Put_co.r1) (.seq (.block 0 (.loop spec_l1Put_co.b0)) (.seq (.seq (.reg 1152 12 spec_l1Put_co.r4) (.cond (.t 32) (.seq (.reg 1920 2 spec_l1Put_co.r5) (.ret)) (.skip))) (.seq (.reg 2048 6 spec_l1Put_co.r6) (.seq (.reg 2432 5 spec_l1Put_co.r7) (.seq (.reg 2752 6 spec_l1Put_co.r8) (.ret))))))) }
attribute [go_sem] spec_l1Put_co.r0 spec_l1Put_co.r1 spec_l1Put_co.r2 spec_l1Put_co.r3 spec_l1Put_co.r4 spec_l1Put_co.r5 spec_l1Put_co.r6 spec_l1Put_co.r7 spec_l1Put_co.r8
theorem spec_l1Put_co.ok : chkF prog F_spec_l1Put 2 spec_l1Put_co.fi = true := by kernel_rfl
end Go.Vm.Ytdebllkmblakkaa
