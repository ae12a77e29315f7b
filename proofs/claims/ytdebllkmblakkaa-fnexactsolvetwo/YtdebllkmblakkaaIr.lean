/- The functions that the law reaches, in the text of the interpreter, and that this text fits them (no condition). -/
import Derived.Test.YtdebllkmblakkaaVmc
import Derived.Test.YtdebllkmblakkaaProg
import Derived.KernelRfl
/- PRINTED BY irgen.py, a program of this claim's author: the functions that the claim reaches, in the text of the interpreter, and that they fit. -/
namespace Go.Vm.Ytdebllkmblakkaa
open Go Go.Vm
set_option linter.unusedVariables false
set_option maxRecDepth 100000
noncomputable abbrev prog : Program := Go.Proofs.Try.prog
abbrev F_laws_FnExactOpposed : FuncId := 3
abbrev F_laws_FnExactLeadsTo : FuncId := 4
abbrev F_laws_FnExactFixed : FuncId := 5
abbrev F_laws_FnExactLoopsOf : FuncId := 6
abbrev F_laws_FnExactSolveTwo : FuncId := 7
abbrev F_laws_FnLeads : FuncId := 8
abbrev F_laws_FnTwos : FuncId := 9
abbrev F_laws_FnLeast : FuncId := 10
abbrev F_laws_FnHorn : FuncId := 11
abbrev F_laws_FnEnough : FuncId := 12
abbrev F_laws_FnLaidOut : FuncId := 13
abbrev F_laws_szIntSS : FuncId := 14
abbrev F_spec_Opposed : FuncId := 15
abbrev F_laws_toIntSS : FuncId := 16
abbrev F_impl_Opposed : FuncId := 17
abbrev F_laws_eqIntSS : FuncId := 18
abbrev F_spec_LeadsTo : FuncId := 19
abbrev F_impl_LeadsTo : FuncId := 20
abbrev F_laws_eqIntS : FuncId := 21
abbrev F_laws_markIntSS : FuncId := 22
abbrev F_laws_markIntS : FuncId := 23
abbrev F_laws_heldIntS : FuncId := 24
abbrev F_spec_Fixed : FuncId := 25
abbrev F_impl_Fixed : FuncId := 26
abbrev F_spec_LoopsOf : FuncId := 27
abbrev F_impl_LoopsOf : FuncId := 28
abbrev F_laws_heldIntSS : FuncId := 29
abbrev F_spec_SolveTwo : FuncId := 30
abbrev F_impl_SolveTwo : FuncId := 31
abbrev F_laws_eqBoolS : FuncId := 32
abbrev F_laws_markBoolS : FuncId := 33
abbrev F_laws_heldBoolS : FuncId := 34
abbrev F_spec_DrawLeadsTo : FuncId := 35
abbrev F_laws_sameInts : FuncId := 36
abbrev F_laws_has : FuncId := 37
abbrev F_spec_DrawLoopsOf : FuncId := 38
abbrev F_spec_DrawTwoOf : FuncId := 39
abbrev F_impl_TwoOf : FuncId := 40
abbrev F_spec_TwoOf : FuncId := 41
abbrev F_laws_sameRows : FuncId := 42
abbrev F_spec_DrawSolveTwo : FuncId := 43
abbrev F_laws_sameBools : FuncId := 44
abbrev F_impl_IsTwo : FuncId := 45
abbrev F_impl_CountModels : FuncId := 46
abbrev F_impl_Solve : FuncId := 47
abbrev F_impl_HoldsAll : FuncId := 48
abbrev F_laws_allIn : FuncId := 49
abbrev F_impl_SolveWith : FuncId := 50
abbrev F_spec_DrawFixed : FuncId := 51
abbrev F_spec_DrawLeastOf : FuncId := 52
abbrev F_impl_LeastOf : FuncId := 53
abbrev F_spec_LeastOf : FuncId := 54
abbrev F_impl_GoodRules : FuncId := 55
abbrev F_impl_HoldsIn : FuncId := 56
abbrev F_impl_RulesAsClauses : FuncId := 57
abbrev F_impl_IsHorn : FuncId := 58
abbrev F_laws_modelOf : FuncId := 59
abbrev F_spec_DrawHoldsIn : FuncId := 60
abbrev F_spec_HoldsIn : FuncId := 61
abbrev F_spec_DrawWhyOf : FuncId := 62
abbrev F_impl_WhyOf : FuncId := 63
abbrev F_spec_WhyOf : FuncId := 64
abbrev F_laws_listOf : FuncId := 65
abbrev F_laws_numberOf : FuncId := 66
abbrev F_impl_MeetOf : FuncId := 67
abbrev F_spec_DrawMeetOf : FuncId := 68
abbrev F_spec_MeetOf : FuncId := 69
abbrev F_spec_DrawRulesAsClauses : FuncId := 70
abbrev F_spec_RulesAsClauses : FuncId := 71
abbrev F_spec_DrawIsHorn : FuncId := 72
abbrev F_spec_IsHorn : FuncId := 73
abbrev F_laws_sameRules : FuncId := 74
abbrev F_spec_DrawEnoughFor : FuncId := 75
abbrev F_impl_EnoughFor : FuncId := 76
abbrev F_spec_EnoughFor : FuncId := 77
abbrev F_impl_ReachWithin : FuncId := 78
abbrev F_spec_DrawWalksOf : FuncId := 79
abbrev F_impl_WalksOf : FuncId := 80
abbrev F_spec_WalksOf : FuncId := 81
abbrev F_laws_hasArc : FuncId := 82
abbrev F_spec_DrawReachWithin : FuncId := 83
abbrev F_spec_ReachWithin : FuncId := 84
abbrev F_spec_DrawIsWalk : FuncId := 85
abbrev F_impl_IsWalk : FuncId := 86
abbrev F_spec_IsWalk : FuncId := 87
abbrev F_impl_LaidWalk : FuncId := 88
abbrev F_spec_LaidWalk : FuncId := 89
abbrev F_impl_LayOut : FuncId := 90
abbrev F_spec_DrawLayOut : FuncId := 91
abbrev F_spec_LayOut : FuncId := 92
abbrev F_impl_BackArcs : FuncId := 93
abbrev F_spec_BackArcs : FuncId := 94
abbrev F_laws_sameArcs : FuncId := 95
abbrev F_impl_GoodArcs : FuncId := 96
abbrev F_laws_szIntS : FuncId := 97
abbrev F_spec_IsTwo : FuncId := 98
abbrev F_spec_l15Opposed : FuncId := 99
abbrev F_laws_toIntS : FuncId := 100
abbrev F_impl_opposed : FuncId := 101
abbrev F_spec_l1In : FuncId := 102
abbrev F_spec_l15Leads : FuncId := 103
abbrev F_impl_isLiteral : FuncId := 104
abbrev F_impl_leadsTo : FuncId := 105
abbrev F_spec_l1Has : FuncId := 106
abbrev F_impl_leads : FuncId := 107
abbrev F_slices_DeleteFunc__sint_int : FuncId := 108
abbrev F_impl_LoopsOf_c1 : FuncId := 109
abbrev F_spec_l1Put : FuncId := 110
abbrev F_slices_Contains__sint_int : FuncId := 111
abbrev F_spec_pl1Cur_twos : FuncId := 112
abbrev F_spec_pl1Cur_pick : FuncId := 113
abbrev F_spec_DrawIsTwo : FuncId := 114
abbrev F_spec_pl1Cur_one : FuncId := 115
abbrev F_impl_in : FuncId := 116
abbrev F_impl_isClause : FuncId := 117
abbrev F_spec_l4Clause : FuncId := 118
abbrev F_impl_GoodClauses : FuncId := 119
abbrev F_slices_ContainsFunc__ssint_sint : FuncId := 120
abbrev F_impl_IsTwo_c1 : FuncId := 121
abbrev F_impl_countModels : FuncId := 122
abbrev F_impl_solve : FuncId := 123
abbrev F_impl_holds : FuncId := 124
abbrev F_slices_Concat__ssint_sint : FuncId := 125
abbrev F_impl_units : FuncId := 126
abbrev F_spec_DrawGoodRules : FuncId := 127
abbrev F_impl_least : FuncId := 128
abbrev F_slices_ContainsFunc__sRule_Rule : FuncId := 129
abbrev F_impl_LeastOf_c1 : FuncId := 130
abbrev F_impl_Rule_met : FuncId := 131
abbrev F_impl_list : FuncId := 132
abbrev F_impl_LeastOf_c2 : FuncId := 133
abbrev F_spec_GoodRules : FuncId := 134
abbrev F_spec_l16Least : FuncId := 135
abbrev F_impl_GoodRules_c1 : FuncId := 136
abbrev F_impl_areFacts : FuncId := 137
abbrev F_impl_HoldsIn_c1 : FuncId := 138
abbrev F_impl_learn : FuncId := 139
abbrev F_slices_Clone__sint_int : FuncId := 140
abbrev F_impl_IsHorn_c1 : FuncId := 141
abbrev F_spec_pl1Cur_rules : FuncId := 142
abbrev F_spec_pl1Cur_facts : FuncId := 143
abbrev F_spec_l16Facts : FuncId := 144
abbrev F_spec_l16All : FuncId := 145
abbrev F_slices_IndexFunc__sint_int : FuncId := 146
abbrev F_impl_WhyOf_c1 : FuncId := 147
abbrev F_impl_MeetOf_c1 : FuncId := 148
abbrev F_spec_l5Negate : FuncId := 149
abbrev F_spec_DrawGoodClauses : FuncId := 150
abbrev F_spec_GoodClauses : FuncId := 151
abbrev F_slices_Equal__sbool_bool : FuncId := 152
abbrev F_impl_within : FuncId := 153
abbrev F_spec_GoodArcs : FuncId := 154
abbrev F_spec_l12Reach : FuncId := 155
abbrev F_impl_ReachWithin_c1 : FuncId := 156
abbrev F_spec_pl1Cur_arcs : FuncId := 157
abbrev F_spec_pl1Cur_walk : FuncId := 158
abbrev F_impl_isVertices : FuncId := 159
abbrev F_slices_Contains__sArc_Arc : FuncId := 160
abbrev F_spec_l12Walk : FuncId := 161
abbrev F_spec_l12Arc : FuncId := 162
abbrev F_impl_isSpots : FuncId := 163
abbrev F_impl_BackArcs_c1 : FuncId := 164
abbrev F_spec_l15Next : FuncId := 165
abbrev F_slices_Sort__sint_int : FuncId := 166
abbrev F_slices_Index__sint_int : FuncId := 167
abbrev F_spec_pl1Cur_among : FuncId := 168
abbrev F_spec_pl1Cur_lit : FuncId := 169
abbrev F_spec_CleanClause : FuncId := 170
abbrev F_spec_pl1Cur_among3 : FuncId := 171
abbrev F_spec_pl1Cur_next : FuncId := 172
abbrev F_slices_ContainsFunc__sint_int : FuncId := 173
abbrev F_impl_isClause_c1 : FuncId := 174
abbrev F_impl_variable : FuncId := 175
abbrev F_impl_areClauses : FuncId := 176
abbrev F_slices_IndexFunc__ssint_sint : FuncId := 177
abbrev F_impl_model : FuncId := 178
abbrev F_impl_propagate : FuncId := 179
abbrev F_impl_decide : FuncId := 180
abbrev F_impl_holds_c1 : FuncId := 181
abbrev F_slices_Grow__ssint_sint : FuncId := 182
abbrev F_slices_IndexFunc__sRule_Rule : FuncId := 183
abbrev F_impl_least_c1 : FuncId := 184
abbrev F_impl_Rule_met_c1 : FuncId := 185
abbrev F_spec_l1Least : FuncId := 186
abbrev F_spec_l1Rising : FuncId := 187
abbrev F_spec_pl1Cur_clauses : FuncId := 188
abbrev F_spec_l4Good : FuncId := 189
abbrev F_slices_Clone__sbool_bool : FuncId := 190
abbrev F_impl_isVertices_c1 : FuncId := 191
abbrev F_slices_Index__sArc_Arc : FuncId := 192
abbrev F_spec_l1All : FuncId := 193
abbrev F_slices_pdqsortOrdered__int : FuncId := 194
abbrev F_bits_Len : FuncId := 195
abbrev F_impl_areClauses_c1 : FuncId := 196
abbrev F_impl_meets : FuncId := 197
abbrev F_impl_without : FuncId := 198
abbrev F_slices_insertionSortOrdered__int : FuncId := 199
abbrev F_slices_heapSortOrdered__int : FuncId := 200
abbrev F_slices_breakPatternsOrdered__int : FuncId := 201
abbrev F_slices_choosePivotOrdered__int : FuncId := 202
abbrev F_slices_reverseRangeOrdered__int : FuncId := 203
abbrev F_slices_partialInsertionSortOrdered__int : FuncId := 204
abbrev F_cmp_Less__int : FuncId := 205
abbrev F_slices_partitionEqualOrdered__int : FuncId := 206
abbrev F_slices_partitionOrdered__int : FuncId := 207
abbrev F_bits_Len32 : FuncId := 208
abbrev F_bits_Len64 : FuncId := 209
abbrev F_impl_meets_c1 : FuncId := 210
abbrev F_impl_without_c1 : FuncId := 211
abbrev F_slices_siftDownOrdered__int : FuncId := 212
abbrev F_slices_nextPowerOfTwo : FuncId := 213
abbrev F_slices_pxorshift_Next : FuncId := 214
abbrev F_slices_medianAdjacentOrdered__int : FuncId := 215
abbrev F_slices_medianOrdered__int : FuncId := 216
abbrev F_cmp_isNaN__int : FuncId := 217
abbrev F_slices_order2Ordered__int : FuncId := 218
abbrev F_runtime_boundsError_Error : FuncId := 219
abbrev F_runtime_boundsError_RuntimeError : FuncId := 220
abbrev F_runtime_errorString_Error : FuncId := 221
abbrev F_runtime_errorString_RuntimeError : FuncId := 222
abbrev F_runtime_plainError_Error : FuncId := 223
abbrev F_runtime_plainError_RuntimeError : FuncId := 224
abbrev F_runtime_errorAddressString_Error : FuncId := 225
abbrev F_runtime_errorAddressString_RuntimeError : FuncId := 226
abbrev F_runtime_pTypeAssertionError_Error : FuncId := 227
abbrev F_runtime_pTypeAssertionError_RuntimeError : FuncId := 228
abbrev F_runtime_pPanicNilError_Error : FuncId := 229
abbrev F_runtime_pPanicNilError_RuntimeError : FuncId := 230
abbrev F_abi_pType_Align : FuncId := 231
abbrev F_maps_unhashableTypeError_Error : FuncId := 232
abbrev F_maps_unhashableTypeError_RuntimeError : FuncId := 233
abbrev F_abi_Kind_String : FuncId := 234

/-! laws_szIntS -/
def laws_szIntS.r0 : List Ent := [
  E0 0 (some 4) none (.i (.mv (.k (I64 0))))]
def laws_szIntS.r1 : List Ent := [
  E0 0 (some 5) none (.i (.mv (.t 1))),
  E0 1 (some 6) none (.i (.mv (.t 0))),
  E0 2 (some 7) none (.i (.len (.t 6))),
  E0 3 (some 8) none (.i (.bin .sub (.t 5) (.t 7))),
  E0 4 (some 1) none (.i (.mv (.t 8)))]
def laws_szIntS.r2 : List Ent := [
  E0 0 (some 9) none (.i (.mv (.t 1))),
  E0 1 (some 10) none (.i (.bin .lss (.t 9) (.k (I64 0))))]
def laws_szIntS.r3 : List Ent := [
  E0 0 (some 4) none (.i (.mv (.k (I64 (-1)))))]
def laws_szIntS.r4 : List Ent := [
  E0 0 (some 11) none (.i (.mv (.t 1))),
  E0 1 (some 4) none (.i (.mv (.t 11)))]
def laws_szIntS.fi : FI := { res := [.t 4], code := .seq (.reg 64 1 laws_szIntS.r0) (.seq (.reg 128 5 laws_szIntS.r1) (.seq (.seq (.reg 448 2 laws_szIntS.r2) (.cond (.t 10) (.seq (.reg 576 1 laws_szIntS.r3) (.ret)) (.skip))) (.seq (.reg 640 2 laws_szIntS.r4) (.ret)))) }
attribute [go_sem] laws_szIntS.r0 laws_szIntS.r1 laws_szIntS.r2 laws_szIntS.r3 laws_szIntS.r4
theorem laws_szIntS.ok : chkF prog F_laws_szIntS 2 laws_szIntS.fi = true := by kernel_rfl

/-! laws_szIntSS -/
def laws_szIntSS.r0 : List Ent := [
  E0 0 (some 4) none (.i (.mv (.k (I64 0))))]
def laws_szIntSS.r1 : List Ent := [
  E0 0 (some 6) none (.i (.mv (.t 1))),
  E0 1 (some 7) none (.i (.mv (.t 0))),
  E0 2 (some 8) none (.i (.len (.t 7))),
  E0 3 (some 9) none (.i (.bin .sub (.t 6) (.t 8))),
  E0 4 (some 1) none (.i (.mv (.t 9)))]
def laws_szIntSS.r2 : List Ent := [
  E0 0 (some 10) none (.i (.mv (.t 1))),
  E0 1 (some 11) none (.i (.bin .lss (.t 10) (.k (I64 0))))]
def laws_szIntSS.r3 : List Ent := [
  E0 0 (some 4) none (.i (.mv (.k (I64 (-1)))))]
def laws_szIntSS.r4 : List Ent := [
  E0 0 (some 5) none (.i (.mv (.k (I64 0))))]
def laws_szIntSS.r5 : List Ent := [
  E0 0 (some 12) none (.i (.mv (.t 5))),
  E0 1 (some 13) none (.i (.mv (.t 0))),
  E0 2 (some 14) none (.i (.len (.t 13))),
  E0 3 (some 15) none (.i (.bin .lss (.t 12) (.t 14)))]
def laws_szIntSS.r6 : List Ent := [
  E0 0 (some 18) none (.i (.mv (.t 0))),
  E0 1 (some 19) none (.i (.mv (.t 5))),
  E0 2 (some 20) none (.i (.iad 1 (.t 18) (.t 19))),
  E0 3 (some 21) none (.i (.load false false 1 (.t 20))),
  E0 4 (some 22) none (.i (.mv (.t 1))),
  E0 5 (some 23) none (.call F_laws_szIntS false (roA [.t 21, .t 22])),
  E0 6 (some 1) none (.i (.mv (.t 23)))]
def laws_szIntSS.r7 : List Ent := [
  E0 0 (some 24) none (.i (.mv (.t 1))),
  E0 1 (some 25) none (.i (.bin .lss (.t 24) (.k (I64 0))))]
def laws_szIntSS.r8 : List Ent := [
  E0 0 (some 4) none (.i (.mv (.k (I64 (-1)))))]
def laws_szIntSS.r9 : List Ent := [
  E0 0 (some 16) none (.i (.mv (.t 5))),
  E0 1 (some 17) none (.i (.bin .add (.t 16) (.k (I64 1)))),
  E0 2 (some 5) none (.i (.mv (.t 17)))]
def laws_szIntSS.b0 : KC := .seq (.seq (.reg 704 4 laws_szIntSS.r5) (.cond (.t 15) (.skip) (.exit 0))) (.seq (.block 1 (.seq (.reg 960 7 laws_szIntSS.r6) (.seq (.reg 1408 2 laws_szIntSS.r7) (.cond (.t 25) (.seq (.reg 1536 1 laws_szIntSS.r8) (.ret)) (.skip))))) (.reg 1600 3 laws_szIntSS.r9))
def laws_szIntSS.r10 : List Ent := [
  E0 0 (some 26) none (.i (.mv (.t 1))),
  E0 1 (some 4) none (.i (.mv (.t 26)))]
def laws_szIntSS.fi : FI := { res := [.t 4], code := .seq (.reg 64 1 laws_szIntSS.r0) (.seq (.reg 128 5 laws_szIntSS.r1) (.seq (.seq (.reg 448 2 laws_szIntSS.r2) (.cond (.t 11) (.seq (.reg 576 1 laws_szIntSS.r3) (.ret)) (.skip))) (.seq (.seq (.reg 640 1 laws_szIntSS.r4) (.block 0 (.loop laws_szIntSS.b0))) (.seq (.reg 1792 2 laws_szIntSS.r10) (.ret))))) }
attribute [go_sem] laws_szIntSS.r0 laws_szIntSS.r1 laws_szIntSS.r2 laws_szIntSS.r3 laws_szIntSS.r4 laws_szIntSS.r5 laws_szIntSS.r6 laws_szIntSS.r7 laws_szIntSS.r8 laws_szIntSS.r9 laws_szIntSS.r10
theorem laws_szIntSS.ok : chkF prog F_laws_szIntSS 2 laws_szIntSS.fi = true := by kernel_rfl

/-! spec_l1In -/
def spec_l1In.r0 : List Ent := [
  E0 0 (some 6) none (.i (.mv (.k (.dat none (.bool false)))))]
def spec_l1In.r1 : List Ent := [
  E0 0 (some 7) none (.i (.mv (.t 0))),
  E0 1 (some 8) none (.i (.mv (.t 1))),
  E0 2 (some 9) none (.i (.bin .geq (.t 7) (.t 8))),
  E0 3 (some 10) none (.i (.mv (.t 9))),
  E0 4 (some 11) (some (10, true)) (.i (.mv (.t 0))),
  E0 5 (some 12) (some (10, true)) (.i (.mv (.t 2))),
  E0 6 (some 13) (some (10, true)) (.i (.bin .leq (.t 11) (.t 12))),
  E0 7 (some 14) none (.i (.pick (.t 10) (.t 13) (.k (.dat none (.bool false))))),
  E0 8 (some 6) none (.i (.mv (.t 14)))]
def spec_l1In.fi : FI := { res := [.t 6], code := .seq (.reg 64 1 spec_l1In.r0) (.seq (.reg 128 9 spec_l1In.r1) (.ret)) }
attribute [go_sem] spec_l1In.r0 spec_l1In.r1
theorem spec_l1In.ok : chkF prog F_spec_l1In 3 spec_l1In.fi = true := by kernel_rfl

/-! spec_l1Has -/
def spec_l1Has.r0 : List Ent := [
  E0 0 (some 4) none (.i (.mv (.k (.dat none (.bool false)))))]
def spec_l1Has.r1 : List Ent := [
  E0 0 (some 7) none (.i (.mv (.t 0))),
  E0 1 (some 8) none (.i (.len (.t 7))),
  E0 2 (some 9) none (.i (.mv (.k (I64 0))))]
def spec_l1Has.r2 : List Ent := [
  E0 0 (some 10) none (.i (.bin .lss (.t 9) (.t 8)))]
def spec_l1Has.r3 : List Ent := [
  E0 0 (some 11) none (.i (.iad 1 (.t 7) (.t 9))),
  E0 1 (some 12) none (.i (.load false false 1 (.t 11))),
  E0 2 (some 6) none (.i (.mv (.t 12)))]
def spec_l1Has.r4 : List Ent := [
  E0 0 (some 13) none (.i (.mv (.t 6))),
  E0 1 (some 14) none (.i (.mv (.t 1))),
  E0 2 (some 15) none (.i (.bin .eql (.t 13) (.t 14)))]
def spec_l1Has.r5 : List Ent := [
  E0 0 (some 4) none (.i (.mv (.k (.dat none (.bool true)))))]
def spec_l1Has.r6 : List Ent := [
  E0 0 (some 16) none (.i (.bin .add (.t 9) (.k (I64 1)))),
  E0 1 (some 9) none (.i (.mv (.t 16)))]
def spec_l1Has.b0 : KC := .seq (.reg 320 1 spec_l1Has.r2) (.seq (.cond (.t 10) (.skip) (.exit 0)) (.seq (.block 1 (.seq (.reg 384 3 spec_l1Has.r3) (.seq (.reg 576 3 spec_l1Has.r4) (.cond (.t 15) (.seq (.reg 768 1 spec_l1Has.r5) (.ret)) (.skip))))) (.reg 832 2 spec_l1Has.r6)))
def spec_l1Has.r7 : List Ent := [
  E0 0 (some 4) none (.i (.mv (.k (.dat none (.bool false)))))]
def spec_l1Has.fi : FI := { res := [.t 4], code := .seq (.reg 64 1 spec_l1Has.r0) (.seq (.seq (.reg 128 3 spec_l1Has.r1) (.block 0 (.loop spec_l1Has.b0))) (.seq (.reg 960 1 spec_l1Has.r7) (.ret))) }
attribute [go_sem] spec_l1Has.r0 spec_l1Has.r1 spec_l1Has.r2 spec_l1Has.r3 spec_l1Has.r4 spec_l1Has.r5 spec_l1Has.r6 spec_l1Has.r7
theorem spec_l1Has.ok : chkF prog F_spec_l1Has 2 spec_l1Has.fi = true := by kernel_rfl

/-! spec_l4Clause -/
def spec_l4Clause.r0 : List Ent := [
  E0 0 (some 4) none (.i (.mv (.k (.dat none (.bool false)))))]
def spec_l4Clause.r1 : List Ent := [
  E0 0 (some 7) none (.i (.mv (.t 1))),
  E0 1 (some 8) none (.i (.len (.t 7))),
  E0 2 (some 9) none (.i (.mv (.k (I64 0))))]
def spec_l4Clause.r2 : List Ent := [
  E0 0 (some 10) none (.i (.bin .lss (.t 9) (.t 8)))]
def spec_l4Clause.r3 : List Ent := [
  E0 0 (some 11) none (.i (.mv (.t 9))),
  E0 1 (some 12) none (.i (.iad 1 (.t 7) (.t 9))),
  E0 2 (some 13) none (.i (.load false false 1 (.t 12))),
  E0 3 (some 5) none (.i (.mv (.t 11))),
  E0 4 (some 6) none (.i (.mv (.t 13)))]
def spec_l4Clause.r4 : List Ent := [
  E0 0 (some 14) none (.i (.mv (.t 6))),
  E0 1 (some 15) none (.i (.bin .eql (.t 14) (.k (I64 0)))),
  E0 2 (some 16) none (.i (.mv (.t 15))),
  E0 3 (some 17) (some (16, false)) (.i (.mv (.t 6))),
  E0 4 (some 18) (some (16, false)) (.i (.mv (.t 0))),
  E0 5 (some 19) (some (16, false)) (.i (.un .neg (.t 18))),
  E0 6 (some 20) (some (16, false)) (.i (.mv (.t 0))),
  E0 7 (some 21) (some (16, false)) (.call F_spec_l1In false (roA [.t 17, .t 19, .t 20])),
  E0 8 (some 22) (some (16, false)) (.i (.un .not (.t 21))),
  E0 9 (some 23) none (.i (.pick (.t 16) (.k (.dat none (.bool true))) (.t 22))),
  E0 10 (some 24) none (.i (.mv (.t 23))),
  E0 11 (some 25) (some (24, false)) (.i (.mv (.t 1))),
  E0 12 (some 26) (some (24, false)) (.i (.mv (.t 5))),
  E0 13 (some 27) (some (24, false)) (.i (.slc 1 (.t 25) (none) (some (.t 26)))),
  E0 14 (some 28) (some (24, false)) (.i (.mv (.t 6))),
  E0 15 (some 29) (some (24, false)) (.call F_spec_l1Has false (roA [.t 27, .t 28])),
  E0 16 (some 30) none (.i (.pick (.t 24) (.k (.dat none (.bool true))) (.t 29))),
  E0 17 (some 31) none (.i (.mv (.t 30))),
  E0 18 (some 32) (some (31, false)) (.i (.mv (.t 1))),
  E0 19 (some 33) (some (31, false)) (.i (.mv (.t 5))),
  E0 20 (some 34) (some (31, false)) (.i (.slc 1 (.t 32) (none) (some (.t 33)))),
  E0 21 (some 35) (some (31, false)) (.i (.mv (.t 6))),
  E0 22 (some 36) (some (31, false)) (.i (.un .neg (.t 35))),
  E0 23 (some 37) (some (31, false)) (.call F_spec_l1Has false (roA [.t 34, .t 36])),
  E0 24 (some 38) none (.i (.pick (.t 31) (.k (.dat none (.bool true))) (.t 37)))]
def spec_l4Clause.r5 : List Ent := [
  E0 0 (some 4) none (.i (.mv (.k (.dat none (.bool false)))))]
def spec_l4Clause.r6 : List Ent := [
  E0 0 (some 39) none (.i (.bin .add (.t 9) (.k (I64 1)))),
  E0 1 (some 9) none (.i (.mv (.t 39)))]
def spec_l4Clause.b0 : KC := .seq (.reg 320 1 spec_l4Clause.r2) (.seq (.cond (.t 10) (.skip) (.exit 0)) (.seq (.block 1 (.seq (.reg 384 5 spec_l4Clause.r3) (.seq (.reg 704 25 spec_l4Clause.r4) (.cond (.t 38) (.seq (.reg 2304 1 spec_l4Clause.r5) (.ret)) (.skip))))) (.reg 2368 2 spec_l4Clause.r6)))
def spec_l4Clause.r7 : List Ent := [
  E0 0 (some 40) none (.i (.mv (.t 1))),
  E0 1 (some 41) none (.i (.len (.t 40))),
  E0 2 (some 42) none (.i (.bin .leq (.t 41) (.k (I64 12)))),
  E0 3 (some 4) none (.i (.mv (.t 42)))]
def spec_l4Clause.fi : FI := { res := [.t 4], code := .seq (.reg 64 1 spec_l4Clause.r0) (.seq (.seq (.reg 128 3 spec_l4Clause.r1) (.block 0 (.loop spec_l4Clause.b0))) (.seq (.reg 2496 4 spec_l4Clause.r7) (.ret))) }
attribute [go_sem] spec_l4Clause.r0 spec_l4Clause.r1 spec_l4Clause.r2 spec_l4Clause.r3 spec_l4Clause.r4 spec_l4Clause.r5 spec_l4Clause.r6 spec_l4Clause.r7
theorem spec_l4Clause.ok : chkF prog F_spec_l4Clause 2 spec_l4Clause.fi = true := by kernel_rfl

/-! spec_l4Good -/
def spec_l4Good.r0 : List Ent := [
  E0 0 (some 6) none (.i (.mv (.k (.dat none (.bool false)))))]
def spec_l4Good.r1 : List Ent := [
  E0 0 (some 9) none (.i (.mv (.t 0))),
  E0 1 (some 10) none (.call F_spec_l1In false (roA [.t 9, .k (I64 0), .k (I64 12)])),
  E0 2 (some 11) none (.i (.un .not (.t 10))),
  E0 3 (some 12) none (.i (.mv (.t 11))),
  E0 4 (some 13) (some (12, false)) (.i (.mv (.t 1))),
  E0 5 (some 14) (some (12, false)) (.i (.len (.t 13))),
  E0 6 (some 15) (some (12, false)) (.i (.mv (.t 2))),
  E0 7 (some 16) (some (12, false)) (.i (.bin .gtr (.t 14) (.t 15))),
  E0 8 (some 17) none (.i (.pick (.t 12) (.k (.dat none (.bool true))) (.t 16)))]
def spec_l4Good.r2 : List Ent := [
  E0 0 (some 6) none (.i (.mv (.k (.dat none (.bool false)))))]
def spec_l4Good.r3 : List Ent := [
  E0 0 (some 18) none (.i (.mv (.t 1))),
  E0 1 (some 19) none (.i (.len (.t 18))),
  E0 2 (some 20) none (.i (.mv (.k (I64 0))))]
def spec_l4Good.r4 : List Ent := [
  E0 0 (some 21) none (.i (.bin .lss (.t 20) (.t 19)))]
def spec_l4Good.r5 : List Ent := [
  E0 0 (some 22) none (.i (.iad 1 (.t 18) (.t 20))),
  E0 1 (some 23) none (.i (.load false false 1 (.t 22))),
  E0 2 (some 8) none (.i (.mv (.t 23)))]
def spec_l4Good.r6 : List Ent := [
  E0 0 (some 24) none (.i (.mv (.t 0))),
  E0 1 (some 25) none (.i (.mv (.t 8))),
  E0 2 (some 26) none (.call F_spec_l4Clause false (roA [.t 24, .t 25])),
  E0 3 (some 27) none (.i (.un .not (.t 26)))]
def spec_l4Good.r7 : List Ent := [
  E0 0 (some 6) none (.i (.mv (.k (.dat none (.bool false)))))]
def spec_l4Good.r8 : List Ent := [
  E0 0 (some 28) none (.i (.bin .add (.t 20) (.k (I64 1)))),
  E0 1 (some 20) none (.i (.mv (.t 28)))]
def spec_l4Good.b0 : KC := .seq (.reg 960 1 spec_l4Good.r4) (.seq (.cond (.t 21) (.skip) (.exit 0)) (.seq (.block 1 (.seq (.reg 1024 3 spec_l4Good.r5) (.seq (.reg 1216 4 spec_l4Good.r6) (.cond (.t 27) (.seq (.reg 1472 1 spec_l4Good.r7) (.ret)) (.skip))))) (.reg 1536 2 spec_l4Good.r8)))
def spec_l4Good.r9 : List Ent := [
  E0 0 (some 6) none (.i (.mv (.k (.dat none (.bool true)))))]
def spec_l4Good.fi : FI := { res := [.t 6], code := .seq (.reg 64 1 spec_l4Good.r0) (.seq (.seq (.reg 128 9 spec_l4Good.r1) (.cond (.t 17) (.seq (.reg 704 1 spec_l4Good.r2) (.ret)) (.skip))) (.seq (.seq (.reg 768 3 spec_l4Good.r3) (.block 0 (.loop spec_l4Good.b0))) (.seq (.reg 1664 1 spec_l4Good.r9) (.ret)))) }
attribute [go_sem] spec_l4Good.r0 spec_l4Good.r1 spec_l4Good.r2 spec_l4Good.r3 spec_l4Good.r4 spec_l4Good.r5 spec_l4Good.r6 spec_l4Good.r7 spec_l4Good.r8 spec_l4Good.r9
theorem spec_l4Good.ok : chkF prog F_spec_l4Good 3 spec_l4Good.fi = true := by kernel_rfl

/-! spec_GoodClauses -/
def spec_GoodClauses.r0 : List Ent := [
  E0 0 (some 4) none (.i (.mv (.k (.dat none (.bool false)))))]
def spec_GoodClauses.r1 : List Ent := [
  E0 0 (some 5) none (.i (.mv (.t 0))),
  E0 1 (some 6) none (.i (.mv (.t 1))),
  E0 2 (some 7) none (.call F_spec_l4Good false (roA [.t 5, .t 6, .k (I64 60)])),
  E0 3 (some 4) none (.i (.mv (.t 7)))]
def spec_GoodClauses.fi : FI := { res := [.t 4], code := .seq (.reg 64 1 spec_GoodClauses.r0) (.seq (.reg 128 4 spec_GoodClauses.r1) (.ret)) }
attribute [go_sem] spec_GoodClauses.r0 spec_GoodClauses.r1
theorem spec_GoodClauses.ok : chkF prog F_spec_GoodClauses 2 spec_GoodClauses.fi = true := by kernel_rfl

/-! spec_IsTwo -/
def spec_IsTwo.r0 : List Ent := [
  E0 0 (some 4) none (.i (.mv (.k (.dat none (.bool false)))))]
def spec_IsTwo.r1 : List Ent := [
  E0 0 (some 7) none (.i (.mv (.t 1))),
  E0 1 (some 8) none (.i (.len (.t 7))),
  E0 2 (some 9) none (.i (.mv (.k (I64 0))))]
def spec_IsTwo.r2 : List Ent := [
  E0 0 (some 10) none (.i (.bin .lss (.t 9) (.t 8)))]
def spec_IsTwo.r3 : List Ent := [
  E0 0 (some 11) none (.i (.iad 1 (.t 7) (.t 9))),
  E0 1 (some 12) none (.i (.load false false 1 (.t 11))),
  E0 2 (some 6) none (.i (.mv (.t 12)))]
def spec_IsTwo.r4 : List Ent := [
  E0 0 (some 13) none (.i (.mv (.t 6))),
  E0 1 (some 14) none (.i (.len (.t 13))),
  E0 2 (some 15) none (.call F_spec_l1In false (roA [.t 14, .k (I64 1), .k (I64 2)])),
  E0 3 (some 16) none (.i (.un .not (.t 15)))]
def spec_IsTwo.r5 : List Ent := [
  E0 0 (some 4) none (.i (.mv (.k (.dat none (.bool false)))))]
def spec_IsTwo.r6 : List Ent := [
  E0 0 (some 17) none (.i (.bin .add (.t 9) (.k (I64 1)))),
  E0 1 (some 9) none (.i (.mv (.t 17)))]
def spec_IsTwo.b0 : KC := .seq (.reg 320 1 spec_IsTwo.r2) (.seq (.cond (.t 10) (.skip) (.exit 0)) (.seq (.block 1 (.seq (.reg 384 3 spec_IsTwo.r3) (.seq (.reg 576 4 spec_IsTwo.r4) (.cond (.t 16) (.seq (.reg 832 1 spec_IsTwo.r5) (.ret)) (.skip))))) (.reg 896 2 spec_IsTwo.r6)))
def spec_IsTwo.r7 : List Ent := [
  E0 0 (some 18) none (.i (.mv (.t 0))),
  E0 1 (some 19) none (.i (.mv (.t 1))),
  E0 2 (some 20) none (.call F_spec_GoodClauses false (roA [.t 18, .t 19])),
  E0 3 (some 4) none (.i (.mv (.t 20)))]
def spec_IsTwo.fi : FI := { res := [.t 4], code := .seq (.reg 64 1 spec_IsTwo.r0) (.seq (.seq (.reg 128 3 spec_IsTwo.r1) (.block 0 (.loop spec_IsTwo.b0))) (.seq (.reg 1024 4 spec_IsTwo.r7) (.ret))) }
attribute [go_sem] spec_IsTwo.r0 spec_IsTwo.r1 spec_IsTwo.r2 spec_IsTwo.r3 spec_IsTwo.r4 spec_IsTwo.r5 spec_IsTwo.r6 spec_IsTwo.r7
theorem spec_IsTwo.ok : chkF prog F_spec_IsTwo 2 spec_IsTwo.fi = true := by kernel_rfl

/-! spec_l15Next -/
def spec_l15Next.r0 : List Ent := [
  E0 0 (some 4) none (.i (.mv (.k (.nil 1))))]
def spec_l15Next.r1 : List Ent := [
  E0 0 (some 5) none (.i (.mv (.k (.nil 1))))]
def spec_l15Next.r2 : List Ent := [
  E0 0 (some 8) none (.i (.mv (.t 0))),
  E0 1 (some 9) none (.i (.len (.t 8))),
  E0 2 (some 10) none (.i (.mv (.k (I64 0))))]
def spec_l15Next.r3 : List Ent := [
  E0 0 (some 11) none (.i (.bin .lss (.t 10) (.t 9)))]
def spec_l15Next.r4 : List Ent := [
  E0 0 (some 12) none (.i (.iad 1 (.t 8) (.t 10))),
  E0 1 (some 13) none (.i (.load false false 1 (.t 12))),
  E0 2 (some 7) none (.i (.mv (.t 13)))]
def spec_l15Next.r5 : List Ent := [
  E0 0 (some 15) none (.i (.mv (.t 7))),
  E0 1 (some 16) none (.i (.len (.t 15))),
  E0 2 (some 17) none (.i (.bin .eql (.t 16) (.k (I64 1)))),
  E0 3 (some 18) none (.i (.mv (.t 17))),
  E0 4 (some 19) (some (18, true)) (.i (.mv (.t 7))),
  E0 5 (some 20) (some (18, true)) (.i (.iad 1 (.t 19) (.k (I64 0)))),
  E0 6 (some 21) (some (18, true)) (.i (.load false false 1 (.t 20))),
  E0 7 (some 22) (some (18, true)) (.i (.mv (.t 1))),
  E0 8 (some 23) (some (18, true)) (.i (.un .neg (.t 22))),
  E0 9 (some 24) (some (18, true)) (.i (.bin .eql (.t 21) (.t 23))),
  E0 10 (some 25) none (.i (.pick (.t 18) (.t 24) (.k (.dat none (.bool false))))),
  E0 11 (some 14) none (.i (.mv (.t 25)))]
def spec_l15Next.r6 : List Ent := [
  E0 0 (some 26) none (.i (.mv (.t 5))),
  E0 1 (some 27) none (.i (.mv (.t 7))),
  E0 2 (some 28) none (.i (.iad 1 (.t 27) (.k (I64 0)))),
  E0 3 (some 29) none (.i (.load false false 1 (.t 28))),
  E0 4 (some 30) none (.call F_spec_l1Put false [(.co, .t 26), (.ro, .t 29)]),
  E0 5 (some 5) none (.i (.mv (.t 30)))]
def spec_l15Next.r7 : List Ent := [
  E0 0 (some 32) none (.i (.mv (.t 7))),
  E0 1 (some 33) none (.i (.len (.t 32))),
  E0 2 (some 34) none (.i (.bin .eql (.t 33) (.k (I64 2)))),
  E0 3 (some 35) none (.i (.mv (.t 34))),
  E0 4 (some 36) (some (35, true)) (.i (.mv (.t 7))),
  E0 5 (some 37) (some (35, true)) (.i (.iad 1 (.t 36) (.k (I64 0)))),
  E0 6 (some 38) (some (35, true)) (.i (.load false false 1 (.t 37))),
  E0 7 (some 39) (some (35, true)) (.i (.mv (.t 1))),
  E0 8 (some 40) (some (35, true)) (.i (.un .neg (.t 39))),
  E0 9 (some 41) (some (35, true)) (.i (.bin .eql (.t 38) (.t 40))),
  E0 10 (some 42) none (.i (.pick (.t 35) (.t 41) (.k (.dat none (.bool false))))),
  E0 11 (some 31) none (.i (.mv (.t 42)))]
def spec_l15Next.r8 : List Ent := [
  E0 0 (some 43) none (.i (.mv (.t 5))),
  E0 1 (some 44) none (.i (.mv (.t 7))),
  E0 2 (some 45) none (.i (.iad 1 (.t 44) (.k (I64 1)))),
  E0 3 (some 46) none (.i (.load false false 1 (.t 45))),
  E0 4 (some 47) none (.call F_spec_l1Put false [(.co, .t 43), (.ro, .t 46)]),
  E0 5 (some 5) none (.i (.mv (.t 47)))]
def spec_l15Next.r9 : List Ent := [
  E0 0 (some 49) none (.i (.mv (.t 7))),
  E0 1 (some 50) none (.i (.len (.t 49))),
  E0 2 (some 51) none (.i (.bin .eql (.t 50) (.k (I64 2)))),
  E0 3 (some 52) none (.i (.mv (.t 51))),
  E0 4 (some 53) (some (52, true)) (.i (.mv (.t 7))),
  E0 5 (some 54) (some (52, true)) (.i (.iad 1 (.t 53) (.k (I64 1)))),
  E0 6 (some 55) (some (52, true)) (.i (.load false false 1 (.t 54))),
  E0 7 (some 56) (some (52, true)) (.i (.mv (.t 1))),
  E0 8 (some 57) (some (52, true)) (.i (.un .neg (.t 56))),
  E0 9 (some 58) (some (52, true)) (.i (.bin .eql (.t 55) (.t 57))),
  E0 10 (some 59) none (.i (.pick (.t 52) (.t 58) (.k (.dat none (.bool false))))),
  E0 11 (some 48) none (.i (.mv (.t 59)))]
def spec_l15Next.r10 : List Ent := [
  E0 0 (some 60) none (.i (.mv (.t 5))),
  E0 1 (some 61) none (.i (.mv (.t 7))),
  E0 2 (some 62) none (.i (.iad 1 (.t 61) (.k (I64 0)))),
  E0 3 (some 63) none (.i (.load false false 1 (.t 62))),
  E0 4 (some 64) none (.call F_spec_l1Put false [(.co, .t 60), (.ro, .t 63)]),
  E0 5 (some 5) none (.i (.mv (.t 64)))]
def spec_l15Next.r11 : List Ent := [
  E0 0 (some 65) none (.i (.bin .add (.t 10) (.k (I64 1)))),
  E0 1 (some 10) none (.i (.mv (.t 65)))]
def spec_l15Next.b0 : KC := .seq (.reg 384 1 spec_l15Next.r3) (.seq (.cond (.t 11) (.skip) (.exit 0)) (.seq (.block 1 (.seq (.reg 448 3 spec_l15Next.r4) (.block 2 (.seq (.reg 640 12 spec_l15Next.r5) (.cond (.t 14) (.reg 1408 6 spec_l15Next.r6) (.seq (.reg 1792 12 spec_l15Next.r7) (.cond (.t 31) (.reg 2560 6 spec_l15Next.r8) (.seq (.reg 2944 12 spec_l15Next.r9) (.cond (.t 48) (.reg 3712 6 spec_l15Next.r10) (.skip)))))))))) (.reg 4096 2 spec_l15Next.r11)))
def spec_l15Next.r12 : List Ent := [
  E0 0 (some 66) none (.i (.mv (.t 5))),
  E0 1 (some 4) none (.i (.mv (.t 66)))]
def spec_l15Next.fi : FI := { res := [.t 4], code := .seq (.reg 64 1 spec_l15Next.r0) (.seq (.reg 128 1 spec_l15Next.r1) (.seq (.seq (.reg 192 3 spec_l15Next.r2) (.block 0 (.loop spec_l15Next.b0))) (.seq (.reg 4224 2 spec_l15Next.r12) (.ret)))) }
attribute [go_sem] spec_l15Next.r0 spec_l15Next.r1 spec_l15Next.r2 spec_l15Next.r3 spec_l15Next.r4 spec_l15Next.r5 spec_l15Next.r6 spec_l15Next.r7 spec_l15Next.r8 spec_l15Next.r9 spec_l15Next.r10 spec_l15Next.r11 spec_l15Next.r12
theorem spec_l15Next.ok : chkF prog F_spec_l15Next 2 spec_l15Next.fi = true := by kernel_rfl

/-! spec_l15Leads -/
def spec_l15Leads.r0 : List Ent := [
  E0 0 (some 4) none (.i (.mv (.k (.nil 1))))]
def spec_l15Leads.r1 : List Ent := [
  E0 0 (some 10) none (.i (.mv (.t 1))),
  E0 1 (some 11) none (.i (.bsl false 1 [.t 10])),
  E0 2 (some 5) none (.i (.mv (.t 11)))]
def spec_l15Leads.r2 : List Ent := [
  E0 0 (some 12) none (.i (.mv (.t 1))),
  E0 1 (some 13) none (.i (.bsl false 1 [.t 12])),
  E0 2 (some 6) none (.i (.mv (.t 13)))]
def spec_l15Leads.r3 : List Ent := [
  E0 0 (some 14) none (.i (.mv (.t 6))),
  E0 1 (some 15) none (.i (.len (.t 14))),
  E0 2 (some 16) none (.i (.bin .gtr (.t 15) (.k (I64 0))))]
def spec_l15Leads.r4 : List Ent := [
  E0 0 (some 17) none (.i (.mv (.t 6))),
  E0 1 (some 18) none (.i (.iad 1 (.t 17) (.k (I64 0)))),
  E0 2 (some 19) none (.i (.load false false 1 (.t 18))),
  E0 3 (some 7) none (.i (.mv (.t 19)))]
def spec_l15Leads.r5 : List Ent := [
  E0 0 (some 20) none (.i (.mv (.t 6))),
  E0 1 (some 21) none (.i (.slc 1 (.t 20) (some (.k (I64 1))) (none))),
  E0 2 (some 6) none (.i (.mv (.t 21)))]
def spec_l15Leads.r6 : List Ent := [
  E0 0 (some 22) none (.i (.mv (.t 0))),
  E0 1 (some 23) none (.i (.mv (.t 7))),
  E0 2 (some 24) none (.call F_spec_l15Next false (roA [.t 22, .t 23])),
  E0 3 (some 25) none (.i (.len (.t 24))),
  E0 4 (some 26) none (.i (.mv (.k (I64 0))))]
def spec_l15Leads.r7 : List Ent := [
  E0 0 (some 27) none (.i (.bin .lss (.t 26) (.t 25)))]
def spec_l15Leads.r8 : List Ent := [
  E0 0 (some 28) none (.i (.iad 1 (.t 24) (.t 26))),
  E0 1 (some 29) none (.i (.load false false 1 (.t 28))),
  E0 2 (some 9) none (.i (.mv (.t 29)))]
def spec_l15Leads.r9 : List Ent := [
  E0 0 (some 30) none (.i (.mv (.t 5))),
  E0 1 (some 31) none (.i (.mv (.t 9))),
  E0 2 (some 32) none (.call F_spec_l1Has false (roA [.t 30, .t 31])),
  E0 3 (some 33) none (.i (.un .not (.t 32)))]
def spec_l15Leads.r10 : List Ent := [
  E0 0 (some 34) none (.i (.mv (.t 5))),
  E0 1 (some 35) none (.i (.mv (.t 9))),
  E0 2 (some 36) none (.call F_spec_l1Put false [(.co, .t 34), (.ro, .t 35)]),
  E0 3 (some 5) none (.i (.mv (.t 36)))]
def spec_l15Leads.r11 : List Ent := [
  E0 0 (some 37) none (.i (.mv (.t 6))),
  E0 1 (some 38) none (.i (.mv (.t 9))),
  E0 2 (some 39) none (.i (.bsl true 1 [.t 38])),
  E0 3 (some 40) none (.i (.app 1 8 (.t 37) (.t 39))),
  E0 4 (some 6) none (.i (.mv (.t 40)))]
def spec_l15Leads.r12 : List Ent := [
  E0 0 (some 41) none (.i (.bin .add (.t 26) (.k (I64 1)))),
  E0 1 (some 26) none (.i (.mv (.t 41)))]
def spec_l15Leads.b0 : KC := .seq (.reg 1472 1 spec_l15Leads.r7) (.seq (.cond (.t 27) (.skip) (.exit 2)) (.seq (.block 3 (.seq (.reg 1536 3 spec_l15Leads.r8) (.seq (.reg 1728 4 spec_l15Leads.r9) (.cond (.t 33) (.seq (.reg 1984 4 spec_l15Leads.r10) (.reg 2240 5 spec_l15Leads.r11)) (.skip))))) (.reg 2560 2 spec_l15Leads.r12)))
def spec_l15Leads.b1 : KC := .seq (.seq (.reg 512 3 spec_l15Leads.r3) (.cond (.t 16) (.skip) (.exit 0))) (.block 1 (.seq (.reg 704 4 spec_l15Leads.r4) (.seq (.reg 960 3 spec_l15Leads.r5) (.seq (.reg 1152 5 spec_l15Leads.r6) (.block 2 (.loop spec_l15Leads.b0))))))
def spec_l15Leads.r13 : List Ent := [
  E0 0 (some 42) none (.i (.mv (.t 5))),
  E0 1 (some 4) none (.i (.mv (.t 42)))]
def spec_l15Leads.fi : FI := { res := [.t 4], code := .seq (.reg 64 1 spec_l15Leads.r0) (.seq (.reg 128 3 spec_l15Leads.r1) (.seq (.reg 320 3 spec_l15Leads.r2) (.seq (.nrm 6 2432 1 (.block 0 (.loop spec_l15Leads.b1))) (.seq (.reg 2688 2 spec_l15Leads.r13) (.ret))))) }
attribute [go_sem] spec_l15Leads.r0 spec_l15Leads.r1 spec_l15Leads.r2 spec_l15Leads.r3 spec_l15Leads.r4 spec_l15Leads.r5 spec_l15Leads.r6 spec_l15Leads.r7 spec_l15Leads.r8 spec_l15Leads.r9 spec_l15Leads.r10 spec_l15Leads.r11 spec_l15Leads.r12 spec_l15Leads.r13
theorem spec_l15Leads.ok : chkF prog F_spec_l15Leads 2 spec_l15Leads.fi = true := by kernel_rfl

/-! spec_l15Opposed -/
def spec_l15Opposed.r0 : List Ent := [
  E0 0 (some 4) none (.i (.mv (.k (I64 0))))]
def spec_l15Opposed.r1 : List Ent := [
  E0 0 (some 5) none (.i (.mv (.k (I64 1))))]
def spec_l15Opposed.r2 : List Ent := [
  E0 0 (some 6) none (.i (.mv (.t 5))),
  E0 1 (some 7) none (.i (.mv (.t 0))),
  E0 2 (some 8) none (.i (.bin .leq (.t 6) (.t 7)))]
def spec_l15Opposed.r3 : List Ent := [
  E0 0 (some 11) none (.i (.mv (.t 1))),
  E0 1 (some 12) none (.i (.mv (.t 5))),
  E0 2 (some 13) none (.call F_spec_l15Leads false (roA [.t 11, .t 12])),
  E0 3 (some 14) none (.i (.mv (.t 5))),
  E0 4 (some 15) none (.i (.un .neg (.t 14))),
  E0 5 (some 16) none (.call F_spec_l1Has false (roA [.t 13, .t 15])),
  E0 6 (some 17) none (.i (.mv (.t 16))),
  E0 7 (some 18) (some (17, true)) (.i (.mv (.t 1))),
  E0 8 (some 19) (some (17, true)) (.i (.mv (.t 5))),
  E0 9 (some 20) (some (17, true)) (.i (.un .neg (.t 19))),
  E0 10 (some 21) (some (17, true)) (.call F_spec_l15Leads false (roA [.t 18, .t 20])),
  E0 11 (some 22) (some (17, true)) (.i (.mv (.t 5))),
  E0 12 (some 23) (some (17, true)) (.call F_spec_l1Has false (roA [.t 21, .t 22])),
  E0 13 (some 24) none (.i (.pick (.t 17) (.t 23) (.k (.dat none (.bool false)))))]
def spec_l15Opposed.r4 : List Ent := [
  E0 0 (some 25) none (.i (.mv (.t 5))),
  E0 1 (some 4) none (.i (.mv (.t 25)))]
def spec_l15Opposed.r5 : List Ent := [
  E0 0 (some 9) none (.i (.mv (.t 5))),
  E0 1 (some 10) none (.i (.bin .add (.t 9) (.k (I64 1)))),
  E0 2 (some 5) none (.i (.mv (.t 10)))]
def spec_l15Opposed.b0 : KC := .seq (.seq (.reg 192 3 spec_l15Opposed.r2) (.cond (.t 8) (.skip) (.exit 0))) (.seq (.block 1 (.seq (.reg 384 14 spec_l15Opposed.r3) (.cond (.t 24) (.seq (.reg 1280 2 spec_l15Opposed.r4) (.ret)) (.skip)))) (.reg 1408 3 spec_l15Opposed.r5))
def spec_l15Opposed.r6 : List Ent := [
  E0 0 (some 4) none (.i (.mv (.k (I64 0))))]
def spec_l15Opposed.fi : FI := { res := [.t 4], code := .seq (.reg 64 1 spec_l15Opposed.r0) (.seq (.seq (.reg 128 1 spec_l15Opposed.r1) (.block 0 (.loop spec_l15Opposed.b0))) (.seq (.reg 1600 1 spec_l15Opposed.r6) (.ret))) }
attribute [go_sem] spec_l15Opposed.r0 spec_l15Opposed.r1 spec_l15Opposed.r2 spec_l15Opposed.r3 spec_l15Opposed.r4 spec_l15Opposed.r5 spec_l15Opposed.r6
theorem spec_l15Opposed.ok : chkF prog F_spec_l15Opposed 2 spec_l15Opposed.fi = true := by kernel_rfl

/-! laws_toIntS -/
def laws_toIntS.r0 : List Ent := [
  E0 0 (some 2) none (.i (.mv (.k (.nil 1))))]
def laws_toIntS.r1 : List Ent := [
  E0 0 (some 5) none (.i (.mv (.t 0))),
  E0 1 (some 6) none (.i (.len (.t 5))),
  E0 2 (some 7) none (.i (.mks 1 8 (.int .i64 0) (.t 6) (.t 6))),
  E0 3 (some 3) none (.i (.mv (.t 7)))]
def laws_toIntS.r2 : List Ent := [
  E0 0 (some 4) none (.i (.mv (.k (I64 0))))]
def laws_toIntS.r3 : List Ent := [
  E0 0 (some 8) none (.i (.mv (.t 4))),
  E0 1 (some 9) none (.i (.mv (.t 0))),
  E0 2 (some 10) none (.i (.len (.t 9))),
  E0 3 (some 11) none (.i (.bin .lss (.t 8) (.t 10)))]
def laws_toIntS.r4 : List Ent := [
  E0 0 (some 14) none (.i (.mv (.t 3))),
  E0 1 (some 15) none (.i (.mv (.t 4))),
  E0 2 (some 16) none (.i (.mv (.t 0))),
  E0 3 (some 17) none (.i (.mv (.t 4))),
  E0 4 (some 18) none (.i (.iad 1 (.t 16) (.t 17))),
  E0 5 (some 19) none (.i (.load false false 1 (.t 18))),
  E0 6 (some 20) none (.i (.iad 1 (.t 14) (.t 15))),
  E0 7 none none (.i (.store 1 (.t 20) (.t 19)))]
def laws_toIntS.r5 : List Ent := [
  E0 0 (some 12) none (.i (.mv (.t 4))),
  E0 1 (some 13) none (.i (.bin .add (.t 12) (.k (I64 1)))),
  E0 2 (some 4) none (.i (.mv (.t 13)))]
def laws_toIntS.b0 : KC := .seq (.seq (.reg 448 4 laws_toIntS.r3) (.cond (.t 11) (.skip) (.exit 0))) (.seq (.block 1 (.reg 704 8 laws_toIntS.r4)) (.reg 1216 3 laws_toIntS.r5))
def laws_toIntS.r6 : List Ent := [
  E0 0 (some 21) none (.i (.mv (.t 3))),
  E0 1 (some 2) none (.i (.mv (.t 21)))]
def laws_toIntS.fi : FI := { res := [.t 2], code := .seq (.reg 64 1 laws_toIntS.r0) (.seq (.reg 128 4 laws_toIntS.r1) (.seq (.seq (.reg 384 1 laws_toIntS.r2) (.block 0 (.loop laws_toIntS.b0))) (.seq (.reg 1408 2 laws_toIntS.r6) (.ret)))) }
attribute [go_sem] laws_toIntS.r0 laws_toIntS.r1 laws_toIntS.r2 laws_toIntS.r3 laws_toIntS.r4 laws_toIntS.r5 laws_toIntS.r6
theorem laws_toIntS.ok : chkF prog F_laws_toIntS 1 laws_toIntS.fi = true := by kernel_rfl

/-! laws_toIntSS -/
def laws_toIntSS.r0 : List Ent := [
  E0 0 (some 2) none (.i (.mv (.k (.nil 1))))]
def laws_toIntSS.r1 : List Ent := [
  E0 0 (some 5) none (.i (.mv (.t 0))),
  E0 1 (some 6) none (.i (.len (.t 5))),
  E0 2 (some 7) none (.i (.mks 1 24 (.sl 1 []) (.t 6) (.t 6))),
  E0 3 (some 3) none (.i (.mv (.t 7)))]
def laws_toIntSS.r2 : List Ent := [
  E0 0 (some 4) none (.i (.mv (.k (I64 0))))]
def laws_toIntSS.r3 : List Ent := [
  E0 0 (some 8) none (.i (.mv (.t 4))),
  E0 1 (some 9) none (.i (.mv (.t 0))),
  E0 2 (some 10) none (.i (.len (.t 9))),
  E0 3 (some 11) none (.i (.bin .lss (.t 8) (.t 10)))]
def laws_toIntSS.r4 : List Ent := [
  E0 0 (some 14) none (.i (.mv (.t 3))),
  E0 1 (some 15) none (.i (.mv (.t 4))),
  E0 2 (some 16) none (.i (.mv (.t 0))),
  E0 3 (some 17) none (.i (.mv (.t 4))),
  E0 4 (some 18) none (.i (.iad 1 (.t 16) (.t 17))),
  E0 5 (some 19) none (.i (.load false false 1 (.t 18))),
  E0 6 (some 20) none (.call F_laws_toIntS false (roA [.t 19])),
  E0 7 (some 21) none (.i (.iad 1 (.t 14) (.t 15))),
  E0 8 none none (.i (.store 1 (.t 21) (.t 20)))]
def laws_toIntSS.r5 : List Ent := [
  E0 0 (some 12) none (.i (.mv (.t 4))),
  E0 1 (some 13) none (.i (.bin .add (.t 12) (.k (I64 1)))),
  E0 2 (some 4) none (.i (.mv (.t 13)))]
def laws_toIntSS.b0 : KC := .seq (.seq (.reg 448 4 laws_toIntSS.r3) (.cond (.t 11) (.skip) (.exit 0))) (.seq (.block 1 (.reg 704 9 laws_toIntSS.r4)) (.reg 1280 3 laws_toIntSS.r5))
def laws_toIntSS.r6 : List Ent := [
  E0 0 (some 22) none (.i (.mv (.t 3))),
  E0 1 (some 2) none (.i (.mv (.t 22)))]
def laws_toIntSS.fi : FI := { res := [.t 2], code := .seq (.reg 64 1 laws_toIntSS.r0) (.seq (.reg 128 4 laws_toIntSS.r1) (.seq (.seq (.reg 384 1 laws_toIntSS.r2) (.block 0 (.loop laws_toIntSS.b0))) (.seq (.reg 1472 2 laws_toIntSS.r6) (.ret)))) }
attribute [go_sem] laws_toIntSS.r0 laws_toIntSS.r1 laws_toIntSS.r2 laws_toIntSS.r3 laws_toIntSS.r4 laws_toIntSS.r5 laws_toIntSS.r6
theorem laws_toIntSS.ok : chkF prog F_laws_toIntSS 1 laws_toIntSS.fi = true := by kernel_rfl

/-! impl_in -/
def impl_in.r0 : List Ent := [
  E0 0 (some 6) none (.i (.mv (.k (.dat none (.bool false)))))]
def impl_in.r1 : List Ent := [
  E0 0 (some 7) none (.i (.mv (.t 0))),
  E0 1 (some 8) none (.i (.mv (.t 1))),
  E0 2 (some 9) none (.i (.bin .geq (.t 7) (.t 8))),
  E0 3 (some 10) none (.i (.mv (.t 9))),
  E0 4 (some 11) (some (10, true)) (.i (.mv (.t 0))),
  E0 5 (some 12) (some (10, true)) (.i (.mv (.t 2))),
  E0 6 (some 13) (some (10, true)) (.i (.bin .leq (.t 11) (.t 12))),
  E0 7 (some 14) none (.i (.pick (.t 10) (.t 13) (.k (.dat none (.bool false))))),
  E0 8 (some 6) none (.i (.mv (.t 14)))]
def impl_in.fi : FI := { res := [.t 6], code := .seq (.reg 64 1 impl_in.r0) (.seq (.reg 128 9 impl_in.r1) (.ret)) }
attribute [go_sem] impl_in.r0 impl_in.r1
theorem impl_in.ok : chkF prog F_impl_in 3 impl_in.fi = true := by kernel_rfl

/-! slices_IndexFunc__ssint_sint -/
def slices_IndexFunc__ssint_sint.r0 : List Ent := [
  E0 0 (some 4) none (.i (.mv (.k (I64 0))))]
def slices_IndexFunc__ssint_sint.r1 : List Ent := [
  E0 0 (some 6) none (.i (.mv (.t 0))),
  E0 1 (some 7) none (.i (.len (.t 6))),
  E0 2 (some 8) none (.i (.mv (.k (I64 0))))]
def slices_IndexFunc__ssint_sint.r2 : List Ent := [
  E0 0 (some 9) none (.i (.bin .lss (.t 8) (.t 7)))]
def slices_IndexFunc__ssint_sint.r3 : List Ent := [
  E0 0 (some 10) none (.i (.mv (.t 8))),
  E0 1 (some 5) none (.i (.mv (.t 10)))]
def slices_IndexFunc__ssint_sint.r4 : List Ent := [
  E0 0 (some 11) none (.i (.mv (.t 1))),
  E0 1 (some 12) none (.i (.mv (.t 0))),
  E0 2 (some 13) none (.i (.mv (.t 5))),
  E0 3 (some 14) none (.i (.iad 1 (.t 12) (.t 13))),
  E0 4 (some 15) none (.i (.load false false 1 (.t 14))),
  E0 5 (some 16) none (.ccl (.t 11) false [.t 15])]
def slices_IndexFunc__ssint_sint.r5 : List Ent := [
  E0 0 (some 17) none (.i (.mv (.t 5))),
  E0 1 (some 4) none (.i (.mv (.t 17)))]
def slices_IndexFunc__ssint_sint.r6 : List Ent := [
  E0 0 (some 18) none (.i (.bin .add (.t 8) (.k (I64 1)))),
  E0 1 (some 8) none (.i (.mv (.t 18)))]
def slices_IndexFunc__ssint_sint.b0 : KC := .seq (.reg 320 1 slices_IndexFunc__ssint_sint.r2) (.seq (.cond (.t 9) (.skip) (.exit 0)) (.seq (.block 1 (.seq (.reg 384 2 slices_IndexFunc__ssint_sint.r3) (.seq (.reg 512 6 slices_IndexFunc__ssint_sint.r4) (.cond (.t 16) (.seq (.reg 896 2 slices_IndexFunc__ssint_sint.r5) (.ret)) (.skip))))) (.reg 1024 2 slices_IndexFunc__ssint_sint.r6)))
def slices_IndexFunc__ssint_sint.r7 : List Ent := [
  E0 0 (some 4) none (.i (.mv (.k (I64 (-1)))))]
def slices_IndexFunc__ssint_sint.fi : FI := { res := [.t 4], code := .seq (.reg 64 1 slices_IndexFunc__ssint_sint.r0) (.seq (.seq (.reg 128 3 slices_IndexFunc__ssint_sint.r1) (.block 0 (.loop slices_IndexFunc__ssint_sint.b0))) (.seq (.reg 1152 1 slices_IndexFunc__ssint_sint.r7) (.ret))) }
attribute [go_sem] slices_IndexFunc__ssint_sint.r0 slices_IndexFunc__ssint_sint.r1 slices_IndexFunc__ssint_sint.r2 slices_IndexFunc__ssint_sint.r3 slices_IndexFunc__ssint_sint.r4 slices_IndexFunc__ssint_sint.r5 slices_IndexFunc__ssint_sint.r6 slices_IndexFunc__ssint_sint.r7
theorem slices_IndexFunc__ssint_sint.ok : chkF prog F_slices_IndexFunc__ssint_sint 2 slices_IndexFunc__ssint_sint.fi = true := by kernel_rfl

/-! slices_ContainsFunc__ssint_sint -/
def slices_ContainsFunc__ssint_sint.r0 : List Ent := [
  E0 0 (some 4) none (.i (.mv (.k (.dat none (.bool false)))))]
def slices_ContainsFunc__ssint_sint.r1 : List Ent := [
  E0 0 (some 5) none (.i (.mv (.t 0))),
  E0 1 (some 6) none (.i (.mv (.t 1))),
  E0 2 (some 7) none (.call F_slices_IndexFunc__ssint_sint false (roA [.t 5, .t 6])),
  E0 3 (some 8) none (.i (.bin .geq (.t 7) (.k (I64 0)))),
  E0 4 (some 4) none (.i (.mv (.t 8)))]
def slices_ContainsFunc__ssint_sint.fi : FI := { res := [.t 4], code := .seq (.reg 64 1 slices_ContainsFunc__ssint_sint.r0) (.seq (.reg 128 5 slices_ContainsFunc__ssint_sint.r1) (.ret)) }
attribute [go_sem] slices_ContainsFunc__ssint_sint.r0 slices_ContainsFunc__ssint_sint.r1
theorem slices_ContainsFunc__ssint_sint.ok : chkF prog F_slices_ContainsFunc__ssint_sint 2 slices_ContainsFunc__ssint_sint.fi = true := by kernel_rfl

/-! impl_isLiteral -/
def impl_isLiteral.r0 : List Ent := [
  E0 0 (some 4) none (.i (.mv (.k (.dat none (.bool false)))))]
def impl_isLiteral.r1 : List Ent := [
  E0 0 (some 5) none (.i (.mv (.t 0))),
  E0 1 (some 6) none (.i (.bin .neq (.t 5) (.k (I64 0)))),
  E0 2 (some 7) none (.i (.mv (.t 6))),
  E0 3 (some 8) (some (7, true)) (.i (.mv (.t 0))),
  E0 4 (some 9) (some (7, true)) (.i (.mv (.t 1))),
  E0 5 (some 10) (some (7, true)) (.i (.un .neg (.t 9))),
  E0 6 (some 11) (some (7, true)) (.i (.mv (.t 1))),
  E0 7 (some 12) (some (7, true)) (.call F_impl_in false (roA [.t 8, .t 10, .t 11])),
  E0 8 (some 13) none (.i (.pick (.t 7) (.t 12) (.k (.dat none (.bool false))))),
  E0 9 (some 4) none (.i (.mv (.t 13)))]
def impl_isLiteral.fi : FI := { res := [.t 4], code := .seq (.reg 64 1 impl_isLiteral.r0) (.seq (.reg 128 10 impl_isLiteral.r1) (.ret)) }
attribute [go_sem] impl_isLiteral.r0 impl_isLiteral.r1
theorem impl_isLiteral.ok : chkF prog F_impl_isLiteral 2 impl_isLiteral.fi = true := by kernel_rfl

/-! slices_IndexFunc__sint_int -/
def slices_IndexFunc__sint_int.r0 : List Ent := [
  E0 0 (some 4) none (.i (.mv (.k (I64 0))))]
def slices_IndexFunc__sint_int.r1 : List Ent := [
  E0 0 (some 6) none (.i (.mv (.t 0))),
  E0 1 (some 7) none (.i (.len (.t 6))),
  E0 2 (some 8) none (.i (.mv (.k (I64 0))))]
def slices_IndexFunc__sint_int.r2 : List Ent := [
  E0 0 (some 9) none (.i (.bin .lss (.t 8) (.t 7)))]
def slices_IndexFunc__sint_int.r3 : List Ent := [
  E0 0 (some 10) none (.i (.mv (.t 8))),
  E0 1 (some 5) none (.i (.mv (.t 10)))]
def slices_IndexFunc__sint_int.r4 : List Ent := [
  E0 0 (some 11) none (.i (.mv (.t 1))),
  E0 1 (some 12) none (.i (.mv (.t 0))),
  E0 2 (some 13) none (.i (.mv (.t 5))),
  E0 3 (some 14) none (.i (.iad 1 (.t 12) (.t 13))),
  E0 4 (some 15) none (.i (.load false false 1 (.t 14))),
  E0 5 (some 16) none (.ccl (.t 11) false [.t 15])]
def slices_IndexFunc__sint_int.r5 : List Ent := [
  E0 0 (some 17) none (.i (.mv (.t 5))),
  E0 1 (some 4) none (.i (.mv (.t 17)))]
def slices_IndexFunc__sint_int.r6 : List Ent := [
  E0 0 (some 18) none (.i (.bin .add (.t 8) (.k (I64 1)))),
  E0 1 (some 8) none (.i (.mv (.t 18)))]
def slices_IndexFunc__sint_int.b0 : KC := .seq (.reg 320 1 slices_IndexFunc__sint_int.r2) (.seq (.cond (.t 9) (.skip) (.exit 0)) (.seq (.block 1 (.seq (.reg 384 2 slices_IndexFunc__sint_int.r3) (.seq (.reg 512 6 slices_IndexFunc__sint_int.r4) (.cond (.t 16) (.seq (.reg 896 2 slices_IndexFunc__sint_int.r5) (.ret)) (.skip))))) (.reg 1024 2 slices_IndexFunc__sint_int.r6)))
def slices_IndexFunc__sint_int.r7 : List Ent := [
  E0 0 (some 4) none (.i (.mv (.k (I64 (-1)))))]
def slices_IndexFunc__sint_int.fi : FI := { res := [.t 4], code := .seq (.reg 64 1 slices_IndexFunc__sint_int.r0) (.seq (.seq (.reg 128 3 slices_IndexFunc__sint_int.r1) (.block 0 (.loop slices_IndexFunc__sint_int.b0))) (.seq (.reg 1152 1 slices_IndexFunc__sint_int.r7) (.ret))) }
attribute [go_sem] slices_IndexFunc__sint_int.r0 slices_IndexFunc__sint_int.r1 slices_IndexFunc__sint_int.r2 slices_IndexFunc__sint_int.r3 slices_IndexFunc__sint_int.r4 slices_IndexFunc__sint_int.r5 slices_IndexFunc__sint_int.r6 slices_IndexFunc__sint_int.r7
theorem slices_IndexFunc__sint_int.ok : chkF prog F_slices_IndexFunc__sint_int 2 slices_IndexFunc__sint_int.fi = true := by kernel_rfl

/-! slices_ContainsFunc__sint_int -/
def slices_ContainsFunc__sint_int.r0 : List Ent := [
  E0 0 (some 4) none (.i (.mv (.k (.dat none (.bool false)))))]
def slices_ContainsFunc__sint_int.r1 : List Ent := [
  E0 0 (some 5) none (.i (.mv (.t 0))),
  E0 1 (some 6) none (.i (.mv (.t 1))),
  E0 2 (some 7) none (.call F_slices_IndexFunc__sint_int false (roA [.t 5, .t 6])),
  E0 3 (some 8) none (.i (.bin .geq (.t 7) (.k (I64 0)))),
  E0 4 (some 4) none (.i (.mv (.t 8)))]
def slices_ContainsFunc__sint_int.fi : FI := { res := [.t 4], code := .seq (.reg 64 1 slices_ContainsFunc__sint_int.r0) (.seq (.reg 128 5 slices_ContainsFunc__sint_int.r1) (.ret)) }
attribute [go_sem] slices_ContainsFunc__sint_int.r0 slices_ContainsFunc__sint_int.r1
theorem slices_ContainsFunc__sint_int.ok : chkF prog F_slices_ContainsFunc__sint_int 2 slices_ContainsFunc__sint_int.fi = true := by kernel_rfl

/-! impl_variable -/
def impl_variable.r0 : List Ent := [
  E0 0 (some 2) none (.i (.mv (.k (I64 0))))]
def impl_variable.r1 : List Ent := [
  E0 0 (some 3) none (.i (.mv (.t 0))),
  E0 1 (some 4) none (.i (.mv (.t 0))),
  E0 2 (some 5) none (.i (.un .neg (.t 4))),
  E0 3 (some 6) none (.i (.mnx true (.t 3) (.t 5))),
  E0 4 (some 2) none (.i (.mv (.t 6)))]
def impl_variable.fi : FI := { res := [.t 2], code := .seq (.reg 64 1 impl_variable.r0) (.seq (.reg 128 5 impl_variable.r1) (.ret)) }
attribute [go_sem] impl_variable.r0 impl_variable.r1
theorem impl_variable.ok : chkF prog F_impl_variable 1 impl_variable.fi = true := by kernel_rfl

/-! impl_isClause_c1 -/
def impl_isClause_c1.r0 : List Ent := [
  E0 0 (some 3) none (.i (.mv (.k (.dat none (.bool false)))))]
def impl_isClause_c1.r1 : List Ent := [
  E0 0 (some 4) none (.i (.mv (.t 0))),
  E2 1 (some 5) none (.call F_impl_variable false (roA [.t 4])),
  ER 2 (some 6) none (.load false false 1 (.t 1)),
  E0 3 (some 7) none (.call F_impl_variable false (roA [.t 6])),
  E0 4 (some 8) none (.i (.bin .eql (.t 5) (.t 7))),
  E0 5 (some 3) none (.i (.mv (.t 8)))]
def impl_isClause_c1.fi : FI := { res := [.t 3], code := .seq (.reg 64 1 impl_isClause_c1.r0) (.seq (.reg 128 6 impl_isClause_c1.r1) (.ret)) }
attribute [go_sem] impl_isClause_c1.r0 impl_isClause_c1.r1
theorem impl_isClause_c1.ok : chkF prog F_impl_isClause_c1 2 impl_isClause_c1.fi = true := by kernel_rfl

/-! impl_isClause -/
def impl_isClause.r0 : List Ent := [
  E0 0 (some 4) none (.i (.mv (.k (.dat none (.bool false)))))]
def impl_isClause.r1 : List Ent := [
  E0 0 (some 7) none (.i (.mv (.t 0))),
  E0 1 (some 8) none (.i (.len (.t 7))),
  E0 2 (some 9) none (.i (.mv (.k (I64 0))))]
def impl_isClause.r2 : List Ent := [
  E0 0 (some 10) none (.i (.bin .lss (.t 9) (.t 8)))]
def impl_isClause.r3 : List Ent := [
  E0 0 (some 11) none (.i (.mv (.t 9))),
  E0 1 (some 12) none (.i (.iad 1 (.t 7) (.t 9))),
  E0 2 (some 13) none (.i (.load false false 1 (.t 12))),
  E0 3 (some 6) none (.i (.box (.k (.dat none (.int .i64 0))))),
  E0 4 (some 5) none (.i (.mv (.t 11))),
  E0 5 none none (.i (.store 1 (.t 6) (.t 13)))]
def impl_isClause.r4 : List Ent := [
  E0 0 (some 14) none (.i (.load false false 1 (.t 6))),
  E0 1 (some 15) none (.i (.mv (.t 1))),
  E0 2 (some 16) none (.call F_impl_isLiteral false (roA [.t 14, .t 15])),
  E0 3 (some 17) none (.i (.un .not (.t 16))),
  E0 4 (some 18) none (.i (.mv (.t 17))),
  E0 5 (some 19) (some (18, false)) (.i (.mv (.t 0))),
  E0 6 (some 20) (some (18, false)) (.i (.mv (.t 5))),
  E0 7 (some 21) (some (18, false)) (.i (.slc 1 (.t 19) (none) (some (.t 20)))),
  E0 8 (some 22) (some (18, false)) (.i (.mkf F_impl_isClause_c1 [.t 6])),
  E0 9 (some 23) (some (18, false)) (.call F_slices_ContainsFunc__sint_int false (roA [.t 21, .t 22])),
  E0 10 (some 24) none (.i (.pick (.t 18) (.k (.dat none (.bool true))) (.t 23)))]
def impl_isClause.r5 : List Ent := [
  E0 0 (some 4) none (.i (.mv (.k (.dat none (.bool false)))))]
def impl_isClause.r6 : List Ent := [
  E0 0 (some 25) none (.i (.bin .add (.t 9) (.k (I64 1)))),
  E0 1 (some 9) none (.i (.mv (.t 25)))]
def impl_isClause.b0 : KC := .seq (.reg 320 1 impl_isClause.r2) (.seq (.cond (.t 10) (.skip) (.exit 0)) (.seq (.block 1 (.seq (.reg 384 6 impl_isClause.r3) (.seq (.reg 768 11 impl_isClause.r4) (.cond (.t 24) (.seq (.reg 1472 1 impl_isClause.r5) (.ret)) (.skip))))) (.reg 1536 2 impl_isClause.r6)))
def impl_isClause.r7 : List Ent := [
  E0 0 (some 26) none (.i (.mv (.t 0))),
  E0 1 (some 27) none (.i (.len (.t 26))),
  E0 2 (some 28) none (.i (.bin .leq (.t 27) (.k (I64 12)))),
  E0 3 (some 4) none (.i (.mv (.t 28)))]
def impl_isClause.fi : FI := { res := [.t 4], code := .seq (.reg 64 1 impl_isClause.r0) (.seq (.seq (.reg 128 3 impl_isClause.r1) (.block 0 (.loop impl_isClause.b0))) (.seq (.reg 1664 4 impl_isClause.r7) (.ret))) }
attribute [go_sem] impl_isClause.r0 impl_isClause.r1 impl_isClause.r2 impl_isClause.r3 impl_isClause.r4 impl_isClause.r5 impl_isClause.r6 impl_isClause.r7
theorem impl_isClause.ok : chkF prog F_impl_isClause 2 impl_isClause.fi = true := by kernel_rfl

/-! impl_areClauses_c1 -/
def impl_areClauses_c1.r0 : List Ent := [
  E0 0 (some 3) none (.i (.mv (.k (.dat none (.bool false)))))]
def impl_areClauses_c1.r1 : List Ent := [
  E0 0 (some 4) none (.i (.mv (.t 0))),
  E0 1 (some 5) none (.i (.load false false 1 (.t 1))),
  E0 2 (some 6) none (.call F_impl_isClause false (roA [.t 4, .t 5])),
  E0 3 (some 7) none (.i (.un .not (.t 6))),
  E0 4 (some 3) none (.i (.mv (.t 7)))]
def impl_areClauses_c1.fi : FI := { res := [.t 3], code := .seq (.reg 64 1 impl_areClauses_c1.r0) (.seq (.reg 128 5 impl_areClauses_c1.r1) (.ret)) }
attribute [go_sem] impl_areClauses_c1.r0 impl_areClauses_c1.r1
theorem impl_areClauses_c1.ok : chkF prog F_impl_areClauses_c1 2 impl_areClauses_c1.fi = true := by kernel_rfl

/-! impl_areClauses -/
def impl_areClauses.r0 : List Ent := [
  E0 0 (some 3) none (.i (.box (.t 1))),
  E0 1 (some 4) none (.i (.mv (.k (.dat none (.bool false)))))]
def impl_areClauses.r1 : List Ent := [
  E0 0 (some 5) none (.i (.mv (.t 0))),
  E0 1 (some 6) none (.i (.mkf F_impl_areClauses_c1 [.t 3])),
  E0 2 (some 7) none (.call F_slices_ContainsFunc__ssint_sint false (roA [.t 5, .t 6])),
  E0 3 (some 8) none (.i (.un .not (.t 7))),
  E0 4 (some 4) none (.i (.mv (.t 8)))]
def impl_areClauses.fi : FI := { res := [.t 4], code := .seq (.reg 64 2 impl_areClauses.r0) (.seq (.reg 192 5 impl_areClauses.r1) (.ret)) }
attribute [go_sem] impl_areClauses.r0 impl_areClauses.r1
theorem impl_areClauses.ok : chkF prog F_impl_areClauses 2 impl_areClauses.fi = true := by kernel_rfl

/-! impl_GoodClauses -/
def impl_GoodClauses.r0 : List Ent := [
  E0 0 (some 4) none (.i (.mv (.k (.dat none (.bool false)))))]
def impl_GoodClauses.r1 : List Ent := [
  E0 0 (some 5) none (.i (.mv (.t 0))),
  E0 1 (some 6) none (.call F_impl_in false (roA [.t 5, .k (I64 0), .k (I64 12)])),
  E0 2 (some 7) none (.i (.mv (.t 6))),
  E0 3 (some 8) (some (7, true)) (.i (.mv (.t 1))),
  E0 4 (some 9) (some (7, true)) (.i (.len (.t 8))),
  E0 5 (some 10) (some (7, true)) (.i (.bin .leq (.t 9) (.k (I64 60)))),
  E0 6 (some 11) none (.i (.pick (.t 7) (.t 10) (.k (.dat none (.bool false))))),
  E0 7 (some 12) none (.i (.mv (.t 11))),
  E0 8 (some 13) (some (12, true)) (.i (.mv (.t 1))),
  E0 9 (some 14) (some (12, true)) (.i (.mv (.t 0))),
  E0 10 (some 15) (some (12, true)) (.call F_impl_areClauses false (roA [.t 13, .t 14])),
  E0 11 (some 16) none (.i (.pick (.t 12) (.t 15) (.k (.dat none (.bool false))))),
  E0 12 (some 4) none (.i (.mv (.t 16)))]
def impl_GoodClauses.fi : FI := { res := [.t 4], code := .seq (.reg 64 1 impl_GoodClauses.r0) (.seq (.reg 128 13 impl_GoodClauses.r1) (.ret)) }
attribute [go_sem] impl_GoodClauses.r0 impl_GoodClauses.r1
theorem impl_GoodClauses.ok : chkF prog F_impl_GoodClauses 2 impl_GoodClauses.fi = true := by kernel_rfl

/-! impl_IsTwo_c1 -/
def impl_IsTwo_c1.r0 : List Ent := [
  E0 0 (some 2) none (.i (.mv (.k (.dat none (.bool false)))))]
def impl_IsTwo_c1.r1 : List Ent := [
  E0 0 (some 3) none (.i (.mv (.t 0))),
  E0 1 (some 4) none (.i (.len (.t 3))),
  E0 2 (some 5) none (.call F_impl_in false (roA [.t 4, .k (I64 1), .k (I64 2)])),
  E0 3 (some 6) none (.i (.un .not (.t 5))),
  E0 4 (some 2) none (.i (.mv (.t 6)))]
def impl_IsTwo_c1.fi : FI := { res := [.t 2], code := .seq (.reg 64 1 impl_IsTwo_c1.r0) (.seq (.reg 128 5 impl_IsTwo_c1.r1) (.ret)) }
attribute [go_sem] impl_IsTwo_c1.r0 impl_IsTwo_c1.r1
theorem impl_IsTwo_c1.ok : chkF prog F_impl_IsTwo_c1 1 impl_IsTwo_c1.fi = true := by kernel_rfl

/-! impl_IsTwo -/
def impl_IsTwo.r0 : List Ent := [
  E0 0 (some 4) none (.i (.mv (.k (.dat none (.bool false)))))]
def impl_IsTwo.r1 : List Ent := [
  E0 0 (some 5) none (.i (.mv (.t 0))),
  E0 1 (some 6) none (.i (.mv (.t 1))),
  E0 2 (some 7) none (.call F_impl_GoodClauses false (roA [.t 5, .t 6])),
  E0 3 (some 8) none (.i (.mv (.t 7))),
  E0 4 (some 9) (some (8, true)) (.i (.mv (.t 1))),
  E0 5 (some 10) (some (8, true)) (.call F_slices_ContainsFunc__ssint_sint false (roA [.t 9, .k (.clo F_impl_IsTwo_c1 [])])),
  E0 6 (some 11) (some (8, true)) (.i (.un .not (.t 10))),
  E0 7 (some 12) none (.i (.pick (.t 8) (.t 11) (.k (.dat none (.bool false))))),
  E0 8 (some 4) none (.i (.mv (.t 12)))]
def impl_IsTwo.fi : FI := { res := [.t 4], code := .seq (.reg 64 1 impl_IsTwo.r0) (.seq (.reg 128 9 impl_IsTwo.r1) (.ret)) }
attribute [go_sem] impl_IsTwo.r0 impl_IsTwo.r1
theorem impl_IsTwo.ok : chkF prog F_impl_IsTwo 2 impl_IsTwo.fi = true := by kernel_rfl

/-! slices_Index__sint_int -/
def slices_Index__sint_int.r0 : List Ent := [
  E0 0 (some 4) none (.i (.mv (.k (I64 0))))]
def slices_Index__sint_int.r1 : List Ent := [
  E0 0 (some 6) none (.i (.mv (.t 0))),
  E0 1 (some 7) none (.i (.len (.t 6))),
  E0 2 (some 8) none (.i (.mv (.k (I64 0))))]
def slices_Index__sint_int.r2 : List Ent := [
  E0 0 (some 9) none (.i (.bin .lss (.t 8) (.t 7)))]
def slices_Index__sint_int.r3 : List Ent := [
  E0 0 (some 10) none (.i (.mv (.t 8))),
  E0 1 (some 5) none (.i (.mv (.t 10)))]
def slices_Index__sint_int.r4 : List Ent := [
  E0 0 (some 11) none (.i (.mv (.t 1))),
  E0 1 (some 12) none (.i (.mv (.t 0))),
  E0 2 (some 13) none (.i (.mv (.t 5))),
  E0 3 (some 14) none (.i (.iad 1 (.t 12) (.t 13))),
  E0 4 (some 15) none (.i (.load false false 1 (.t 14))),
  E0 5 (some 16) none (.i (.bin .eql (.t 11) (.t 15)))]
def slices_Index__sint_int.r5 : List Ent := [
  E0 0 (some 17) none (.i (.mv (.t 5))),
  E0 1 (some 4) none (.i (.mv (.t 17)))]
def slices_Index__sint_int.r6 : List Ent := [
  E0 0 (some 18) none (.i (.bin .add (.t 8) (.k (I64 1)))),
  E0 1 (some 8) none (.i (.mv (.t 18)))]
def slices_Index__sint_int.b0 : KC := .seq (.reg 320 1 slices_Index__sint_int.r2) (.seq (.cond (.t 9) (.skip) (.exit 0)) (.seq (.block 1 (.seq (.reg 384 2 slices_Index__sint_int.r3) (.seq (.reg 512 6 slices_Index__sint_int.r4) (.cond (.t 16) (.seq (.reg 896 2 slices_Index__sint_int.r5) (.ret)) (.skip))))) (.reg 1024 2 slices_Index__sint_int.r6)))
def slices_Index__sint_int.r7 : List Ent := [
  E0 0 (some 4) none (.i (.mv (.k (I64 (-1)))))]
def slices_Index__sint_int.fi : FI := { res := [.t 4], code := .seq (.reg 64 1 slices_Index__sint_int.r0) (.seq (.seq (.reg 128 3 slices_Index__sint_int.r1) (.block 0 (.loop slices_Index__sint_int.b0))) (.seq (.reg 1152 1 slices_Index__sint_int.r7) (.ret))) }
attribute [go_sem] slices_Index__sint_int.r0 slices_Index__sint_int.r1 slices_Index__sint_int.r2 slices_Index__sint_int.r3 slices_Index__sint_int.r4 slices_Index__sint_int.r5 slices_Index__sint_int.r6 slices_Index__sint_int.r7
theorem slices_Index__sint_int.ok : chkF prog F_slices_Index__sint_int 2 slices_Index__sint_int.fi = true := by kernel_rfl

/-! slices_Contains__sint_int -/
def slices_Contains__sint_int.r0 : List Ent := [
  E0 0 (some 4) none (.i (.mv (.k (.dat none (.bool false)))))]
def slices_Contains__sint_int.r1 : List Ent := [
  E0 0 (some 5) none (.i (.mv (.t 0))),
  E0 1 (some 6) none (.i (.mv (.t 1))),
  E0 2 (some 7) none (.call F_slices_Index__sint_int false (roA [.t 5, .t 6])),
  E0 3 (some 8) none (.i (.bin .geq (.t 7) (.k (I64 0)))),
  E0 4 (some 4) none (.i (.mv (.t 8)))]
def slices_Contains__sint_int.fi : FI := { res := [.t 4], code := .seq (.reg 64 1 slices_Contains__sint_int.r0) (.seq (.reg 128 5 slices_Contains__sint_int.r1) (.ret)) }
attribute [go_sem] slices_Contains__sint_int.r0 slices_Contains__sint_int.r1
theorem slices_Contains__sint_int.ok : chkF prog F_slices_Contains__sint_int 2 slices_Contains__sint_int.fi = true := by kernel_rfl

/-! impl_leadsTo -/
def impl_leadsTo.r0 : List Ent := [
  E0 0 (some 4) none (.i (.mv (.k (.nil 1))))]
def impl_leadsTo.r1 : List Ent := [
  E0 0 (some 12) none (.i (.mv (.t 1))),
  E0 1 (some 13) none (.i (.bsl false 1 [.t 12])),
  E0 2 (some 5) none (.i (.mv (.t 13)))]
def impl_leadsTo.r2 : List Ent := [
  E0 0 (some 6) none (.i (.mv (.k (I64 0))))]
def impl_leadsTo.r3 : List Ent := [
  E0 0 (some 14) none (.i (.mv (.t 6))),
  E0 1 (some 15) none (.i (.mv (.t 5))),
  E0 2 (some 16) none (.i (.len (.t 15))),
  E0 3 (some 17) none (.i (.bin .lss (.t 14) (.t 16)))]
def impl_leadsTo.r4 : List Ent := [
  E0 0 (some 20) none (.i (.mv (.t 0))),
  E0 1 (some 21) none (.i (.len (.t 20))),
  E0 2 (some 22) none (.i (.mv (.k (I64 0))))]
def impl_leadsTo.r5 : List Ent := [
  E0 0 (some 23) none (.i (.bin .lss (.t 22) (.t 21)))]
def impl_leadsTo.r6 : List Ent := [
  E0 0 (some 24) none (.i (.iad 1 (.t 20) (.t 22))),
  E0 1 (some 25) none (.i (.load false false 1 (.t 24))),
  E0 2 (some 8) none (.i (.mv (.t 25)))]
def impl_leadsTo.r7 : List Ent := [
  E0 0 (some 26) none (.i (.mv (.t 8))),
  E0 1 (some 27) none (.i (.len (.t 26))),
  E0 2 (some 28) none (.i (.mv (.k (I64 0))))]
def impl_leadsTo.r8 : List Ent := [
  E0 0 (some 29) none (.i (.bin .lss (.t 28) (.t 27)))]
def impl_leadsTo.r9 : List Ent := [
  E0 0 (some 30) none (.i (.mv (.t 28))),
  E0 1 (some 31) none (.i (.iad 1 (.t 26) (.t 28))),
  E0 2 (some 32) none (.i (.load false false 1 (.t 31))),
  E0 3 (some 9) none (.i (.mv (.t 30))),
  E0 4 (some 10) none (.i (.mv (.t 32)))]
def impl_leadsTo.r10 : List Ent := [
  E0 0 (some 33) none (.i (.mv (.t 8))),
  E0 1 (some 34) none (.i (.mv (.t 8))),
  E0 2 (some 35) none (.i (.len (.t 34))),
  E0 3 (some 36) none (.i (.bin .sub (.t 35) (.k (I64 1)))),
  E0 4 (some 37) none (.i (.mv (.t 9))),
  E0 5 (some 38) none (.i (.bin .sub (.t 36) (.t 37))),
  E0 6 (some 39) none (.i (.iad 1 (.t 33) (.t 38))),
  E0 7 (some 40) none (.i (.load false false 1 (.t 39))),
  E0 8 (some 11) none (.i (.mv (.t 40)))]
def impl_leadsTo.r11 : List Ent := [
  E0 0 (some 41) none (.i (.mv (.t 10))),
  E0 1 (some 42) none (.i (.un .neg (.t 41))),
  E0 2 (some 43) none (.i (.mv (.t 5))),
  E0 3 (some 44) none (.i (.mv (.t 6))),
  E0 4 (some 45) none (.i (.iad 1 (.t 43) (.t 44))),
  E0 5 (some 46) none (.i (.load false false 1 (.t 45))),
  E0 6 (some 47) none (.i (.bin .eql (.t 42) (.t 46))),
  E0 7 (some 48) none (.i (.mv (.t 47))),
  E0 8 (some 49) (some (48, true)) (.i (.mv (.t 5))),
  E0 9 (some 50) (some (48, true)) (.i (.mv (.t 11))),
  E0 10 (some 51) (some (48, true)) (.call F_slices_Contains__sint_int false (roA [.t 49, .t 50])),
  E0 11 (some 52) (some (48, true)) (.i (.un .not (.t 51))),
  E0 12 (some 53) none (.i (.pick (.t 48) (.t 52) (.k (.dat none (.bool false)))))]
def impl_leadsTo.r12 : List Ent := [
  E0 0 (some 54) none (.i (.mv (.t 5))),
  E0 1 (some 55) none (.i (.mv (.t 11))),
  E0 2 (some 56) none (.i (.bsl true 1 [.t 55])),
  E0 3 (some 57) none (.i (.app 1 8 (.t 54) (.t 56))),
  E0 4 (some 5) none (.i (.mv (.t 57)))]
def impl_leadsTo.r13 : List Ent := [
  E0 0 (some 58) none (.i (.bin .add (.t 28) (.k (I64 1)))),
  E0 1 (some 28) none (.i (.mv (.t 58)))]
def impl_leadsTo.b0 : KC := .seq (.reg 1280 1 impl_leadsTo.r8) (.seq (.cond (.t 29) (.skip) (.exit 4)) (.seq (.block 5 (.seq (.reg 1344 5 impl_leadsTo.r9) (.seq (.reg 1664 9 impl_leadsTo.r10) (.seq (.reg 2240 13 impl_leadsTo.r11) (.cond (.t 53) (.reg 3072 5 impl_leadsTo.r12) (.skip)))))) (.reg 3392 2 impl_leadsTo.r13)))
def impl_leadsTo.r14 : List Ent := [
  E0 0 (some 59) none (.i (.bin .add (.t 22) (.k (I64 1)))),
  E0 1 (some 22) none (.i (.mv (.t 59)))]
def impl_leadsTo.b1 : KC := .seq (.reg 832 1 impl_leadsTo.r5) (.seq (.cond (.t 23) (.skip) (.exit 2)) (.seq (.block 3 (.seq (.reg 896 3 impl_leadsTo.r6) (.seq (.reg 1088 3 impl_leadsTo.r7) (.block 4 (.loop impl_leadsTo.b0))))) (.reg 3520 2 impl_leadsTo.r14)))
def impl_leadsTo.r15 : List Ent := [
  E0 0 (some 18) none (.i (.mv (.t 6))),
  E0 1 (some 19) none (.i (.bin .add (.t 18) (.k (I64 1)))),
  E0 2 (some 6) none (.i (.mv (.t 19)))]
def impl_leadsTo.b2 : KC := .seq (.seq (.reg 384 4 impl_leadsTo.r3) (.cond (.t 17) (.skip) (.exit 0))) (.seq (.block 1 (.seq (.reg 640 3 impl_leadsTo.r4) (.block 2 (.loop impl_leadsTo.b1)))) (.reg 3648 3 impl_leadsTo.r15))
def impl_leadsTo.r16 : List Ent := [
  E0 0 (some 60) none (.i (.mv (.t 5))),
  E0 1 (some 61) none (.call F_slices_Sort__sint_int false [(.io, .t 60)])]
def impl_leadsTo.r17 : List Ent := [
  E0 0 (some 62) none (.i (.mv (.t 5))),
  E0 1 (some 4) none (.i (.mv (.t 62)))]
def impl_leadsTo.fi : FI := { res := [.t 4], code := .seq (.reg 64 1 impl_leadsTo.r0) (.seq (.reg 128 3 impl_leadsTo.r1) (.seq (.seq (.reg 320 1 impl_leadsTo.r2) (.nrm 5 3264 1 (.block 0 (.loop impl_leadsTo.b2)))) (.seq (.reg 3840 2 impl_leadsTo.r16) (.seq (.reg 3968 2 impl_leadsTo.r17) (.ret))))) }
attribute [go_sem] impl_leadsTo.r0 impl_leadsTo.r1 impl_leadsTo.r2 impl_leadsTo.r3 impl_leadsTo.r4 impl_leadsTo.r5 impl_leadsTo.r6 impl_leadsTo.r7 impl_leadsTo.r8 impl_leadsTo.r9 impl_leadsTo.r10 impl_leadsTo.r11 impl_leadsTo.r12 impl_leadsTo.r13 impl_leadsTo.r14 impl_leadsTo.r15 impl_leadsTo.r16 impl_leadsTo.r17
theorem impl_leadsTo.ok : chkF prog F_impl_leadsTo 2 impl_leadsTo.fi = true := by kernel_rfl

/-! impl_leads -/
def impl_leads.r0 : List Ent := [
  E0 0 (some 6) none (.i (.mv (.k (.dat none (.bool false)))))]
def impl_leads.r1 : List Ent := [
  E0 0 (some 7) none (.i (.mv (.t 0))),
  E0 1 (some 8) none (.i (.mv (.t 1))),
  E0 2 (some 9) none (.call F_impl_leadsTo false (roA [.t 7, .t 8])),
  E0 3 (some 10) none (.i (.mv (.t 2))),
  E0 4 (some 11) none (.call F_slices_Contains__sint_int false (roA [.t 9, .t 10])),
  E0 5 (some 6) none (.i (.mv (.t 11)))]
def impl_leads.fi : FI := { res := [.t 6], code := .seq (.reg 64 1 impl_leads.r0) (.seq (.reg 128 6 impl_leads.r1) (.ret)) }
attribute [go_sem] impl_leads.r0 impl_leads.r1
theorem impl_leads.ok : chkF prog F_impl_leads 3 impl_leads.fi = true := by kernel_rfl

/-! impl_opposed -/
def impl_opposed.r0 : List Ent := [
  E0 0 (some 4) none (.i (.mv (.k (I64 0)))),
  E0 1 (some 5) none (.i (.mv (.k (.dat none (.bool false)))))]
def impl_opposed.r1 : List Ent := [
  E0 0 (some 6) none (.i (.mv (.k (I64 1))))]
def impl_opposed.r2 : List Ent := [
  E0 0 (some 7) none (.i (.mv (.t 6))),
  E0 1 (some 8) none (.i (.mv (.t 0))),
  E0 2 (some 9) none (.i (.bin .leq (.t 7) (.t 8)))]
def impl_opposed.r3 : List Ent := [
  E0 0 (some 12) none (.i (.mv (.t 1))),
  E0 1 (some 13) none (.i (.mv (.t 6))),
  E0 2 (some 14) none (.i (.mv (.t 6))),
  E0 3 (some 15) none (.i (.un .neg (.t 14))),
  E0 4 (some 16) none (.call F_impl_leads false (roA [.t 12, .t 13, .t 15])),
  E0 5 (some 17) none (.i (.mv (.t 16))),
  E0 6 (some 18) (some (17, true)) (.i (.mv (.t 1))),
  E0 7 (some 19) (some (17, true)) (.i (.mv (.t 6))),
  E0 8 (some 20) (some (17, true)) (.i (.un .neg (.t 19))),
  E0 9 (some 21) (some (17, true)) (.i (.mv (.t 6))),
  E0 10 (some 22) (some (17, true)) (.call F_impl_leads false (roA [.t 18, .t 20, .t 21])),
  E0 11 (some 23) none (.i (.pick (.t 17) (.t 22) (.k (.dat none (.bool false)))))]
def impl_opposed.r4 : List Ent := [
  E0 0 (some 24) none (.i (.mv (.t 6))),
  E0 1 (some 4) none (.i (.mv (.t 24))),
  E0 2 (some 5) none (.i (.mv (.k (.dat none (.bool true)))))]
def impl_opposed.r5 : List Ent := [
  E0 0 (some 10) none (.i (.mv (.t 6))),
  E0 1 (some 11) none (.i (.bin .add (.t 10) (.k (I64 1)))),
  E0 2 (some 6) none (.i (.mv (.t 11)))]
def impl_opposed.b0 : KC := .seq (.seq (.reg 256 3 impl_opposed.r2) (.cond (.t 9) (.skip) (.exit 0))) (.seq (.block 1 (.seq (.reg 448 12 impl_opposed.r3) (.cond (.t 23) (.seq (.reg 1216 3 impl_opposed.r4) (.ret)) (.skip)))) (.reg 1408 3 impl_opposed.r5))
def impl_opposed.r6 : List Ent := [
  E0 0 (some 4) none (.i (.mv (.k (I64 0)))),
  E0 1 (some 5) none (.i (.mv (.k (.dat none (.bool false)))))]
def impl_opposed.fi : FI := { res := [.t 4, .t 5], code := .seq (.reg 64 2 impl_opposed.r0) (.seq (.seq (.reg 192 1 impl_opposed.r1) (.block 0 (.loop impl_opposed.b0))) (.seq (.reg 1600 2 impl_opposed.r6) (.ret))) }
attribute [go_sem] impl_opposed.r0 impl_opposed.r1 impl_opposed.r2 impl_opposed.r3 impl_opposed.r4 impl_opposed.r5 impl_opposed.r6
theorem impl_opposed.ok : chkF prog F_impl_opposed 2 impl_opposed.fi = true := by kernel_rfl

/-! laws_eqIntS -/
def laws_eqIntS.r0 : List Ent := [
  E0 0 (some 4) none (.i (.mv (.k (.dat none (.bool false)))))]
def laws_eqIntS.r1 : List Ent := [
  E0 0 (some 6) none (.i (.mv (.t 0))),
  E0 1 (some 7) none (.i (.len (.t 6))),
  E0 2 (some 8) none (.i (.mv (.t 1))),
  E0 3 (some 9) none (.i (.len (.t 8))),
  E0 4 (some 10) none (.i (.bin .neq (.t 7) (.t 9)))]
def laws_eqIntS.r2 : List Ent := [
  E0 0 (some 4) none (.i (.mv (.k (.dat none (.bool false)))))]
def laws_eqIntS.r3 : List Ent := [
  E0 0 (some 5) none (.i (.mv (.k (I64 0))))]
def laws_eqIntS.r4 : List Ent := [
  E0 0 (some 11) none (.i (.mv (.t 5))),
  E0 1 (some 12) none (.i (.mv (.t 0))),
  E0 2 (some 13) none (.i (.len (.t 12))),
  E0 3 (some 14) none (.i (.bin .lss (.t 11) (.t 13)))]
def laws_eqIntS.r5 : List Ent := [
  E0 0 (some 17) none (.i (.mv (.t 0))),
  E0 1 (some 18) none (.i (.mv (.t 5))),
  ER 2 (some 19) none (.iad 1 (.t 17) (.t 18)),
  ER 3 (some 20) none (.load false false 1 (.t 19)),
  E0 4 (some 21) none (.i (.mv (.t 1))),
  E0 5 (some 22) none (.i (.mv (.t 5))),
  ER 6 (some 23) none (.iad 1 (.t 21) (.t 22)),
  ER 7 (some 24) none (.load false false 1 (.t 23)),
  E0 8 (some 25) none (.i (.bin .neq (.t 20) (.t 24)))]
def laws_eqIntS.r6 : List Ent := [
  E0 0 (some 4) none (.i (.mv (.k (.dat none (.bool false)))))]
def laws_eqIntS.r7 : List Ent := [
  E0 0 (some 15) none (.i (.mv (.t 5))),
  E0 1 (some 16) none (.i (.bin .add (.t 15) (.k (I64 1)))),
  E0 2 (some 5) none (.i (.mv (.t 16)))]
def laws_eqIntS.b0 : KC := .seq (.seq (.reg 576 4 laws_eqIntS.r4) (.cond (.t 14) (.skip) (.exit 0))) (.seq (.block 1 (.seq (.reg 832 9 laws_eqIntS.r5) (.cond (.t 25) (.seq (.reg 1408 1 laws_eqIntS.r6) (.ret)) (.skip)))) (.reg 1472 3 laws_eqIntS.r7))
def laws_eqIntS.r8 : List Ent := [
  E0 0 (some 4) none (.i (.mv (.k (.dat none (.bool true)))))]
def laws_eqIntS.fi : FI := { res := [.t 4], code := .seq (.reg 64 1 laws_eqIntS.r0) (.seq (.seq (.reg 128 5 laws_eqIntS.r1) (.cond (.t 10) (.seq (.reg 448 1 laws_eqIntS.r2) (.ret)) (.skip))) (.seq (.seq (.reg 512 1 laws_eqIntS.r3) (.block 0 (.loop laws_eqIntS.b0))) (.seq (.reg 1664 1 laws_eqIntS.r8) (.ret)))) }
attribute [go_sem] laws_eqIntS.r0 laws_eqIntS.r1 laws_eqIntS.r2 laws_eqIntS.r3 laws_eqIntS.r4 laws_eqIntS.r5 laws_eqIntS.r6 laws_eqIntS.r7 laws_eqIntS.r8
theorem laws_eqIntS.ok : chkF prog F_laws_eqIntS 2 laws_eqIntS.fi = true := by kernel_rfl

/-! laws_eqIntSS -/
def laws_eqIntSS.r0 : List Ent := [
  E0 0 (some 4) none (.i (.mv (.k (.dat none (.bool false)))))]
def laws_eqIntSS.r1 : List Ent := [
  E0 0 (some 6) none (.i (.mv (.t 0))),
  E0 1 (some 7) none (.i (.len (.t 6))),
  E0 2 (some 8) none (.i (.mv (.t 1))),
  E0 3 (some 9) none (.i (.len (.t 8))),
  E0 4 (some 10) none (.i (.bin .neq (.t 7) (.t 9)))]
def laws_eqIntSS.r2 : List Ent := [
  E0 0 (some 4) none (.i (.mv (.k (.dat none (.bool false)))))]
def laws_eqIntSS.r3 : List Ent := [
  E0 0 (some 5) none (.i (.mv (.k (I64 0))))]
def laws_eqIntSS.r4 : List Ent := [
  E0 0 (some 11) none (.i (.mv (.t 5))),
  E0 1 (some 12) none (.i (.mv (.t 0))),
  E0 2 (some 13) none (.i (.len (.t 12))),
  E0 3 (some 14) none (.i (.bin .lss (.t 11) (.t 13)))]
def laws_eqIntSS.r5 : List Ent := [
  E0 0 (some 17) none (.i (.mv (.t 0))),
  E0 1 (some 18) none (.i (.mv (.t 5))),
  ER 2 (some 19) none (.iad 1 (.t 17) (.t 18)),
  ER 3 (some 20) none (.load false false 1 (.t 19)),
  E0 4 (some 21) none (.i (.mv (.t 1))),
  E0 5 (some 22) none (.i (.mv (.t 5))),
  ER 6 (some 23) none (.iad 1 (.t 21) (.t 22)),
  ER 7 (some 24) none (.load false false 1 (.t 23)),
  E0 8 (some 25) none (.call F_laws_eqIntS false (roA [.t 20, .t 24])),
  E0 9 (some 26) none (.i (.un .not (.t 25)))]
def laws_eqIntSS.r6 : List Ent := [
  E0 0 (some 4) none (.i (.mv (.k (.dat none (.bool false)))))]
def laws_eqIntSS.r7 : List Ent := [
  E0 0 (some 15) none (.i (.mv (.t 5))),
  E0 1 (some 16) none (.i (.bin .add (.t 15) (.k (I64 1)))),
  E0 2 (some 5) none (.i (.mv (.t 16)))]
def laws_eqIntSS.b0 : KC := .seq (.seq (.reg 576 4 laws_eqIntSS.r4) (.cond (.t 14) (.skip) (.exit 0))) (.seq (.block 1 (.seq (.reg 832 10 laws_eqIntSS.r5) (.cond (.t 26) (.seq (.reg 1472 1 laws_eqIntSS.r6) (.ret)) (.skip)))) (.reg 1536 3 laws_eqIntSS.r7))
def laws_eqIntSS.r8 : List Ent := [
  E0 0 (some 4) none (.i (.mv (.k (.dat none (.bool true)))))]
def laws_eqIntSS.fi : FI := { res := [.t 4], code := .seq (.reg 64 1 laws_eqIntSS.r0) (.seq (.seq (.reg 128 5 laws_eqIntSS.r1) (.cond (.t 10) (.seq (.reg 448 1 laws_eqIntSS.r2) (.ret)) (.skip))) (.seq (.seq (.reg 512 1 laws_eqIntSS.r3) (.block 0 (.loop laws_eqIntSS.b0))) (.seq (.reg 1728 1 laws_eqIntSS.r8) (.ret)))) }
attribute [go_sem] laws_eqIntSS.r0 laws_eqIntSS.r1 laws_eqIntSS.r2 laws_eqIntSS.r3 laws_eqIntSS.r4 laws_eqIntSS.r5 laws_eqIntSS.r6 laws_eqIntSS.r7 laws_eqIntSS.r8
theorem laws_eqIntSS.ok : chkF prog F_laws_eqIntSS 2 laws_eqIntSS.fi = true := by kernel_rfl

/-! laws_markIntS -/
def laws_markIntS.r0 : List Ent := [
  E0 0 (some 4) none (.i (.mv (.k (I64 0))))]
def laws_markIntS.r1 : List Ent := [
  E0 0 (some 5) none (.i (.mv (.k (I64 0))))]
def laws_markIntS.r2 : List Ent := [
  E0 0 (some 6) none (.i (.mv (.t 5))),
  E0 1 (some 7) none (.i (.mv (.t 0))),
  E0 2 (some 8) none (.i (.len (.t 7))),
  E0 3 (some 9) none (.i (.bin .lss (.t 6) (.t 8)))]
def laws_markIntS.r3 : List Ent := [
  E0 0 (some 12) none (.i (.mv (.t 0))),
  E0 1 (some 13) none (.i (.mv (.t 5))),
  E0 2 (some 14) none (.i (.mv (.t 1))),
  E0 3 (some 15) none (.i (.iad 1 (.t 12) (.t 13))),
  E0 4 none none (.i (.store 1 (.t 15) (.t 14)))]
def laws_markIntS.r4 : List Ent := [
  E0 0 (some 16) none (.i (.mv (.t 1))),
  E0 1 (some 17) none (.i (.bin .add (.t 16) (.k (I64 1)))),
  E0 2 (some 1) none (.i (.mv (.t 17)))]
def laws_markIntS.r5 : List Ent := [
  E0 0 (some 10) none (.i (.mv (.t 5))),
  E0 1 (some 11) none (.i (.bin .add (.t 10) (.k (I64 1)))),
  E0 2 (some 5) none (.i (.mv (.t 11)))]
def laws_markIntS.b0 : KC := .seq (.seq (.reg 192 4 laws_markIntS.r2) (.cond (.t 9) (.skip) (.exit 0))) (.seq (.block 1 (.seq (.reg 448 5 laws_markIntS.r3) (.reg 768 3 laws_markIntS.r4))) (.reg 960 3 laws_markIntS.r5))
def laws_markIntS.r6 : List Ent := [
  E0 0 (some 18) none (.i (.mv (.t 1))),
  E0 1 (some 4) none (.i (.mv (.t 18)))]
def laws_markIntS.fi : FI := { res := [.t 4], code := .seq (.reg 64 1 laws_markIntS.r0) (.seq (.seq (.reg 128 1 laws_markIntS.r1) (.block 0 (.loop laws_markIntS.b0))) (.seq (.reg 1152 2 laws_markIntS.r6) (.ret))) }
attribute [go_sem] laws_markIntS.r0 laws_markIntS.r1 laws_markIntS.r2 laws_markIntS.r3 laws_markIntS.r4 laws_markIntS.r5 laws_markIntS.r6
theorem laws_markIntS.ok : chkF prog F_laws_markIntS 2 laws_markIntS.fi = true := by kernel_rfl

/-! laws_markIntSS -/
def laws_markIntSS.r0 : List Ent := [
  E0 0 (some 4) none (.i (.mv (.k (I64 0))))]
def laws_markIntSS.r1 : List Ent := [
  E0 0 (some 5) none (.i (.mv (.k (I64 0))))]
def laws_markIntSS.r2 : List Ent := [
  E0 0 (some 6) none (.i (.mv (.t 5))),
  E0 1 (some 7) none (.i (.mv (.t 0))),
  E0 2 (some 8) none (.i (.len (.t 7))),
  E0 3 (some 9) none (.i (.bin .lss (.t 6) (.t 8)))]
def laws_markIntSS.r3 : List Ent := [
  E0 0 (some 12) none (.i (.mv (.t 0))),
  E0 1 (some 13) none (.i (.mv (.t 5))),
  E0 2 (some 14) none (.i (.iad 1 (.t 12) (.t 13))),
  E0 3 (some 15) none (.i (.load true false 1 (.t 14))),
  E0 4 (some 16) none (.i (.mv (.t 1))),
  E0 5 (some 17) none (.call F_laws_markIntS false [(.io, .t 15), (.ro, .t 16)]),
  E0 6 (some 1) none (.i (.mv (.t 17)))]
def laws_markIntSS.r4 : List Ent := [
  E0 0 (some 10) none (.i (.mv (.t 5))),
  E0 1 (some 11) none (.i (.bin .add (.t 10) (.k (I64 1)))),
  E0 2 (some 5) none (.i (.mv (.t 11)))]
def laws_markIntSS.b0 : KC := .seq (.seq (.reg 192 4 laws_markIntSS.r2) (.cond (.t 9) (.skip) (.exit 0))) (.seq (.block 1 (.reg 448 7 laws_markIntSS.r3)) (.reg 896 3 laws_markIntSS.r4))
def laws_markIntSS.r5 : List Ent := [
  E0 0 (some 18) none (.i (.mv (.t 1))),
  E0 1 (some 4) none (.i (.mv (.t 18)))]
def laws_markIntSS.fi : FI := { res := [.t 4], code := .seq (.reg 64 1 laws_markIntSS.r0) (.seq (.seq (.reg 128 1 laws_markIntSS.r1) (.block 0 (.loop laws_markIntSS.b0))) (.seq (.reg 1088 2 laws_markIntSS.r5) (.ret))) }
attribute [go_sem] laws_markIntSS.r0 laws_markIntSS.r1 laws_markIntSS.r2 laws_markIntSS.r3 laws_markIntSS.r4 laws_markIntSS.r5
theorem laws_markIntSS.ok : chkF prog F_laws_markIntSS 2 laws_markIntSS.fi = true := by kernel_rfl

/-! spec_SolveTwo -/
def spec_SolveTwo.r0 : List Ent := [
  E0 0 (some 4) none (.i (.mv (.k (.nil 1)))),
  E0 1 (some 5) none (.i (.mv (.k (.dat none (.bool false))))),
  E0 2 (some 6) none (.i (.mv (.k (.dat none (.bool false)))))]
def spec_SolveTwo.r1 : List Ent := [
  E0 0 (some 14) none (.i (.mv (.t 0))),
  E0 1 (some 15) none (.i (.mv (.t 1))),
  E0 2 (some 16) none (.call F_spec_IsTwo false (roA [.t 14, .t 15])),
  E0 3 (some 17) none (.i (.un .not (.t 16)))]
def spec_SolveTwo.r2 : List Ent := [
  E0 0 (some 4) none (.i (.mv (.k (.nil 1)))),
  E0 1 (some 5) none (.i (.mv (.k (.dat none (.bool false))))),
  E0 2 (some 6) none (.i (.mv (.k (.dat none (.bool false)))))]
def spec_SolveTwo.r3 : List Ent := [
  E0 0 (some 18) none (.i (.mv (.t 0))),
  E0 1 (some 19) none (.i (.mv (.t 1))),
  E0 2 (some 20) none (.call F_spec_l15Opposed false (roA [.t 18, .t 19])),
  E0 3 (some 21) none (.i (.bin .gtr (.t 20) (.k (I64 0))))]
def spec_SolveTwo.r4 : List Ent := [
  E0 0 (some 4) none (.i (.mv (.k (.nil 1)))),
  E0 1 (some 5) none (.i (.mv (.k (.dat none (.bool false))))),
  E0 2 (some 6) none (.i (.mv (.k (.dat none (.bool true)))))]
def spec_SolveTwo.r5 : List Ent := [
  E0 0 (some 7) none (.i (.mv (.k (.nil 1))))]
def spec_SolveTwo.r6 : List Ent := [
  E0 0 (some 8) none (.i (.mv (.k (I64 1))))]
def spec_SolveTwo.r7 : List Ent := [
  E0 0 (some 22) none (.i (.mv (.t 8))),
  E0 1 (some 23) none (.i (.mv (.t 0))),
  E0 2 (some 24) none (.i (.bin .leq (.t 22) (.t 23)))]
def spec_SolveTwo.r8 : List Ent := [
  E0 0 (some 27) none (.i (.mv (.t 7))),
  E0 1 (some 28) none (.i (.mv (.t 8))),
  E0 2 (some 29) none (.call F_spec_l1Has false (roA [.t 27, .t 28])),
  E0 3 (some 30) none (.i (.mv (.t 29))),
  E0 4 (some 31) (some (30, false)) (.i (.mv (.t 7))),
  E0 5 (some 32) (some (30, false)) (.i (.mv (.t 8))),
  E0 6 (some 33) (some (30, false)) (.i (.un .neg (.t 32))),
  E0 7 (some 34) (some (30, false)) (.call F_spec_l1Has false (roA [.t 31, .t 33])),
  E0 8 (some 35) none (.i (.pick (.t 30) (.k (.dat none (.bool true))) (.t 34)))]
def spec_SolveTwo.r9 : List Ent := [
  E0 0 (some 36) none (.i (.mv (.t 8))),
  E0 1 (some 9) none (.i (.mv (.t 36)))]
def spec_SolveTwo.r10 : List Ent := [
  E0 0 (some 37) none (.i (.mv (.t 1))),
  E0 1 (some 38) none (.i (.mv (.t 8))),
  E0 2 (some 39) none (.call F_spec_l15Leads false (roA [.t 37, .t 38])),
  E0 3 (some 40) none (.i (.mv (.t 8))),
  E0 4 (some 41) none (.i (.un .neg (.t 40))),
  E0 5 (some 42) none (.call F_spec_l1Has false (roA [.t 39, .t 41]))]
def spec_SolveTwo.r11 : List Ent := [
  E0 0 (some 43) none (.i (.mv (.t 8))),
  E0 1 (some 44) none (.i (.un .neg (.t 43))),
  E0 2 (some 9) none (.i (.mv (.t 44)))]
def spec_SolveTwo.r12 : List Ent := [
  E0 0 (some 45) none (.i (.mv (.t 1))),
  E0 1 (some 46) none (.i (.mv (.t 9))),
  E0 2 (some 47) none (.call F_spec_l15Leads false (roA [.t 45, .t 46])),
  E0 3 (some 48) none (.i (.len (.t 47))),
  E0 4 (some 49) none (.i (.mv (.k (I64 0))))]
def spec_SolveTwo.r13 : List Ent := [
  E0 0 (some 50) none (.i (.bin .lss (.t 49) (.t 48)))]
def spec_SolveTwo.r14 : List Ent := [
  E0 0 (some 51) none (.i (.iad 1 (.t 47) (.t 49))),
  E0 1 (some 52) none (.i (.load false false 1 (.t 51))),
  E0 2 (some 11) none (.i (.mv (.t 52)))]
def spec_SolveTwo.r15 : List Ent := [
  E0 0 (some 53) none (.i (.mv (.t 7))),
  E0 1 (some 54) none (.i (.mv (.t 11))),
  E0 2 (some 55) none (.call F_spec_l1Put false [(.co, .t 53), (.ro, .t 54)]),
  E0 3 (some 7) none (.i (.mv (.t 55)))]
def spec_SolveTwo.r16 : List Ent := [
  E0 0 (some 56) none (.i (.bin .add (.t 49) (.k (I64 1)))),
  E0 1 (some 49) none (.i (.mv (.t 56)))]
def spec_SolveTwo.b0 : KC := .seq (.reg 3072 1 spec_SolveTwo.r13) (.seq (.cond (.t 50) (.skip) (.exit 2)) (.seq (.block 3 (.seq (.reg 3136 3 spec_SolveTwo.r14) (.reg 3328 4 spec_SolveTwo.r15))) (.reg 3584 2 spec_SolveTwo.r16)))
def spec_SolveTwo.r17 : List Ent := [
  E0 0 (some 25) none (.i (.mv (.t 8))),
  E0 1 (some 26) none (.i (.bin .add (.t 25) (.k (I64 1)))),
  E0 2 (some 8) none (.i (.mv (.t 26)))]
def spec_SolveTwo.b1 : KC := .seq (.seq (.reg 1280 3 spec_SolveTwo.r7) (.cond (.t 24) (.skip) (.exit 0))) (.seq (.block 1 (.seq (.seq (.reg 1472 9 spec_SolveTwo.r8) (.cond (.t 35) (.exit 1) (.skip))) (.seq (.reg 2048 2 spec_SolveTwo.r9) (.seq (.seq (.reg 2176 6 spec_SolveTwo.r10) (.cond (.t 42) (.reg 2560 3 spec_SolveTwo.r11) (.skip))) (.seq (.reg 2752 5 spec_SolveTwo.r12) (.block 2 (.loop spec_SolveTwo.b0))))))) (.reg 3712 3 spec_SolveTwo.r17))
def spec_SolveTwo.r18 : List Ent := [
  E0 0 (some 57) none (.i (.mv (.t 0))),
  E0 1 (some 58) none (.i (.mks 1 1 (.bool false) (.t 57) (.t 57))),
  E0 2 (some 12) none (.i (.mv (.t 58)))]
def spec_SolveTwo.r19 : List Ent := [
  E0 0 (some 59) none (.i (.mv (.t 12))),
  E0 1 (some 60) none (.i (.len (.t 59))),
  E0 2 (some 61) none (.i (.mv (.k (I64 0))))]
def spec_SolveTwo.r20 : List Ent := [
  E0 0 (some 62) none (.i (.bin .lss (.t 61) (.t 60)))]
def spec_SolveTwo.r21 : List Ent := [
  E0 0 (some 63) none (.i (.mv (.t 61))),
  E0 1 (some 13) none (.i (.mv (.t 63)))]
def spec_SolveTwo.r22 : List Ent := [
  E0 0 (some 64) none (.i (.mv (.t 12))),
  E0 1 (some 65) none (.i (.mv (.t 13))),
  E0 2 (some 66) none (.i (.mv (.t 7))),
  E0 3 (some 67) none (.i (.mv (.t 13))),
  E0 4 (some 68) none (.i (.bin .add (.t 67) (.k (I64 1)))),
  E0 5 (some 69) none (.call F_spec_l1Has false (roA [.t 66, .t 68])),
  E0 6 (some 70) none (.i (.iad 1 (.t 64) (.t 65))),
  E0 7 none none (.i (.store 1 (.t 70) (.t 69)))]
def spec_SolveTwo.r23 : List Ent := [
  E0 0 (some 71) none (.i (.bin .add (.t 61) (.k (I64 1)))),
  E0 1 (some 61) none (.i (.mv (.t 71)))]
def spec_SolveTwo.b2 : KC := .seq (.reg 4288 1 spec_SolveTwo.r20) (.seq (.cond (.t 62) (.skip) (.exit 4)) (.seq (.block 5 (.seq (.reg 4352 2 spec_SolveTwo.r21) (.reg 4480 8 spec_SolveTwo.r22))) (.reg 4992 2 spec_SolveTwo.r23)))
def spec_SolveTwo.r24 : List Ent := [
  E0 0 (some 72) none (.i (.mv (.t 12))),
  E0 1 (some 4) none (.i (.mv (.t 72))),
  E0 2 (some 5) none (.i (.mv (.k (.dat none (.bool true))))),
  E0 3 (some 6) none (.i (.mv (.k (.dat none (.bool true)))))]
def spec_SolveTwo.fi : FI := { res := [.t 4, .t 5, .t 6], code := .seq (.reg 64 3 spec_SolveTwo.r0) (.seq (.seq (.reg 256 4 spec_SolveTwo.r1) (.cond (.t 17) (.seq (.reg 512 3 spec_SolveTwo.r2) (.ret)) (.skip))) (.seq (.seq (.reg 704 4 spec_SolveTwo.r3) (.cond (.t 21) (.seq (.reg 960 3 spec_SolveTwo.r4) (.ret)) (.skip))) (.seq (.reg 1152 1 spec_SolveTwo.r5) (.seq (.seq (.reg 1216 1 spec_SolveTwo.r6) (.block 0 (.loop spec_SolveTwo.b1))) (.seq (.reg 3904 3 spec_SolveTwo.r18) (.seq (.seq (.reg 4096 3 spec_SolveTwo.r19) (.block 4 (.loop spec_SolveTwo.b2))) (.seq (.reg 5120 4 spec_SolveTwo.r24) (.ret)))))))) }
attribute [go_sem] spec_SolveTwo.r0 spec_SolveTwo.r1 spec_SolveTwo.r2 spec_SolveTwo.r3 spec_SolveTwo.r4 spec_SolveTwo.r5 spec_SolveTwo.r6 spec_SolveTwo.r7 spec_SolveTwo.r8 spec_SolveTwo.r9 spec_SolveTwo.r10 spec_SolveTwo.r11 spec_SolveTwo.r12 spec_SolveTwo.r13 spec_SolveTwo.r14 spec_SolveTwo.r15 spec_SolveTwo.r16 spec_SolveTwo.r17 spec_SolveTwo.r18 spec_SolveTwo.r19 spec_SolveTwo.r20 spec_SolveTwo.r21 spec_SolveTwo.r22 spec_SolveTwo.r23 spec_SolveTwo.r24
theorem spec_SolveTwo.ok : chkF prog F_spec_SolveTwo 2 spec_SolveTwo.fi = true := by kernel_rfl

/-! impl_SolveTwo -/
def impl_SolveTwo.r0 : List Ent := [
  E0 0 (some 4) none (.i (.mv (.k (.nil 1)))),
  E0 1 (some 5) none (.i (.mv (.k (.dat none (.bool false))))),
  E0 2 (some 6) none (.i (.mv (.k (.dat none (.bool false)))))]
def impl_SolveTwo.r1 : List Ent := [
  E0 0 (some 14) none (.i (.mv (.t 0))),
  E0 1 (some 15) none (.i (.mv (.t 1))),
  E0 2 (some 16) none (.call F_impl_IsTwo false (roA [.t 14, .t 15])),
  E0 3 (some 17) none (.i (.un .not (.t 16)))]
def impl_SolveTwo.r2 : List Ent := [
  E0 0 (some 4) none (.i (.mv (.k (.nil 1)))),
  E0 1 (some 5) none (.i (.mv (.k (.dat none (.bool false))))),
  E0 2 (some 6) none (.i (.mv (.k (.dat none (.bool false)))))]
def impl_SolveTwo.r3 : List Ent := [
  E0 0 (some 19) none (.i (.mv (.t 0))),
  E0 1 (some 20) none (.i (.mv (.t 1))),
  E0 2 (some 21) none (.call F_impl_opposed false (roA [.t 19, .t 20])),
  E0 3 (some 18) none (.i (.mv (.t 21))),
  E0 4 (some 22) none (.i (.ext 0 (.t 18))),
  E0 5 (some 23) none (.i (.ext 1 (.t 18))),
  E0 6 (some 7) none (.i (.mv (.t 22))),
  E0 7 (some 8) none (.i (.mv (.t 23)))]
def impl_SolveTwo.r4 : List Ent := [
  E0 0 (some 24) none (.i (.mv (.t 8)))]
def impl_SolveTwo.r5 : List Ent := [
  E0 0 (some 4) none (.i (.mv (.k (.nil 1)))),
  E0 1 (some 5) none (.i (.mv (.k (.dat none (.bool false))))),
  E0 2 (some 6) none (.i (.mv (.k (.dat none (.bool true)))))]
def impl_SolveTwo.r6 : List Ent := [
  E0 0 (some 9) none (.i (.mv (.k (.nil 1))))]
def impl_SolveTwo.r7 : List Ent := [
  E0 0 (some 10) none (.i (.mv (.k (I64 1))))]
def impl_SolveTwo.r8 : List Ent := [
  E0 0 (some 25) none (.i (.mv (.t 10))),
  E0 1 (some 26) none (.i (.mv (.t 0))),
  E0 2 (some 27) none (.i (.bin .leq (.t 25) (.t 26)))]
def impl_SolveTwo.r9 : List Ent := [
  E0 0 (some 30) none (.i (.mv (.t 9))),
  E0 1 (some 31) none (.i (.mv (.t 10))),
  E0 2 (some 32) none (.call F_slices_Contains__sint_int false (roA [.t 30, .t 31])),
  E0 3 (some 33) none (.i (.mv (.t 32))),
  E0 4 (some 34) (some (33, false)) (.i (.mv (.t 9))),
  E0 5 (some 35) (some (33, false)) (.i (.mv (.t 10))),
  E0 6 (some 36) (some (33, false)) (.i (.un .neg (.t 35))),
  E0 7 (some 37) (some (33, false)) (.call F_slices_Contains__sint_int false (roA [.t 34, .t 36])),
  E0 8 (some 38) none (.i (.pick (.t 33) (.k (.dat none (.bool true))) (.t 37)))]
def impl_SolveTwo.r10 : List Ent := [
  E0 0 (some 39) none (.i (.mv (.t 10))),
  E0 1 (some 11) none (.i (.mv (.t 39)))]
def impl_SolveTwo.r11 : List Ent := [
  E0 0 (some 40) none (.i (.mv (.t 1))),
  E0 1 (some 41) none (.i (.mv (.t 10))),
  E0 2 (some 42) none (.i (.mv (.t 10))),
  E0 3 (some 43) none (.i (.un .neg (.t 42))),
  E0 4 (some 44) none (.call F_impl_leads false (roA [.t 40, .t 41, .t 43]))]
def impl_SolveTwo.r12 : List Ent := [
  E0 0 (some 45) none (.i (.mv (.t 10))),
  E0 1 (some 46) none (.i (.un .neg (.t 45))),
  E0 2 (some 11) none (.i (.mv (.t 46)))]
def impl_SolveTwo.r13 : List Ent := [
  E0 0 (some 47) none (.i (.mv (.t 9))),
  E0 1 (some 48) none (.i (.mv (.t 1))),
  E0 2 (some 49) none (.i (.mv (.t 11))),
  E0 3 (some 50) none (.call F_impl_leadsTo false (roA [.t 48, .t 49])),
  E0 4 (some 51) none (.i (.app 1 8 (.t 47) (.t 50))),
  E0 5 (some 9) none (.i (.mv (.t 51)))]
def impl_SolveTwo.r14 : List Ent := [
  E0 0 (some 28) none (.i (.mv (.t 10))),
  E0 1 (some 29) none (.i (.bin .add (.t 28) (.k (I64 1)))),
  E0 2 (some 10) none (.i (.mv (.t 29)))]
def impl_SolveTwo.b0 : KC := .seq (.seq (.reg 1600 3 impl_SolveTwo.r8) (.cond (.t 27) (.skip) (.exit 0))) (.seq (.block 1 (.seq (.seq (.reg 1792 9 impl_SolveTwo.r9) (.cond (.t 38) (.exit 1) (.skip))) (.seq (.reg 2368 2 impl_SolveTwo.r10) (.seq (.seq (.reg 2496 5 impl_SolveTwo.r11) (.cond (.t 44) (.reg 2816 3 impl_SolveTwo.r12) (.skip))) (.reg 3008 6 impl_SolveTwo.r13))))) (.reg 3392 3 impl_SolveTwo.r14))
def impl_SolveTwo.r15 : List Ent := [
  E0 0 (some 52) none (.i (.mv (.t 0))),
  E0 1 (some 53) none (.i (.mks 1 1 (.bool false) (.t 52) (.t 52))),
  E0 2 (some 12) none (.i (.mv (.t 53)))]
def impl_SolveTwo.r16 : List Ent := [
  E0 0 (some 54) none (.i (.mv (.t 12))),
  E0 1 (some 55) none (.i (.len (.t 54))),
  E0 2 (some 56) none (.i (.mv (.k (I64 0))))]
def impl_SolveTwo.r17 : List Ent := [
  E0 0 (some 57) none (.i (.bin .lss (.t 56) (.t 55)))]
def impl_SolveTwo.r18 : List Ent := [
  E0 0 (some 58) none (.i (.mv (.t 56))),
  E0 1 (some 13) none (.i (.mv (.t 58)))]
def impl_SolveTwo.r19 : List Ent := [
  E0 0 (some 59) none (.i (.mv (.t 12))),
  E0 1 (some 60) none (.i (.mv (.t 13))),
  E0 2 (some 61) none (.i (.mv (.t 9))),
  E0 3 (some 62) none (.i (.mv (.t 13))),
  E0 4 (some 63) none (.i (.bin .add (.t 62) (.k (I64 1)))),
  E0 5 (some 64) none (.call F_slices_Contains__sint_int false (roA [.t 61, .t 63])),
  E0 6 (some 65) none (.i (.iad 1 (.t 59) (.t 60))),
  E0 7 none none (.i (.store 1 (.t 65) (.t 64)))]
def impl_SolveTwo.r20 : List Ent := [
  E0 0 (some 66) none (.i (.bin .add (.t 56) (.k (I64 1)))),
  E0 1 (some 56) none (.i (.mv (.t 66)))]
def impl_SolveTwo.b1 : KC := .seq (.reg 3968 1 impl_SolveTwo.r17) (.seq (.cond (.t 57) (.skip) (.exit 2)) (.seq (.block 3 (.seq (.reg 4032 2 impl_SolveTwo.r18) (.reg 4160 8 impl_SolveTwo.r19))) (.reg 4672 2 impl_SolveTwo.r20)))
def impl_SolveTwo.r21 : List Ent := [
  E0 0 (some 67) none (.i (.mv (.t 12))),
  E0 1 (some 4) none (.i (.mv (.t 67))),
  E0 2 (some 5) none (.i (.mv (.k (.dat none (.bool true))))),
  E0 3 (some 6) none (.i (.mv (.k (.dat none (.bool true)))))]
def impl_SolveTwo.fi : FI := { res := [.t 4, .t 5, .t 6], code := .seq (.reg 64 3 impl_SolveTwo.r0) (.seq (.seq (.reg 256 4 impl_SolveTwo.r1) (.cond (.t 17) (.seq (.reg 512 3 impl_SolveTwo.r2) (.ret)) (.skip))) (.seq (.seq (.reg 704 8 impl_SolveTwo.r3) (.seq (.reg 1216 1 impl_SolveTwo.r4) (.cond (.t 24) (.seq (.reg 1280 3 impl_SolveTwo.r5) (.ret)) (.skip)))) (.seq (.reg 1472 1 impl_SolveTwo.r6) (.seq (.seq (.reg 1536 1 impl_SolveTwo.r7) (.nrm 9 3264 1 (.block 0 (.loop impl_SolveTwo.b0)))) (.seq (.reg 3584 3 impl_SolveTwo.r15) (.seq (.seq (.reg 3776 3 impl_SolveTwo.r16) (.block 2 (.loop impl_SolveTwo.b1))) (.seq (.reg 4800 4 impl_SolveTwo.r21) (.ret)))))))) }
attribute [go_sem] impl_SolveTwo.r0 impl_SolveTwo.r1 impl_SolveTwo.r2 impl_SolveTwo.r3 impl_SolveTwo.r4 impl_SolveTwo.r5 impl_SolveTwo.r6 impl_SolveTwo.r7 impl_SolveTwo.r8 impl_SolveTwo.r9 impl_SolveTwo.r10 impl_SolveTwo.r11 impl_SolveTwo.r12 impl_SolveTwo.r13 impl_SolveTwo.r14 impl_SolveTwo.r15 impl_SolveTwo.r16 impl_SolveTwo.r17 impl_SolveTwo.r18 impl_SolveTwo.r19 impl_SolveTwo.r20 impl_SolveTwo.r21
theorem impl_SolveTwo.ok : chkF prog F_impl_SolveTwo 2 impl_SolveTwo.fi = true := by kernel_rfl

/-! laws_eqBoolS -/
def laws_eqBoolS.r0 : List Ent := [
  E0 0 (some 4) none (.i (.mv (.k (.dat none (.bool false)))))]
def laws_eqBoolS.r1 : List Ent := [
  E0 0 (some 6) none (.i (.mv (.t 0))),
  E0 1 (some 7) none (.i (.len (.t 6))),
  E0 2 (some 8) none (.i (.mv (.t 1))),
  E0 3 (some 9) none (.i (.len (.t 8))),
  E0 4 (some 10) none (.i (.bin .neq (.t 7) (.t 9)))]
def laws_eqBoolS.r2 : List Ent := [
  E0 0 (some 4) none (.i (.mv (.k (.dat none (.bool false)))))]
def laws_eqBoolS.r3 : List Ent := [
  E0 0 (some 5) none (.i (.mv (.k (I64 0))))]
def laws_eqBoolS.r4 : List Ent := [
  E0 0 (some 11) none (.i (.mv (.t 5))),
  E0 1 (some 12) none (.i (.mv (.t 0))),
  E0 2 (some 13) none (.i (.len (.t 12))),
  E0 3 (some 14) none (.i (.bin .lss (.t 11) (.t 13)))]
def laws_eqBoolS.r5 : List Ent := [
  E0 0 (some 17) none (.i (.mv (.t 0))),
  E0 1 (some 18) none (.i (.mv (.t 5))),
  ER 2 (some 19) none (.iad 1 (.t 17) (.t 18)),
  ER 3 (some 20) none (.load false false 1 (.t 19)),
  E0 4 (some 21) none (.i (.mv (.t 1))),
  E0 5 (some 22) none (.i (.mv (.t 5))),
  ER 6 (some 23) none (.iad 1 (.t 21) (.t 22)),
  ER 7 (some 24) none (.load false false 1 (.t 23)),
  E0 8 (some 25) none (.i (.eqb true (.t 20) (.t 24)))]
def laws_eqBoolS.r6 : List Ent := [
  E0 0 (some 4) none (.i (.mv (.k (.dat none (.bool false)))))]
def laws_eqBoolS.r7 : List Ent := [
  E0 0 (some 15) none (.i (.mv (.t 5))),
  E0 1 (some 16) none (.i (.bin .add (.t 15) (.k (I64 1)))),
  E0 2 (some 5) none (.i (.mv (.t 16)))]
def laws_eqBoolS.b0 : KC := .seq (.seq (.reg 576 4 laws_eqBoolS.r4) (.cond (.t 14) (.skip) (.exit 0))) (.seq (.block 1 (.seq (.reg 832 9 laws_eqBoolS.r5) (.cond (.t 25) (.seq (.reg 1408 1 laws_eqBoolS.r6) (.ret)) (.skip)))) (.reg 1472 3 laws_eqBoolS.r7))
def laws_eqBoolS.r8 : List Ent := [
  E0 0 (some 4) none (.i (.mv (.k (.dat none (.bool true)))))]
def laws_eqBoolS.fi : FI := { res := [.t 4], code := .seq (.reg 64 1 laws_eqBoolS.r0) (.seq (.seq (.reg 128 5 laws_eqBoolS.r1) (.cond (.t 10) (.seq (.reg 448 1 laws_eqBoolS.r2) (.ret)) (.skip))) (.seq (.seq (.reg 512 1 laws_eqBoolS.r3) (.block 0 (.loop laws_eqBoolS.b0))) (.seq (.reg 1664 1 laws_eqBoolS.r8) (.ret)))) }
attribute [go_sem] laws_eqBoolS.r0 laws_eqBoolS.r1 laws_eqBoolS.r2 laws_eqBoolS.r3 laws_eqBoolS.r4 laws_eqBoolS.r5 laws_eqBoolS.r6 laws_eqBoolS.r7 laws_eqBoolS.r8
theorem laws_eqBoolS.ok : chkF prog F_laws_eqBoolS 2 laws_eqBoolS.fi = true := by kernel_rfl

/-! laws_markBoolS -/
def laws_markBoolS.r0 : List Ent := [
  E0 0 (some 4) none (.i (.mv (.k (I64 0))))]
def laws_markBoolS.r1 : List Ent := [
  E0 0 (some 5) none (.i (.mv (.k (I64 0))))]
def laws_markBoolS.r2 : List Ent := [
  E0 0 (some 6) none (.i (.mv (.t 5))),
  E0 1 (some 7) none (.i (.mv (.t 0))),
  E0 2 (some 8) none (.i (.len (.t 7))),
  E0 3 (some 9) none (.i (.bin .lss (.t 6) (.t 8)))]
def laws_markBoolS.r3 : List Ent := [
  E0 0 (some 12) none (.i (.mv (.t 0))),
  E0 1 (some 13) none (.i (.mv (.t 5))),
  E0 2 (some 14) none (.i (.mv (.t 1))),
  E0 3 (some 15) none (.i (.bin .rem (.t 14) (.k (I64 3)))),
  E0 4 (some 16) none (.i (.bin .eql (.t 15) (.k (I64 0)))),
  E0 5 (some 17) none (.i (.iad 1 (.t 12) (.t 13))),
  E0 6 none none (.i (.store 1 (.t 17) (.t 16)))]
def laws_markBoolS.r4 : List Ent := [
  E0 0 (some 18) none (.i (.mv (.t 1))),
  E0 1 (some 19) none (.i (.bin .add (.t 18) (.k (I64 1)))),
  E0 2 (some 1) none (.i (.mv (.t 19)))]
def laws_markBoolS.r5 : List Ent := [
  E0 0 (some 10) none (.i (.mv (.t 5))),
  E0 1 (some 11) none (.i (.bin .add (.t 10) (.k (I64 1)))),
  E0 2 (some 5) none (.i (.mv (.t 11)))]
def laws_markBoolS.b0 : KC := .seq (.seq (.reg 192 4 laws_markBoolS.r2) (.cond (.t 9) (.skip) (.exit 0))) (.seq (.block 1 (.seq (.reg 448 7 laws_markBoolS.r3) (.reg 896 3 laws_markBoolS.r4))) (.reg 1088 3 laws_markBoolS.r5))
def laws_markBoolS.r6 : List Ent := [
  E0 0 (some 20) none (.i (.mv (.t 1))),
  E0 1 (some 4) none (.i (.mv (.t 20)))]
def laws_markBoolS.fi : FI := { res := [.t 4], code := .seq (.reg 64 1 laws_markBoolS.r0) (.seq (.seq (.reg 128 1 laws_markBoolS.r1) (.block 0 (.loop laws_markBoolS.b0))) (.seq (.reg 1280 2 laws_markBoolS.r6) (.ret))) }
attribute [go_sem] laws_markBoolS.r0 laws_markBoolS.r1 laws_markBoolS.r2 laws_markBoolS.r3 laws_markBoolS.r4 laws_markBoolS.r5 laws_markBoolS.r6
theorem laws_markBoolS.ok : chkF prog F_laws_markBoolS 2 laws_markBoolS.fi = true := by kernel_rfl

/-! laws_heldBoolS -/
def laws_heldBoolS.r0 : List Ent := [
  E0 0 (some 4) none (.i (.mv (.k (I64 0))))]
def laws_heldBoolS.r1 : List Ent := [
  E0 0 (some 5) none (.i (.mv (.k (I64 0))))]
def laws_heldBoolS.r2 : List Ent := [
  E0 0 (some 6) none (.i (.mv (.t 5))),
  E0 1 (some 7) none (.i (.mv (.t 0))),
  E0 2 (some 8) none (.i (.len (.t 7))),
  E0 3 (some 9) none (.i (.bin .lss (.t 6) (.t 8)))]
def laws_heldBoolS.r3 : List Ent := [
  E0 0 (some 12) none (.i (.mv (.t 0))),
  E0 1 (some 13) none (.i (.mv (.t 5))),
  E0 2 (some 14) none (.i (.iad 1 (.t 12) (.t 13))),
  E0 3 (some 15) none (.i (.load false false 1 (.t 14))),
  E0 4 (some 16) none (.i (.mv (.t 1))),
  E0 5 (some 17) none (.i (.bin .rem (.t 16) (.k (I64 3)))),
  E0 6 (some 18) none (.i (.bin .eql (.t 17) (.k (I64 0)))),
  E0 7 (some 19) none (.i (.eqb true (.t 15) (.t 18)))]
def laws_heldBoolS.r4 : List Ent := [
  E0 0 (some 4) none (.i (.mv (.k (I64 (-1)))))]
def laws_heldBoolS.r5 : List Ent := [
  E0 0 (some 20) none (.i (.mv (.t 1))),
  E0 1 (some 21) none (.i (.bin .add (.t 20) (.k (I64 1)))),
  E0 2 (some 1) none (.i (.mv (.t 21)))]
def laws_heldBoolS.r6 : List Ent := [
  E0 0 (some 10) none (.i (.mv (.t 5))),
  E0 1 (some 11) none (.i (.bin .add (.t 10) (.k (I64 1)))),
  E0 2 (some 5) none (.i (.mv (.t 11)))]
def laws_heldBoolS.b0 : KC := .seq (.seq (.reg 192 4 laws_heldBoolS.r2) (.cond (.t 9) (.skip) (.exit 0))) (.seq (.block 1 (.seq (.seq (.reg 448 8 laws_heldBoolS.r3) (.cond (.t 19) (.seq (.reg 960 1 laws_heldBoolS.r4) (.ret)) (.skip))) (.reg 1024 3 laws_heldBoolS.r5))) (.reg 1216 3 laws_heldBoolS.r6))
def laws_heldBoolS.r7 : List Ent := [
  E0 0 (some 22) none (.i (.mv (.t 1))),
  E0 1 (some 4) none (.i (.mv (.t 22)))]
def laws_heldBoolS.fi : FI := { res := [.t 4], code := .seq (.reg 64 1 laws_heldBoolS.r0) (.seq (.seq (.reg 128 1 laws_heldBoolS.r1) (.block 0 (.loop laws_heldBoolS.b0))) (.seq (.reg 1408 2 laws_heldBoolS.r7) (.ret))) }
attribute [go_sem] laws_heldBoolS.r0 laws_heldBoolS.r1 laws_heldBoolS.r2 laws_heldBoolS.r3 laws_heldBoolS.r4 laws_heldBoolS.r5 laws_heldBoolS.r6 laws_heldBoolS.r7
theorem laws_heldBoolS.ok : chkF prog F_laws_heldBoolS 2 laws_heldBoolS.fi = true := by kernel_rfl

/-! laws_FnExactSolveTwo -/
def laws_FnExactSolveTwo.r0 : List Ent := [
  E0 0 (some 4) none (.i (.mv (.k (.dat none (.bool false)))))]
def laws_FnExactSolveTwo.r1 : List Ent := [
  E0 0 (some 5) none (.i (.mv (.k (I64 1048576))))]
def laws_FnExactSolveTwo.r2 : List Ent := [
  E0 0 (some 19) none (.i (.mv (.t 1))),
  E0 1 (some 20) none (.i (.mv (.t 5))),
  E0 2 (some 21) none (.call F_laws_szIntSS false (roA [.t 19, .t 20])),
  E0 3 (some 5) none (.i (.mv (.t 21)))]
def laws_FnExactSolveTwo.r3 : List Ent := [
  E0 0 (some 22) none (.i (.mv (.t 5))),
  E0 1 (some 23) none (.i (.bin .lss (.t 22) (.k (I64 0))))]
def laws_FnExactSolveTwo.r4 : List Ent := [
  E0 0 (some 4) none (.i (.mv (.k (.dat none (.bool true)))))]
def laws_FnExactSolveTwo.r5 : List Ent := [
  E0 0 (some 25) none (.i (.mv (.t 0))),
  E0 1 (some 26) none (.i (.mv (.t 1))),
  E0 2 (some 27) none (.call F_laws_toIntSS false (roA [.t 26])),
  E0 3 (some 28) none (.call F_spec_SolveTwo false (roA [.t 25, .t 27])),
  E0 4 (some 24) none (.i (.mv (.t 28))),
  E0 5 (some 29) none (.i (.ext 0 (.t 24))),
  E0 6 (some 30) none (.i (.ext 1 (.t 24))),
  E0 7 (some 31) none (.i (.ext 2 (.t 24))),
  E0 8 (some 6) none (.i (.mv (.t 29))),
  E0 9 (some 7) none (.i (.mv (.t 30))),
  E0 10 (some 8) none (.i (.mv (.t 31)))]
def laws_FnExactSolveTwo.r6 : List Ent := [
  E0 0 (some 32) none (.i (.mv (.t 1))),
  E0 1 (some 33) none (.call F_laws_toIntSS false (roA [.t 32])),
  E0 2 (some 9) none (.i (.mv (.t 33)))]
def laws_FnExactSolveTwo.r7 : List Ent := [
  E0 0 (some 35) none (.i (.mv (.t 0))),
  E0 1 (some 36) none (.i (.mv (.t 9))),
  E0 2 (some 37) none (.call F_impl_SolveTwo false (roA [.t 35, .t 36])),
  E0 3 (some 34) none (.i (.mv (.t 37))),
  E0 4 (some 38) none (.i (.ext 0 (.t 34))),
  E0 5 (some 39) none (.i (.ext 1 (.t 34))),
  E0 6 (some 40) none (.i (.ext 2 (.t 34))),
  E0 7 (some 10) none (.i (.mv (.t 38))),
  E0 8 (some 11) none (.i (.mv (.t 39))),
  E0 9 (some 12) none (.i (.mv (.t 40)))]
def laws_FnExactSolveTwo.r8 : List Ent := [
  E0 0 (some 41) none (.i (.mv (.t 10))),
  E0 1 (some 42) none (.i (.mv (.t 6))),
  E0 2 (some 43) none (.call F_laws_eqBoolS false (roA [.t 41, .t 42])),
  E0 3 (some 44) none (.i (.un .not (.t 43))),
  E0 4 (some 45) none (.i (.mv (.t 44))),
  E0 5 (some 46) (some (45, false)) (.i (.mv (.t 11))),
  E0 6 (some 47) (some (45, false)) (.i (.mv (.t 7))),
  E0 7 (some 48) (some (45, false)) (.i (.eqb true (.t 46) (.t 47))),
  E0 8 (some 49) none (.i (.pick (.t 45) (.k (.dat none (.bool true))) (.t 48))),
  E0 9 (some 50) none (.i (.mv (.t 49))),
  E0 10 (some 51) (some (50, false)) (.i (.mv (.t 12))),
  E0 11 (some 52) (some (50, false)) (.i (.mv (.t 8))),
  E0 12 (some 53) (some (50, false)) (.i (.eqb true (.t 51) (.t 52))),
  E0 13 (some 54) none (.i (.pick (.t 50) (.k (.dat none (.bool true))) (.t 53)))]
def laws_FnExactSolveTwo.r9 : List Ent := [
  E0 0 (some 4) none (.i (.mv (.k (.dat none (.bool false)))))]
def laws_FnExactSolveTwo.r10 : List Ent := [
  E0 0 (some 55) none (.i (.mv (.t 9))),
  E0 1 (some 56) none (.i (.mv (.t 1))),
  E0 2 (some 57) none (.call F_laws_toIntSS false (roA [.t 56])),
  E0 3 (some 58) none (.call F_laws_eqIntSS false (roA [.t 55, .t 57])),
  E0 4 (some 59) none (.i (.un .not (.t 58)))]
def laws_FnExactSolveTwo.r11 : List Ent := [
  E0 0 (some 4) none (.i (.mv (.k (.dat none (.bool false)))))]
def laws_FnExactSolveTwo.r12 : List Ent := [
  E0 0 (some 13) none (.i (.mv (.k (I64 1))))]
def laws_FnExactSolveTwo.r13 : List Ent := [
  E0 0 (some 60) none (.i (.mv (.t 9))),
  E0 1 (some 61) none (.i (.mv (.t 13))),
  E0 2 (some 62) none (.call F_laws_markIntSS false [(.io, .t 60), (.ro, .t 61)]),
  E0 3 (some 13) none (.i (.mv (.t 62)))]
def laws_FnExactSolveTwo.r14 : List Ent := [
  E0 0 (some 63) none (.i (.mv (.t 13))),
  E0 1 (some 64) none (.i (.bin .lss (.t 63) (.k (I64 0)))),
  E0 2 (some 65) none (.i (.mv (.t 64))),
  E0 3 (some 66) (some (65, false)) (.i (.mv (.t 10))),
  E0 4 (some 67) (some (65, false)) (.i (.mv (.t 6))),
  E0 5 (some 68) (some (65, false)) (.call F_laws_eqBoolS false (roA [.t 66, .t 67])),
  E0 6 (some 69) (some (65, false)) (.i (.un .not (.t 68))),
  E0 7 (some 70) none (.i (.pick (.t 65) (.k (.dat none (.bool true))) (.t 69))),
  E0 8 (some 71) none (.i (.mv (.t 70))),
  E0 9 (some 72) (some (71, false)) (.i (.mv (.t 11))),
  E0 10 (some 73) (some (71, false)) (.i (.mv (.t 7))),
  E0 11 (some 74) (some (71, false)) (.i (.eqb true (.t 72) (.t 73))),
  E0 12 (some 75) none (.i (.pick (.t 71) (.k (.dat none (.bool true))) (.t 74))),
  E0 13 (some 76) none (.i (.mv (.t 75))),
  E0 14 (some 77) (some (76, false)) (.i (.mv (.t 12))),
  E0 15 (some 78) (some (76, false)) (.i (.mv (.t 8))),
  E0 16 (some 79) (some (76, false)) (.i (.eqb true (.t 77) (.t 78))),
  E0 17 (some 80) none (.i (.pick (.t 76) (.k (.dat none (.bool true))) (.t 79)))]
def laws_FnExactSolveTwo.r15 : List Ent := [
  E0 0 (some 4) none (.i (.mv (.k (.dat none (.bool false)))))]
def laws_FnExactSolveTwo.r16 : List Ent := [
  E0 0 (some 14) none (.i (.mv (.k (I64 1))))]
def laws_FnExactSolveTwo.r17 : List Ent := [
  E0 0 (some 81) none (.i (.mv (.t 10))),
  E0 1 (some 82) none (.i (.mv (.t 14))),
  E0 2 (some 83) none (.call F_laws_markBoolS false [(.io, .t 81), (.ro, .t 82)]),
  E0 3 (some 14) none (.i (.mv (.t 83)))]
def laws_FnExactSolveTwo.r18 : List Ent := [
  E0 0 (some 15) none (.i (.mv (.k (I64 1))))]
def laws_FnExactSolveTwo.r19 : List Ent := [
  E0 0 (some 84) none (.i (.mv (.t 10))),
  E0 1 (some 85) none (.i (.mv (.t 15))),
  E0 2 (some 86) none (.call F_laws_heldBoolS false (roA [.t 84, .t 85])),
  E0 3 (some 15) none (.i (.mv (.t 86)))]
def laws_FnExactSolveTwo.r20 : List Ent := [
  E0 0 (some 87) none (.i (.mv (.t 15))),
  E0 1 (some 88) none (.i (.bin .lss (.t 87) (.k (I64 0))))]
def laws_FnExactSolveTwo.r21 : List Ent := [
  E0 0 (some 4) none (.i (.mv (.k (.dat none (.bool false)))))]
def laws_FnExactSolveTwo.r22 : List Ent := [
  E0 0 (some 89) none (.i (.mv (.t 15))),
  E0 1 (some 90) none (.i (.mv (.t 14))),
  E0 2 (some 91) none (.i (.bin .neq (.t 89) (.t 90)))]
def laws_FnExactSolveTwo.r23 : List Ent := [
  E0 0 (some 4) none (.i (.mv (.k (.dat none (.bool false)))))]
def laws_FnExactSolveTwo.r24 : List Ent := [
  E0 0 (some 93) none (.i (.mv (.t 0))),
  E0 1 (some 94) none (.i (.mv (.t 1))),
  E0 2 (some 95) none (.call F_laws_toIntSS false (roA [.t 94])),
  E0 3 (some 96) none (.call F_impl_SolveTwo false (roA [.t 93, .t 95])),
  E0 4 (some 92) none (.i (.mv (.t 96))),
  E0 5 (some 97) none (.i (.ext 0 (.t 92))),
  E0 6 (some 98) none (.i (.ext 1 (.t 92))),
  E0 7 (some 99) none (.i (.ext 2 (.t 92))),
  E0 8 (some 16) none (.i (.mv (.t 97))),
  E0 9 (some 17) none (.i (.mv (.t 98))),
  E0 10 (some 18) none (.i (.mv (.t 99)))]
def laws_FnExactSolveTwo.r25 : List Ent := [
  E0 0 (some 100) none (.i (.mv (.t 16))),
  E0 1 (some 101) none (.i (.mv (.t 6))),
  E0 2 (some 102) none (.call F_laws_eqBoolS false (roA [.t 100, .t 101])),
  E0 3 (some 103) none (.i (.un .not (.t 102))),
  E0 4 (some 104) none (.i (.mv (.t 103))),
  E0 5 (some 105) (some (104, false)) (.i (.mv (.t 17))),
  E0 6 (some 106) (some (104, false)) (.i (.mv (.t 7))),
  E0 7 (some 107) (some (104, false)) (.i (.eqb true (.t 105) (.t 106))),
  E0 8 (some 108) none (.i (.pick (.t 104) (.k (.dat none (.bool true))) (.t 107))),
  E0 9 (some 109) none (.i (.mv (.t 108))),
  E0 10 (some 110) (some (109, false)) (.i (.mv (.t 18))),
  E0 11 (some 111) (some (109, false)) (.i (.mv (.t 8))),
  E0 12 (some 112) (some (109, false)) (.i (.eqb true (.t 110) (.t 111))),
  E0 13 (some 113) none (.i (.pick (.t 109) (.k (.dat none (.bool true))) (.t 112)))]
def laws_FnExactSolveTwo.r26 : List Ent := [
  E0 0 (some 4) none (.i (.mv (.k (.dat none (.bool false)))))]
def laws_FnExactSolveTwo.r27 : List Ent := [
  E0 0 (some 15) none (.i (.mv (.k (I64 1))))]
def laws_FnExactSolveTwo.r28 : List Ent := [
  E0 0 (some 114) none (.i (.mv (.t 10))),
  E0 1 (some 115) none (.i (.mv (.t 15))),
  E0 2 (some 116) none (.call F_laws_heldBoolS false (roA [.t 114, .t 115])),
  E0 3 (some 15) none (.i (.mv (.t 116)))]
def laws_FnExactSolveTwo.r29 : List Ent := [
  E0 0 (some 117) none (.i (.mv (.t 15))),
  E0 1 (some 118) none (.i (.bin .lss (.t 117) (.k (I64 0))))]
def laws_FnExactSolveTwo.r30 : List Ent := [
  E0 0 (some 4) none (.i (.mv (.k (.dat none (.bool false)))))]
def laws_FnExactSolveTwo.r31 : List Ent := [
  E0 0 (some 119) none (.i (.mv (.t 15))),
  E0 1 (some 120) none (.i (.mv (.t 14))),
  E0 2 (some 121) none (.i (.bin .neq (.t 119) (.t 120)))]
def laws_FnExactSolveTwo.r32 : List Ent := [
  E0 0 (some 4) none (.i (.mv (.k (.dat none (.bool false)))))]
def laws_FnExactSolveTwo.r33 : List Ent := [
  E0 0 (some 4) none (.i (.mv (.k (.dat none (.bool true)))))]
def laws_FnExactSolveTwo.fi : FI := { res := [.t 4], code := .seq (.reg 64 1 laws_FnExactSolveTwo.r0) (.seq (.reg 128 1 laws_FnExactSolveTwo.r1) (.seq (.reg 192 4 laws_FnExactSolveTwo.r2) (.seq (.seq (.reg 448 2 laws_FnExactSolveTwo.r3) (.cond (.t 23) (.seq (.reg 576 1 laws_FnExactSolveTwo.r4) (.ret)) (.skip))) (.seq (.reg 640 11 laws_FnExactSolveTwo.r5) (.seq (.reg 1344 3 laws_FnExactSolveTwo.r6) (.seq (.reg 1536 10 laws_FnExactSolveTwo.r7) (.seq (.seq (.reg 2176 14 laws_FnExactSolveTwo.r8) (.cond (.t 54) (.seq (.reg 3072 1 laws_FnExactSolveTwo.r9) (.ret)) (.skip))) (.seq (.seq (.reg 3136 5 laws_FnExactSolveTwo.r10) (.cond (.t 59) (.seq (.reg 3456 1 laws_FnExactSolveTwo.r11) (.ret)) (.skip))) (.seq (.reg 3520 1 laws_FnExactSolveTwo.r12) (.seq (.reg 3584 4 laws_FnExactSolveTwo.r13) (.seq (.seq (.reg 3840 18 laws_FnExactSolveTwo.r14) (.cond (.t 80) (.seq (.reg 4992 1 laws_FnExactSolveTwo.r15) (.ret)) (.skip))) (.seq (.reg 5056 1 laws_FnExactSolveTwo.r16) (.seq (.reg 5120 4 laws_FnExactSolveTwo.r17) (.seq (.reg 5376 1 laws_FnExactSolveTwo.r18) (.seq (.reg 5440 4 laws_FnExactSolveTwo.r19) (.seq (.seq (.reg 5696 2 laws_FnExactSolveTwo.r20) (.cond (.t 88) (.seq (.reg 5824 1 laws_FnExactSolveTwo.r21) (.ret)) (.skip))) (.seq (.seq (.reg 5888 3 laws_FnExactSolveTwo.r22) (.cond (.t 91) (.seq (.reg 6080 1 laws_FnExactSolveTwo.r23) (.ret)) (.skip))) (.seq (.reg 6144 11 laws_FnExactSolveTwo.r24) (.seq (.seq (.reg 6848 14 laws_FnExactSolveTwo.r25) (.cond (.t 113) (.seq (.reg 7744 1 laws_FnExactSolveTwo.r26) (.ret)) (.skip))) (.seq (.reg 7808 1 laws_FnExactSolveTwo.r27) (.seq (.reg 7872 4 laws_FnExactSolveTwo.r28) (.seq (.seq (.reg 8128 2 laws_FnExactSolveTwo.r29) (.cond (.t 118) (.seq (.reg 8256 1 laws_FnExactSolveTwo.r30) (.ret)) (.skip))) (.seq (.seq (.reg 8320 3 laws_FnExactSolveTwo.r31) (.cond (.t 121) (.seq (.reg 8512 1 laws_FnExactSolveTwo.r32) (.ret)) (.skip))) (.seq (.reg 8576 1 laws_FnExactSolveTwo.r33) (.ret))))))))))))))))))))))))) }
attribute [go_sem] laws_FnExactSolveTwo.r0 laws_FnExactSolveTwo.r1 laws_FnExactSolveTwo.r2 laws_FnExactSolveTwo.r3 laws_FnExactSolveTwo.r4 laws_FnExactSolveTwo.r5 laws_FnExactSolveTwo.r6 laws_FnExactSolveTwo.r7 laws_FnExactSolveTwo.r8 laws_FnExactSolveTwo.r9 laws_FnExactSolveTwo.r10 laws_FnExactSolveTwo.r11 laws_FnExactSolveTwo.r12 laws_FnExactSolveTwo.r13 laws_FnExactSolveTwo.r14 laws_FnExactSolveTwo.r15 laws_FnExactSolveTwo.r16 laws_FnExactSolveTwo.r17 laws_FnExactSolveTwo.r18 laws_FnExactSolveTwo.r19 laws_FnExactSolveTwo.r20 laws_FnExactSolveTwo.r21 laws_FnExactSolveTwo.r22 laws_FnExactSolveTwo.r23 laws_FnExactSolveTwo.r24 laws_FnExactSolveTwo.r25 laws_FnExactSolveTwo.r26 laws_FnExactSolveTwo.r27 laws_FnExactSolveTwo.r28 laws_FnExactSolveTwo.r29 laws_FnExactSolveTwo.r30 laws_FnExactSolveTwo.r31 laws_FnExactSolveTwo.r32 laws_FnExactSolveTwo.r33
theorem laws_FnExactSolveTwo.ok : chkF prog F_laws_FnExactSolveTwo 2 laws_FnExactSolveTwo.fi = true := by kernel_rfl

/-! spec_l1Put_co -/
def spec_l1Put_co.r0 : List Ent := [
  E0 0 (some 4) none (.i (.mv (.k (.nil 1))))]
def spec_l1Put_co.r1 : List Ent := [
  E0 0 (some 5) none (.i (.mv (.k (I64 0))))]
def spec_l1Put_co.r2 : List Ent := [
  E0 0 (some 7) none (.i (.mv (.t 5))),
  E0 1 (some 8) none (.i (.mv (.t 0))),
  E0 2 (some 9) none (.i (.len (.t 8))),
  E0 3 (some 10) none (.i (.bin .lss (.t 7) (.t 9))),
  E0 4 (some 11) none (.i (.mv (.t 10))),
  E0 5 (some 12) (some (11, true)) (.i (.mv (.t 0))),
  E0 6 (some 13) (some (11, true)) (.i (.mv (.t 5))),
  E0 7 (some 14) (some (11, true)) (.i (.iad 1 (.t 12) (.t 13))),
  E0 8 (some 15) (some (11, true)) (.i (.load false false 1 (.t 14))),
  E0 9 (some 16) (some (11, true)) (.i (.mv (.t 1))),
  E0 10 (some 17) (some (11, true)) (.i (.bin .lss (.t 15) (.t 16))),
  E0 11 (some 18) none (.i (.pick (.t 11) (.t 17) (.k (.dat none (.bool false)))))]
def spec_l1Put_co.r3 : List Ent := [
  E0 0 (some 19) none (.i (.mv (.t 5))),
  E0 1 (some 20) none (.i (.bin .add (.t 19) (.k (I64 1)))),
  E0 2 (some 5) none (.i (.mv (.t 20)))]
def spec_l1Put_co.b0 : KC := .seq (.seq (.reg 192 12 spec_l1Put_co.r2) (.cond (.t 18) (.skip) (.exit 0))) (.block 1 (.reg 960 3 spec_l1Put_co.r3))
def spec_l1Put_co.r4 : List Ent := [
  E0 0 (some 21) none (.i (.mv (.t 5))),
  E0 1 (some 22) none (.i (.mv (.t 0))),
  E0 2 (some 23) none (.i (.len (.t 22))),
  E0 3 (some 24) none (.i (.bin .lss (.t 21) (.t 23))),
  E0 4 (some 25) none (.i (.mv (.t 24))),
  E0 5 (some 26) (some (25, true)) (.i (.mv (.t 0))),
  E0 6 (some 27) (some (25, true)) (.i (.mv (.t 5))),
  E0 7 (some 28) (some (25, true)) (.i (.iad 1 (.t 26) (.t 27))),
  E0 8 (some 29) (some (25, true)) (.i (.load false false 1 (.t 28))),
  E0 9 (some 30) (some (25, true)) (.i (.mv (.t 1))),
  E0 10 (some 31) (some (25, true)) (.i (.bin .eql (.t 29) (.t 30))),
  E0 11 (some 32) none (.i (.pick (.t 25) (.t 31) (.k (.dat none (.bool false)))))]
def spec_l1Put_co.r5 : List Ent := [
  E0 0 (some 33) none (.i (.mv (.t 0))),
  E0 1 (some 4) none (.i (.mv (.t 33)))]
def spec_l1Put_co.r6 : List Ent := [
  E0 0 (some 34) none (.i (.bsl false 1 [])),
  E0 1 (some 35) none (.i (.mv (.t 0))),
  E0 2 (some 36) none (.i (.mv (.t 5))),
  E0 3 (some 37) none (.i (.slc 1 (.t 35) (none) (some (.t 36)))),
  E0 4 (some 38) none (.i (.app 1 8 (.t 34) (.t 37))),
  E0 5 (some 6) none (.i (.mv (.t 38)))]
def spec_l1Put_co.r7 : List Ent := [
  E0 0 (some 39) none (.i (.mv (.t 6))),
  E0 1 (some 40) none (.i (.mv (.t 1))),
  E0 2 (some 41) none (.i (.bsl true 1 [.t 40])),
  E0 3 (some 42) none (.i (.app 1 8 (.t 39) (.t 41))),
  E0 4 (some 6) none (.i (.mv (.t 42)))]
def spec_l1Put_co.r8 : List Ent := [
  E0 0 (some 43) none (.i (.mv (.t 6))),
  E0 1 (some 44) none (.i (.mv (.t 0))),
  E0 2 (some 45) none (.i (.mv (.t 5))),
  E0 3 (some 46) none (.i (.slc 1 (.t 44) (some (.t 45)) (none))),
  E0 4 (some 47) none (.i (.app 1 8 (.t 43) (.t 46))),
  E0 5 (some 4) none (.i (.mv (.t 47)))]
def spec_l1Put_co.fi : FI := { res := [.t 4], code := .seq (.reg 64 1 spec_l1Put_co.r0) (.seq (.reg 128 1 spec_l1Put_co.r1) (.seq (.block 0 (.loop spec_l1Put_co.b0)) (.seq (.seq (.reg 1152 12 spec_l1Put_co.r4) (.cond (.t 32) (.seq (.reg 1920 2 spec_l1Put_co.r5) (.ret)) (.skip))) (.seq (.reg 2048 6 spec_l1Put_co.r6) (.seq (.reg 2432 5 spec_l1Put_co.r7) (.seq (.reg 2752 6 spec_l1Put_co.r8) (.ret))))))) }
attribute [go_sem] spec_l1Put_co.r0 spec_l1Put_co.r1 spec_l1Put_co.r2 spec_l1Put_co.r3 spec_l1Put_co.r4 spec_l1Put_co.r5 spec_l1Put_co.r6 spec_l1Put_co.r7 spec_l1Put_co.r8
theorem spec_l1Put_co.ok : chkF prog F_spec_l1Put 2 spec_l1Put_co.fi = true := by kernel_rfl
end Go.Vm.Ytdebllkmblakkaa
