/- The functions that the law reaches, in the text of the interpreter, and that this text fits them (no condition). -/
import Derived.Test.YtdebllkmblakkaaVmc
import Derived.Test.YtdebllkmblakkaaProg
import Derived.KernelRfl
/- PRINTED BY irgen.py, a program of this claim's author: the functions that the claim reaches, in the text of the interpreter, and that they fit. -/
namespace Go.Vm.Ytdebllkmblakkaa
open Go Go.Vm
set_option linter.unusedVariables false
set_option maxRecDepth 100000
noncomputable abbrev prog : Program := Go.Proofs.Try.prog
abbrev F_laws_FnExactOpposed : FuncId := 3
abbrev F_laws_FnExactLeadsTo : FuncId := 4
abbrev F_laws_FnExactFixed : FuncId := 5
abbrev F_laws_FnExactLoopsOf : FuncId := 6
abbrev F_laws_FnExactSolveTwo : FuncId := 7
abbrev F_laws_FnLeads : FuncId := 8
abbrev F_laws_FnTwos : FuncId := 9
abbrev F_laws_FnLeast : FuncId := 10
abbrev F_laws_FnHorn : FuncId := 11
abbrev F_laws_FnEnough : FuncId := 12
abbrev F_laws_FnLaidOut : FuncId := 13
abbrev F_laws_szIntSS : FuncId := 14
abbrev F_spec_Opposed : FuncId := 15
abbrev F_laws_toIntSS : FuncId := 16
abbrev F_impl_Opposed : FuncId := 17
abbrev F_laws_eqIntSS : FuncId := 18
abbrev F_spec_LeadsTo : FuncId := 19
abbrev F_impl_LeadsTo : FuncId := 20
abbrev F_laws_eqIntS : FuncId := 21
abbrev F_laws_markIntSS : FuncId := 22
abbrev F_laws_markIntS : FuncId := 23
abbrev F_laws_heldIntS : FuncId := 24
abbrev F_spec_Fixed : FuncId := 25
abbrev F_impl_Fixed : FuncId := 26
abbrev F_spec_LoopsOf : FuncId := 27
abbrev F_impl_LoopsOf : FuncId := 28
abbrev F_laws_heldIntSS : FuncId := 29
abbrev F_spec_SolveTwo : FuncId := 30
abbrev F_impl_SolveTwo : FuncId := 31
abbrev F_laws_eqBoolS : FuncId := 32
abbrev F_laws_markBoolS : FuncId := 33
abbrev F_laws_heldBoolS : FuncId := 34
abbrev F_spec_DrawLeadsTo : FuncId := 35
abbrev F_laws_sameInts : FuncId := 36
abbrev F_laws_has : FuncId := 37
abbrev F_spec_DrawLoopsOf : FuncId := 38
abbrev F_spec_DrawTwoOf : FuncId := 39
abbrev F_impl_TwoOf : FuncId := 40
abbrev F_spec_TwoOf : FuncId := 41
abbrev F_laws_sameRows : FuncId := 42
abbrev F_spec_DrawSolveTwo : FuncId := 43
abbrev F_laws_sameBools : FuncId := 44
abbrev F_impl_IsTwo : FuncId := 45
abbrev F_impl_CountModels : FuncId := 46
abbrev F_impl_Solve : FuncId := 47
abbrev F_impl_HoldsAll : FuncId := 48
abbrev F_laws_allIn : FuncId := 49
abbrev F_impl_SolveWith : FuncId := 50
abbrev F_spec_DrawFixed : FuncId := 51
abbrev F_spec_DrawLeastOf : FuncId := 52
abbrev F_impl_LeastOf : FuncId := 53
abbrev F_spec_LeastOf : FuncId := 54
abbrev F_impl_GoodRules : FuncId := 55
abbrev F_impl_HoldsIn : FuncId := 56
abbrev F_impl_RulesAsClauses : FuncId := 57
abbrev F_impl_IsHorn : FuncId := 58
abbrev F_laws_modelOf : FuncId := 59
abbrev F_spec_DrawHoldsIn : FuncId := 60
abbrev F_spec_HoldsIn : FuncId := 61
abbrev F_spec_DrawWhyOf : FuncId := 62
abbrev F_impl_WhyOf : FuncId := 63
abbrev F_spec_WhyOf : FuncId := 64
abbrev F_laws_listOf : FuncId := 65
abbrev F_laws_numberOf : FuncId := 66
abbrev F_impl_MeetOf : FuncId := 67
abbrev F_spec_DrawMeetOf : FuncId := 68
abbrev F_spec_MeetOf : FuncId := 69
abbrev F_spec_DrawRulesAsClauses : FuncId := 70
abbrev F_spec_RulesAsClauses : FuncId := 71
abbrev F_spec_DrawIsHorn : FuncId := 72
abbrev F_spec_IsHorn : FuncId := 73
abbrev F_laws_sameRules : FuncId := 74
abbrev F_spec_DrawEnoughFor : FuncId := 75
abbrev F_impl_EnoughFor : FuncId := 76
abbrev F_spec_EnoughFor : FuncId := 77
abbrev F_impl_ReachWithin : FuncId := 78
abbrev F_spec_DrawWalksOf : FuncId := 79
abbrev F_impl_WalksOf : FuncId := 80
abbrev F_spec_WalksOf : FuncId := 81
abbrev F_laws_hasArc : FuncId := 82
abbrev F_spec_DrawReachWithin : FuncId := 83
abbrev F_spec_ReachWithin : FuncId := 84
abbrev F_spec_DrawIsWalk : FuncId := 85
abbrev F_impl_IsWalk : FuncId := 86
abbrev F_spec_IsWalk : FuncId := 87
abbrev F_impl_LaidWalk : FuncId := 88
abbrev F_spec_LaidWalk : FuncId := 89
abbrev F_impl_LayOut : FuncId := 90
abbrev F_spec_DrawLayOut : FuncId := 91
abbrev F_spec_LayOut : FuncId := 92
abbrev F_impl_BackArcs : FuncId := 93
abbrev F_spec_BackArcs : FuncId := 94
abbrev F_laws_sameArcs : FuncId := 95
abbrev F_impl_GoodArcs : FuncId := 96
abbrev F_laws_szIntS : FuncId := 97
abbrev F_spec_IsTwo : FuncId := 98
abbrev F_spec_l15Opposed : FuncId := 99
abbrev F_laws_toIntS : FuncId := 100
abbrev F_impl_opposed : FuncId := 101
abbrev F_spec_l1In : FuncId := 102
abbrev F_spec_l15Leads : FuncId := 103
abbrev F_impl_isLiteral : FuncId := 104
abbrev F_impl_leadsTo : FuncId := 105
abbrev F_spec_l1Has : FuncId := 106
abbrev F_impl_leads : FuncId := 107
abbrev F_slices_DeleteFunc__sint_int : FuncId := 108
abbrev F_impl_LoopsOf_c1 : FuncId := 109
abbrev F_spec_l1Put : FuncId := 110
abbrev F_slices_Contains__sint_int : FuncId := 111
abbrev F_spec_pl1Cur_twos : FuncId := 112
abbrev F_spec_pl1Cur_pick : FuncId := 113
abbrev F_spec_DrawIsTwo : FuncId := 114
abbrev F_spec_pl1Cur_one : FuncId := 115
abbrev F_impl_in : FuncId := 116
abbrev F_impl_isClause : FuncId := 117
abbrev F_spec_l4Clause : FuncId := 118
abbrev F_impl_GoodClauses : FuncId := 119
abbrev F_slices_ContainsFunc__ssint_sint : FuncId := 120
abbrev F_impl_IsTwo_c1 : FuncId := 121
abbrev F_impl_countModels : FuncId := 122
abbrev F_impl_solve : FuncId := 123
abbrev F_impl_holds : FuncId := 124
abbrev F_slices_Concat__ssint_sint : FuncId := 125
abbrev F_impl_units : FuncId := 126
abbrev F_spec_DrawGoodRules : FuncId := 127
abbrev F_impl_least : FuncId := 128
abbrev F_slices_ContainsFunc__sRule_Rule : FuncId := 129
abbrev F_impl_LeastOf_c1 : FuncId := 130
abbrev F_impl_Rule_met : FuncId := 131
abbrev F_impl_list : FuncId := 132
abbrev F_impl_LeastOf_c2 : FuncId := 133
abbrev F_spec_GoodRules : FuncId := 134
abbrev F_spec_l16Least : FuncId := 135
abbrev F_impl_GoodRules_c1 : FuncId := 136
abbrev F_impl_areFacts : FuncId := 137
abbrev F_impl_HoldsIn_c1 : FuncId := 138
abbrev F_impl_learn : FuncId := 139
abbrev F_slices_Clone__sint_int : FuncId := 140
abbrev F_impl_IsHorn_c1 : FuncId := 141
abbrev F_spec_pl1Cur_rules : FuncId := 142
abbrev F_spec_pl1Cur_facts : FuncId := 143
abbrev F_spec_l16Facts : FuncId := 144
abbrev F_spec_l16All : FuncId := 145
abbrev F_slices_IndexFunc__sint_int : FuncId := 146
abbrev F_impl_WhyOf_c1 : FuncId := 147
abbrev F_impl_MeetOf_c1 : FuncId := 148
abbrev F_spec_l5Negate : FuncId := 149
abbrev F_spec_DrawGoodClauses : FuncId := 150
abbrev F_spec_GoodClauses : FuncId := 151
abbrev F_slices_Equal__sbool_bool : FuncId := 152
abbrev F_impl_within : FuncId := 153
abbrev F_spec_GoodArcs : FuncId := 154
abbrev F_spec_l12Reach : FuncId := 155
abbrev F_impl_ReachWithin_c1 : FuncId := 156
abbrev F_spec_pl1Cur_arcs : FuncId := 157
abbrev F_spec_pl1Cur_walk : FuncId := 158
abbrev F_impl_isVertices : FuncId := 159
abbrev F_slices_Contains__sArc_Arc : FuncId := 160
abbrev F_spec_l12Walk : FuncId := 161
abbrev F_spec_l12Arc : FuncId := 162
abbrev F_impl_isSpots : FuncId := 163
abbrev F_impl_BackArcs_c1 : FuncId := 164
abbrev F_spec_l15Next : FuncId := 165
abbrev F_slices_Sort__sint_int : FuncId := 166
abbrev F_slices_Index__sint_int : FuncId := 167
abbrev F_spec_pl1Cur_among : FuncId := 168
abbrev F_spec_pl1Cur_lit : FuncId := 169
abbrev F_spec_CleanClause : FuncId := 170
abbrev F_spec_pl1Cur_among3 : FuncId := 171
abbrev F_spec_pl1Cur_next : FuncId := 172
abbrev F_slices_ContainsFunc__sint_int : FuncId := 173
abbrev F_impl_isClause_c1 : FuncId := 174
abbrev F_impl_variable : FuncId := 175
abbrev F_impl_areClauses : FuncId := 176
abbrev F_slices_IndexFunc__ssint_sint : FuncId := 177
abbrev F_impl_model : FuncId := 178
abbrev F_impl_propagate : FuncId := 179
abbrev F_impl_decide : FuncId := 180
abbrev F_impl_holds_c1 : FuncId := 181
abbrev F_slices_Grow__ssint_sint : FuncId := 182
abbrev F_slices_IndexFunc__sRule_Rule : FuncId := 183
abbrev F_impl_least_c1 : FuncId := 184
abbrev F_impl_Rule_met_c1 : FuncId := 185
abbrev F_spec_l1Least : FuncId := 186
abbrev F_spec_l1Rising : FuncId := 187
abbrev F_spec_pl1Cur_clauses : FuncId := 188
abbrev F_spec_l4Good : FuncId := 189
abbrev F_slices_Clone__sbool_bool : FuncId := 190
abbrev F_impl_isVertices_c1 : FuncId := 191
abbrev F_slices_Index__sArc_Arc : FuncId := 192
abbrev F_spec_l1All : FuncId := 193
abbrev F_slices_pdqsortOrdered__int : FuncId := 194
abbrev F_bits_Len : FuncId := 195
abbrev F_impl_areClauses_c1 : FuncId := 196
abbrev F_impl_meets : FuncId := 197
abbrev F_impl_without : FuncId := 198
abbrev F_slices_insertionSortOrdered__int : FuncId := 199
abbrev F_slices_heapSortOrdered__int : FuncId := 200
abbrev F_slices_breakPatternsOrdered__int : FuncId := 201
abbrev F_slices_choosePivotOrdered__int : FuncId := 202
abbrev F_slices_reverseRangeOrdered__int : FuncId := 203
abbrev F_slices_partialInsertionSortOrdered__int : FuncId := 204
abbrev F_cmp_Less__int : FuncId := 205
abbrev F_slices_partitionEqualOrdered__int : FuncId := 206
abbrev F_slices_partitionOrdered__int : FuncId := 207
abbrev F_bits_Len32 : FuncId := 208
abbrev F_bits_Len64 : FuncId := 209
abbrev F_impl_meets_c1 : FuncId := 210
abbrev F_impl_without_c1 : FuncId := 211
abbrev F_slices_siftDownOrdered__int : FuncId := 212
abbrev F_slices_nextPowerOfTwo : FuncId := 213
abbrev F_slices_pxorshift_Next : FuncId := 214
abbrev F_slices_medianAdjacentOrdered__int : FuncId := 215
abbrev F_slices_medianOrdered__int : FuncId := 216
abbrev F_cmp_isNaN__int : FuncId := 217
abbrev F_slices_order2Ordered__int : FuncId := 218
abbrev F_runtime_boundsError_Error : FuncId := 219
abbrev F_runtime_boundsError_RuntimeError : FuncId := 220
abbrev F_runtime_errorString_Error : FuncId := 221
abbrev F_runtime_errorString_RuntimeError : FuncId := 222
abbrev F_runtime_plainError_Error : FuncId := 223
abbrev F_runtime_plainError_RuntimeError : FuncId := 224
abbrev F_runtime_errorAddressString_Error : FuncId := 225
abbrev F_runtime_errorAddressString_RuntimeError : FuncId := 226
abbrev F_runtime_pTypeAssertionError_Error : FuncId := 227
abbrev F_runtime_pTypeAssertionError_RuntimeError : FuncId := 228
abbrev F_runtime_pPanicNilError_Error : FuncId := 229
abbrev F_runtime_pPanicNilError_RuntimeError : FuncId := 230
abbrev F_abi_pType_Align : FuncId := 231
abbrev F_maps_unhashableTypeError_Error : FuncId := 232
abbrev F_maps_unhashableTypeError_RuntimeError : FuncId := 233
abbrev F_abi_Kind_String : FuncId := 234

/-! spec_l1In -/
def spec_l1In.r0 : List Ent := [
  E0 0 (some 6) none (.i (.mv (.k (.dat none (.bool false)))))]
def spec_l1In.r1 : List Ent := [
  E0 0 (some 7) none (.i (.mv (.t 0))),
  E0 1 (some 8) none (.i (.mv (.t 1))),
  E0 2 (some 9) none (.i (.bin .geq (.t 7) (.t 8))),
  E0 3 (some 10) none (.i (.mv (.t 9))),
  E0 4 (some 11) (some (10, true)) (.i (.mv (.t 0))),
  E0 5 (some 12) (some (10, true)) (.i (.mv (.t 2))),
  E0 6 (some 13) (some (10, true)) (.i (.bin .leq (.t 11) (.t 12))),
  E0 7 (some 14) none (.i (.pick (.t 10) (.t 13) (.k (.dat none (.bool false))))),
  E0 8 (some 6) none (.i (.mv (.t 14)))]
def spec_l1In.fi : FI := { res := [.t 6], code := .seq (.reg 64 1 spec_l1In.r0) (.seq (.reg 128 9 spec_l1In.r1) (.ret)) }
attribute [go_sem] spec_l1In.r0 spec_l1In.r1
theorem spec_l1In.ok : chkF prog F_spec_l1In 3 spec_l1In.fi = true := by kernel_rfl

/-! spec_l1Has -/
def spec_l1Has.r0 : List Ent := [
  E0 0 (some 4) none (.i (.mv (.k (.dat none (.bool false)))))]
def spec_l1Has.r1 : List Ent := [
  E0 0 (some 7) none (.i (.mv (.t 0))),
  E0 1 (some 8) none (.i (.len (.t 7))),
  E0 2 (some 9) none (.i (.mv (.k (I64 0))))]
def spec_l1Has.r2 : List Ent := [
  E0 0 (some 10) none (.i (.bin .lss (.t 9) (.t 8)))]
def spec_l1Has.r3 : List Ent := [
  E0 0 (some 11) none (.i (.iad 1 (.t 7) (.t 9))),
  E0 1 (some 12) none (.i (.load false false 1 (.t 11))),
  E0 2 (some 6) none (.i (.mv (.t 12)))]
def spec_l1Has.r4 : List Ent := [
  E0 0 (some 13) none (.i (.mv (.t 6))),
  E0 1 (some 14) none (.i (.mv (.t 1))),
  E0 2 (some 15) none (.i (.bin .eql (.t 13) (.t 14)))]
def spec_l1Has.r5 : List Ent := [
  E0 0 (some 4) none (.i (.mv (.k (.dat none (.bool true)))))]
def spec_l1Has.r6 : List Ent := [
  E0 0 (some 16) none (.i (.bin .add (.t 9) (.k (I64 1)))),
  E0 1 (some 9) none (.i (.mv (.t 16)))]
def spec_l1Has.b0 : KC := .seq (.reg 320 1 spec_l1Has.r2) (.seq (.cond (.t 10) (.skip) (.exit 0)) (.seq (.block 1 (.seq (.reg 384 3 spec_l1Has.r3) (.seq (.reg 576 3 spec_l1Has.r4) (.cond (.t 15) (.seq (.reg 768 1 spec_l1Has.r5) (.ret)) (.skip))))) (.reg 832 2 spec_l1Has.r6)))
def spec_l1Has.r7 : List Ent := [
  E0 0 (some 4) none (.i (.mv (.k (.dat none (.bool false)))))]
def spec_l1Has.fi : FI := { res := [.t 4], code := .seq (.reg 64 1 spec_l1Has.r0) (.seq (.seq (.reg 128 3 spec_l1Has.r1) (.block 0 (.loop spec_l1Has.b0))) (.seq (.reg 960 1 spec_l1Has.r7) (.ret))) }
attribute [go_sem] spec_l1Has.r0 spec_l1Has.r1 spec_l1Has.r2 spec_l1Has.r3 spec_l1Has.r4 spec_l1Has.r5 spec_l1Has.r6 spec_l1Has.r7
theorem spec_l1Has.ok : chkF prog F_spec_l1Has 2 spec_l1Has.fi = true := by kernel_rfl

/-! impl_in -/
def impl_in.r0 : List Ent := [
  E0 0 (some 6) none (.i (.mv (.k (.dat none (.bool false)))))]
def impl_in.r1 : List Ent := [
  E0 0 (some 7) none (.i (.mv (.t 0))),
  E0 1 (some 8) none (.i (.mv (.t 1))),
  E0 2 (some 9) none (.i (.bin .geq (.t 7) (.t 8))),
  E0 3 (some 10) none (.i (.mv (.t 9))),
  E0 4 (some 11) (some (10, true)) (.i (.mv (.t 0))),
  E0 5 (some 12) (some (10, true)) (.i (.mv (.t 2))),
  E0 6 (some 13) (some (10, true)) (.i (.bin .leq (.t 11) (.t 12))),
  E0 7 (some 14) none (.i (.pick (.t 10) (.t 13) (.k (.dat none (.bool false))))),
  E0 8 (some 6) none (.i (.mv (.t 14)))]
def impl_in.fi : FI := { res := [.t 6], code := .seq (.reg 64 1 impl_in.r0) (.seq (.reg 128 9 impl_in.r1) (.ret)) }
attribute [go_sem] impl_in.r0 impl_in.r1
theorem impl_in.ok : chkF prog F_impl_in 3 impl_in.fi = true := by kernel_rfl

/-! slices_IndexFunc__ssint_sint -/
def slices_IndexFunc__ssint_sint.r0 : List Ent := [
  E0 0 (some 4) none (.i (.mv (.k (I64 0))))]
def slices_IndexFunc__ssint_sint.r1 : List Ent := [
  E0 0 (some 6) none (.i (.mv (.t 0))),
  E0 1 (some 7) none (.i (.len (.t 6))),
  E0 2 (some 8) none (.i (.mv (.k (I64 0))))]
def slices_IndexFunc__ssint_sint.r2 : List Ent := [
  E0 0 (some 9) none (.i (.bin .lss (.t 8) (.t 7)))]
def slices_IndexFunc__ssint_sint.r3 : List Ent := [
  E0 0 (some 10) none (.i (.mv (.t 8))),
  E0 1 (some 5) none (.i (.mv (.t 10)))]
def slices_IndexFunc__ssint_sint.r4 : List Ent := [
  E0 0 (some 11) none (.i (.mv (.t 1))),
  E0 1 (some 12) none (.i (.mv (.t 0))),
  E0 2 (some 13) none (.i (.mv (.t 5))),
  E0 3 (some 14) none (.i (.iad 1 (.t 12) (.t 13))),
  E0 4 (some 15) none (.i (.load false false 1 (.t 14))),
  E0 5 (some 16) none (.ccl (.t 11) false [.t 15])]
def slices_IndexFunc__ssint_sint.r5 : List Ent := [
  E0 0 (some 17) none (.i (.mv (.t 5))),
  E0 1 (some 4) none (.i (.mv (.t 17)))]
def slices_IndexFunc__ssint_sint.r6 : List Ent := [
  E0 0 (some 18) none (.i (.bin .add (.t 8) (.k (I64 1)))),
  E0 1 (some 8) none (.i (.mv (.t 18)))]
def slices_IndexFunc__ssint_sint.b0 : KC := .seq (.reg 320 1 slices_IndexFunc__ssint_sint.r2) (.seq (.cond (.t 9) (.skip) (.exit 0)) (.seq (.block 1 (.seq (.reg 384 2 slices_IndexFunc__ssint_sint.r3) (.seq (.reg 512 6 slices_IndexFunc__ssint_sint.r4) (.cond (.t 16) (.seq (.reg 896 2 slices_IndexFunc__ssint_sint.r5) (.ret)) (.skip))))) (.reg 1024 2 slices_IndexFunc__ssint_sint.r6)))
def slices_IndexFunc__ssint_sint.r7 : List Ent := [
  E0 0 (some 4) none (.i (.mv (.k (I64 (-1)))))]
def slices_IndexFunc__ssint_sint.fi : FI := { res := [.t 4], code := .seq (.reg 64 1 slices_IndexFunc__ssint_sint.r0) (.seq (.seq (.reg 128 3 slices_IndexFunc__ssint_sint.r1) (.block 0 (.loop slices_IndexFunc__ssint_sint.b0))) (.seq (.reg 1152 1 slices_IndexFunc__ssint_sint.r7) (.ret))) }
attribute [go_sem] slices_IndexFunc__ssint_sint.r0 slices_IndexFunc__ssint_sint.r1 slices_IndexFunc__ssint_sint.r2 slices_IndexFunc__ssint_sint.r3 slices_IndexFunc__ssint_sint.r4 slices_IndexFunc__ssint_sint.r5 slices_IndexFunc__ssint_sint.r6 slices_IndexFunc__ssint_sint.r7
theorem slices_IndexFunc__ssint_sint.ok : chkF prog F_slices_IndexFunc__ssint_sint 2 slices_IndexFunc__ssint_sint.fi = true := by kernel_rfl

/-! slices_ContainsFunc__ssint_sint -/
def slices_ContainsFunc__ssint_sint.r0 : List Ent := [
  E0 0 (some 4) none (.i (.mv (.k (.dat none (.bool false)))))]
def slices_ContainsFunc__ssint_sint.r1 : List Ent := [
  E0 0 (some 5) none (.i (.mv (.t 0))),
  E0 1 (some 6) none (.i (.mv (.t 1))),
  E0 2 (some 7) none (.call F_slices_IndexFunc__ssint_sint false (roA [.t 5, .t 6])),
  E0 3 (some 8) none (.i (.bin .geq (.t 7) (.k (I64 0)))),
  E0 4 (some 4) none (.i (.mv (.t 8)))]
def slices_ContainsFunc__ssint_sint.fi : FI := { res := [.t 4], code := .seq (.reg 64 1 slices_ContainsFunc__ssint_sint.r0) (.seq (.reg 128 5 slices_ContainsFunc__ssint_sint.r1) (.ret)) }
attribute [go_sem] slices_ContainsFunc__ssint_sint.r0 slices_ContainsFunc__ssint_sint.r1
theorem slices_ContainsFunc__ssint_sint.ok : chkF prog F_slices_ContainsFunc__ssint_sint 2 slices_ContainsFunc__ssint_sint.fi = true := by kernel_rfl

/-! impl_isLiteral -/
def impl_isLiteral.r0 : List Ent := [
  E0 0 (some 4) none (.i (.mv (.k (.dat none (.bool false)))))]
def impl_isLiteral.r1 : List Ent := [
  E0 0 (some 5) none (.i (.mv (.t 0))),
  E0 1 (some 6) none (.i (.bin .neq (.t 5) (.k (I64 0)))),
  E0 2 (some 7) none (.i (.mv (.t 6))),
  E0 3 (some 8) (some (7, true)) (.i (.mv (.t 0))),
  E0 4 (some 9) (some (7, true)) (.i (.mv (.t 1))),
  E0 5 (some 10) (some (7, true)) (.i (.un .neg (.t 9))),
  E0 6 (some 11) (some (7, true)) (.i (.mv (.t 1))),
  E0 7 (some 12) (some (7, true)) (.call F_impl_in false (roA [.t 8, .t 10, .t 11])),
  E0 8 (some 13) none (.i (.pick (.t 7) (.t 12) (.k (.dat none (.bool false))))),
  E0 9 (some 4) none (.i (.mv (.t 13)))]
def impl_isLiteral.fi : FI := { res := [.t 4], code := .seq (.reg 64 1 impl_isLiteral.r0) (.seq (.reg 128 10 impl_isLiteral.r1) (.ret)) }
attribute [go_sem] impl_isLiteral.r0 impl_isLiteral.r1
theorem impl_isLiteral.ok : chkF prog F_impl_isLiteral 2 impl_isLiteral.fi = true := by kernel_rfl

/-! slices_IndexFunc__sint_int -/
def slices_IndexFunc__sint_int.r0 : List Ent := [
  E0 0 (some 4) none (.i (.mv (.k (I64 0))))]
def slices_IndexFunc__sint_int.r1 : List Ent := [
  E0 0 (some 6) none (.i (.mv (.t 0))),
  E0 1 (some 7) none (.i (.len (.t 6))),
  E0 2 (some 8) none (.i (.mv (.k (I64 0))))]
def slices_IndexFunc__sint_int.r2 : List Ent := [
  E0 0 (some 9) none (.i (.bin .lss (.t 8) (.t 7)))]
def slices_IndexFunc__sint_int.r3 : List Ent := [
  E0 0 (some 10) none (.i (.mv (.t 8))),
  E0 1 (some 5) none (.i (.mv (.t 10)))]
def slices_IndexFunc__sint_int.r4 : List Ent := [
  E0 0 (some 11) none (.i (.mv (.t 1))),
  E0 1 (some 12) none (.i (.mv (.t 0))),
  E0 2 (some 13) none (.i (.mv (.t 5))),
  E0 3 (some 14) none (.i (.iad 1 (.t 12) (.t 13))),
  E0 4 (some 15) none (.i (.load false false 1 (.t 14))),
  E0 5 (some 16) none (.ccl (.t 11) false [.t 15])]
def slices_IndexFunc__sint_int.r5 : List Ent := [
  E0 0 (some 17) none (.i (.mv (.t 5))),
  E0 1 (some 4) none (.i (.mv (.t 17)))]
def slices_IndexFunc__sint_int.r6 : List Ent := [
  E0 0 (some 18) none (.i (.bin .add (.t 8) (.k (I64 1)))),
  E0 1 (some 8) none (.i (.mv (.t 18)))]
def slices_IndexFunc__sint_int.b0 : KC := .seq (.reg 320 1 slices_IndexFunc__sint_int.r2) (.seq (.cond (.t 9) (.skip) (.exit 0)) (.seq (.block 1 (.seq (.reg 384 2 slices_IndexFunc__sint_int.r3) (.seq (.reg 512 6 slices_IndexFunc__sint_int.r4) (.cond (.t 16) (.seq (.reg 896 2 slices_IndexFunc__sint_int.r5) (.ret)) (.skip))))) (.reg 1024 2 slices_IndexFunc__sint_int.r6)))
def slices_IndexFunc__sint_int.r7 : List Ent := [
  E0 0 (some 4) none (.i (.mv (.k (I64 (-1)))))]
def slices_IndexFunc__sint_int.fi : FI := { res := [.t 4], code := .seq (.reg 64 1 slices_IndexFunc__sint_int.r0) (.seq (.seq (.reg 128 3 slices_IndexFunc__sint_int.r1) (.block 0 (.loop slices_IndexFunc__sint_int.b0))) (.seq (.reg 1152 1 slices_IndexFunc__sint_int.r7) (.ret))) }
attribute [go_sem] slices_IndexFunc__sint_int.r0 slices_IndexFunc__sint_int.r1 slices_IndexFunc__sint_int.r2 slices_IndexFunc__sint_int.r3 slices_IndexFunc__sint_int.r4 slices_IndexFunc__sint_int.r5 slices_IndexFunc__sint_int.r6 slices_IndexFunc__sint_int.r7
theorem slices_IndexFunc__sint_int.ok : chkF prog F_slices_IndexFunc__sint_int 2 slices_IndexFunc__sint_int.fi = true := by kernel_rfl

/-! slices_ContainsFunc__sint_int -/
def slices_ContainsFunc__sint_int.r0 : List Ent := [
  E0 0 (some 4) none (.i (.mv (.k (.dat none (.bool false)))))]
def slices_ContainsFunc__sint_int.r1 : List Ent := [
  E0 0 (some 5) none (.i (.mv (.t 0))),
  E0 1 (some 6) none (.i (.mv (.t 1))),
  E0 2 (some 7) none (.call F_slices_IndexFunc__sint_int false (roA [.t 5, .t 6])),
  E0 3 (some 8) none (.i (.bin .geq (.t 7) (.k (I64 0)))),
  E0 4 (some 4) none (.i (.mv (.t 8)))]
def slices_ContainsFunc__sint_int.fi : FI := { res := [.t 4], code := .seq (.reg 64 1 slices_ContainsFunc__sint_int.r0) (.seq (.reg 128 5 slices_ContainsFunc__sint_int.r1) (.ret)) }
attribute [go_sem] slices_ContainsFunc__sint_int.r0 slices_ContainsFunc__sint_int.r1
theorem slices_ContainsFunc__sint_int.ok : chkF prog F_slices_ContainsFunc__sint_int 2 slices_ContainsFunc__sint_int.fi = true := by kernel_rfl

/-! impl_variable -/
def impl_variable.r0 : List Ent := [
  E0 0 (some 2) none (.i (.mv (.k (I64 0))))]
def impl_variable.r1 : List Ent := [
  E0 0 (some 3) none (.i (.mv (.t 0))),
  E0 1 (some 4) none (.i (.mv (.t 0))),
  E0 2 (some 5) none (.i (.un .neg (.t 4))),
  E0 3 (some 6) none (.i (.mnx true (.t 3) (.t 5))),
  E0 4 (some 2) none (.i (.mv (.t 6)))]
def impl_variable.fi : FI := { res := [.t 2], code := .seq (.reg 64 1 impl_variable.r0) (.seq (.reg 128 5 impl_variable.r1) (.ret)) }
attribute [go_sem] impl_variable.r0 impl_variable.r1
theorem impl_variable.ok : chkF prog F_impl_variable 1 impl_variable.fi = true := by kernel_rfl

/-! impl_isClause_c1 -/
def impl_isClause_c1.r0 : List Ent := [
  E0 0 (some 3) none (.i (.mv (.k (.dat none (.bool false)))))]
def impl_isClause_c1.r1 : List Ent := [
  E0 0 (some 4) none (.i (.mv (.t 0))),
  E2 1 (some 5) none (.call F_impl_variable false (roA [.t 4])),
  ER 2 (some 6) none (.load false false 1 (.t 1)),
  E0 3 (some 7) none (.call F_impl_variable false (roA [.t 6])),
  E0 4 (some 8) none (.i (.bin .eql (.t 5) (.t 7))),
  E0 5 (some 3) none (.i (.mv (.t 8)))]
def impl_isClause_c1.fi : FI := { res := [.t 3], code := .seq (.reg 64 1 impl_isClause_c1.r0) (.seq (.reg 128 6 impl_isClause_c1.r1) (.ret)) }
attribute [go_sem] impl_isClause_c1.r0 impl_isClause_c1.r1
theorem impl_isClause_c1.ok : chkF prog F_impl_isClause_c1 2 impl_isClause_c1.fi = true := by kernel_rfl

/-! impl_isClause -/
def impl_isClause.r0 : List Ent := [
  E0 0 (some 4) none (.i (.mv (.k (.dat none (.bool false)))))]
def impl_isClause.r1 : List Ent := [
  E0 0 (some 7) none (.i (.mv (.t 0))),
  E0 1 (some 8) none (.i (.len (.t 7))),
  E0 2 (some 9) none (.i (.mv (.k (I64 0))))]
def impl_isClause.r2 : List Ent := [
  E0 0 (some 10) none (.i (.bin .lss (.t 9) (.t 8)))]
def impl_isClause.r3 : List Ent := [
  E0 0 (some 11) none (.i (.mv (.t 9))),
  E0 1 (some 12) none (.i (.iad 1 (.t 7) (.t 9))),
  E0 2 (some 13) none (.i (.load false false 1 (.t 12))),
  E0 3 (some 6) none (.i (.box (.k (.dat none (.int .i64 0))))),
  E0 4 (some 5) none (.i (.mv (.t 11))),
  E0 5 none none (.i (.store 1 (.t 6) (.t 13)))]
def impl_isClause.r4 : List Ent := [
  E0 0 (some 14) none (.i (.load false false 1 (.t 6))),
  E0 1 (some 15) none (.i (.mv (.t 1))),
  E0 2 (some 16) none (.call F_impl_isLiteral false (roA [.t 14, .t 15])),
  E0 3 (some 17) none (.i (.un .not (.t 16))),
  E0 4 (some 18) none (.i (.mv (.t 17))),
  E0 5 (some 19) (some (18, false)) (.i (.mv (.t 0))),
  E0 6 (some 20) (some (18, false)) (.i (.mv (.t 5))),
  E0 7 (some 21) (some (18, false)) (.i (.slc 1 (.t 19) (none) (some (.t 20)))),
  E0 8 (some 22) (some (18, false)) (.i (.mkf F_impl_isClause_c1 [.t 6])),
  E0 9 (some 23) (some (18, false)) (.call F_slices_ContainsFunc__sint_int false (roA [.t 21, .t 22])),
  E0 10 (some 24) none (.i (.pick (.t 18) (.k (.dat none (.bool true))) (.t 23)))]
def impl_isClause.r5 : List Ent := [
  E0 0 (some 4) none (.i (.mv (.k (.dat none (.bool false)))))]
def impl_isClause.r6 : List Ent := [
  E0 0 (some 25) none (.i (.bin .add (.t 9) (.k (I64 1)))),
  E0 1 (some 9) none (.i (.mv (.t 25)))]
def impl_isClause.b0 : KC := .seq (.reg 320 1 impl_isClause.r2) (.seq (.cond (.t 10) (.skip) (.exit 0)) (.seq (.block 1 (.seq (.reg 384 6 impl_isClause.r3) (.seq (.reg 768 11 impl_isClause.r4) (.cond (.t 24) (.seq (.reg 1472 1 impl_isClause.r5) (.ret)) (.skip))))) (.reg 1536 2 impl_isClause.r6)))
def impl_isClause.r7 : List Ent := [
  E0 0 (some 26) none (.i (.mv (.t 0))),
  E0 1 (some 27) none (.i (.len (.t 26))),
  E0 2 (some 28) none (.i (.bin .leq (.t 27) (.k (I64 12)))),
  E0 3 (some 4) none (.i (.mv (.t 28)))]
def impl_isClause.fi : FI := { res := [.t 4], code := .seq (.reg 64 1 impl_isClause.r0) (.seq (.seq (.reg 128 3 impl_isClause.r1) (.block 0 (.loop impl_isClause.b0))) (.seq (.reg 1664 4 impl_isClause.r7) (.ret))) }
attribute [go_sem] impl_isClause.r0 impl_isClause.r1 impl_isClause.r2 impl_isClause.r3 impl_isClause.r4 impl_isClause.r5 impl_isClause.r6 impl_isClause.r7
theorem impl_isClause.ok : chkF prog F_impl_isClause 2 impl_isClause.fi = true := by kernel_rfl

/-! impl_areClauses_c1 -/
def impl_areClauses_c1.r0 : List Ent := [
  E0 0 (some 3) none (.i (.mv (.k (.dat none (.bool false)))))]
def impl_areClauses_c1.r1 : List Ent := [
  E0 0 (some 4) none (.i (.mv (.t 0))),
  E0 1 (some 5) none (.i (.load false false 1 (.t 1))),
  E0 2 (some 6) none (.call F_impl_isClause false (roA [.t 4, .t 5])),
  E0 3 (some 7) none (.i (.un .not (.t 6))),
  E0 4 (some 3) none (.i (.mv (.t 7)))]
def impl_areClauses_c1.fi : FI := { res := [.t 3], code := .seq (.reg 64 1 impl_areClauses_c1.r0) (.seq (.reg 128 5 impl_areClauses_c1.r1) (.ret)) }
attribute [go_sem] impl_areClauses_c1.r0 impl_areClauses_c1.r1
theorem impl_areClauses_c1.ok : chkF prog F_impl_areClauses_c1 2 impl_areClauses_c1.fi = true := by kernel_rfl

/-! impl_areClauses -/
def impl_areClauses.r0 : List Ent := [
  E0 0 (some 3) none (.i (.box (.t 1))),
  E0 1 (some 4) none (.i (.mv (.k (.dat none (.bool false)))))]
def impl_areClauses.r1 : List Ent := [
  E0 0 (some 5) none (.i (.mv (.t 0))),
  E0 1 (some 6) none (.i (.mkf F_impl_areClauses_c1 [.t 3])),
  E0 2 (some 7) none (.call F_slices_ContainsFunc__ssint_sint false (roA [.t 5, .t 6])),
  E0 3 (some 8) none (.i (.un .not (.t 7))),
  E0 4 (some 4) none (.i (.mv (.t 8)))]
def impl_areClauses.fi : FI := { res := [.t 4], code := .seq (.reg 64 2 impl_areClauses.r0) (.seq (.reg 192 5 impl_areClauses.r1) (.ret)) }
attribute [go_sem] impl_areClauses.r0 impl_areClauses.r1
theorem impl_areClauses.ok : chkF prog F_impl_areClauses 2 impl_areClauses.fi = true := by kernel_rfl

/-! impl_GoodClauses -/
def impl_GoodClauses.r0 : List Ent := [
  E0 0 (some 4) none (.i (.mv (.k (.dat none (.bool false)))))]
def impl_GoodClauses.r1 : List Ent := [
  E0 0 (some 5) none (.i (.mv (.t 0))),
  E0 1 (some 6) none (.call F_impl_in false (roA [.t 5, .k (I64 0), .k (I64 12)])),
  E0 2 (some 7) none (.i (.mv (.t 6))),
  E0 3 (some 8) (some (7, true)) (.i (.mv (.t 1))),
  E0 4 (some 9) (some (7, true)) (.i (.len (.t 8))),
  E0 5 (some 10) (some (7, true)) (.i (.bin .leq (.t 9) (.k (I64 60)))),
  E0 6 (some 11) none (.i (.pick (.t 7) (.t 10) (.k (.dat none (.bool false))))),
  E0 7 (some 12) none (.i (.mv (.t 11))),
  E0 8 (some 13) (some (12, true)) (.i (.mv (.t 1))),
  E0 9 (some 14) (some (12, true)) (.i (.mv (.t 0))),
  E0 10 (some 15) (some (12, true)) (.call F_impl_areClauses false (roA [.t 13, .t 14])),
  E0 11 (some 16) none (.i (.pick (.t 12) (.t 15) (.k (.dat none (.bool false))))),
  E0 12 (some 4) none (.i (.mv (.t 16)))]
def impl_GoodClauses.fi : FI := { res := [.t 4], code := .seq (.reg 64 1 impl_GoodClauses.r0) (.seq (.reg 128 13 impl_GoodClauses.r1) (.ret)) }
attribute [go_sem] impl_GoodClauses.r0 impl_GoodClauses.r1
theorem impl_GoodClauses.ok : chkF prog F_impl_GoodClauses 2 impl_GoodClauses.fi = true := by kernel_rfl

/-! slices_Index__sint_int -/
def slices_Index__sint_int.r0 : List Ent := [
  E0 0 (some 4) none (.i (.mv (.k (I64 0))))]
def slices_Index__sint_int.r1 : List Ent := [
  E0 0 (some 6) none (.i (.mv (.t 0))),
  E0 1 (some 7) none (.i (.len (.t 6))),
  E0 2 (some 8) none (.i (.mv (.k (I64 0))))]
def slices_Index__sint_int.r2 : List Ent := [
  E0 0 (some 9) none (.i (.bin .lss (.t 8) (.t 7)))]
def slices_Index__sint_int.r3 : List Ent := [
  E0 0 (some 10) none (.i (.mv (.t 8))),
  E0 1 (some 5) none (.i (.mv (.t 10)))]
def slices_Index__sint_int.r4 : List Ent := [
  E0 0 (some 11) none (.i (.mv (.t 1))),
  E0 1 (some 12) none (.i (.mv (.t 0))),
  E0 2 (some 13) none (.i (.mv (.t 5))),
  E0 3 (some 14) none (.i (.iad 1 (.t 12) (.t 13))),
  E0 4 (some 15) none (.i (.load false false 1 (.t 14))),
  E0 5 (some 16) none (.i (.bin .eql (.t 11) (.t 15)))]
def slices_Index__sint_int.r5 : List Ent := [
  E0 0 (some 17) none (.i (.mv (.t 5))),
  E0 1 (some 4) none (.i (.mv (.t 17)))]
def slices_Index__sint_int.r6 : List Ent := [
  E0 0 (some 18) none (.i (.bin .add (.t 8) (.k (I64 1)))),
  E0 1 (some 8) none (.i (.mv (.t 18)))]
def slices_Index__sint_int.b0 : KC := .seq (.reg 320 1 slices_Index__sint_int.r2) (.seq (.cond (.t 9) (.skip) (.exit 0)) (.seq (.block 1 (.seq (.reg 384 2 slices_Index__sint_int.r3) (.seq (.reg 512 6 slices_Index__sint_int.r4) (.cond (.t 16) (.seq (.reg 896 2 slices_Index__sint_int.r5) (.ret)) (.skip))))) (.reg 1024 2 slices_Index__sint_int.r6)))
def slices_Index__sint_int.r7 : List Ent := [
  E0 0 (some 4) none (.i (.mv (.k (I64 (-1)))))]
def slices_Index__sint_int.fi : FI := { res := [.t 4], code := .seq (.reg 64 1 slices_Index__sint_int.r0) (.seq (.seq (.reg 128 3 slices_Index__sint_int.r1) (.block 0 (.loop slices_Index__sint_int.b0))) (.seq (.reg 1152 1 slices_Index__sint_int.r7) (.ret))) }
attribute [go_sem] slices_Index__sint_int.r0 slices_Index__sint_int.r1 slices_Index__sint_int.r2 slices_Index__sint_int.r3 slices_Index__sint_int.r4 slices_Index__sint_int.r5 slices_Index__sint_int.r6 slices_Index__sint_int.r7
theorem slices_Index__sint_int.ok : chkF prog F_slices_Index__sint_int 2 slices_Index__sint_int.fi = true := by kernel_rfl

/-! slices_Contains__sint_int -/
def slices_Contains__sint_int.r0 : List Ent := [
  E0 0 (some 4) none (.i (.mv (.k (.dat none (.bool false)))))]
def slices_Contains__sint_int.r1 : List Ent := [
  E0 0 (some 5) none (.i (.mv (.t 0))),
  E0 1 (some 6) none (.i (.mv (.t 1))),
  E0 2 (some 7) none (.call F_slices_Index__sint_int false (roA [.t 5, .t 6])),
  E0 3 (some 8) none (.i (.bin .geq (.t 7) (.k (I64 0)))),
  E0 4 (some 4) none (.i (.mv (.t 8)))]
def slices_Contains__sint_int.fi : FI := { res := [.t 4], code := .seq (.reg 64 1 slices_Contains__sint_int.r0) (.seq (.reg 128 5 slices_Contains__sint_int.r1) (.ret)) }
attribute [go_sem] slices_Contains__sint_int.r0 slices_Contains__sint_int.r1
theorem slices_Contains__sint_int.ok : chkF prog F_slices_Contains__sint_int 2 slices_Contains__sint_int.fi = true := by kernel_rfl

/-! slices_DeleteFunc__sint_int -/
def slices_DeleteFunc__sint_int.r0 : List Ent := [
  E0 0 (some 4) none (.i (.mv (.k (.nil 1))))]
def slices_DeleteFunc__sint_int.r1 : List Ent := [
  E0 0 (some 8) none (.i (.mv (.t 0))),
  E0 1 (some 9) none (.i (.mv (.t 1))),
  E0 2 (some 10) none (.call F_slices_IndexFunc__sint_int false (roA [.t 8, .t 9])),
  E0 3 (some 5) none (.i (.mv (.t 10)))]
def slices_DeleteFunc__sint_int.r2 : List Ent := [
  E0 0 (some 11) none (.i (.mv (.t 5))),
  E0 1 (some 12) none (.i (.bin .eql (.t 11) (.k (I64 (-1)))))]
def slices_DeleteFunc__sint_int.r3 : List Ent := [
  E0 0 (some 13) none (.i (.mv (.t 0))),
  E0 1 (some 4) none (.i (.mv (.t 13)))]
def slices_DeleteFunc__sint_int.r4 : List Ent := [
  E0 0 (some 14) none (.i (.mv (.t 5))),
  E0 1 (some 15) none (.i (.bin .add (.t 14) (.k (I64 1)))),
  E0 2 (some 6) none (.i (.mv (.t 15)))]
def slices_DeleteFunc__sint_int.r5 : List Ent := [
  E0 0 (some 16) none (.i (.mv (.t 6))),
  E0 1 (some 17) none (.i (.mv (.t 0))),
  E0 2 (some 18) none (.i (.len (.t 17))),
  E0 3 (some 19) none (.i (.bin .lss (.t 16) (.t 18)))]
def slices_DeleteFunc__sint_int.r6 : List Ent := [
  E0 0 (some 22) none (.i (.mv (.t 0))),
  E0 1 (some 23) none (.i (.mv (.t 6))),
  E0 2 (some 24) none (.i (.iad 1 (.t 22) (.t 23))),
  E0 3 (some 25) none (.i (.load false false 1 (.t 24))),
  E0 4 (some 7) none (.i (.mv (.t 25)))]
def slices_DeleteFunc__sint_int.r7 : List Ent := [
  E0 0 (some 26) none (.i (.mv (.t 1))),
  E0 1 (some 27) none (.i (.mv (.t 7))),
  E0 2 (some 28) none (.ccl (.t 26) false [.t 27]),
  E0 3 (some 29) none (.i (.un .not (.t 28)))]
def slices_DeleteFunc__sint_int.r8 : List Ent := [
  E0 0 (some 30) none (.i (.mv (.t 0))),
  E0 1 (some 31) none (.i (.mv (.t 5))),
  E0 2 (some 32) none (.i (.mv (.t 7))),
  E0 3 (some 33) none (.i (.iad 1 (.t 30) (.t 31))),
  E0 4 none none (.i (.store 1 (.t 33) (.t 32)))]
def slices_DeleteFunc__sint_int.r9 : List Ent := [
  E0 0 (some 34) none (.i (.mv (.t 5))),
  E0 1 (some 35) none (.i (.bin .add (.t 34) (.k (I64 1)))),
  E0 2 (some 5) none (.i (.mv (.t 35)))]
def slices_DeleteFunc__sint_int.r10 : List Ent := [
  E0 0 (some 20) none (.i (.mv (.t 6))),
  E0 1 (some 21) none (.i (.bin .add (.t 20) (.k (I64 1)))),
  E0 2 (some 6) none (.i (.mv (.t 21)))]
def slices_DeleteFunc__sint_int.b0 : KC := .seq (.seq (.reg 832 4 slices_DeleteFunc__sint_int.r5) (.cond (.t 19) (.skip) (.exit 0))) (.seq (.block 1 (.seq (.reg 1088 5 slices_DeleteFunc__sint_int.r6) (.seq (.reg 1408 4 slices_DeleteFunc__sint_int.r7) (.cond (.t 29) (.seq (.reg 1664 5 slices_DeleteFunc__sint_int.r8) (.reg 1984 3 slices_DeleteFunc__sint_int.r9)) (.skip))))) (.reg 2176 3 slices_DeleteFunc__sint_int.r10))
def slices_DeleteFunc__sint_int.r11 : List Ent := [
  E0 0 (some 36) none (.i (.mv (.t 0))),
  E0 1 (some 37) none (.i (.mv (.t 5))),
  E0 2 (some 38) none (.i (.slc 1 (.t 36) (some (.t 37)) (none))),
  E0 3 none none (.i (.clr 1 (.int .i64 0) (.t 38)))]
def slices_DeleteFunc__sint_int.r12 : List Ent := [
  E0 0 (some 39) none (.i (.mv (.t 0))),
  E0 1 (some 40) none (.i (.mv (.t 5))),
  E0 2 (some 41) none (.i (.slc 1 (.t 39) (none) (some (.t 40)))),
  E0 3 (some 4) none (.i (.mv (.t 41)))]
def slices_DeleteFunc__sint_int.fi : FI := { res := [.t 4], code := .seq (.reg 64 1 slices_DeleteFunc__sint_int.r0) (.seq (.reg 128 4 slices_DeleteFunc__sint_int.r1) (.seq (.seq (.reg 384 2 slices_DeleteFunc__sint_int.r2) (.cond (.t 12) (.seq (.reg 512 2 slices_DeleteFunc__sint_int.r3) (.ret)) (.skip))) (.seq (.seq (.reg 640 3 slices_DeleteFunc__sint_int.r4) (.block 0 (.loop slices_DeleteFunc__sint_int.b0))) (.seq (.reg 2368 4 slices_DeleteFunc__sint_int.r11) (.seq (.reg 2624 4 slices_DeleteFunc__sint_int.r12) (.ret)))))) }
attribute [go_sem] slices_DeleteFunc__sint_int.r0 slices_DeleteFunc__sint_int.r1 slices_DeleteFunc__sint_int.r2 slices_DeleteFunc__sint_int.r3 slices_DeleteFunc__sint_int.r4 slices_DeleteFunc__sint_int.r5 slices_DeleteFunc__sint_int.r6 slices_DeleteFunc__sint_int.r7 slices_DeleteFunc__sint_int.r8 slices_DeleteFunc__sint_int.r9 slices_DeleteFunc__sint_int.r10 slices_DeleteFunc__sint_int.r11 slices_DeleteFunc__sint_int.r12
theorem slices_DeleteFunc__sint_int.ok : chkF prog F_slices_DeleteFunc__sint_int 2 slices_DeleteFunc__sint_int.fi = true := by kernel_rfl

/-! spec_pl1Cur_next -/
def spec_pl1Cur_next.r0 : List Ent := [
  E0 0 (some 2) none (.i (.mv (.k (I64 0))))]
def spec_pl1Cur_next.r1 : List Ent := [
  E0 0 (some 3) none (.i (.mv (.k (I64 0))))]
def spec_pl1Cur_next.r2 : List Ent := [
  E0 0 (some 4) none (.i (.mv (.t 0))),
  E0 1 (some 5) none (.i (.nck (.t 4))),
  ER 2 (some 6) none (.fad 1 (.t 5)),
  ER 3 (some 7) none (.load false false 1 (.t 6)),
  E0 4 (some 8) none (.i (.mv (.t 0))),
  E0 5 (some 9) none (.i (.nck (.t 8))),
  ER 6 (some 10) none (.fad 0 (.t 9)),
  ER 7 (some 11) none (.load false false 1 (.t 10)),
  ER 8 (some 12) none (.len (.t 11)),
  E0 9 (some 13) none (.i (.bin .lss (.t 7) (.t 12)))]
def spec_pl1Cur_next.r3 : List Ent := [
  E0 0 (some 14) none (.i (.mv (.t 0))),
  E0 1 (some 15) none (.i (.nck (.t 14))),
  ER 2 (some 16) none (.fad 0 (.t 15)),
  ER 3 (some 17) none (.load false false 1 (.t 16)),
  E0 4 (some 18) none (.i (.mv (.t 0))),
  E0 5 (some 19) none (.i (.nck (.t 18))),
  ER 6 (some 20) none (.fad 1 (.t 19)),
  ER 7 (some 21) none (.load false false 1 (.t 20)),
  E0 8 (some 22) none (.i (.iad 1 (.t 17) (.t 21))),
  E0 9 (some 23) none (.i (.load false false 1 (.t 22))),
  E0 10 (some 24) none (.i (.cnv .i64 (.t 23))),
  E0 11 (some 3) none (.i (.mv (.t 24)))]
def spec_pl1Cur_next.r4 : List Ent := [
  E0 0 (some 25) none (.i (.mv (.t 0))),
  E0 1 (some 26) none (.i (.nck (.t 25))),
  E0 2 (some 27) none (.i (.fad 1 (.t 26))),
  E0 3 (some 28) none (.i (.load false false 1 (.t 27))),
  E0 4 (some 29) none (.i (.bin .add (.t 28) (.k (I64 1)))),
  E0 5 (some 30) none (.i (.nck (.t 25))),
  E0 6 (some 31) none (.i (.fad 1 (.t 30))),
  E0 7 none none (.i (.store 1 (.t 31) (.t 29)))]
def spec_pl1Cur_next.r5 : List Ent := [
  E0 0 (some 32) none (.i (.mv (.t 0))),
  E0 1 (some 33) none (.i (.mv (.t 0))),
  E0 2 (some 34) none (.i (.nck (.t 33))),
  E0 3 (some 35) none (.i (.fad 2 (.t 34))),
  E0 4 (some 36) none (.i (.load false false 1 (.t 35))),
  E0 5 (some 37) none (.i (.bin .mul (.t 36) (.k (.dat none (.int .u64 6364136223846793005))))),
  E0 6 (some 38) none (.i (.mv (.t 3))),
  E0 7 (some 39) none (.i (.cnv .u64 (.t 38))),
  E0 8 (some 40) none (.i (.bin .add (.t 37) (.t 39))),
  E0 9 (some 41) none (.i (.bin .add (.t 40) (.k (.dat none (.int .u64 1442695040888963407))))),
  E0 10 (some 42) none (.i (.nck (.t 32))),
  E0 11 (some 43) none (.i (.fad 2 (.t 42))),
  E0 12 none none (.i (.store 1 (.t 43) (.t 41)))]
def spec_pl1Cur_next.r6 : List Ent := [
  E0 0 (some 44) none (.i (.mv (.t 0))),
  E0 1 (some 45) none (.i (.nck (.t 44))),
  ER 2 (some 46) none (.fad 1 (.t 45)),
  ER 3 (some 47) none (.load false false 1 (.t 46)),
  E0 4 (some 48) none (.i (.mv (.t 0))),
  E0 5 (some 49) none (.i (.nck (.t 48))),
  ER 6 (some 50) none (.fad 0 (.t 49)),
  ER 7 (some 51) none (.load false false 1 (.t 50)),
  ER 8 (some 52) none (.len (.t 51)),
  E0 9 (some 53) none (.i (.bin .leq (.t 47) (.t 52)))]
def spec_pl1Cur_next.r7 : List Ent := [
  E0 0 (some 54) none (.i (.mv (.t 3))),
  E0 1 (some 2) none (.i (.mv (.t 54)))]
def spec_pl1Cur_next.r8 : List Ent := [
  E0 0 (some 55) none (.i (.mv (.t 0))),
  E0 1 (some 56) none (.i (.nck (.t 55))),
  E0 2 (some 57) none (.i (.fad 2 (.t 56))),
  E0 3 (some 58) none (.i (.load false false 1 (.t 57))),
  E0 4 (some 59) none (.i (.bin .shr (.t 58) (.k (.dat none (.int .u64 40))))),
  E0 5 (some 60) none (.i (.bin .and (.t 59) (.k (.dat none (.int .u64 255))))),
  E0 6 (some 61) none (.i (.cnv .i64 (.t 60))),
  E0 7 (some 2) none (.i (.mv (.t 61)))]
def spec_pl1Cur_next.fi : FI := { res := [.t 2], code := .seq (.reg 64 1 spec_pl1Cur_next.r0) (.seq (.reg 128 1 spec_pl1Cur_next.r1) (.seq (.seq (.reg 192 10 spec_pl1Cur_next.r2) (.cond (.t 13) (.reg 832 12 spec_pl1Cur_next.r3) (.skip))) (.seq (.reg 1600 8 spec_pl1Cur_next.r4) (.seq (.reg 2112 13 spec_pl1Cur_next.r5) (.seq (.seq (.reg 2944 10 spec_pl1Cur_next.r6) (.cond (.t 53) (.seq (.reg 3584 2 spec_pl1Cur_next.r7) (.ret)) (.skip))) (.seq (.reg 3712 8 spec_pl1Cur_next.r8) (.ret))))))) }
attribute [go_sem] spec_pl1Cur_next.r0 spec_pl1Cur_next.r1 spec_pl1Cur_next.r2 spec_pl1Cur_next.r3 spec_pl1Cur_next.r4 spec_pl1Cur_next.r5 spec_pl1Cur_next.r6 spec_pl1Cur_next.r7 spec_pl1Cur_next.r8
theorem spec_pl1Cur_next.ok : chkF prog F_spec_pl1Cur_next 1 spec_pl1Cur_next.fi = true := by kernel_rfl

/-! spec_pl1Cur_pick -/
def spec_pl1Cur_pick.r0 : List Ent := [
  E0 0 (some 4) none (.i (.mv (.k (I64 0))))]
def spec_pl1Cur_pick.r1 : List Ent := [
  E0 0 (some 6) none (.i (.mv (.t 1))),
  E0 1 (some 7) none (.i (.bin .leq (.t 6) (.k (I64 1))))]
def spec_pl1Cur_pick.r2 : List Ent := [
  E0 0 (some 4) none (.i (.mv (.k (I64 0))))]
def spec_pl1Cur_pick.r3 : List Ent := [
  E0 0 (some 8) none (.i (.mv (.t 0))),
  E0 1 (some 9) none (.call F_spec_pl1Cur_next true [(.io, .t 8)]),
  E0 2 (some 5) none (.i (.mv (.t 9)))]
def spec_pl1Cur_pick.r4 : List Ent := [
  E0 0 (some 10) none (.i (.mv (.t 1))),
  E0 1 (some 11) none (.i (.bin .gtr (.t 10) (.k (I64 200))))]
def spec_pl1Cur_pick.r5 : List Ent := [
  E0 0 (some 12) none (.i (.mv (.t 5))),
  E0 1 (some 13) none (.i (.bin .mul (.t 12) (.k (I64 256)))),
  E0 2 (some 14) none (.i (.mv (.t 0))),
  E0 3 (some 15) none (.call F_spec_pl1Cur_next true [(.io, .t 14)]),
  E0 4 (some 16) none (.i (.bin .add (.t 13) (.t 15))),
  E0 5 (some 5) none (.i (.mv (.t 16)))]
def spec_pl1Cur_pick.r6 : List Ent := [
  E0 0 (some 17) none (.i (.mv (.t 5))),
  E0 1 (some 18) none (.i (.mv (.t 1))),
  E0 2 (some 19) none (.i (.bin .rem (.t 17) (.t 18))),
  E0 3 (some 4) none (.i (.mv (.t 19)))]
def spec_pl1Cur_pick.fi : FI := { res := [.t 4], code := .seq (.reg 64 1 spec_pl1Cur_pick.r0) (.seq (.seq (.reg 128 2 spec_pl1Cur_pick.r1) (.cond (.t 7) (.seq (.reg 256 1 spec_pl1Cur_pick.r2) (.ret)) (.skip))) (.seq (.reg 320 3 spec_pl1Cur_pick.r3) (.seq (.seq (.reg 512 2 spec_pl1Cur_pick.r4) (.cond (.t 11) (.reg 640 6 spec_pl1Cur_pick.r5) (.skip))) (.seq (.reg 1024 4 spec_pl1Cur_pick.r6) (.ret))))) }
attribute [go_sem] spec_pl1Cur_pick.r0 spec_pl1Cur_pick.r1 spec_pl1Cur_pick.r2 spec_pl1Cur_pick.r3 spec_pl1Cur_pick.r4 spec_pl1Cur_pick.r5 spec_pl1Cur_pick.r6
theorem spec_pl1Cur_pick.ok : chkF prog F_spec_pl1Cur_pick 2 spec_pl1Cur_pick.fi = true := by kernel_rfl

/-! spec_pl1Cur_one -/
def spec_pl1Cur_one.r0 : List Ent := [
  E0 0 (some 4) none (.i (.mv (.k (.dat none (.bool false)))))]
def spec_pl1Cur_one.r1 : List Ent := [
  E0 0 (some 5) none (.i (.mv (.t 0))),
  E0 1 (some 6) none (.i (.mv (.t 1))),
  E0 2 (some 7) none (.call F_spec_pl1Cur_pick true [(.io, .t 5), (.ro, .t 6)]),
  E0 3 (some 8) none (.i (.bin .eql (.t 7) (.k (I64 0)))),
  E0 4 (some 4) none (.i (.mv (.t 8)))]
def spec_pl1Cur_one.fi : FI := { res := [.t 4], code := .seq (.reg 64 1 spec_pl1Cur_one.r0) (.seq (.reg 128 5 spec_pl1Cur_one.r1) (.ret)) }
attribute [go_sem] spec_pl1Cur_one.r0 spec_pl1Cur_one.r1
theorem spec_pl1Cur_one.ok : chkF prog F_spec_pl1Cur_one 2 spec_pl1Cur_one.fi = true := by kernel_rfl

/-! spec_pl1Cur_among -/
def spec_pl1Cur_among.r0 : List Ent := [
  E0 0 (some 4) none (.i (.mv (.k (I64 0))))]
def spec_pl1Cur_among.r1 : List Ent := [
  E0 0 (some 5) none (.i (.mv (.t 1))),
  E0 1 (some 6) none (.i (.mv (.t 0))),
  E0 2 (some 7) none (.i (.mv (.t 1))),
  E0 3 (some 8) none (.i (.len (.t 7))),
  E0 4 (some 9) none (.call F_spec_pl1Cur_pick true [(.io, .t 6), (.ro, .t 8)]),
  E0 5 (some 10) none (.i (.iad 1 (.t 5) (.t 9))),
  E0 6 (some 11) none (.i (.load false false 1 (.t 10))),
  E0 7 (some 4) none (.i (.mv (.t 11)))]
def spec_pl1Cur_among.fi : FI := { res := [.t 4], code := .seq (.reg 64 1 spec_pl1Cur_among.r0) (.seq (.reg 128 8 spec_pl1Cur_among.r1) (.ret)) }
attribute [go_sem] spec_pl1Cur_among.r0 spec_pl1Cur_among.r1
theorem spec_pl1Cur_among.ok : chkF prog F_spec_pl1Cur_among 2 spec_pl1Cur_among.fi = true := by kernel_rfl

/-! laws_sameInts -/
def laws_sameInts.r0 : List Ent := [
  E0 0 (some 4) none (.i (.mv (.k (.dat none (.bool false)))))]
def laws_sameInts.r1 : List Ent := [
  E0 0 (some 6) none (.i (.mv (.t 0))),
  E0 1 (some 7) none (.i (.len (.t 6))),
  E0 2 (some 8) none (.i (.mv (.t 1))),
  E0 3 (some 9) none (.i (.len (.t 8))),
  E0 4 (some 10) none (.i (.bin .neq (.t 7) (.t 9)))]
def laws_sameInts.r2 : List Ent := [
  E0 0 (some 4) none (.i (.mv (.k (.dat none (.bool false)))))]
def laws_sameInts.r3 : List Ent := [
  E0 0 (some 11) none (.i (.mv (.t 0))),
  E0 1 (some 12) none (.i (.len (.t 11))),
  E0 2 (some 13) none (.i (.mv (.k (I64 0))))]
def laws_sameInts.r4 : List Ent := [
  E0 0 (some 14) none (.i (.bin .lss (.t 13) (.t 12)))]
def laws_sameInts.r5 : List Ent := [
  E0 0 (some 15) none (.i (.mv (.t 13))),
  E0 1 (some 5) none (.i (.mv (.t 15)))]
def laws_sameInts.r6 : List Ent := [
  E0 0 (some 16) none (.i (.mv (.t 0))),
  E0 1 (some 17) none (.i (.mv (.t 5))),
  ER 2 (some 18) none (.iad 1 (.t 16) (.t 17)),
  ER 3 (some 19) none (.load false false 1 (.t 18)),
  E0 4 (some 20) none (.i (.mv (.t 1))),
  E0 5 (some 21) none (.i (.mv (.t 5))),
  ER 6 (some 22) none (.iad 1 (.t 20) (.t 21)),
  ER 7 (some 23) none (.load false false 1 (.t 22)),
  E0 8 (some 24) none (.i (.bin .neq (.t 19) (.t 23)))]
def laws_sameInts.r7 : List Ent := [
  E0 0 (some 4) none (.i (.mv (.k (.dat none (.bool false)))))]
def laws_sameInts.r8 : List Ent := [
  E0 0 (some 25) none (.i (.bin .add (.t 13) (.k (I64 1)))),
  E0 1 (some 13) none (.i (.mv (.t 25)))]
def laws_sameInts.b0 : KC := .seq (.reg 704 1 laws_sameInts.r4) (.seq (.cond (.t 14) (.skip) (.exit 0)) (.seq (.block 1 (.seq (.reg 768 2 laws_sameInts.r5) (.seq (.reg 896 9 laws_sameInts.r6) (.cond (.t 24) (.seq (.reg 1472 1 laws_sameInts.r7) (.ret)) (.skip))))) (.reg 1536 2 laws_sameInts.r8)))
def laws_sameInts.r9 : List Ent := [
  E0 0 (some 4) none (.i (.mv (.k (.dat none (.bool true)))))]
def laws_sameInts.fi : FI := { res := [.t 4], code := .seq (.reg 64 1 laws_sameInts.r0) (.seq (.seq (.reg 128 5 laws_sameInts.r1) (.cond (.t 10) (.seq (.reg 448 1 laws_sameInts.r2) (.ret)) (.skip))) (.seq (.seq (.reg 512 3 laws_sameInts.r3) (.block 0 (.loop laws_sameInts.b0))) (.seq (.reg 1664 1 laws_sameInts.r9) (.ret)))) }
attribute [go_sem] laws_sameInts.r0 laws_sameInts.r1 laws_sameInts.r2 laws_sameInts.r3 laws_sameInts.r4 laws_sameInts.r5 laws_sameInts.r6 laws_sameInts.r7 laws_sameInts.r8 laws_sameInts.r9
theorem laws_sameInts.ok : chkF prog F_laws_sameInts 2 laws_sameInts.fi = true := by kernel_rfl

/-! impl_holds_c1 -/
def impl_holds_c1.r0 : List Ent := [
  E0 0 (some 3) none (.i (.mv (.k (.dat none (.bool false)))))]
def impl_holds_c1.r1 : List Ent := [
  ER 0 (some 4) none (.load false false 1 (.t 1)),
  E0 1 (some 5) none (.i (.mv (.t 0))),
  E2 2 (some 6) none (.call F_impl_variable false (roA [.t 5])),
  E0 3 (some 7) none (.i (.bin .sub (.t 6) (.k (I64 1)))),
  E0 4 (some 8) none (.i (.iad 1 (.t 4) (.t 7))),
  E0 5 (some 9) none (.i (.load false false 1 (.t 8))),
  E0 6 (some 10) none (.i (.mv (.t 0))),
  E0 7 (some 11) none (.i (.bin .gtr (.t 10) (.k (I64 0)))),
  E0 8 (some 12) none (.i (.eqb false (.t 9) (.t 11))),
  E0 9 (some 3) none (.i (.mv (.t 12)))]
def impl_holds_c1.fi : FI := { res := [.t 3], code := .seq (.reg 64 1 impl_holds_c1.r0) (.seq (.reg 128 10 impl_holds_c1.r1) (.ret)) }
attribute [go_sem] impl_holds_c1.r0 impl_holds_c1.r1
theorem impl_holds_c1.ok : chkF prog F_impl_holds_c1 2 impl_holds_c1.fi = true := by kernel_rfl

/-! impl_holds -/
def impl_holds.r0 : List Ent := [
  E0 0 (some 3) none (.i (.box (.t 1))),
  E0 1 (some 4) none (.i (.mv (.k (.dat none (.bool false)))))]
def impl_holds.r1 : List Ent := [
  E0 0 (some 7) none (.i (.mv (.t 0))),
  E0 1 (some 8) none (.i (.len (.t 7))),
  E0 2 (some 9) none (.i (.mv (.k (I64 0))))]
def impl_holds.r2 : List Ent := [
  E0 0 (some 10) none (.i (.bin .lss (.t 9) (.t 8)))]
def impl_holds.r3 : List Ent := [
  E0 0 (some 11) none (.i (.iad 1 (.t 7) (.t 9))),
  E0 1 (some 12) none (.i (.load false false 1 (.t 11))),
  E0 2 (some 6) none (.i (.mv (.t 12)))]
def impl_holds.r4 : List Ent := [
  E0 0 (some 13) none (.i (.mv (.t 6))),
  E0 1 (some 14) none (.i (.mkf F_impl_holds_c1 [.t 3])),
  E0 2 (some 15) none (.call F_slices_ContainsFunc__sint_int false (roA [.t 13, .t 14])),
  E0 3 (some 16) none (.i (.un .not (.t 15)))]
def impl_holds.r5 : List Ent := [
  E0 0 (some 4) none (.i (.mv (.k (.dat none (.bool false)))))]
def impl_holds.r6 : List Ent := [
  E0 0 (some 17) none (.i (.bin .add (.t 9) (.k (I64 1)))),
  E0 1 (some 9) none (.i (.mv (.t 17)))]
def impl_holds.b0 : KC := .seq (.reg 384 1 impl_holds.r2) (.seq (.cond (.t 10) (.skip) (.exit 0)) (.seq (.block 1 (.seq (.reg 448 3 impl_holds.r3) (.seq (.reg 640 4 impl_holds.r4) (.cond (.t 16) (.seq (.reg 896 1 impl_holds.r5) (.ret)) (.skip))))) (.reg 960 2 impl_holds.r6)))
def impl_holds.r7 : List Ent := [
  E0 0 (some 4) none (.i (.mv (.k (.dat none (.bool true)))))]
def impl_holds.fi : FI := { res := [.t 4], code := .seq (.reg 64 2 impl_holds.r0) (.seq (.seq (.reg 192 3 impl_holds.r1) (.block 0 (.loop impl_holds.b0))) (.seq (.reg 1088 1 impl_holds.r7) (.ret))) }
attribute [go_sem] impl_holds.r0 impl_holds.r1 impl_holds.r2 impl_holds.r3 impl_holds.r4 impl_holds.r5 impl_holds.r6 impl_holds.r7
theorem impl_holds.ok : chkF prog F_impl_holds 2 impl_holds.fi = true := by kernel_rfl

/-! impl_learn -/
def impl_learn.r0 : List Ent := [
  E0 0 (some 2) none (.i (.mv (.k (.nil 1))))]
def impl_learn.r1 : List Ent := [
  E0 0 (some 3) none (.i (.mv (.k (.nil 1))))]
def impl_learn.r2 : List Ent := [
  E0 0 (some 6) none (.i (.mv (.t 0))),
  E0 1 (some 7) none (.i (.len (.t 6))),
  E0 2 (some 8) none (.i (.mv (.k (I64 0))))]
def impl_learn.r3 : List Ent := [
  E0 0 (some 9) none (.i (.bin .lss (.t 8) (.t 7)))]
def impl_learn.r4 : List Ent := [
  E0 0 (some 10) none (.i (.iad 1 (.t 6) (.t 8))),
  E0 1 (some 11) none (.i (.load false false 1 (.t 10))),
  E0 2 (some 5) none (.i (.mv (.t 11)))]
def impl_learn.r5 : List Ent := [
  E0 0 (some 12) none (.i (.mv (.t 3))),
  E0 1 (some 13) none (.i (.mv (.t 5))),
  E0 2 (some 14) none (.i (.un .neg (.t 13))),
  E0 3 (some 15) none (.i (.bsl true 1 [.t 14])),
  E0 4 (some 16) none (.i (.app 1 8 (.t 12) (.t 15))),
  E0 5 (some 3) none (.i (.mv (.t 16)))]
def impl_learn.r6 : List Ent := [
  E0 0 (some 17) none (.i (.bin .add (.t 8) (.k (I64 1)))),
  E0 1 (some 8) none (.i (.mv (.t 17)))]
def impl_learn.b0 : KC := .seq (.reg 384 1 impl_learn.r3) (.seq (.cond (.t 9) (.skip) (.exit 0)) (.seq (.block 1 (.seq (.reg 448 3 impl_learn.r4) (.reg 640 6 impl_learn.r5))) (.reg 1024 2 impl_learn.r6)))
def impl_learn.r7 : List Ent := [
  E0 0 (some 18) none (.i (.mv (.t 3))),
  E0 1 (some 2) none (.i (.mv (.t 18)))]
def impl_learn.fi : FI := { res := [.t 2], code := .seq (.reg 64 1 impl_learn.r0) (.seq (.reg 128 1 impl_learn.r1) (.seq (.seq (.reg 192 3 impl_learn.r2) (.nrm 3 896 1 (.block 0 (.loop impl_learn.b0)))) (.seq (.reg 1152 2 impl_learn.r7) (.ret)))) }
attribute [go_sem] impl_learn.r0 impl_learn.r1 impl_learn.r2 impl_learn.r3 impl_learn.r4 impl_learn.r5 impl_learn.r6 impl_learn.r7
theorem impl_learn.ok : chkF prog F_impl_learn 1 impl_learn.fi = true := by kernel_rfl

/-! slices_Clone__sint_int -/
def slices_Clone__sint_int.r0 : List Ent := [
  E0 0 (some 2) none (.i (.mv (.k (.nil 1))))]
def slices_Clone__sint_int.r1 : List Ent := [
  E0 0 (some 3) none (.i (.mv (.t 0))),
  E0 1 (some 4) none (.i (.eqnil false (.t 3)))]
def slices_Clone__sint_int.r2 : List Ent := [
  E0 0 (some 2) none (.i (.mv (.k (.nil 1))))]
def slices_Clone__sint_int.r3 : List Ent := [
  E0 0 (some 5) none (.i (.bsl false 1 [])),
  E0 1 (some 6) none (.i (.mv (.t 0))),
  E0 2 (some 7) none (.i (.app 1 8 (.t 5) (.t 6))),
  E0 3 (some 2) none (.i (.mv (.t 7)))]
def slices_Clone__sint_int.fi : FI := { res := [.t 2], code := .seq (.reg 64 1 slices_Clone__sint_int.r0) (.seq (.seq (.reg 128 2 slices_Clone__sint_int.r1) (.condu (.t 4) (.seq (.reg 256 1 slices_Clone__sint_int.r2) (.ret)) (.skip))) (.seq (.reg 320 4 slices_Clone__sint_int.r3) (.ret))) }
attribute [go_sem] slices_Clone__sint_int.r0 slices_Clone__sint_int.r1 slices_Clone__sint_int.r2 slices_Clone__sint_int.r3
theorem slices_Clone__sint_int.ok : chkF prog F_slices_Clone__sint_int 1 slices_Clone__sint_int.fi = true := by kernel_rfl

/-! impl_HoldsAll -/
def impl_HoldsAll.r0 : List Ent := [
  E0 0 (some 6) none (.i (.mv (.k (.dat none (.bool false))))),
  E0 1 (some 7) none (.i (.mv (.k (.dat none (.bool false)))))]
def impl_HoldsAll.r1 : List Ent := [
  E0 0 (some 8) none (.i (.mv (.t 0))),
  E0 1 (some 9) none (.i (.mv (.t 1))),
  E0 2 (some 10) none (.call F_impl_GoodClauses false (roA [.t 8, .t 9])),
  E0 3 (some 11) none (.i (.un .not (.t 10))),
  E0 4 (some 12) none (.i (.mv (.t 11))),
  E0 5 (some 13) (some (12, false)) (.i (.mv (.t 2))),
  E0 6 (some 14) (some (12, false)) (.i (.len (.t 13))),
  E0 7 (some 15) (some (12, false)) (.i (.mv (.t 0))),
  E0 8 (some 16) (some (12, false)) (.i (.bin .neq (.t 14) (.t 15))),
  E0 9 (some 17) none (.i (.pick (.t 12) (.k (.dat none (.bool true))) (.t 16)))]
def impl_HoldsAll.r2 : List Ent := [
  E0 0 (some 6) none (.i (.mv (.k (.dat none (.bool false))))),
  E0 1 (some 7) none (.i (.mv (.k (.dat none (.bool false)))))]
def impl_HoldsAll.r3 : List Ent := [
  E0 0 (some 18) none (.i (.mv (.t 1))),
  E0 1 (some 19) none (.i (.mv (.t 2))),
  E0 2 (some 20) none (.call F_impl_holds false (roA [.t 18, .t 19])),
  E0 3 (some 6) none (.i (.mv (.t 20))),
  E0 4 (some 7) none (.i (.mv (.k (.dat none (.bool true)))))]
def impl_HoldsAll.fi : FI := { res := [.t 6, .t 7], code := .seq (.reg 64 2 impl_HoldsAll.r0) (.seq (.seq (.reg 192 10 impl_HoldsAll.r1) (.cond (.t 17) (.seq (.reg 832 2 impl_HoldsAll.r2) (.ret)) (.skip))) (.seq (.reg 960 5 impl_HoldsAll.r3) (.ret))) }
attribute [go_sem] impl_HoldsAll.r0 impl_HoldsAll.r1 impl_HoldsAll.r2 impl_HoldsAll.r3
theorem impl_HoldsAll.ok : chkF prog F_impl_HoldsAll 3 impl_HoldsAll.fi = true := by kernel_rfl

/-! laws_allIn -/
def laws_allIn.r0 : List Ent := [
  E0 0 (some 4) none (.i (.mv (.k (.dat none (.bool false)))))]
def laws_allIn.r1 : List Ent := [
  E0 0 (some 7) none (.i (.mv (.t 0))),
  E0 1 (some 8) none (.i (.len (.t 7))),
  E0 2 (some 9) none (.i (.mv (.k (I64 0))))]
def laws_allIn.r2 : List Ent := [
  E0 0 (some 10) none (.i (.bin .lss (.t 9) (.t 8)))]
def laws_allIn.r3 : List Ent := [
  E0 0 (some 11) none (.i (.iad 1 (.t 7) (.t 9))),
  E0 1 (some 12) none (.i (.load false false 1 (.t 11))),
  E0 2 (some 6) none (.i (.mv (.t 12)))]
def laws_allIn.r4 : List Ent := [
  E0 0 (some 13) none (.i (.mv (.t 6))),
  E0 1 (some 14) none (.i (.bin .gtr (.t 13) (.k (I64 0)))),
  E0 2 (some 15) none (.i (.mv (.t 14))),
  E0 3 (some 16) (some (15, true)) (.i (.mv (.t 1))),
  E0 4 (some 17) (some (15, true)) (.i (.mv (.t 6))),
  E0 5 (some 18) (some (15, true)) (.i (.bin .sub (.t 17) (.k (I64 1)))),
  E0 6 (some 19) (some (15, true)) (.i (.iad 1 (.t 16) (.t 18))),
  E0 7 (some 20) (some (15, true)) (.i (.load false false 1 (.t 19))),
  E0 8 (some 21) (some (15, true)) (.i (.un .not (.t 20))),
  E0 9 (some 22) none (.i (.pick (.t 15) (.t 21) (.k (.dat none (.bool false))))),
  E0 10 (some 23) none (.i (.mv (.t 22))),
  E0 11 (some 24) (some (23, false)) (.i (.mv (.t 6))),
  E0 12 (some 25) (some (23, false)) (.i (.bin .lss (.t 24) (.k (I64 0)))),
  E0 13 (some 26) (some (23, false)) (.i (.mv (.t 25))),
  E0 14 (some 27) (some (26, true)) (.i (.mv (.t 1))),
  E0 15 (some 28) (some (26, true)) (.i (.mv (.t 6))),
  E0 16 (some 29) (some (26, true)) (.i (.un .neg (.t 28))),
  E0 17 (some 30) (some (26, true)) (.i (.bin .sub (.t 29) (.k (I64 1)))),
  E0 18 (some 31) (some (26, true)) (.i (.iad 1 (.t 27) (.t 30))),
  E0 19 (some 32) (some (26, true)) (.i (.load false false 1 (.t 31))),
  E0 20 (some 33) (some (23, false)) (.i (.pick (.t 26) (.t 32) (.k (.dat none (.bool false))))),
  E0 21 (some 34) none (.i (.pick (.t 23) (.k (.dat none (.bool true))) (.t 33)))]
def laws_allIn.r5 : List Ent := [
  E0 0 (some 4) none (.i (.mv (.k (.dat none (.bool false)))))]
def laws_allIn.r6 : List Ent := [
  E0 0 (some 35) none (.i (.bin .add (.t 9) (.k (I64 1)))),
  E0 1 (some 9) none (.i (.mv (.t 35)))]
def laws_allIn.b0 : KC := .seq (.reg 320 1 laws_allIn.r2) (.seq (.cond (.t 10) (.skip) (.exit 0)) (.seq (.block 1 (.seq (.reg 384 3 laws_allIn.r3) (.seq (.reg 576 22 laws_allIn.r4) (.cond (.t 34) (.seq (.reg 1984 1 laws_allIn.r5) (.ret)) (.skip))))) (.reg 2048 2 laws_allIn.r6)))
def laws_allIn.r7 : List Ent := [
  E0 0 (some 4) none (.i (.mv (.k (.dat none (.bool true)))))]
def laws_allIn.fi : FI := { res := [.t 4], code := .seq (.reg 64 1 laws_allIn.r0) (.seq (.seq (.reg 128 3 laws_allIn.r1) (.block 0 (.loop laws_allIn.b0))) (.seq (.reg 2176 1 laws_allIn.r7) (.ret))) }
attribute [go_sem] laws_allIn.r0 laws_allIn.r1 laws_allIn.r2 laws_allIn.r3 laws_allIn.r4 laws_allIn.r5 laws_allIn.r6 laws_allIn.r7
theorem laws_allIn.ok : chkF prog F_laws_allIn 2 laws_allIn.fi = true := by kernel_rfl

/-! spec_pl1Cur_facts -/
def spec_pl1Cur_facts.r0 : List Ent := [
  E0 0 (some 4) none (.i (.mv (.k (.nil 1))))]
def spec_pl1Cur_facts.r1 : List Ent := [
  E0 0 (some 5) none (.i (.mv (.k (.nil 1))))]
def spec_pl1Cur_facts.r2 : List Ent := [
  E0 0 (some 6) none (.i (.mv (.k (I64 1))))]
def spec_pl1Cur_facts.r3 : List Ent := [
  E0 0 (some 7) none (.i (.mv (.t 6))),
  E0 1 (some 8) none (.i (.mv (.t 1))),
  E0 2 (some 9) none (.i (.bin .leq (.t 7) (.t 8)))]
def spec_pl1Cur_facts.r4 : List Ent := [
  E0 0 (some 12) none (.i (.mv (.t 0))),
  E0 1 (some 13) none (.call F_spec_pl1Cur_one true [(.io, .t 12), (.ro, .k (I64 3))])]
def spec_pl1Cur_facts.r5 : List Ent := [
  E0 0 (some 14) none (.i (.mv (.t 5))),
  E0 1 (some 15) none (.i (.mv (.t 6))),
  E0 2 (some 16) none (.i (.bsl true 1 [.t 15])),
  E0 3 (some 17) none (.i (.app 1 8 (.t 14) (.t 16))),
  E0 4 (some 5) none (.i (.mv (.t 17)))]
def spec_pl1Cur_facts.r6 : List Ent := [
  E0 0 (some 10) none (.i (.mv (.t 6))),
  E0 1 (some 11) none (.i (.bin .add (.t 10) (.k (I64 1)))),
  E0 2 (some 6) none (.i (.mv (.t 11)))]
def spec_pl1Cur_facts.b0 : KC := .seq (.seq (.reg 256 3 spec_pl1Cur_facts.r3) (.cond (.t 9) (.skip) (.exit 0))) (.seq (.block 1 (.seq (.reg 448 2 spec_pl1Cur_facts.r4) (.cond (.t 13) (.reg 576 5 spec_pl1Cur_facts.r5) (.skip)))) (.reg 896 3 spec_pl1Cur_facts.r6))
def spec_pl1Cur_facts.r7 : List Ent := [
  E0 0 (some 18) none (.i (.mv (.t 5))),
  E0 1 (some 4) none (.i (.mv (.t 18)))]
def spec_pl1Cur_facts.fi : FI := { res := [.t 4], code := .seq (.reg 64 1 spec_pl1Cur_facts.r0) (.seq (.reg 128 1 spec_pl1Cur_facts.r1) (.seq (.seq (.reg 192 1 spec_pl1Cur_facts.r2) (.nrm 5 768 1 (.block 0 (.loop spec_pl1Cur_facts.b0)))) (.seq (.reg 1088 2 spec_pl1Cur_facts.r7) (.ret)))) }
attribute [go_sem] spec_pl1Cur_facts.r0 spec_pl1Cur_facts.r1 spec_pl1Cur_facts.r2 spec_pl1Cur_facts.r3 spec_pl1Cur_facts.r4 spec_pl1Cur_facts.r5 spec_pl1Cur_facts.r6 spec_pl1Cur_facts.r7
theorem spec_pl1Cur_facts.ok : chkF prog F_spec_pl1Cur_facts 2 spec_pl1Cur_facts.fi = true := by kernel_rfl

/-! spec_l1Least -/
def spec_l1Least.r0 : List Ent := [
  E0 0 (some 4) none (.i (.mv (.k (I64 0))))]
def spec_l1Least.r1 : List Ent := [
  E0 0 (some 5) none (.i (.mv (.t 0))),
  E0 1 (some 6) none (.i (.mv (.t 1))),
  E0 2 (some 7) none (.i (.bin .lss (.t 5) (.t 6)))]
def spec_l1Least.r2 : List Ent := [
  E0 0 (some 8) none (.i (.mv (.t 0))),
  E0 1 (some 4) none (.i (.mv (.t 8)))]
def spec_l1Least.r3 : List Ent := [
  E0 0 (some 9) none (.i (.mv (.t 1))),
  E0 1 (some 4) none (.i (.mv (.t 9)))]
def spec_l1Least.fi : FI := { res := [.t 4], code := .seq (.reg 64 1 spec_l1Least.r0) (.seq (.seq (.reg 128 3 spec_l1Least.r1) (.cond (.t 7) (.seq (.reg 320 2 spec_l1Least.r2) (.ret)) (.skip))) (.seq (.reg 448 2 spec_l1Least.r3) (.ret))) }
attribute [go_sem] spec_l1Least.r0 spec_l1Least.r1 spec_l1Least.r2 spec_l1Least.r3
theorem spec_l1Least.ok : chkF prog F_spec_l1Least 2 spec_l1Least.fi = true := by kernel_rfl

/-! spec_pl1Cur_rules -/
def spec_pl1Cur_rules.r0 : List Ent := [
  E0 0 (some 2) none (.i (.mv (.k (I64 0)))),
  E0 1 (some 3) none (.i (.mv (.k (.nil 2))))]
def spec_pl1Cur_rules.r1 : List Ent := [
  E0 0 (some 8) none (.i (.mv (.t 0))),
  E0 1 (some 9) none (.call F_spec_pl1Cur_pick true [(.io, .t 8), (.ro, .k (I64 7))]),
  E0 2 (some 10) none (.i (.bin .add (.k (I64 1)) (.t 9))),
  E0 3 (some 4) none (.i (.mv (.t 10)))]
def spec_pl1Cur_rules.r2 : List Ent := [
  E0 0 (some 11) none (.i (.mv (.t 0))),
  E0 1 (some 12) none (.call F_spec_pl1Cur_one true [(.io, .t 11), (.ro, .k (I64 30))])]
def spec_pl1Cur_rules.r3 : List Ent := [
  E0 0 (some 13) none (.i (.mv (.t 0))),
  E0 1 (some 14) none (.i (.bsl false 1 [.k (I64 0), .k (I64 12), .k (I64 13)])),
  E0 2 (some 15) none (.call F_spec_pl1Cur_among true [(.io, .t 13), (.co, .t 14)]),
  E0 3 (some 4) none (.i (.mv (.t 15)))]
def spec_pl1Cur_rules.r4 : List Ent := [
  E0 0 (some 5) none (.i (.mv (.k (.nil 2))))]
def spec_pl1Cur_rules.r5 : List Ent := [
  E0 0 (some 16) none (.i (.mv (.t 0))),
  E0 1 (some 17) none (.call F_spec_pl1Cur_pick true [(.io, .t 16), (.ro, .k (I64 10))]),
  E0 2 (some 6) none (.i (.mv (.t 17)))]
def spec_pl1Cur_rules.r6 : List Ent := [
  E0 0 (some 18) none (.i (.mv (.t 0))),
  E0 1 (some 19) none (.call F_spec_pl1Cur_one true [(.io, .t 18), (.ro, .k (I64 20))])]
def spec_pl1Cur_rules.r7 : List Ent := [
  E0 0 (some 20) none (.i (.mv (.t 0))),
  E0 1 (some 21) none (.call F_spec_pl1Cur_pick true [(.io, .t 20), (.ro, .k (I64 2))]),
  E0 2 (some 22) none (.i (.bin .add (.k (I64 30)) (.t 21))),
  E0 3 (some 6) none (.i (.mv (.t 22)))]
def spec_pl1Cur_rules.r8 : List Ent := [
  E0 0 (some 23) none (.i (.mv (.t 6))),
  E0 1 (some 24) none (.i (.bin .gtr (.t 23) (.k (I64 0))))]
def spec_pl1Cur_rules.r9 : List Ent := [
  E0 0 (some 27) none (.i (.mv (.t 0))),
  E0 1 (some 28) none (.i (.mv (.t 4))),
  E0 2 (some 29) none (.call F_spec_l1Least false (roA [.t 28, .k (I64 4)])),
  E0 3 (some 30) none (.call F_spec_pl1Cur_facts true [(.io, .t 27), (.ro, .t 29)]),
  E0 4 (some 31) none (.i (.mv (.t 0))),
  E0 5 (some 32) none (.i (.mv (.t 4))),
  E0 6 (some 33) none (.i (.bin .add (.t 32) (.k (I64 1)))),
  E0 7 (some 34) none (.call F_spec_pl1Cur_pick true [(.io, .t 31), (.ro, .t 33)]),
  E0 8 (some 35) none (.i (.bld [.t 30, .t 34])),
  E0 9 (some 7) none (.i (.box (.k (.agg [.nil 1, .dat none (.int .i64 0)])))),
  E0 10 none none (.i (.store 2 (.t 7) (.t 35)))]
def spec_pl1Cur_rules.r10 : List Ent := [
  E0 0 (some 36) none (.i (.mv (.t 0))),
  E0 1 (some 37) none (.call F_spec_pl1Cur_one true [(.io, .t 36), (.ro, .k (I64 4))])]
def spec_pl1Cur_rules.r11 : List Ent := [
  E0 0 (some 38) none (.i (.fad 0 (.t 7))),
  E0 1 none none (.i (.store 1 (.t 38) (.k (.nil 1))))]
def spec_pl1Cur_rules.r12 : List Ent := [
  E0 0 (some 39) none (.i (.mv (.t 5))),
  E0 1 (some 40) none (.i (.load false true 2 (.t 7))),
  E0 2 (some 41) none (.i (.bsl false 2 [.t 40])),
  E0 3 (some 42) none (.i (.app 2 32 (.t 39) (.t 41))),
  E0 4 (some 5) none (.i (.mv (.t 42)))]
def spec_pl1Cur_rules.r13 : List Ent := [
  E0 0 (some 25) none (.i (.mv (.t 6))),
  E0 1 (some 26) none (.i (.bin .sub (.t 25) (.k (I64 1)))),
  E0 2 (some 6) none (.i (.mv (.t 26)))]
def spec_pl1Cur_rules.b0 : KC := .seq (.seq (.reg 1472 2 spec_pl1Cur_rules.r8) (.cond (.t 24) (.skip) (.exit 0))) (.seq (.block 1 (.seq (.reg 1600 11 spec_pl1Cur_rules.r9) (.seq (.seq (.reg 2304 2 spec_pl1Cur_rules.r10) (.cond (.t 37) (.reg 2432 2 spec_pl1Cur_rules.r11) (.skip))) (.reg 2560 5 spec_pl1Cur_rules.r12)))) (.reg 2880 3 spec_pl1Cur_rules.r13))
def spec_pl1Cur_rules.r14 : List Ent := [
  E0 0 (some 43) none (.i (.mv (.t 5))),
  E0 1 (some 44) none (.i (.len (.t 43))),
  E0 2 (some 45) none (.i (.bin .gtr (.t 44) (.k (I64 0)))),
  E0 3 (some 46) none (.i (.mv (.t 45))),
  E0 4 (some 47) (some (46, true)) (.i (.mv (.t 0))),
  E0 5 (some 48) (some (46, true)) (.call F_spec_pl1Cur_one true [(.io, .t 47), (.ro, .k (I64 30))]),
  E0 6 (some 49) none (.i (.pick (.t 46) (.t 48) (.k (.dat none (.bool false)))))]
def spec_pl1Cur_rules.r15 : List Ent := [
  E0 0 (some 50) none (.i (.mv (.t 5))),
  E0 1 (some 51) none (.i (.mv (.t 0))),
  E0 2 (some 52) none (.call F_spec_pl1Cur_pick true [(.io, .t 51), (.ro, .k (I64 14))]),
  E0 3 (some 53) none (.i (.bsl false 1 [.t 52])),
  E0 4 (some 54) none (.i (.mv (.t 0))),
  E0 5 (some 55) none (.i (.bsl false 1 [.k (I64 (-1)), .k (I64 13)])),
  E0 6 (some 56) none (.call F_spec_pl1Cur_among true [(.io, .t 54), (.co, .t 55)]),
  E0 7 (some 57) none (.i (.bld [.t 53, .t 56])),
  E0 8 (some 58) none (.i (.iad 2 (.t 50) (.k (I64 0)))),
  E0 9 none none (.i (.store 2 (.t 58) (.t 57)))]
def spec_pl1Cur_rules.r16 : List Ent := [
  E0 0 (some 59) none (.i (.mv (.t 4))),
  E0 1 (some 60) none (.i (.mv (.t 5))),
  E0 2 (some 2) none (.i (.mv (.t 59))),
  E0 3 (some 3) none (.i (.mv (.t 60)))]
def spec_pl1Cur_rules.fi : FI := { res := [.t 2, .t 3], code := .seq (.reg 64 2 spec_pl1Cur_rules.r0) (.seq (.reg 192 4 spec_pl1Cur_rules.r1) (.seq (.seq (.reg 448 2 spec_pl1Cur_rules.r2) (.cond (.t 12) (.reg 576 4 spec_pl1Cur_rules.r3) (.skip))) (.seq (.reg 832 1 spec_pl1Cur_rules.r4) (.seq (.reg 896 3 spec_pl1Cur_rules.r5) (.seq (.seq (.reg 1088 2 spec_pl1Cur_rules.r6) (.cond (.t 19) (.reg 1216 4 spec_pl1Cur_rules.r7) (.skip))) (.seq (.nrm 5 2752 2 (.block 0 (.loop spec_pl1Cur_rules.b0))) (.seq (.seq (.reg 3072 7 spec_pl1Cur_rules.r14) (.cond (.t 49) (.reg 3520 10 spec_pl1Cur_rules.r15) (.skip))) (.seq (.reg 4160 4 spec_pl1Cur_rules.r16) (.ret))))))))) }
attribute [go_sem] spec_pl1Cur_rules.r0 spec_pl1Cur_rules.r1 spec_pl1Cur_rules.r2 spec_pl1Cur_rules.r3 spec_pl1Cur_rules.r4 spec_pl1Cur_rules.r5 spec_pl1Cur_rules.r6 spec_pl1Cur_rules.r7 spec_pl1Cur_rules.r8 spec_pl1Cur_rules.r9 spec_pl1Cur_rules.r10 spec_pl1Cur_rules.r11 spec_pl1Cur_rules.r12 spec_pl1Cur_rules.r13 spec_pl1Cur_rules.r14 spec_pl1Cur_rules.r15 spec_pl1Cur_rules.r16
theorem spec_pl1Cur_rules.ok : chkF prog F_spec_pl1Cur_rules 1 spec_pl1Cur_rules.fi = true := by kernel_rfl

/-! spec_DrawGoodRules -/
def spec_DrawGoodRules.r0 : List Ent := [
  E0 0 (some 2) none (.i (.mv (.k (I64 0)))),
  E0 1 (some 3) none (.i (.mv (.k (.nil 2))))]
def spec_DrawGoodRules.r1 : List Ent := [
  E0 0 (some 5) none (.i (.mv (.t 0))),
  E0 1 (some 6) none (.i (.bld [.t 5, .k (.dat none (.int .i64 0)), .k (.dat none (.int .u64 0))])),
  E0 2 (some 7) none (.i (.box (.t 6))),
  E0 3 (some 4) none (.i (.mv (.t 7)))]
def spec_DrawGoodRules.r2 : List Ent := [
  E0 0 (some 8) none (.i (.mv (.t 4))),
  E0 1 (some 9) none (.call F_spec_pl1Cur_rules true [(.io, .t 8)]),
  E0 2 (some 10) none (.i (.ext 0 (.t 9))),
  E0 3 (some 11) none (.i (.ext 1 (.t 9))),
  E0 4 (some 2) none (.i (.mv (.t 10))),
  E0 5 (some 3) none (.i (.mv (.t 11)))]
def spec_DrawGoodRules.fi : FI := { res := [.t 2, .t 3], code := .seq (.reg 64 2 spec_DrawGoodRules.r0) (.seq (.reg 192 4 spec_DrawGoodRules.r1) (.seq (.reg 448 6 spec_DrawGoodRules.r2) (.ret))) }
attribute [go_sem] spec_DrawGoodRules.r0 spec_DrawGoodRules.r1 spec_DrawGoodRules.r2
theorem spec_DrawGoodRules.ok : chkF prog F_spec_DrawGoodRules 1 spec_DrawGoodRules.fi = true := by kernel_rfl

/-! spec_DrawLeastOf -/
def spec_DrawLeastOf.r0 : List Ent := [
  E0 0 (some 2) none (.i (.mv (.k (I64 0)))),
  E0 1 (some 3) none (.i (.mv (.k (.nil 2))))]
def spec_DrawLeastOf.r1 : List Ent := [
  E0 0 (some 4) none (.i (.mv (.t 0))),
  E0 1 (some 5) none (.call F_spec_DrawGoodRules false (roA [.t 4])),
  E0 2 (some 6) none (.i (.ext 0 (.t 5))),
  E0 3 (some 7) none (.i (.ext 1 (.t 5))),
  E0 4 (some 2) none (.i (.mv (.t 6))),
  E0 5 (some 3) none (.i (.mv (.t 7)))]
def spec_DrawLeastOf.fi : FI := { res := [.t 2, .t 3], code := .seq (.reg 64 2 spec_DrawLeastOf.r0) (.seq (.reg 192 6 spec_DrawLeastOf.r1) (.ret)) }
attribute [go_sem] spec_DrawLeastOf.r0 spec_DrawLeastOf.r1
theorem spec_DrawLeastOf.ok : chkF prog F_spec_DrawLeastOf 1 spec_DrawLeastOf.fi = true := by kernel_rfl

/-! slices_IndexFunc__sRule_Rule -/
def slices_IndexFunc__sRule_Rule.r0 : List Ent := [
  E0 0 (some 4) none (.i (.mv (.k (I64 0))))]
def slices_IndexFunc__sRule_Rule.r1 : List Ent := [
  E0 0 (some 6) none (.i (.mv (.t 0))),
  E0 1 (some 7) none (.i (.len (.t 6))),
  E0 2 (some 8) none (.i (.mv (.k (I64 0))))]
def slices_IndexFunc__sRule_Rule.r2 : List Ent := [
  E0 0 (some 9) none (.i (.bin .lss (.t 8) (.t 7)))]
def slices_IndexFunc__sRule_Rule.r3 : List Ent := [
  E0 0 (some 10) none (.i (.mv (.t 8))),
  E0 1 (some 5) none (.i (.mv (.t 10)))]
def slices_IndexFunc__sRule_Rule.r4 : List Ent := [
  E0 0 (some 11) none (.i (.mv (.t 1))),
  E0 1 (some 12) none (.i (.mv (.t 0))),
  E0 2 (some 13) none (.i (.mv (.t 5))),
  E0 3 (some 14) none (.i (.iad 2 (.t 12) (.t 13))),
  E0 4 (some 15) none (.i (.load false true 2 (.t 14))),
  E0 5 (some 16) none (.ccl (.t 11) false [.t 15])]
def slices_IndexFunc__sRule_Rule.r5 : List Ent := [
  E0 0 (some 17) none (.i (.mv (.t 5))),
  E0 1 (some 4) none (.i (.mv (.t 17)))]
def slices_IndexFunc__sRule_Rule.r6 : List Ent := [
  E0 0 (some 18) none (.i (.bin .add (.t 8) (.k (I64 1)))),
  E0 1 (some 8) none (.i (.mv (.t 18)))]
def slices_IndexFunc__sRule_Rule.b0 : KC := .seq (.reg 320 1 slices_IndexFunc__sRule_Rule.r2) (.seq (.cond (.t 9) (.skip) (.exit 0)) (.seq (.block 1 (.seq (.reg 384 2 slices_IndexFunc__sRule_Rule.r3) (.seq (.reg 512 6 slices_IndexFunc__sRule_Rule.r4) (.cond (.t 16) (.seq (.reg 896 2 slices_IndexFunc__sRule_Rule.r5) (.ret)) (.skip))))) (.reg 1024 2 slices_IndexFunc__sRule_Rule.r6)))
def slices_IndexFunc__sRule_Rule.r7 : List Ent := [
  E0 0 (some 4) none (.i (.mv (.k (I64 (-1)))))]
def slices_IndexFunc__sRule_Rule.fi : FI := { res := [.t 4], code := .seq (.reg 64 1 slices_IndexFunc__sRule_Rule.r0) (.seq (.seq (.reg 128 3 slices_IndexFunc__sRule_Rule.r1) (.block 0 (.loop slices_IndexFunc__sRule_Rule.b0))) (.seq (.reg 1152 1 slices_IndexFunc__sRule_Rule.r7) (.ret))) }
attribute [go_sem] slices_IndexFunc__sRule_Rule.r0 slices_IndexFunc__sRule_Rule.r1 slices_IndexFunc__sRule_Rule.r2 slices_IndexFunc__sRule_Rule.r3 slices_IndexFunc__sRule_Rule.r4 slices_IndexFunc__sRule_Rule.r5 slices_IndexFunc__sRule_Rule.r6 slices_IndexFunc__sRule_Rule.r7
theorem slices_IndexFunc__sRule_Rule.ok : chkF prog F_slices_IndexFunc__sRule_Rule 2 slices_IndexFunc__sRule_Rule.fi = true := by kernel_rfl

/-! slices_ContainsFunc__sRule_Rule -/
def slices_ContainsFunc__sRule_Rule.r0 : List Ent := [
  E0 0 (some 4) none (.i (.mv (.k (.dat none (.bool false)))))]
def slices_ContainsFunc__sRule_Rule.r1 : List Ent := [
  E0 0 (some 5) none (.i (.mv (.t 0))),
  E0 1 (some 6) none (.i (.mv (.t 1))),
  E0 2 (some 7) none (.call F_slices_IndexFunc__sRule_Rule false (roA [.t 5, .t 6])),
  E0 3 (some 8) none (.i (.bin .geq (.t 7) (.k (I64 0)))),
  E0 4 (some 4) none (.i (.mv (.t 8)))]
def slices_ContainsFunc__sRule_Rule.fi : FI := { res := [.t 4], code := .seq (.reg 64 1 slices_ContainsFunc__sRule_Rule.r0) (.seq (.reg 128 5 slices_ContainsFunc__sRule_Rule.r1) (.ret)) }
attribute [go_sem] slices_ContainsFunc__sRule_Rule.r0 slices_ContainsFunc__sRule_Rule.r1
theorem slices_ContainsFunc__sRule_Rule.ok : chkF prog F_slices_ContainsFunc__sRule_Rule 2 slices_ContainsFunc__sRule_Rule.fi = true := by kernel_rfl

/-! impl_areFacts -/
def impl_areFacts.r0 : List Ent := [
  E0 0 (some 4) none (.i (.mv (.k (.dat none (.bool false)))))]
def impl_areFacts.r1 : List Ent := [
  E0 0 (some 7) none (.i (.mv (.t 0))),
  E0 1 (some 8) none (.i (.len (.t 7))),
  E0 2 (some 9) none (.i (.mv (.k (I64 0))))]
def impl_areFacts.r2 : List Ent := [
  E0 0 (some 10) none (.i (.bin .lss (.t 9) (.t 8)))]
def impl_areFacts.r3 : List Ent := [
  E0 0 (some 11) none (.i (.mv (.t 9))),
  E0 1 (some 12) none (.i (.iad 1 (.t 7) (.t 9))),
  E0 2 (some 13) none (.i (.load false false 1 (.t 12))),
  E0 3 (some 5) none (.i (.mv (.t 11))),
  E0 4 (some 6) none (.i (.mv (.t 13)))]
def impl_areFacts.r4 : List Ent := [
  E0 0 (some 14) none (.i (.mv (.t 6))),
  E0 1 (some 15) none (.i (.mv (.t 1))),
  E0 2 (some 16) none (.call F_impl_in false (roA [.t 14, .k (I64 1), .t 15])),
  E0 3 (some 17) none (.i (.un .not (.t 16))),
  E0 4 (some 18) none (.i (.mv (.t 17))),
  E0 5 (some 19) (some (18, false)) (.i (.mv (.t 5))),
  E0 6 (some 20) (some (18, false)) (.i (.bin .gtr (.t 19) (.k (I64 0)))),
  E0 7 (some 21) (some (18, false)) (.i (.mv (.t 20))),
  E0 8 (some 22) (some (21, true)) (.i (.mv (.t 0))),
  E0 9 (some 23) (some (21, true)) (.i (.mv (.t 5))),
  E0 10 (some 24) (some (21, true)) (.i (.bin .sub (.t 23) (.k (I64 1)))),
  E0 11 (some 25) (some (21, true)) (.i (.iad 1 (.t 22) (.t 24))),
  E0 12 (some 26) (some (21, true)) (.i (.load false false 1 (.t 25))),
  E0 13 (some 27) (some (21, true)) (.i (.mv (.t 6))),
  E0 14 (some 28) (some (21, true)) (.i (.bin .geq (.t 26) (.t 27))),
  E0 15 (some 29) (some (18, false)) (.i (.pick (.t 21) (.t 28) (.k (.dat none (.bool false))))),
  E0 16 (some 30) none (.i (.pick (.t 18) (.k (.dat none (.bool true))) (.t 29)))]
def impl_areFacts.r5 : List Ent := [
  E0 0 (some 4) none (.i (.mv (.k (.dat none (.bool false)))))]
def impl_areFacts.r6 : List Ent := [
  E0 0 (some 31) none (.i (.bin .add (.t 9) (.k (I64 1)))),
  E0 1 (some 9) none (.i (.mv (.t 31)))]
def impl_areFacts.b0 : KC := .seq (.reg 320 1 impl_areFacts.r2) (.seq (.cond (.t 10) (.skip) (.exit 0)) (.seq (.block 1 (.seq (.reg 384 5 impl_areFacts.r3) (.seq (.reg 704 17 impl_areFacts.r4) (.cond (.t 30) (.seq (.reg 1792 1 impl_areFacts.r5) (.ret)) (.skip))))) (.reg 1856 2 impl_areFacts.r6)))
def impl_areFacts.r7 : List Ent := [
  E0 0 (some 4) none (.i (.mv (.k (.dat none (.bool true)))))]
def impl_areFacts.fi : FI := { res := [.t 4], code := .seq (.reg 64 1 impl_areFacts.r0) (.seq (.seq (.reg 128 3 impl_areFacts.r1) (.block 0 (.loop impl_areFacts.b0))) (.seq (.reg 1984 1 impl_areFacts.r7) (.ret))) }
attribute [go_sem] impl_areFacts.r0 impl_areFacts.r1 impl_areFacts.r2 impl_areFacts.r3 impl_areFacts.r4 impl_areFacts.r5 impl_areFacts.r6 impl_areFacts.r7
theorem impl_areFacts.ok : chkF prog F_impl_areFacts 2 impl_areFacts.fi = true := by kernel_rfl

/-! impl_GoodRules_c1 -/
def impl_GoodRules_c1.r0 : List Ent := [
  E0 0 (some 2) none (.i (.box (.t 0))),
  E0 1 (some 3) none (.i (.mv (.k (.dat none (.bool false)))))]
def impl_GoodRules_c1.r1 : List Ent := [
  E0 0 (some 4) none (.i (.fad 0 (.t 2))),
  E0 1 (some 5) none (.i (.load false false 1 (.t 4))),
  E0 2 (some 6) none (.i (.load false false 1 (.t 1))),
  E0 3 (some 7) none (.call F_impl_areFacts false (roA [.t 5, .t 6])),
  E0 4 (some 8) none (.i (.un .not (.t 7))),
  E0 5 (some 9) none (.i (.mv (.t 8))),
  E0 6 (some 10) (some (9, false)) (.i (.fad 1 (.t 2))),
  E0 7 (some 11) (some (9, false)) (.i (.load false false 1 (.t 10))),
  E0 8 (some 12) (some (9, false)) (.i (.load false false 1 (.t 1))),
  E0 9 (some 13) (some (9, false)) (.call F_impl_in false (roA [.t 11, .k (I64 0), .t 12])),
  E0 10 (some 14) (some (9, false)) (.i (.un .not (.t 13))),
  E0 11 (some 15) none (.i (.pick (.t 9) (.k (.dat none (.bool true))) (.t 14))),
  E0 12 (some 3) none (.i (.mv (.t 15)))]
def impl_GoodRules_c1.fi : FI := { res := [.t 3], code := .seq (.reg 64 2 impl_GoodRules_c1.r0) (.seq (.reg 192 13 impl_GoodRules_c1.r1) (.ret)) }
attribute [go_sem] impl_GoodRules_c1.r0 impl_GoodRules_c1.r1
theorem impl_GoodRules_c1.ok : chkF prog F_impl_GoodRules_c1 2 impl_GoodRules_c1.fi = true := by kernel_rfl

/-! impl_GoodRules -/
def impl_GoodRules.r0 : List Ent := [
  E0 0 (some 2) none (.i (.box (.t 0))),
  E0 1 (some 4) none (.i (.mv (.k (.dat none (.bool false)))))]
def impl_GoodRules.r1 : List Ent := [
  E0 0 (some 5) none (.i (.load false false 1 (.t 2))),
  E0 1 (some 6) none (.call F_impl_in false (roA [.t 5, .k (I64 1), .k (I64 12)])),
  E0 2 (some 7) none (.i (.mv (.t 6))),
  E0 3 (some 8) (some (7, true)) (.i (.mv (.t 1))),
  E0 4 (some 9) (some (7, true)) (.i (.len (.t 8))),
  E0 5 (some 10) (some (7, true)) (.i (.bin .leq (.t 9) (.k (I64 30)))),
  E0 6 (some 11) none (.i (.pick (.t 7) (.t 10) (.k (.dat none (.bool false))))),
  E0 7 (some 12) none (.i (.mv (.t 11))),
  E0 8 (some 13) (some (12, true)) (.i (.mv (.t 1))),
  E0 9 (some 14) (some (12, true)) (.i (.mkf F_impl_GoodRules_c1 [.t 2])),
  E0 10 (some 15) (some (12, true)) (.call F_slices_ContainsFunc__sRule_Rule false (roA [.t 13, .t 14])),
  E0 11 (some 16) (some (12, true)) (.i (.un .not (.t 15))),
  E0 12 (some 17) none (.i (.pick (.t 12) (.t 16) (.k (.dat none (.bool false))))),
  E0 13 (some 4) none (.i (.mv (.t 17)))]
def impl_GoodRules.fi : FI := { res := [.t 4], code := .seq (.reg 64 2 impl_GoodRules.r0) (.seq (.reg 192 14 impl_GoodRules.r1) (.ret)) }
attribute [go_sem] impl_GoodRules.r0 impl_GoodRules.r1
theorem impl_GoodRules.ok : chkF prog F_impl_GoodRules 2 impl_GoodRules.fi = true := by kernel_rfl

/-! impl_Rule_met_c1 -/
def impl_Rule_met_c1.r0 : List Ent := [
  E0 0 (some 3) none (.i (.mv (.k (.dat none (.bool false)))))]
def impl_Rule_met_c1.r1 : List Ent := [
  E0 0 (some 4) none (.i (.load false false 1 (.t 1))),
  E0 1 (some 5) none (.i (.mv (.t 0))),
  E0 2 (some 6) none (.i (.iad 1 (.t 4) (.t 5))),
  E0 3 (some 7) none (.i (.load false false 1 (.t 6))),
  E0 4 (some 8) none (.i (.un .not (.t 7))),
  E0 5 (some 3) none (.i (.mv (.t 8)))]
def impl_Rule_met_c1.fi : FI := { res := [.t 3], code := .seq (.reg 64 1 impl_Rule_met_c1.r0) (.seq (.reg 128 6 impl_Rule_met_c1.r1) (.ret)) }
attribute [go_sem] impl_Rule_met_c1.r0 impl_Rule_met_c1.r1
theorem impl_Rule_met_c1.ok : chkF prog F_impl_Rule_met_c1 2 impl_Rule_met_c1.fi = true := by kernel_rfl

/-! impl_Rule_met -/
def impl_Rule_met.r0 : List Ent := [
  E0 0 (some 2) none (.i (.box (.t 0))),
  E0 1 (some 3) none (.i (.box (.t 1))),
  E0 2 (some 4) none (.i (.mv (.k (.dat none (.bool false)))))]
def impl_Rule_met.r1 : List Ent := [
  E0 0 (some 5) none (.i (.fad 0 (.t 2))),
  E0 1 (some 6) none (.i (.load false false 1 (.t 5))),
  E0 2 (some 7) none (.i (.mkf F_impl_Rule_met_c1 [.t 3])),
  E0 3 (some 8) none (.call F_slices_ContainsFunc__sint_int false (roA [.t 6, .t 7])),
  E0 4 (some 9) none (.i (.un .not (.t 8))),
  E0 5 (some 4) none (.i (.mv (.t 9)))]
def impl_Rule_met.fi : FI := { res := [.t 4], code := .seq (.reg 64 3 impl_Rule_met.r0) (.seq (.reg 256 6 impl_Rule_met.r1) (.ret)) }
attribute [go_sem] impl_Rule_met.r0 impl_Rule_met.r1
theorem impl_Rule_met.ok : chkF prog F_impl_Rule_met 2 impl_Rule_met.fi = true := by kernel_rfl

/-! impl_least_c1 -/
def impl_least_c1.r0 : List Ent := [
  E0 0 (some 2) none (.i (.box (.t 0))),
  E0 1 (some 3) none (.i (.mv (.k (.dat none (.bool false)))))]
def impl_least_c1.r1 : List Ent := [
  E0 0 (some 4) none (.i (.fad 1 (.t 2))),
  E0 1 (some 5) none (.i (.load false false 1 (.t 4))),
  E0 2 (some 6) none (.i (.bin .gtr (.t 5) (.k (I64 0)))),
  E0 3 (some 7) none (.i (.mv (.t 6))),
  E0 4 (some 8) (some (7, true)) (.i (.load false false 1 (.t 1))),
  E0 5 (some 9) (some (7, true)) (.i (.fad 1 (.t 2))),
  E0 6 (some 10) (some (7, true)) (.i (.load false false 1 (.t 9))),
  E0 7 (some 11) (some (7, true)) (.i (.iad 1 (.t 8) (.t 10))),
  E0 8 (some 12) (some (7, true)) (.i (.load false false 1 (.t 11))),
  E0 9 (some 13) (some (7, true)) (.i (.un .not (.t 12))),
  E0 10 (some 14) none (.i (.pick (.t 7) (.t 13) (.k (.dat none (.bool false))))),
  E0 11 (some 15) none (.i (.mv (.t 14))),
  E0 12 (some 16) (some (15, true)) (.i (.load false true 2 (.t 2))),
  E0 13 (some 17) (some (15, true)) (.i (.load false false 1 (.t 1))),
  E0 14 (some 18) (some (15, true)) (.call F_impl_Rule_met false (roA [.t 16, .t 17])),
  E0 15 (some 19) none (.i (.pick (.t 15) (.t 18) (.k (.dat none (.bool false))))),
  E0 16 (some 3) none (.i (.mv (.t 19)))]
def impl_least_c1.fi : FI := { res := [.t 3], code := .seq (.reg 64 2 impl_least_c1.r0) (.seq (.reg 192 17 impl_least_c1.r1) (.ret)) }
attribute [go_sem] impl_least_c1.r0 impl_least_c1.r1
theorem impl_least_c1.ok : chkF prog F_impl_least_c1 2 impl_least_c1.fi = true := by kernel_rfl

/-! impl_least -/
def impl_least.r0 : List Ent := [
  E0 0 (some 4) none (.i (.mv (.k (.nil 1)))),
  E0 1 (some 5) none (.i (.mv (.k (.nil 1))))]
def impl_least.r1 : List Ent := [
  E0 0 (some 9) none (.i (.mv (.t 0))),
  E0 1 (some 10) none (.i (.bin .add (.t 9) (.k (I64 1)))),
  E0 2 (some 11) none (.i (.mks 1 1 (.bool false) (.t 10) (.t 10))),
  E0 3 (some 6) none (.i (.box (.k (.nil 1)))),
  E0 4 none none (.i (.store 1 (.t 6) (.t 11)))]
def impl_least.r2 : List Ent := [
  E0 0 (some 7) none (.i (.mv (.k (.nil 1))))]
def impl_least.r3 : List Ent := [
  E0 0 (some 12) none (.i (.mv (.t 1))),
  E0 1 (some 13) none (.i (.mkf F_impl_least_c1 [.t 6])),
  E0 2 (some 14) none (.call F_slices_IndexFunc__sRule_Rule false (roA [.t 12, .t 13])),
  E0 3 (some 8) none (.i (.mv (.t 14)))]
def impl_least.r4 : List Ent := [
  E0 0 (some 15) none (.i (.mv (.t 8))),
  E0 1 (some 16) none (.i (.bin .lss (.t 15) (.k (I64 0))))]
def impl_least.r5 : List Ent := [
  E0 0 (some 17) none (.i (.load false false 1 (.t 6))),
  E0 1 (some 18) none (.i (.mv (.t 7))),
  E0 2 (some 4) none (.i (.mv (.t 17))),
  E0 3 (some 5) none (.i (.mv (.t 18)))]
def impl_least.r6 : List Ent := [
  ER 0 (some 19) none (.load false false 1 (.t 6)),
  E0 1 (some 20) none (.i (.mv (.t 1))),
  E0 2 (some 21) none (.i (.mv (.t 8))),
  ER 3 (some 22) none (.iad 2 (.t 20) (.t 21)),
  ER 4 (some 23) none (.fad 1 (.t 22)),
  ER 5 (some 24) none (.load false false 1 (.t 23)),
  E0 6 (some 25) none (.i (.iad 1 (.t 19) (.t 24))),
  E0 7 none none (.i (.store 1 (.t 25) (.k (.dat none (.bool true)))))]
def impl_least.r7 : List Ent := [
  E0 0 (some 26) none (.i (.mv (.t 7))),
  E0 1 (some 27) none (.i (.mv (.t 8))),
  E0 2 (some 28) none (.i (.bsl true 1 [.t 27])),
  E0 3 (some 29) none (.i (.app 1 8 (.t 26) (.t 28))),
  E0 4 (some 7) none (.i (.mv (.t 29)))]
def impl_least.b0 : KC := .block 1 (.seq (.reg 576 4 impl_least.r3) (.seq (.seq (.reg 832 2 impl_least.r4) (.cond (.t 16) (.seq (.reg 960 4 impl_least.r5) (.ret)) (.skip))) (.seq (.reg 1216 8 impl_least.r6) (.reg 1728 5 impl_least.r7))))
def impl_least.fi : FI := { res := [.t 4, .t 5], code := .seq (.reg 64 2 impl_least.r0) (.seq (.reg 192 5 impl_least.r1) (.seq (.reg 512 1 impl_least.r2) (.nrm 7 1920 1 (.block 0 (.loop impl_least.b0))))) }
attribute [go_sem] impl_least.r0 impl_least.r1 impl_least.r2 impl_least.r3 impl_least.r4 impl_least.r5 impl_least.r6 impl_least.r7
theorem impl_least.ok : chkF prog F_impl_least 2 impl_least.fi = true := by kernel_rfl

/-! impl_LeastOf_c1 -/
def impl_LeastOf_c1.r0 : List Ent := [
  E0 0 (some 2) none (.i (.box (.t 0))),
  E0 1 (some 3) none (.i (.mv (.k (.dat none (.bool false)))))]
def impl_LeastOf_c1.r1 : List Ent := [
  E0 0 (some 4) none (.i (.fad 1 (.t 2))),
  E0 1 (some 5) none (.i (.load false false 1 (.t 4))),
  E0 2 (some 6) none (.i (.bin .eql (.t 5) (.k (I64 0)))),
  E0 3 (some 7) none (.i (.mv (.t 6))),
  E0 4 (some 8) (some (7, true)) (.i (.load false true 2 (.t 2))),
  E0 5 (some 9) (some (7, true)) (.i (.load false false 1 (.t 1))),
  E0 6 (some 10) (some (7, true)) (.call F_impl_Rule_met false (roA [.t 8, .t 9])),
  E0 7 (some 11) none (.i (.pick (.t 7) (.t 10) (.k (.dat none (.bool false))))),
  E0 8 (some 3) none (.i (.mv (.t 11)))]
def impl_LeastOf_c1.fi : FI := { res := [.t 3], code := .seq (.reg 64 2 impl_LeastOf_c1.r0) (.seq (.reg 192 9 impl_LeastOf_c1.r1) (.ret)) }
attribute [go_sem] impl_LeastOf_c1.r0 impl_LeastOf_c1.r1
theorem impl_LeastOf_c1.ok : chkF prog F_impl_LeastOf_c1 2 impl_LeastOf_c1.fi = true := by kernel_rfl

/-! impl_list -/
def impl_list.r0 : List Ent := [
  E0 0 (some 4) none (.i (.mv (.k (.nil 1))))]
def impl_list.r1 : List Ent := [
  E0 0 (some 5) none (.i (.mv (.k (.nil 1))))]
def impl_list.r2 : List Ent := [
  E0 0 (some 7) none (.i (.mv (.t 0))),
  E0 1 (some 8) none (.i (.mv (.k (I64 0))))]
def impl_list.r3 : List Ent := [
  E0 0 (some 9) none (.i (.bin .lss (.t 8) (.t 7)))]
def impl_list.r4 : List Ent := [
  E0 0 (some 10) none (.i (.mv (.t 8))),
  E0 1 (some 6) none (.i (.mv (.t 10)))]
def impl_list.r5 : List Ent := [
  E0 0 (some 11) none (.i (.mv (.t 1))),
  E0 1 (some 12) none (.i (.mv (.t 6))),
  E0 2 (some 13) none (.ccl (.t 11) false [.t 12])]
def impl_list.r6 : List Ent := [
  E0 0 (some 14) none (.i (.mv (.t 5))),
  E0 1 (some 15) none (.i (.mv (.t 6))),
  E0 2 (some 16) none (.i (.bsl true 1 [.t 15])),
  E0 3 (some 17) none (.i (.app 1 8 (.t 14) (.t 16))),
  E0 4 (some 5) none (.i (.mv (.t 17)))]
def impl_list.r7 : List Ent := [
  E0 0 (some 18) none (.i (.bin .add (.t 8) (.k (I64 1)))),
  E0 1 (some 8) none (.i (.mv (.t 18)))]
def impl_list.b0 : KC := .seq (.reg 320 1 impl_list.r3) (.seq (.cond (.t 9) (.skip) (.exit 0)) (.seq (.block 1 (.seq (.reg 384 2 impl_list.r4) (.seq (.reg 512 3 impl_list.r5) (.cond (.t 13) (.reg 704 5 impl_list.r6) (.skip))))) (.reg 1024 2 impl_list.r7)))
def impl_list.r8 : List Ent := [
  E0 0 (some 19) none (.i (.mv (.t 5))),
  E0 1 (some 4) none (.i (.mv (.t 19)))]
def impl_list.fi : FI := { res := [.t 4], code := .seq (.reg 64 1 impl_list.r0) (.seq (.reg 128 1 impl_list.r1) (.seq (.seq (.reg 192 2 impl_list.r2) (.nrm 5 896 1 (.block 0 (.loop impl_list.b0)))) (.seq (.reg 1152 2 impl_list.r8) (.ret)))) }
attribute [go_sem] impl_list.r0 impl_list.r1 impl_list.r2 impl_list.r3 impl_list.r4 impl_list.r5 impl_list.r6 impl_list.r7 impl_list.r8
theorem impl_list.ok : chkF prog F_impl_list 2 impl_list.fi = true := by kernel_rfl

/-! impl_LeastOf_c2 -/
def impl_LeastOf_c2.r0 : List Ent := [
  E0 0 (some 3) none (.i (.mv (.k (.dat none (.bool false)))))]
def impl_LeastOf_c2.r1 : List Ent := [
  E0 0 (some 4) none (.i (.load false false 1 (.t 1))),
  E0 1 (some 5) none (.i (.mv (.t 0))),
  E0 2 (some 6) none (.i (.iad 1 (.t 4) (.t 5))),
  E0 3 (some 7) none (.i (.load false false 1 (.t 6))),
  E0 4 (some 3) none (.i (.mv (.t 7)))]
def impl_LeastOf_c2.fi : FI := { res := [.t 3], code := .seq (.reg 64 1 impl_LeastOf_c2.r0) (.seq (.reg 128 5 impl_LeastOf_c2.r1) (.ret)) }
attribute [go_sem] impl_LeastOf_c2.r0 impl_LeastOf_c2.r1
theorem impl_LeastOf_c2.ok : chkF prog F_impl_LeastOf_c2 2 impl_LeastOf_c2.fi = true := by kernel_rfl

/-! impl_LeastOf -/
def impl_LeastOf.r0 : List Ent := [
  E0 0 (some 4) none (.i (.mv (.k (.nil 1)))),
  E0 1 (some 5) none (.i (.mv (.k (.dat none (.bool false))))),
  E0 2 (some 6) none (.i (.mv (.k (.dat none (.bool false)))))]
def impl_LeastOf.r1 : List Ent := [
  E0 0 (some 10) none (.i (.mv (.t 0))),
  E0 1 (some 11) none (.i (.mv (.t 1))),
  E0 2 (some 12) none (.call F_impl_GoodRules false (roA [.t 10, .t 11])),
  E0 3 (some 13) none (.i (.un .not (.t 12)))]
def impl_LeastOf.r2 : List Ent := [
  E0 0 (some 4) none (.i (.mv (.k (.nil 1)))),
  E0 1 (some 5) none (.i (.mv (.k (.dat none (.bool false))))),
  E0 2 (some 6) none (.i (.mv (.k (.dat none (.bool false)))))]
def impl_LeastOf.r3 : List Ent := [
  E0 0 (some 15) none (.i (.mv (.t 0))),
  E0 1 (some 16) none (.i (.mv (.t 1))),
  E0 2 (some 17) none (.call F_impl_least false (roA [.t 15, .t 16])),
  E0 3 (some 14) none (.i (.mv (.t 17))),
  E0 4 (some 18) none (.i (.ext 0 (.t 14))),
  E0 5 (some 19) none (.i (.ext 1 (.t 14))),
  E0 6 (some 7) none (.i (.box (.k (.nil 1)))),
  E0 7 none none (.i (.store 1 (.t 7) (.t 18))),
  E0 8 (some 8) none (.i (.mv (.t 19)))]
def impl_LeastOf.r4 : List Ent := [
  E0 0 (some 20) none (.i (.mv (.t 1))),
  E0 1 (some 21) none (.i (.mkf F_impl_LeastOf_c1 [.t 7])),
  E0 2 (some 22) none (.call F_slices_ContainsFunc__sRule_Rule false (roA [.t 20, .t 21])),
  E0 3 (some 23) none (.i (.un .not (.t 22))),
  E0 4 (some 9) none (.i (.mv (.t 23)))]
def impl_LeastOf.r5 : List Ent := [
  E0 0 (some 24) none (.i (.mv (.t 0))),
  E0 1 (some 25) none (.i (.bin .add (.t 24) (.k (I64 1)))),
  E0 2 (some 26) none (.i (.mkf F_impl_LeastOf_c2 [.t 7])),
  E0 3 (some 27) none (.call F_impl_list false (roA [.t 25, .t 26])),
  E0 4 (some 28) none (.i (.mv (.t 9))),
  E0 5 (some 4) none (.i (.mv (.t 27))),
  E0 6 (some 5) none (.i (.mv (.t 28))),
  E0 7 (some 6) none (.i (.mv (.k (.dat none (.bool true)))))]
def impl_LeastOf.fi : FI := { res := [.t 4, .t 5, .t 6], code := .seq (.reg 64 3 impl_LeastOf.r0) (.seq (.seq (.reg 256 4 impl_LeastOf.r1) (.cond (.t 13) (.seq (.reg 512 3 impl_LeastOf.r2) (.ret)) (.skip))) (.seq (.reg 704 9 impl_LeastOf.r3) (.seq (.reg 1280 5 impl_LeastOf.r4) (.seq (.reg 1600 8 impl_LeastOf.r5) (.ret))))) }
attribute [go_sem] impl_LeastOf.r0 impl_LeastOf.r1 impl_LeastOf.r2 impl_LeastOf.r3 impl_LeastOf.r4 impl_LeastOf.r5
theorem impl_LeastOf.ok : chkF prog F_impl_LeastOf 2 impl_LeastOf.fi = true := by kernel_rfl

/-! spec_l1Rising -/
def spec_l1Rising.r0 : List Ent := [
  E0 0 (some 6) none (.i (.mv (.k (.dat none (.bool false)))))]
def spec_l1Rising.r1 : List Ent := [
  E0 0 (some 9) none (.i (.mv (.t 0))),
  E0 1 (some 10) none (.i (.len (.t 9))),
  E0 2 (some 11) none (.i (.mv (.k (I64 0))))]
def spec_l1Rising.r2 : List Ent := [
  E0 0 (some 12) none (.i (.bin .lss (.t 11) (.t 10)))]
def spec_l1Rising.r3 : List Ent := [
  E0 0 (some 13) none (.i (.mv (.t 11))),
  E0 1 (some 14) none (.i (.iad 1 (.t 9) (.t 11))),
  E0 2 (some 15) none (.i (.load false false 1 (.t 14))),
  E0 3 (some 7) none (.i (.mv (.t 13))),
  E0 4 (some 8) none (.i (.mv (.t 15)))]
def spec_l1Rising.r4 : List Ent := [
  E0 0 (some 16) none (.i (.mv (.t 8))),
  E0 1 (some 17) none (.i (.mv (.t 1))),
  E0 2 (some 18) none (.i (.mv (.t 2))),
  E0 3 (some 19) none (.call F_spec_l1In false (roA [.t 16, .t 17, .t 18])),
  E0 4 (some 20) none (.i (.un .not (.t 19))),
  E0 5 (some 21) none (.i (.mv (.t 20))),
  E0 6 (some 22) (some (21, false)) (.i (.mv (.t 7))),
  E0 7 (some 23) (some (21, false)) (.i (.bin .gtr (.t 22) (.k (I64 0)))),
  E0 8 (some 24) (some (21, false)) (.i (.mv (.t 23))),
  E0 9 (some 25) (some (24, true)) (.i (.mv (.t 0))),
  E0 10 (some 26) (some (24, true)) (.i (.mv (.t 7))),
  E0 11 (some 27) (some (24, true)) (.i (.bin .sub (.t 26) (.k (I64 1)))),
  E0 12 (some 28) (some (24, true)) (.i (.iad 1 (.t 25) (.t 27))),
  E0 13 (some 29) (some (24, true)) (.i (.load false false 1 (.t 28))),
  E0 14 (some 30) (some (24, true)) (.i (.mv (.t 8))),
  E0 15 (some 31) (some (24, true)) (.i (.bin .geq (.t 29) (.t 30))),
  E0 16 (some 32) (some (21, false)) (.i (.pick (.t 24) (.t 31) (.k (.dat none (.bool false))))),
  E0 17 (some 33) none (.i (.pick (.t 21) (.k (.dat none (.bool true))) (.t 32)))]
def spec_l1Rising.r5 : List Ent := [
  E0 0 (some 6) none (.i (.mv (.k (.dat none (.bool false)))))]
def spec_l1Rising.r6 : List Ent := [
  E0 0 (some 34) none (.i (.bin .add (.t 11) (.k (I64 1)))),
  E0 1 (some 11) none (.i (.mv (.t 34)))]
def spec_l1Rising.b0 : KC := .seq (.reg 320 1 spec_l1Rising.r2) (.seq (.cond (.t 12) (.skip) (.exit 0)) (.seq (.block 1 (.seq (.reg 384 5 spec_l1Rising.r3) (.seq (.reg 704 18 spec_l1Rising.r4) (.cond (.t 33) (.seq (.reg 1856 1 spec_l1Rising.r5) (.ret)) (.skip))))) (.reg 1920 2 spec_l1Rising.r6)))
def spec_l1Rising.r7 : List Ent := [
  E0 0 (some 6) none (.i (.mv (.k (.dat none (.bool true)))))]
def spec_l1Rising.fi : FI := { res := [.t 6], code := .seq (.reg 64 1 spec_l1Rising.r0) (.seq (.seq (.reg 128 3 spec_l1Rising.r1) (.block 0 (.loop spec_l1Rising.b0))) (.seq (.reg 2048 1 spec_l1Rising.r7) (.ret))) }
attribute [go_sem] spec_l1Rising.r0 spec_l1Rising.r1 spec_l1Rising.r2 spec_l1Rising.r3 spec_l1Rising.r4 spec_l1Rising.r5 spec_l1Rising.r6 spec_l1Rising.r7
theorem spec_l1Rising.ok : chkF prog F_spec_l1Rising 3 spec_l1Rising.fi = true := by kernel_rfl

/-! spec_l16Facts -/
def spec_l16Facts.r0 : List Ent := [
  E0 0 (some 4) none (.i (.mv (.k (.dat none (.bool false)))))]
def spec_l16Facts.r1 : List Ent := [
  E0 0 (some 5) none (.i (.mv (.t 1))),
  E0 1 (some 6) none (.i (.mv (.t 0))),
  E0 2 (some 7) none (.call F_spec_l1Rising false (roA [.t 5, .k (I64 1), .t 6])),
  E0 3 (some 4) none (.i (.mv (.t 7)))]
def spec_l16Facts.fi : FI := { res := [.t 4], code := .seq (.reg 64 1 spec_l16Facts.r0) (.seq (.reg 128 4 spec_l16Facts.r1) (.ret)) }
attribute [go_sem] spec_l16Facts.r0 spec_l16Facts.r1
theorem spec_l16Facts.ok : chkF prog F_spec_l16Facts 2 spec_l16Facts.fi = true := by kernel_rfl

/-! spec_GoodRules -/
def spec_GoodRules.r0 : List Ent := [
  E0 0 (some 4) none (.i (.mv (.k (.dat none (.bool false)))))]
def spec_GoodRules.r1 : List Ent := [
  E0 0 (some 7) none (.i (.mv (.t 1))),
  E0 1 (some 8) none (.i (.len (.t 7))),
  E0 2 (some 9) none (.i (.mv (.k (I64 0))))]
def spec_GoodRules.r2 : List Ent := [
  E0 0 (some 10) none (.i (.bin .lss (.t 9) (.t 8)))]
def spec_GoodRules.r3 : List Ent := [
  E0 0 (some 11) none (.i (.iad 2 (.t 7) (.t 9))),
  E0 1 (some 12) none (.i (.load false true 2 (.t 11))),
  E0 2 (some 6) none (.i (.box (.k (.agg [.nil 1, .dat none (.int .i64 0)])))),
  E0 3 none none (.i (.store 2 (.t 6) (.t 12)))]
def spec_GoodRules.r4 : List Ent := [
  E0 0 (some 13) none (.i (.mv (.t 0))),
  E0 1 (some 14) none (.i (.fad 0 (.t 6))),
  E0 2 (some 15) none (.i (.load false false 1 (.t 14))),
  E0 3 (some 16) none (.call F_spec_l16Facts false (roA [.t 13, .t 15])),
  E0 4 (some 17) none (.i (.un .not (.t 16))),
  E0 5 (some 18) none (.i (.mv (.t 17))),
  E0 6 (some 19) (some (18, false)) (.i (.fad 1 (.t 6))),
  E0 7 (some 20) (some (18, false)) (.i (.load false false 1 (.t 19))),
  E0 8 (some 21) (some (18, false)) (.i (.mv (.t 0))),
  E0 9 (some 22) (some (18, false)) (.call F_spec_l1In false (roA [.t 20, .k (I64 0), .t 21])),
  E0 10 (some 23) (some (18, false)) (.i (.un .not (.t 22))),
  E0 11 (some 24) none (.i (.pick (.t 18) (.k (.dat none (.bool true))) (.t 23)))]
def spec_GoodRules.r5 : List Ent := [
  E0 0 (some 4) none (.i (.mv (.k (.dat none (.bool false)))))]
def spec_GoodRules.r6 : List Ent := [
  E0 0 (some 25) none (.i (.bin .add (.t 9) (.k (I64 1)))),
  E0 1 (some 9) none (.i (.mv (.t 25)))]
def spec_GoodRules.b0 : KC := .seq (.reg 320 1 spec_GoodRules.r2) (.seq (.cond (.t 10) (.skip) (.exit 0)) (.seq (.block 1 (.seq (.reg 384 4 spec_GoodRules.r3) (.seq (.reg 640 12 spec_GoodRules.r4) (.cond (.t 24) (.seq (.reg 1408 1 spec_GoodRules.r5) (.ret)) (.skip))))) (.reg 1472 2 spec_GoodRules.r6)))
def spec_GoodRules.r7 : List Ent := [
  E0 0 (some 26) none (.i (.mv (.t 0))),
  E0 1 (some 27) none (.call F_spec_l1In false (roA [.t 26, .k (I64 1), .k (I64 12)])),
  E0 2 (some 28) none (.i (.mv (.t 27))),
  E0 3 (some 29) (some (28, true)) (.i (.mv (.t 1))),
  E0 4 (some 30) (some (28, true)) (.i (.len (.t 29))),
  E0 5 (some 31) (some (28, true)) (.i (.bin .leq (.t 30) (.k (I64 30)))),
  E0 6 (some 32) none (.i (.pick (.t 28) (.t 31) (.k (.dat none (.bool false))))),
  E0 7 (some 4) none (.i (.mv (.t 32)))]
def spec_GoodRules.fi : FI := { res := [.t 4], code := .seq (.reg 64 1 spec_GoodRules.r0) (.seq (.seq (.reg 128 3 spec_GoodRules.r1) (.block 0 (.loop spec_GoodRules.b0))) (.seq (.reg 1600 8 spec_GoodRules.r7) (.ret))) }
attribute [go_sem] spec_GoodRules.r0 spec_GoodRules.r1 spec_GoodRules.r2 spec_GoodRules.r3 spec_GoodRules.r4 spec_GoodRules.r5 spec_GoodRules.r6 spec_GoodRules.r7
theorem spec_GoodRules.ok : chkF prog F_spec_GoodRules 2 spec_GoodRules.fi = true := by kernel_rfl

/-! spec_l16All -/
def spec_l16All.r0 : List Ent := [
  E0 0 (some 4) none (.i (.mv (.k (.dat none (.bool false)))))]
def spec_l16All.r1 : List Ent := [
  E0 0 (some 7) none (.i (.mv (.t 1))),
  E0 1 (some 8) none (.i (.len (.t 7))),
  E0 2 (some 9) none (.i (.mv (.k (I64 0))))]
def spec_l16All.r2 : List Ent := [
  E0 0 (some 10) none (.i (.bin .lss (.t 9) (.t 8)))]
def spec_l16All.r3 : List Ent := [
  E0 0 (some 11) none (.i (.iad 1 (.t 7) (.t 9))),
  E0 1 (some 12) none (.i (.load false false 1 (.t 11))),
  E0 2 (some 6) none (.i (.mv (.t 12)))]
def spec_l16All.r4 : List Ent := [
  E0 0 (some 13) none (.i (.mv (.t 0))),
  E0 1 (some 14) none (.i (.mv (.t 6))),
  E0 2 (some 15) none (.call F_spec_l1Has false (roA [.t 13, .t 14])),
  E0 3 (some 16) none (.i (.un .not (.t 15)))]
def spec_l16All.r5 : List Ent := [
  E0 0 (some 4) none (.i (.mv (.k (.dat none (.bool false)))))]
def spec_l16All.r6 : List Ent := [
  E0 0 (some 17) none (.i (.bin .add (.t 9) (.k (I64 1)))),
  E0 1 (some 9) none (.i (.mv (.t 17)))]
def spec_l16All.b0 : KC := .seq (.reg 320 1 spec_l16All.r2) (.seq (.cond (.t 10) (.skip) (.exit 0)) (.seq (.block 1 (.seq (.reg 384 3 spec_l16All.r3) (.seq (.reg 576 4 spec_l16All.r4) (.cond (.t 16) (.seq (.reg 832 1 spec_l16All.r5) (.ret)) (.skip))))) (.reg 896 2 spec_l16All.r6)))
def spec_l16All.r7 : List Ent := [
  E0 0 (some 4) none (.i (.mv (.k (.dat none (.bool true)))))]
def spec_l16All.fi : FI := { res := [.t 4], code := .seq (.reg 64 1 spec_l16All.r0) (.seq (.seq (.reg 128 3 spec_l16All.r1) (.block 0 (.loop spec_l16All.b0))) (.seq (.reg 1024 1 spec_l16All.r7) (.ret))) }
attribute [go_sem] spec_l16All.r0 spec_l16All.r1 spec_l16All.r2 spec_l16All.r3 spec_l16All.r4 spec_l16All.r5 spec_l16All.r6 spec_l16All.r7
theorem spec_l16All.ok : chkF prog F_spec_l16All 2 spec_l16All.fi = true := by kernel_rfl

/-! spec_l16Least -/
def spec_l16Least.r0 : List Ent := [
  E0 0 (some 2) none (.i (.mv (.k (.nil 1)))),
  E0 1 (some 3) none (.i (.mv (.k (.nil 1)))),
  E0 2 (some 4) none (.i (.mv (.k (.dat none (.bool false)))))]
def spec_l16Least.r1 : List Ent := [
  E0 0 (some 5) none (.i (.mv (.k (.nil 1)))),
  E0 1 (some 6) none (.i (.mv (.k (.nil 1))))]
def spec_l16Least.r2 : List Ent := [
  E0 0 (some 7) none (.i (.mv (.k (.dat none (.bool true)))))]
def spec_l16Least.r3 : List Ent := [
  E0 0 (some 12) none (.i (.mv (.t 7)))]
def spec_l16Least.r4 : List Ent := [
  E0 0 (some 7) none (.i (.mv (.k (.dat none (.bool false)))))]
def spec_l16Least.r5 : List Ent := [
  E0 0 (some 13) none (.i (.mv (.t 0))),
  E0 1 (some 14) none (.i (.len (.t 13))),
  E0 2 (some 15) none (.i (.mv (.k (I64 0))))]
def spec_l16Least.r6 : List Ent := [
  E0 0 (some 16) none (.i (.bin .lss (.t 15) (.t 14)))]
def spec_l16Least.r7 : List Ent := [
  E0 0 (some 17) none (.i (.mv (.t 15))),
  E0 1 (some 18) none (.i (.iad 2 (.t 13) (.t 15))),
  E0 2 (some 19) none (.i (.load false true 2 (.t 18))),
  E0 3 (some 9) none (.i (.box (.k (.agg [.nil 1, .dat none (.int .i64 0)])))),
  E0 4 (some 8) none (.i (.mv (.t 17))),
  E0 5 none none (.i (.store 2 (.t 9) (.t 19)))]
def spec_l16Least.r8 : List Ent := [
  E0 0 (some 20) none (.i (.fad 1 (.t 9))),
  E0 1 (some 21) none (.i (.load false false 1 (.t 20))),
  E0 2 (some 22) none (.i (.bin .gtr (.t 21) (.k (I64 0)))),
  E0 3 (some 23) none (.i (.mv (.t 22))),
  E0 4 (some 24) (some (23, true)) (.i (.mv (.t 5))),
  E0 5 (some 25) (some (23, true)) (.i (.fad 1 (.t 9))),
  E0 6 (some 26) (some (23, true)) (.i (.load false false 1 (.t 25))),
  E0 7 (some 27) (some (23, true)) (.call F_spec_l1Has false (roA [.t 24, .t 26])),
  E0 8 (some 28) (some (23, true)) (.i (.un .not (.t 27))),
  E0 9 (some 29) none (.i (.pick (.t 23) (.t 28) (.k (.dat none (.bool false))))),
  E0 10 (some 30) none (.i (.mv (.t 29))),
  E0 11 (some 31) (some (30, true)) (.i (.mv (.t 5))),
  E0 12 (some 32) (some (30, true)) (.i (.fad 0 (.t 9))),
  E0 13 (some 33) (some (30, true)) (.i (.load false false 1 (.t 32))),
  E0 14 (some 34) (some (30, true)) (.call F_spec_l16All false (roA [.t 31, .t 33])),
  E0 15 (some 35) none (.i (.pick (.t 30) (.t 34) (.k (.dat none (.bool false)))))]
def spec_l16Least.r9 : List Ent := [
  E0 0 (some 36) none (.i (.mv (.t 5))),
  E0 1 (some 37) none (.i (.fad 1 (.t 9))),
  E0 2 (some 38) none (.i (.load false false 1 (.t 37))),
  E0 3 (some 39) none (.call F_spec_l1Put false [(.co, .t 36), (.ro, .t 38)]),
  E0 4 (some 5) none (.i (.mv (.t 39)))]
def spec_l16Least.r10 : List Ent := [
  E0 0 (some 40) none (.i (.mv (.t 6))),
  E0 1 (some 41) none (.i (.mv (.t 8))),
  E0 2 (some 42) none (.i (.bsl true 1 [.t 41])),
  E0 3 (some 43) none (.i (.app 1 8 (.t 40) (.t 42))),
  E0 4 (some 6) none (.i (.mv (.t 43)))]
def spec_l16Least.r11 : List Ent := [
  E0 0 (some 7) none (.i (.mv (.k (.dat none (.bool true)))))]
def spec_l16Least.r12 : List Ent := [
  E0 0 (some 44) none (.i (.bin .add (.t 15) (.k (I64 1)))),
  E0 1 (some 15) none (.i (.mv (.t 44)))]
def spec_l16Least.b0 : KC := .seq (.reg 768 1 spec_l16Least.r6) (.seq (.cond (.t 16) (.skip) (.exit 2)) (.seq (.block 3 (.seq (.reg 832 6 spec_l16Least.r7) (.seq (.reg 1216 16 spec_l16Least.r8) (.cond (.t 35) (.seq (.reg 2240 5 spec_l16Least.r9) (.seq (.reg 2560 5 spec_l16Least.r10) (.seq (.reg 2880 1 spec_l16Least.r11) (.exit 2)))) (.skip))))) (.reg 2944 2 spec_l16Least.r12)))
def spec_l16Least.b1 : KC := .seq (.seq (.reg 448 1 spec_l16Least.r3) (.cond (.t 12) (.skip) (.exit 0))) (.block 1 (.seq (.reg 512 1 spec_l16Least.r4) (.seq (.reg 576 3 spec_l16Least.r5) (.block 2 (.loop spec_l16Least.b0)))))
def spec_l16Least.r13 : List Ent := [
  E0 0 (some 45) none (.i (.mv (.t 0))),
  E0 1 (some 46) none (.i (.len (.t 45))),
  E0 2 (some 47) none (.i (.mv (.k (I64 0))))]
def spec_l16Least.r14 : List Ent := [
  E0 0 (some 48) none (.i (.bin .lss (.t 47) (.t 46)))]
def spec_l16Least.r15 : List Ent := [
  E0 0 (some 49) none (.i (.iad 2 (.t 45) (.t 47))),
  E0 1 (some 50) none (.i (.load false true 2 (.t 49))),
  E0 2 (some 11) none (.i (.box (.k (.agg [.nil 1, .dat none (.int .i64 0)])))),
  E0 3 none none (.i (.store 2 (.t 11) (.t 50)))]
def spec_l16Least.r16 : List Ent := [
  E0 0 (some 51) none (.i (.fad 1 (.t 11))),
  E0 1 (some 52) none (.i (.load false false 1 (.t 51))),
  E0 2 (some 53) none (.i (.bin .eql (.t 52) (.k (I64 0)))),
  E0 3 (some 54) none (.i (.mv (.t 53))),
  E0 4 (some 55) (some (54, true)) (.i (.mv (.t 5))),
  E0 5 (some 56) (some (54, true)) (.i (.fad 0 (.t 11))),
  E0 6 (some 57) (some (54, true)) (.i (.load false false 1 (.t 56))),
  E0 7 (some 58) (some (54, true)) (.call F_spec_l16All false (roA [.t 55, .t 57])),
  E0 8 (some 59) none (.i (.pick (.t 54) (.t 58) (.k (.dat none (.bool false)))))]
def spec_l16Least.r17 : List Ent := [
  E0 0 (some 60) none (.i (.mv (.t 5))),
  E0 1 (some 61) none (.i (.mv (.t 6))),
  E0 2 (some 2) none (.i (.mv (.t 60))),
  E0 3 (some 3) none (.i (.mv (.t 61))),
  E0 4 (some 4) none (.i (.mv (.k (.dat none (.bool false)))))]
def spec_l16Least.r18 : List Ent := [
  E0 0 (some 62) none (.i (.bin .add (.t 47) (.k (I64 1)))),
  E0 1 (some 47) none (.i (.mv (.t 62)))]
def spec_l16Least.b2 : KC := .seq (.reg 3264 1 spec_l16Least.r14) (.seq (.cond (.t 48) (.skip) (.exit 4)) (.seq (.block 5 (.seq (.reg 3328 4 spec_l16Least.r15) (.seq (.reg 3584 9 spec_l16Least.r16) (.cond (.t 59) (.seq (.reg 4160 5 spec_l16Least.r17) (.ret)) (.skip))))) (.reg 4480 2 spec_l16Least.r18)))
def spec_l16Least.r19 : List Ent := [
  E0 0 (some 63) none (.i (.mv (.t 5))),
  E0 1 (some 64) none (.i (.mv (.t 6))),
  E0 2 (some 2) none (.i (.mv (.t 63))),
  E0 3 (some 3) none (.i (.mv (.t 64))),
  E0 4 (some 4) none (.i (.mv (.k (.dat none (.bool true)))))]
def spec_l16Least.fi : FI := { res := [.t 2, .t 3, .t 4], code := .seq (.reg 64 3 spec_l16Least.r0) (.seq (.reg 256 2 spec_l16Least.r1) (.seq (.seq (.reg 384 1 spec_l16Least.r2) (.nrm 5 2432 1 (.nrm 6 2752 1 (.block 0 (.loop spec_l16Least.b1))))) (.seq (.seq (.reg 3072 3 spec_l16Least.r13) (.block 4 (.loop spec_l16Least.b2))) (.seq (.reg 4608 5 spec_l16Least.r19) (.ret))))) }
attribute [go_sem] spec_l16Least.r0 spec_l16Least.r1 spec_l16Least.r2 spec_l16Least.r3 spec_l16Least.r4 spec_l16Least.r5 spec_l16Least.r6 spec_l16Least.r7 spec_l16Least.r8 spec_l16Least.r9 spec_l16Least.r10 spec_l16Least.r11 spec_l16Least.r12 spec_l16Least.r13 spec_l16Least.r14 spec_l16Least.r15 spec_l16Least.r16 spec_l16Least.r17 spec_l16Least.r18 spec_l16Least.r19
theorem spec_l16Least.ok : chkF prog F_spec_l16Least 1 spec_l16Least.fi = true := by kernel_rfl

/-! spec_LeastOf -/
def spec_LeastOf.r0 : List Ent := [
  E0 0 (some 4) none (.i (.mv (.k (.nil 1)))),
  E0 1 (some 5) none (.i (.mv (.k (.dat none (.bool false))))),
  E0 2 (some 6) none (.i (.mv (.k (.dat none (.bool false)))))]
def spec_LeastOf.r1 : List Ent := [
  E0 0 (some 10) none (.i (.mv (.t 0))),
  E0 1 (some 11) none (.i (.mv (.t 1))),
  E0 2 (some 12) none (.call F_spec_GoodRules false (roA [.t 10, .t 11])),
  E0 3 (some 13) none (.i (.un .not (.t 12)))]
def spec_LeastOf.r2 : List Ent := [
  E0 0 (some 4) none (.i (.mv (.k (.nil 1)))),
  E0 1 (some 5) none (.i (.mv (.k (.dat none (.bool false))))),
  E0 2 (some 6) none (.i (.mv (.k (.dat none (.bool false)))))]
def spec_LeastOf.r3 : List Ent := [
  E0 0 (some 15) none (.i (.mv (.t 1))),
  E0 1 (some 16) none (.call F_spec_l16Least false (roA [.t 15])),
  E0 2 (some 14) none (.i (.mv (.t 16))),
  E0 3 (some 17) none (.i (.ext 0 (.t 14))),
  E0 4 (some 18) none (.i (.ext 1 (.t 14))),
  E0 5 (some 19) none (.i (.ext 2 (.t 14))),
  E0 6 (some 7) none (.i (.mv (.t 17))),
  E0 7 (some 8) none (.i (.mv (.t 18))),
  E0 8 (some 9) none (.i (.mv (.t 19)))]
def spec_LeastOf.r4 : List Ent := [
  E0 0 (some 20) none (.i (.mv (.t 7))),
  E0 1 (some 21) none (.i (.mv (.t 9))),
  E0 2 (some 4) none (.i (.mv (.t 20))),
  E0 3 (some 5) none (.i (.mv (.t 21))),
  E0 4 (some 6) none (.i (.mv (.k (.dat none (.bool true)))))]
def spec_LeastOf.fi : FI := { res := [.t 4, .t 5, .t 6], code := .seq (.reg 64 3 spec_LeastOf.r0) (.seq (.seq (.reg 256 4 spec_LeastOf.r1) (.cond (.t 13) (.seq (.reg 512 3 spec_LeastOf.r2) (.ret)) (.skip))) (.seq (.reg 704 9 spec_LeastOf.r3) (.seq (.reg 1280 5 spec_LeastOf.r4) (.ret)))) }
attribute [go_sem] spec_LeastOf.r0 spec_LeastOf.r1 spec_LeastOf.r2 spec_LeastOf.r3 spec_LeastOf.r4
theorem spec_LeastOf.ok : chkF prog F_spec_LeastOf 2 spec_LeastOf.fi = true := by kernel_rfl

/-! impl_HoldsIn_c1 -/
def impl_HoldsIn_c1.r0 : List Ent := [
  E0 0 (some 2) none (.i (.box (.t 0))),
  E0 1 (some 3) none (.i (.mv (.k (.dat none (.bool false)))))]
def impl_HoldsIn_c1.r1 : List Ent := [
  E0 0 (some 4) none (.i (.load false true 2 (.t 2))),
  E0 1 (some 5) none (.i (.load false false 1 (.t 1))),
  E0 2 (some 6) none (.call F_impl_Rule_met false (roA [.t 4, .t 5])),
  E0 3 (some 7) none (.i (.mv (.t 6))),
  E0 4 (some 8) (some (7, true)) (.i (.load false false 1 (.t 1))),
  E0 5 (some 9) (some (7, true)) (.i (.fad 1 (.t 2))),
  E0 6 (some 10) (some (7, true)) (.i (.load false false 1 (.t 9))),
  E0 7 (some 11) (some (7, true)) (.i (.iad 1 (.t 8) (.t 10))),
  E0 8 (some 12) (some (7, true)) (.i (.load false false 1 (.t 11))),
  E0 9 (some 13) (some (7, true)) (.i (.un .not (.t 12))),
  E0 10 (some 14) none (.i (.pick (.t 7) (.t 13) (.k (.dat none (.bool false))))),
  E0 11 (some 3) none (.i (.mv (.t 14)))]
def impl_HoldsIn_c1.fi : FI := { res := [.t 3], code := .seq (.reg 64 2 impl_HoldsIn_c1.r0) (.seq (.reg 192 12 impl_HoldsIn_c1.r1) (.ret)) }
attribute [go_sem] impl_HoldsIn_c1.r0 impl_HoldsIn_c1.r1
theorem impl_HoldsIn_c1.ok : chkF prog F_impl_HoldsIn_c1 2 impl_HoldsIn_c1.fi = true := by kernel_rfl

/-! impl_HoldsIn -/
def impl_HoldsIn.r0 : List Ent := [
  E0 0 (some 6) none (.i (.mv (.k (.dat none (.bool false))))),
  E0 1 (some 7) none (.i (.mv (.k (.dat none (.bool false)))))]
def impl_HoldsIn.r1 : List Ent := [
  E0 0 (some 11) none (.i (.mv (.t 0))),
  E0 1 (some 12) none (.i (.mv (.t 1))),
  E0 2 (some 13) none (.call F_impl_GoodRules false (roA [.t 11, .t 12])),
  E0 3 (some 14) none (.i (.un .not (.t 13))),
  E0 4 (some 15) none (.i (.mv (.t 14))),
  E0 5 (some 16) (some (15, false)) (.i (.mv (.t 2))),
  E0 6 (some 17) (some (15, false)) (.i (.mv (.t 0))),
  E0 7 (some 18) (some (15, false)) (.call F_impl_areFacts false (roA [.t 16, .t 17])),
  E0 8 (some 19) (some (15, false)) (.i (.un .not (.t 18))),
  E0 9 (some 20) none (.i (.pick (.t 15) (.k (.dat none (.bool true))) (.t 19)))]
def impl_HoldsIn.r2 : List Ent := [
  E0 0 (some 6) none (.i (.mv (.k (.dat none (.bool false))))),
  E0 1 (some 7) none (.i (.mv (.k (.dat none (.bool false)))))]
def impl_HoldsIn.r3 : List Ent := [
  E0 0 (some 21) none (.i (.mv (.t 0))),
  E0 1 (some 22) none (.i (.bin .add (.t 21) (.k (I64 1)))),
  E0 2 (some 23) none (.i (.mks 1 1 (.bool false) (.t 22) (.t 22))),
  E0 3 (some 8) none (.i (.box (.k (.nil 1)))),
  E0 4 none none (.i (.store 1 (.t 8) (.t 23)))]
def impl_HoldsIn.r4 : List Ent := [
  E0 0 (some 24) none (.i (.mv (.t 2))),
  E0 1 (some 25) none (.i (.len (.t 24))),
  E0 2 (some 26) none (.i (.mv (.k (I64 0))))]
def impl_HoldsIn.r5 : List Ent := [
  E0 0 (some 27) none (.i (.bin .lss (.t 26) (.t 25)))]
def impl_HoldsIn.r6 : List Ent := [
  E0 0 (some 28) none (.i (.iad 1 (.t 24) (.t 26))),
  E0 1 (some 29) none (.i (.load false false 1 (.t 28))),
  E0 2 (some 10) none (.i (.mv (.t 29)))]
def impl_HoldsIn.r7 : List Ent := [
  E0 0 (some 30) none (.i (.load false false 1 (.t 8))),
  E0 1 (some 31) none (.i (.mv (.t 10))),
  E0 2 (some 32) none (.i (.iad 1 (.t 30) (.t 31))),
  E0 3 none none (.i (.store 1 (.t 32) (.k (.dat none (.bool true)))))]
def impl_HoldsIn.r8 : List Ent := [
  E0 0 (some 33) none (.i (.bin .add (.t 26) (.k (I64 1)))),
  E0 1 (some 26) none (.i (.mv (.t 33)))]
def impl_HoldsIn.b0 : KC := .seq (.reg 1472 1 impl_HoldsIn.r5) (.seq (.cond (.t 27) (.skip) (.exit 0)) (.seq (.block 1 (.seq (.reg 1536 3 impl_HoldsIn.r6) (.reg 1728 4 impl_HoldsIn.r7))) (.reg 1984 2 impl_HoldsIn.r8)))
def impl_HoldsIn.r9 : List Ent := [
  E0 0 (some 34) none (.i (.mv (.t 1))),
  E0 1 (some 35) none (.i (.mkf F_impl_HoldsIn_c1 [.t 8])),
  E0 2 (some 36) none (.call F_slices_ContainsFunc__sRule_Rule false (roA [.t 34, .t 35])),
  E0 3 (some 37) none (.i (.un .not (.t 36))),
  E0 4 (some 6) none (.i (.mv (.t 37))),
  E0 5 (some 7) none (.i (.mv (.k (.dat none (.bool true)))))]
def impl_HoldsIn.fi : FI := { res := [.t 6, .t 7], code := .seq (.reg 64 2 impl_HoldsIn.r0) (.seq (.seq (.reg 192 10 impl_HoldsIn.r1) (.cond (.t 20) (.seq (.reg 832 2 impl_HoldsIn.r2) (.ret)) (.skip))) (.seq (.reg 960 5 impl_HoldsIn.r3) (.seq (.seq (.reg 1280 3 impl_HoldsIn.r4) (.block 0 (.loop impl_HoldsIn.b0))) (.seq (.reg 2112 6 impl_HoldsIn.r9) (.ret))))) }
attribute [go_sem] impl_HoldsIn.r0 impl_HoldsIn.r1 impl_HoldsIn.r2 impl_HoldsIn.r3 impl_HoldsIn.r4 impl_HoldsIn.r5 impl_HoldsIn.r6 impl_HoldsIn.r7 impl_HoldsIn.r8 impl_HoldsIn.r9
theorem impl_HoldsIn.ok : chkF prog F_impl_HoldsIn 3 impl_HoldsIn.fi = true := by kernel_rfl

/-! impl_RulesAsClauses -/
def impl_RulesAsClauses.r0 : List Ent := [
  E0 0 (some 4) none (.i (.mv (.k (.nil 1)))),
  E0 1 (some 5) none (.i (.mv (.k (.dat none (.bool false)))))]
def impl_RulesAsClauses.r1 : List Ent := [
  E0 0 (some 10) none (.i (.mv (.t 0))),
  E0 1 (some 11) none (.i (.mv (.t 1))),
  E0 2 (some 12) none (.call F_impl_GoodRules false (roA [.t 10, .t 11])),
  E0 3 (some 13) none (.i (.un .not (.t 12)))]
def impl_RulesAsClauses.r2 : List Ent := [
  E0 0 (some 4) none (.i (.mv (.k (.nil 1)))),
  E0 1 (some 5) none (.i (.mv (.k (.dat none (.bool false)))))]
def impl_RulesAsClauses.r3 : List Ent := [
  E0 0 (some 6) none (.i (.mv (.k (.nil 1))))]
def impl_RulesAsClauses.r4 : List Ent := [
  E0 0 (some 14) none (.i (.mv (.t 1))),
  E0 1 (some 15) none (.i (.len (.t 14))),
  E0 2 (some 16) none (.i (.mv (.k (I64 0))))]
def impl_RulesAsClauses.r5 : List Ent := [
  E0 0 (some 17) none (.i (.bin .lss (.t 16) (.t 15)))]
def impl_RulesAsClauses.r6 : List Ent := [
  E0 0 (some 18) none (.i (.iad 2 (.t 14) (.t 16))),
  E0 1 (some 19) none (.i (.load false true 2 (.t 18))),
  E0 2 (some 8) none (.i (.box (.k (.agg [.nil 1, .dat none (.int .i64 0)])))),
  E0 3 none none (.i (.store 2 (.t 8) (.t 19)))]
def impl_RulesAsClauses.r7 : List Ent := [
  E0 0 (some 20) none (.i (.fad 0 (.t 8))),
  E0 1 (some 21) none (.i (.load false false 1 (.t 20))),
  E0 2 (some 22) none (.i (.fad 1 (.t 8))),
  E0 3 (some 23) none (.i (.load false false 1 (.t 22))),
  E0 4 (some 24) none (.call F_slices_Contains__sint_int false (roA [.t 21, .t 23]))]
def impl_RulesAsClauses.r8 : List Ent := [
  E0 0 (some 25) none (.i (.fad 0 (.t 8))),
  E0 1 (some 26) none (.i (.load false false 1 (.t 25))),
  E0 2 (some 27) none (.call F_impl_learn false (roA [.t 26])),
  E0 3 (some 9) none (.i (.mv (.t 27)))]
def impl_RulesAsClauses.r9 : List Ent := [
  E0 0 (some 28) none (.i (.fad 1 (.t 8))),
  E0 1 (some 29) none (.i (.load false false 1 (.t 28))),
  E0 2 (some 30) none (.i (.bin .gtr (.t 29) (.k (I64 0))))]
def impl_RulesAsClauses.r10 : List Ent := [
  E0 0 (some 31) none (.i (.mv (.t 9))),
  E0 1 (some 32) none (.i (.fad 1 (.t 8))),
  E0 2 (some 33) none (.i (.load false false 1 (.t 32))),
  E0 3 (some 34) none (.i (.bsl true 1 [.t 33])),
  E0 4 (some 35) none (.i (.app 1 8 (.t 31) (.t 34))),
  E0 5 (some 9) none (.i (.mv (.t 35)))]
def impl_RulesAsClauses.r11 : List Ent := [
  E0 0 (some 36) none (.i (.mv (.t 6))),
  E0 1 (some 37) none (.i (.mv (.t 9))),
  E0 2 (some 38) none (.i (.bsl false 1 [.t 37])),
  E0 3 (some 39) none (.i (.app 1 24 (.t 36) (.t 38))),
  E0 4 (some 6) none (.i (.mv (.t 39)))]
def impl_RulesAsClauses.r12 : List Ent := [
  E0 0 (some 40) none (.i (.bin .add (.t 16) (.k (I64 1)))),
  E0 1 (some 16) none (.i (.mv (.t 40)))]
def impl_RulesAsClauses.b0 : KC := .seq (.reg 832 1 impl_RulesAsClauses.r5) (.seq (.cond (.t 17) (.skip) (.exit 0)) (.seq (.block 1 (.seq (.reg 896 4 impl_RulesAsClauses.r6) (.seq (.seq (.reg 1152 5 impl_RulesAsClauses.r7) (.cond (.t 24) (.exit 1) (.skip))) (.seq (.reg 1472 4 impl_RulesAsClauses.r8) (.seq (.seq (.reg 1728 3 impl_RulesAsClauses.r9) (.cond (.t 30) (.reg 1920 6 impl_RulesAsClauses.r10) (.skip))) (.reg 2304 5 impl_RulesAsClauses.r11)))))) (.reg 2624 2 impl_RulesAsClauses.r12)))
def impl_RulesAsClauses.r13 : List Ent := [
  E0 0 (some 41) none (.i (.mv (.t 6))),
  E0 1 (some 4) none (.i (.mv (.t 41))),
  E0 2 (some 5) none (.i (.mv (.k (.dat none (.bool true)))))]
def impl_RulesAsClauses.fi : FI := { res := [.t 4, .t 5], code := .seq (.reg 64 2 impl_RulesAsClauses.r0) (.seq (.seq (.reg 192 4 impl_RulesAsClauses.r1) (.cond (.t 13) (.seq (.reg 448 2 impl_RulesAsClauses.r2) (.ret)) (.skip))) (.seq (.reg 576 1 impl_RulesAsClauses.r3) (.seq (.seq (.reg 640 3 impl_RulesAsClauses.r4) (.nrm 6 2496 1 (.nrm 9 2176 1 (.block 0 (.loop impl_RulesAsClauses.b0))))) (.seq (.reg 2752 3 impl_RulesAsClauses.r13) (.ret))))) }
attribute [go_sem] impl_RulesAsClauses.r0 impl_RulesAsClauses.r1 impl_RulesAsClauses.r2 impl_RulesAsClauses.r3 impl_RulesAsClauses.r4 impl_RulesAsClauses.r5 impl_RulesAsClauses.r6 impl_RulesAsClauses.r7 impl_RulesAsClauses.r8 impl_RulesAsClauses.r9 impl_RulesAsClauses.r10 impl_RulesAsClauses.r11 impl_RulesAsClauses.r12 impl_RulesAsClauses.r13
theorem impl_RulesAsClauses.ok : chkF prog F_impl_RulesAsClauses 2 impl_RulesAsClauses.fi = true := by kernel_rfl

/-! impl_IsHorn_c1 -/
def impl_IsHorn_c1.r0 : List Ent := [
  E0 0 (some 2) none (.i (.mv (.k (.dat none (.bool false)))))]
def impl_IsHorn_c1.r1 : List Ent := [
  E0 0 (some 3) none (.i (.mv (.t 0))),
  E0 1 (some 4) none (.i (.bin .lss (.t 3) (.k (I64 0)))),
  E0 2 (some 2) none (.i (.mv (.t 4)))]
def impl_IsHorn_c1.fi : FI := { res := [.t 2], code := .seq (.reg 64 1 impl_IsHorn_c1.r0) (.seq (.reg 128 3 impl_IsHorn_c1.r1) (.ret)) }
attribute [go_sem] impl_IsHorn_c1.r0 impl_IsHorn_c1.r1
theorem impl_IsHorn_c1.ok : chkF prog F_impl_IsHorn_c1 1 impl_IsHorn_c1.fi = true := by kernel_rfl

/-! impl_IsHorn -/
def impl_IsHorn.r0 : List Ent := [
  E0 0 (some 4) none (.i (.mv (.k (.dat none (.bool false))))),
  E0 1 (some 5) none (.i (.mv (.k (.dat none (.bool false)))))]
def impl_IsHorn.r1 : List Ent := [
  E0 0 (some 9) none (.i (.mv (.t 0))),
  E0 1 (some 10) none (.i (.mv (.t 1))),
  E0 2 (some 11) none (.call F_impl_GoodClauses false (roA [.t 9, .t 10])),
  E0 3 (some 12) none (.i (.un .not (.t 11)))]
def impl_IsHorn.r2 : List Ent := [
  E0 0 (some 4) none (.i (.mv (.k (.dat none (.bool false))))),
  E0 1 (some 5) none (.i (.mv (.k (.dat none (.bool false)))))]
def impl_IsHorn.r3 : List Ent := [
  E0 0 (some 13) none (.i (.mv (.t 1))),
  E0 1 (some 14) none (.i (.len (.t 13))),
  E0 2 (some 15) none (.i (.mv (.k (I64 0))))]
def impl_IsHorn.r4 : List Ent := [
  E0 0 (some 16) none (.i (.bin .lss (.t 15) (.t 14)))]
def impl_IsHorn.r5 : List Ent := [
  E0 0 (some 17) none (.i (.iad 1 (.t 13) (.t 15))),
  E0 1 (some 18) none (.i (.load false false 1 (.t 17))),
  E0 2 (some 7) none (.i (.mv (.t 18)))]
def impl_IsHorn.r6 : List Ent := [
  E0 0 (some 19) none (.i (.mv (.t 7))),
  E0 1 (some 20) none (.call F_slices_Clone__sint_int false (roA [.t 19])),
  E0 2 (some 21) none (.call F_slices_DeleteFunc__sint_int false [(.co, .t 20), (.ro, .k (.clo F_impl_IsHorn_c1 []))]),
  E0 3 (some 8) none (.i (.mv (.t 21)))]
def impl_IsHorn.r7 : List Ent := [
  E0 0 (some 22) none (.i (.mv (.t 8))),
  E0 1 (some 23) none (.i (.len (.t 22))),
  E0 2 (some 24) none (.i (.bin .gtr (.t 23) (.k (I64 1))))]
def impl_IsHorn.r8 : List Ent := [
  E0 0 (some 4) none (.i (.mv (.k (.dat none (.bool false))))),
  E0 1 (some 5) none (.i (.mv (.k (.dat none (.bool true)))))]
def impl_IsHorn.r9 : List Ent := [
  E0 0 (some 25) none (.i (.bin .add (.t 15) (.k (I64 1)))),
  E0 1 (some 15) none (.i (.mv (.t 25)))]
def impl_IsHorn.b0 : KC := .seq (.reg 768 1 impl_IsHorn.r4) (.seq (.cond (.t 16) (.skip) (.exit 0)) (.seq (.block 1 (.seq (.reg 832 3 impl_IsHorn.r5) (.seq (.reg 1024 4 impl_IsHorn.r6) (.seq (.reg 1280 3 impl_IsHorn.r7) (.cond (.t 24) (.seq (.reg 1472 2 impl_IsHorn.r8) (.ret)) (.skip)))))) (.reg 1600 2 impl_IsHorn.r9)))
def impl_IsHorn.r10 : List Ent := [
  E0 0 (some 4) none (.i (.mv (.k (.dat none (.bool true))))),
  E0 1 (some 5) none (.i (.mv (.k (.dat none (.bool true)))))]
def impl_IsHorn.fi : FI := { res := [.t 4, .t 5], code := .seq (.reg 64 2 impl_IsHorn.r0) (.seq (.seq (.reg 192 4 impl_IsHorn.r1) (.cond (.t 12) (.seq (.reg 448 2 impl_IsHorn.r2) (.ret)) (.skip))) (.seq (.seq (.reg 576 3 impl_IsHorn.r3) (.block 0 (.loop impl_IsHorn.b0))) (.seq (.reg 1728 2 impl_IsHorn.r10) (.ret)))) }
attribute [go_sem] impl_IsHorn.r0 impl_IsHorn.r1 impl_IsHorn.r2 impl_IsHorn.r3 impl_IsHorn.r4 impl_IsHorn.r5 impl_IsHorn.r6 impl_IsHorn.r7 impl_IsHorn.r8 impl_IsHorn.r9 impl_IsHorn.r10
theorem impl_IsHorn.ok : chkF prog F_impl_IsHorn 2 impl_IsHorn.fi = true := by kernel_rfl

/-! laws_modelOf -/
def laws_modelOf.r0 : List Ent := [
  E0 0 (some 4) none (.i (.mv (.k (.nil 1))))]
def laws_modelOf.r1 : List Ent := [
  E0 0 (some 7) none (.i (.mv (.t 0))),
  E0 1 (some 8) none (.i (.mks 1 1 (.bool false) (.t 7) (.t 7))),
  E0 2 (some 5) none (.i (.mv (.t 8)))]
def laws_modelOf.r2 : List Ent := [
  E0 0 (some 9) none (.i (.mv (.t 5))),
  E0 1 (some 10) none (.i (.len (.t 9))),
  E0 2 (some 11) none (.i (.mv (.k (I64 0))))]
def laws_modelOf.r3 : List Ent := [
  E0 0 (some 12) none (.i (.bin .lss (.t 11) (.t 10)))]
def laws_modelOf.r4 : List Ent := [
  E0 0 (some 13) none (.i (.mv (.t 11))),
  E0 1 (some 6) none (.i (.mv (.t 13)))]
def laws_modelOf.r5 : List Ent := [
  E0 0 (some 14) none (.i (.mv (.t 5))),
  E0 1 (some 15) none (.i (.mv (.t 6))),
  E0 2 (some 16) none (.i (.mv (.t 1))),
  E0 3 (some 17) none (.i (.mv (.t 6))),
  E0 4 (some 18) none (.i (.cnv .u64 (.t 17))),
  E0 5 (some 19) none (.i (.bin .shr (.t 16) (.t 18))),
  E0 6 (some 20) none (.i (.bin .and (.t 19) (.k (I64 1)))),
  E0 7 (some 21) none (.i (.bin .eql (.t 20) (.k (I64 1)))),
  E0 8 (some 22) none (.i (.iad 1 (.t 14) (.t 15))),
  E0 9 none none (.i (.store 1 (.t 22) (.t 21)))]
def laws_modelOf.r6 : List Ent := [
  E0 0 (some 23) none (.i (.bin .add (.t 11) (.k (I64 1)))),
  E0 1 (some 11) none (.i (.mv (.t 23)))]
def laws_modelOf.b0 : KC := .seq (.reg 512 1 laws_modelOf.r3) (.seq (.cond (.t 12) (.skip) (.exit 0)) (.seq (.block 1 (.seq (.reg 576 2 laws_modelOf.r4) (.reg 704 10 laws_modelOf.r5))) (.reg 1344 2 laws_modelOf.r6)))
def laws_modelOf.r7 : List Ent := [
  E0 0 (some 24) none (.i (.mv (.t 5))),
  E0 1 (some 4) none (.i (.mv (.t 24)))]
def laws_modelOf.fi : FI := { res := [.t 4], code := .seq (.reg 64 1 laws_modelOf.r0) (.seq (.reg 128 3 laws_modelOf.r1) (.seq (.seq (.reg 320 3 laws_modelOf.r2) (.block 0 (.loop laws_modelOf.b0))) (.seq (.reg 1472 2 laws_modelOf.r7) (.ret)))) }
attribute [go_sem] laws_modelOf.r0 laws_modelOf.r1 laws_modelOf.r2 laws_modelOf.r3 laws_modelOf.r4 laws_modelOf.r5 laws_modelOf.r6 laws_modelOf.r7
theorem laws_modelOf.ok : chkF prog F_laws_modelOf 2 laws_modelOf.fi = true := by kernel_rfl

/-! spec_DrawHoldsIn -/
def spec_DrawHoldsIn.r0 : List Ent := [
  E0 0 (some 2) none (.i (.mv (.k (I64 0)))),
  E0 1 (some 3) none (.i (.mv (.k (.nil 2)))),
  E0 2 (some 4) none (.i (.mv (.k (.nil 1))))]
def spec_DrawHoldsIn.r1 : List Ent := [
  E0 0 (some 8) none (.i (.mv (.t 0))),
  E0 1 (some 9) none (.i (.bld [.t 8, .k (.dat none (.int .i64 0)), .k (.dat none (.int .u64 0))])),
  E0 2 (some 10) none (.i (.box (.t 9))),
  E0 3 (some 5) none (.i (.mv (.t 10)))]
def spec_DrawHoldsIn.r2 : List Ent := [
  E0 0 (some 12) none (.i (.mv (.t 5))),
  E0 1 (some 13) none (.call F_spec_pl1Cur_rules true [(.io, .t 12)]),
  E0 2 (some 11) none (.i (.mv (.t 13))),
  E0 3 (some 14) none (.i (.ext 0 (.t 11))),
  E0 4 (some 15) none (.i (.ext 1 (.t 11))),
  E0 5 (some 6) none (.i (.mv (.t 14))),
  E0 6 (some 7) none (.i (.mv (.t 15)))]
def spec_DrawHoldsIn.r3 : List Ent := [
  E0 0 (some 16) none (.i (.mv (.t 6))),
  E0 1 (some 17) none (.i (.mv (.t 7))),
  E0 2 (some 18) none (.i (.mv (.t 5))),
  E0 3 (some 19) none (.i (.mv (.t 6))),
  E0 4 (some 20) none (.i (.mv (.t 5))),
  E0 5 (some 21) none (.call F_spec_pl1Cur_pick true [(.io, .t 20), (.ro, .k (I64 20))]),
  E0 6 (some 22) none (.i (.bin .quo (.t 21) (.k (I64 19)))),
  E0 7 (some 23) none (.i (.bin .add (.t 19) (.t 22))),
  E0 8 (some 24) none (.call F_spec_pl1Cur_facts true [(.io, .t 18), (.ro, .t 23)]),
  E0 9 (some 2) none (.i (.mv (.t 16))),
  E0 10 (some 3) none (.i (.mv (.t 17))),
  E0 11 (some 4) none (.i (.mv (.t 24)))]
def spec_DrawHoldsIn.fi : FI := { res := [.t 2, .t 3, .t 4], code := .seq (.reg 64 3 spec_DrawHoldsIn.r0) (.seq (.reg 256 4 spec_DrawHoldsIn.r1) (.seq (.reg 512 7 spec_DrawHoldsIn.r2) (.seq (.reg 960 12 spec_DrawHoldsIn.r3) (.ret)))) }
attribute [go_sem] spec_DrawHoldsIn.r0 spec_DrawHoldsIn.r1 spec_DrawHoldsIn.r2 spec_DrawHoldsIn.r3
theorem spec_DrawHoldsIn.ok : chkF prog F_spec_DrawHoldsIn 1 spec_DrawHoldsIn.fi = true := by kernel_rfl

/-! spec_HoldsIn -/
def spec_HoldsIn.r0 : List Ent := [
  E0 0 (some 6) none (.i (.mv (.k (.dat none (.bool false))))),
  E0 1 (some 7) none (.i (.mv (.k (.dat none (.bool false)))))]
def spec_HoldsIn.r1 : List Ent := [
  E0 0 (some 10) none (.i (.mv (.t 0))),
  E0 1 (some 11) none (.i (.mv (.t 1))),
  E0 2 (some 12) none (.call F_spec_GoodRules false (roA [.t 10, .t 11])),
  E0 3 (some 13) none (.i (.un .not (.t 12))),
  E0 4 (some 14) none (.i (.mv (.t 13))),
  E0 5 (some 15) (some (14, false)) (.i (.mv (.t 0))),
  E0 6 (some 16) (some (14, false)) (.i (.mv (.t 2))),
  E0 7 (some 17) (some (14, false)) (.call F_spec_l16Facts false (roA [.t 15, .t 16])),
  E0 8 (some 18) (some (14, false)) (.i (.un .not (.t 17))),
  E0 9 (some 19) none (.i (.pick (.t 14) (.k (.dat none (.bool true))) (.t 18)))]
def spec_HoldsIn.r2 : List Ent := [
  E0 0 (some 6) none (.i (.mv (.k (.dat none (.bool false))))),
  E0 1 (some 7) none (.i (.mv (.k (.dat none (.bool false)))))]
def spec_HoldsIn.r3 : List Ent := [
  E0 0 (some 20) none (.i (.mv (.t 1))),
  E0 1 (some 21) none (.i (.len (.t 20))),
  E0 2 (some 22) none (.i (.mv (.k (I64 0))))]
def spec_HoldsIn.r4 : List Ent := [
  E0 0 (some 23) none (.i (.bin .lss (.t 22) (.t 21)))]
def spec_HoldsIn.r5 : List Ent := [
  E0 0 (some 24) none (.i (.iad 2 (.t 20) (.t 22))),
  E0 1 (some 25) none (.i (.load false true 2 (.t 24))),
  E0 2 (some 9) none (.i (.box (.k (.agg [.nil 1, .dat none (.int .i64 0)])))),
  E0 3 none none (.i (.store 2 (.t 9) (.t 25)))]
def spec_HoldsIn.r6 : List Ent := [
  E0 0 (some 26) none (.i (.mv (.t 2))),
  E0 1 (some 27) none (.i (.fad 0 (.t 9))),
  E0 2 (some 28) none (.i (.load false false 1 (.t 27))),
  E0 3 (some 29) none (.call F_spec_l16All false (roA [.t 26, .t 28])),
  E0 4 (some 30) none (.i (.mv (.t 29))),
  E0 5 (some 31) (some (30, true)) (.i (.mv (.t 2))),
  E0 6 (some 32) (some (30, true)) (.i (.fad 1 (.t 9))),
  E0 7 (some 33) (some (30, true)) (.i (.load false false 1 (.t 32))),
  E0 8 (some 34) (some (30, true)) (.call F_spec_l1Has false (roA [.t 31, .t 33])),
  E0 9 (some 35) (some (30, true)) (.i (.un .not (.t 34))),
  E0 10 (some 36) none (.i (.pick (.t 30) (.t 35) (.k (.dat none (.bool false)))))]
def spec_HoldsIn.r7 : List Ent := [
  E0 0 (some 6) none (.i (.mv (.k (.dat none (.bool false))))),
  E0 1 (some 7) none (.i (.mv (.k (.dat none (.bool true)))))]
def spec_HoldsIn.r8 : List Ent := [
  E0 0 (some 37) none (.i (.bin .add (.t 22) (.k (I64 1)))),
  E0 1 (some 22) none (.i (.mv (.t 37)))]
def spec_HoldsIn.b0 : KC := .seq (.reg 1152 1 spec_HoldsIn.r4) (.seq (.cond (.t 23) (.skip) (.exit 0)) (.seq (.block 1 (.seq (.reg 1216 4 spec_HoldsIn.r5) (.seq (.reg 1472 11 spec_HoldsIn.r6) (.cond (.t 36) (.seq (.reg 2176 2 spec_HoldsIn.r7) (.ret)) (.skip))))) (.reg 2304 2 spec_HoldsIn.r8)))
def spec_HoldsIn.r9 : List Ent := [
  E0 0 (some 6) none (.i (.mv (.k (.dat none (.bool true))))),
  E0 1 (some 7) none (.i (.mv (.k (.dat none (.bool true)))))]
def spec_HoldsIn.fi : FI := { res := [.t 6, .t 7], code := .seq (.reg 64 2 spec_HoldsIn.r0) (.seq (.seq (.reg 192 10 spec_HoldsIn.r1) (.cond (.t 19) (.seq (.reg 832 2 spec_HoldsIn.r2) (.ret)) (.skip))) (.seq (.seq (.reg 960 3 spec_HoldsIn.r3) (.block 0 (.loop spec_HoldsIn.b0))) (.seq (.reg 2432 2 spec_HoldsIn.r9) (.ret)))) }
attribute [go_sem] spec_HoldsIn.r0 spec_HoldsIn.r1 spec_HoldsIn.r2 spec_HoldsIn.r3 spec_HoldsIn.r4 spec_HoldsIn.r5 spec_HoldsIn.r6 spec_HoldsIn.r7 spec_HoldsIn.r8 spec_HoldsIn.r9
theorem spec_HoldsIn.ok : chkF prog F_spec_HoldsIn 3 spec_HoldsIn.fi = true := by kernel_rfl

/-! laws_FnLeast -/
def laws_FnLeast.r0 : List Ent := [
  E0 0 (some 4) none (.i (.mv (.k (.dat none (.bool false)))))]
def laws_FnLeast.r1 : List Ent := [
  E0 0 (some 36) none (.i (.mv (.t 0))),
  E0 1 (some 37) none (.i (.len (.t 36))),
  E0 2 (some 38) none (.i (.mv (.t 1))),
  E0 3 (some 39) none (.i (.len (.t 38))),
  E0 4 (some 40) none (.i (.bin .add (.t 37) (.t 39))),
  E0 5 (some 41) none (.i (.bin .gtr (.t 40) (.k (I64 1048576))))]
def laws_FnLeast.r2 : List Ent := [
  E0 0 (some 4) none (.i (.mv (.k (.dat none (.bool true)))))]
def laws_FnLeast.r3 : List Ent := [
  E0 0 (some 43) none (.i (.mv (.t 0))),
  E0 1 (some 44) none (.call F_spec_DrawLeastOf false (roA [.t 43])),
  E0 2 (some 42) none (.i (.mv (.t 44))),
  E0 3 (some 45) none (.i (.ext 0 (.t 42))),
  E0 4 (some 46) none (.i (.ext 1 (.t 42))),
  E0 5 (some 5) none (.i (.mv (.t 45))),
  E0 6 (some 6) none (.i (.mv (.t 46)))]
def laws_FnLeast.r4 : List Ent := [
  E0 0 (some 48) none (.i (.mv (.t 5))),
  E0 1 (some 49) none (.i (.mv (.t 6))),
  E0 2 (some 50) none (.call F_impl_LeastOf false (roA [.t 48, .t 49])),
  E0 3 (some 47) none (.i (.mv (.t 50))),
  E0 4 (some 51) none (.i (.ext 0 (.t 47))),
  E0 5 (some 52) none (.i (.ext 1 (.t 47))),
  E0 6 (some 53) none (.i (.ext 2 (.t 47))),
  E0 7 (some 7) none (.i (.mv (.t 51))),
  E0 8 (some 8) none (.i (.mv (.t 52))),
  E0 9 (some 9) none (.i (.mv (.t 53)))]
def laws_FnLeast.r5 : List Ent := [
  E0 0 (some 55) none (.i (.mv (.t 5))),
  E0 1 (some 56) none (.i (.mv (.t 6))),
  E0 2 (some 57) none (.call F_spec_LeastOf false (roA [.t 55, .t 56])),
  E0 3 (some 54) none (.i (.mv (.t 57))),
  E0 4 (some 58) none (.i (.ext 0 (.t 54))),
  E0 5 (some 59) none (.i (.ext 1 (.t 54))),
  E0 6 (some 60) none (.i (.ext 2 (.t 54))),
  E0 7 (some 10) none (.i (.mv (.t 58))),
  E0 8 (some 11) none (.i (.mv (.t 59))),
  E0 9 (some 12) none (.i (.mv (.t 60)))]
def laws_FnLeast.r6 : List Ent := [
  E0 0 (some 61) none (.i (.mv (.t 9))),
  E0 1 (some 62) none (.i (.mv (.t 12))),
  E0 2 (some 63) none (.i (.eqb true (.t 61) (.t 62))),
  E0 3 (some 64) none (.i (.mv (.t 63))),
  E0 4 (some 65) (some (64, false)) (.i (.mv (.t 8))),
  E0 5 (some 66) (some (64, false)) (.i (.mv (.t 11))),
  E0 6 (some 67) (some (64, false)) (.i (.eqb true (.t 65) (.t 66))),
  E0 7 (some 68) none (.i (.pick (.t 64) (.k (.dat none (.bool true))) (.t 67))),
  E0 8 (some 69) none (.i (.mv (.t 68))),
  E0 9 (some 70) (some (69, false)) (.i (.mv (.t 7))),
  E0 10 (some 71) (some (69, false)) (.i (.mv (.t 10))),
  E0 11 (some 72) (some (69, false)) (.call F_laws_sameInts false (roA [.t 70, .t 71])),
  E0 12 (some 73) (some (69, false)) (.i (.un .not (.t 72))),
  E0 13 (some 74) none (.i (.pick (.t 69) (.k (.dat none (.bool true))) (.t 73))),
  E0 14 (some 75) none (.i (.mv (.t 74))),
  E0 15 (some 76) (some (75, false)) (.i (.mv (.t 5))),
  E0 16 (some 77) (some (75, false)) (.i (.mv (.t 6))),
  E0 17 (some 78) (some (75, false)) (.call F_impl_GoodRules false (roA [.t 76, .t 77])),
  E0 18 (some 79) (some (75, false)) (.i (.mv (.t 9))),
  E0 19 (some 80) (some (75, false)) (.i (.eqb true (.t 78) (.t 79))),
  E0 20 (some 81) none (.i (.pick (.t 75) (.k (.dat none (.bool true))) (.t 80)))]
def laws_FnLeast.r7 : List Ent := [
  E0 0 (some 4) none (.i (.mv (.k (.dat none (.bool false)))))]
def laws_FnLeast.r8 : List Ent := [
  E0 0 (some 82) none (.i (.mv (.t 9)))]
def laws_FnLeast.r9 : List Ent := [
  E0 0 (some 84) none (.i (.mv (.t 5))),
  E0 1 (some 85) none (.i (.mv (.t 6))),
  E0 2 (some 86) none (.i (.mv (.t 7))),
  E0 3 (some 87) none (.call F_impl_HoldsIn false (roA [.t 84, .t 85, .t 86])),
  E0 4 (some 83) none (.i (.mv (.t 87))),
  E0 5 (some 88) none (.i (.ext 0 (.t 83))),
  E0 6 (some 89) none (.i (.ext 1 (.t 83))),
  E0 7 (some 13) none (.i (.mv (.t 88))),
  E0 8 (some 14) none (.i (.mv (.t 89)))]
def laws_FnLeast.r10 : List Ent := [
  E0 0 (some 91) none (.i (.mv (.t 5))),
  E0 1 (some 92) none (.i (.mv (.t 6))),
  E0 2 (some 93) none (.call F_impl_RulesAsClauses false (roA [.t 91, .t 92])),
  E0 3 (some 90) none (.i (.mv (.t 93))),
  E0 4 (some 94) none (.i (.ext 0 (.t 90))),
  E0 5 (some 95) none (.i (.ext 1 (.t 90))),
  E0 6 (some 15) none (.i (.mv (.t 94))),
  E0 7 (some 16) none (.i (.mv (.t 95)))]
def laws_FnLeast.r11 : List Ent := [
  E0 0 (some 96) none (.i (.mv (.t 14))),
  E0 1 (some 97) none (.i (.un .not (.t 96))),
  E0 2 (some 98) none (.i (.mv (.t 97))),
  E0 3 (some 99) (some (98, false)) (.i (.mv (.t 13))),
  E0 4 (some 100) (some (98, false)) (.i (.mv (.t 8))),
  E0 5 (some 101) (some (98, false)) (.i (.eqb true (.t 99) (.t 100))),
  E0 6 (some 102) none (.i (.pick (.t 98) (.k (.dat none (.bool true))) (.t 101))),
  E0 7 (some 103) none (.i (.mv (.t 102))),
  E0 8 (some 104) (some (103, false)) (.i (.mv (.t 16))),
  E0 9 (some 105) (some (103, false)) (.i (.un .not (.t 104))),
  E0 10 (some 106) none (.i (.pick (.t 103) (.k (.dat none (.bool true))) (.t 105)))]
def laws_FnLeast.r12 : List Ent := [
  E0 0 (some 4) none (.i (.mv (.k (.dat none (.bool false)))))]
def laws_FnLeast.r13 : List Ent := [
  E0 0 (some 108) none (.i (.mv (.t 5))),
  E0 1 (some 109) none (.i (.mv (.t 15))),
  E0 2 (some 110) none (.call F_impl_IsHorn false (roA [.t 108, .t 109])),
  E0 3 (some 107) none (.i (.mv (.t 110))),
  E0 4 (some 111) none (.i (.ext 0 (.t 107))),
  E0 5 (some 112) none (.i (.ext 1 (.t 107))),
  E0 6 (some 17) none (.i (.mv (.t 111))),
  E0 7 (some 18) none (.i (.mv (.t 112)))]
def laws_FnLeast.r14 : List Ent := [
  E0 0 (some 113) none (.i (.mv (.t 18))),
  E0 1 (some 114) none (.i (.un .not (.t 113))),
  E0 2 (some 115) none (.i (.mv (.t 114))),
  E0 3 (some 116) (some (115, false)) (.i (.mv (.t 17))),
  E0 4 (some 117) (some (115, false)) (.i (.un .not (.t 116))),
  E0 5 (some 118) none (.i (.pick (.t 115) (.k (.dat none (.bool true))) (.t 117)))]
def laws_FnLeast.r15 : List Ent := [
  E0 0 (some 4) none (.i (.mv (.k (.dat none (.bool false)))))]
def laws_FnLeast.r16 : List Ent := [
  E0 0 (some 119) none (.i (.mv (.t 5))),
  E0 1 (some 120) none (.i (.bin .leq (.t 119) (.k (I64 8))))]
def laws_FnLeast.r17 : List Ent := [
  E0 0 (some 19) none (.i (.mv (.k (.dat none (.bool false)))))]
def laws_FnLeast.r18 : List Ent := [
  E0 0 (some 20) none (.i (.mv (.k (I64 0))))]
def laws_FnLeast.r19 : List Ent := [
  E0 0 (some 121) none (.i (.mv (.t 20))),
  E0 1 (some 122) none (.i (.mv (.t 5))),
  E0 2 (some 123) none (.i (.cnv .u64 (.t 122))),
  E0 3 (some 124) none (.i (.bin .shl (.k (I64 1)) (.t 123))),
  E0 4 (some 125) none (.i (.bin .lss (.t 121) (.t 124)))]
def laws_FnLeast.r20 : List Ent := [
  E0 0 (some 128) none (.i (.mv (.t 5))),
  E0 1 (some 129) none (.i (.mv (.t 20))),
  E0 2 (some 130) none (.call F_laws_modelOf false (roA [.t 128, .t 129])),
  E0 3 (some 21) none (.i (.mv (.t 130)))]
def laws_FnLeast.r21 : List Ent := [
  E0 0 (some 22) none (.i (.mv (.k (.nil 1))))]
def laws_FnLeast.r22 : List Ent := [
  E0 0 (some 131) none (.i (.mv (.t 21))),
  E0 1 (some 132) none (.i (.len (.t 131))),
  E0 2 (some 133) none (.i (.mv (.k (I64 0))))]
def laws_FnLeast.r23 : List Ent := [
  E0 0 (some 134) none (.i (.bin .lss (.t 133) (.t 132)))]
def laws_FnLeast.r24 : List Ent := [
  E0 0 (some 135) none (.i (.mv (.t 133))),
  E0 1 (some 136) none (.i (.iad 1 (.t 131) (.t 133))),
  E0 2 (some 137) none (.i (.load false false 1 (.t 136))),
  E0 3 (some 23) none (.i (.mv (.t 135))),
  E0 4 (some 24) none (.i (.mv (.t 137)))]
def laws_FnLeast.r25 : List Ent := [
  E0 0 (some 138) none (.i (.mv (.t 24)))]
def laws_FnLeast.r26 : List Ent := [
  E0 0 (some 139) none (.i (.mv (.t 22))),
  E0 1 (some 140) none (.i (.mv (.t 23))),
  E0 2 (some 141) none (.i (.bin .add (.t 140) (.k (I64 1)))),
  E0 3 (some 142) none (.i (.bsl true 1 [.t 141])),
  E0 4 (some 143) none (.i (.app 1 8 (.t 139) (.t 142))),
  E0 5 (some 22) none (.i (.mv (.t 143)))]
def laws_FnLeast.r27 : List Ent := [
  E0 0 (some 144) none (.i (.bin .add (.t 133) (.k (I64 1)))),
  E0 1 (some 133) none (.i (.mv (.t 144)))]
def laws_FnLeast.b0 : KC := .seq (.reg 7680 1 laws_FnLeast.r23) (.seq (.cond (.t 134) (.skip) (.exit 2)) (.seq (.block 3 (.seq (.reg 7744 5 laws_FnLeast.r24) (.seq (.reg 8064 1 laws_FnLeast.r25) (.cond (.t 138) (.reg 8128 6 laws_FnLeast.r26) (.skip))))) (.reg 8512 2 laws_FnLeast.r27)))
def laws_FnLeast.r28 : List Ent := [
  E0 0 (some 146) none (.i (.mv (.t 5))),
  E0 1 (some 147) none (.i (.mv (.t 6))),
  E0 2 (some 148) none (.i (.mv (.t 22))),
  E0 3 (some 149) none (.call F_impl_HoldsIn false (roA [.t 146, .t 147, .t 148])),
  E0 4 (some 145) none (.i (.mv (.t 149))),
  E0 5 (some 150) none (.i (.ext 0 (.t 145))),
  E0 6 (some 151) none (.i (.ext 1 (.t 145))),
  E0 7 (some 25) none (.i (.mv (.t 150))),
  E0 8 (some 26) none (.i (.mv (.t 151)))]
def laws_FnLeast.r29 : List Ent := [
  E0 0 (some 153) none (.i (.mv (.t 5))),
  E0 1 (some 154) none (.i (.mv (.t 15))),
  E0 2 (some 155) none (.i (.mv (.t 21))),
  E0 3 (some 156) none (.call F_impl_HoldsAll false (roA [.t 153, .t 154, .t 155])),
  E0 4 (some 152) none (.i (.mv (.t 156))),
  E0 5 (some 157) none (.i (.ext 0 (.t 152))),
  E0 6 (some 158) none (.i (.ext 1 (.t 152))),
  E0 7 (some 27) none (.i (.mv (.t 157))),
  E0 8 (some 28) none (.i (.mv (.t 158)))]
def laws_FnLeast.r30 : List Ent := [
  E0 0 (some 159) none (.i (.mv (.t 26))),
  E0 1 (some 160) none (.i (.un .not (.t 159))),
  E0 2 (some 161) none (.i (.mv (.t 160))),
  E0 3 (some 162) (some (161, false)) (.i (.mv (.t 28))),
  E0 4 (some 163) (some (161, false)) (.i (.un .not (.t 162))),
  E0 5 (some 164) none (.i (.pick (.t 161) (.k (.dat none (.bool true))) (.t 163))),
  E0 6 (some 165) none (.i (.mv (.t 164))),
  E0 7 (some 166) (some (165, false)) (.i (.mv (.t 25))),
  E0 8 (some 167) (some (165, false)) (.i (.mv (.t 27))),
  E0 9 (some 168) (some (165, false)) (.i (.eqb true (.t 166) (.t 167))),
  E0 10 (some 169) none (.i (.pick (.t 165) (.k (.dat none (.bool true))) (.t 168))),
  E0 11 (some 170) none (.i (.mv (.t 169))),
  E0 12 (some 171) (some (170, false)) (.i (.mv (.t 25))),
  E0 13 (some 172) (some (170, false)) (.i (.mv (.t 171))),
  E0 14 (some 173) (some (172, true)) (.i (.mv (.t 7))),
  E0 15 (some 174) (some (172, true)) (.i (.mv (.t 21))),
  E0 16 (some 175) (some (172, true)) (.call F_laws_allIn false (roA [.t 173, .t 174])),
  E0 17 (some 176) (some (172, true)) (.i (.un .not (.t 175))),
  E0 18 (some 177) (some (170, false)) (.i (.pick (.t 172) (.t 176) (.k (.dat none (.bool false))))),
  E0 19 (some 178) none (.i (.pick (.t 170) (.k (.dat none (.bool true))) (.t 177)))]
def laws_FnLeast.r31 : List Ent := [
  E0 0 (some 4) none (.i (.mv (.k (.dat none (.bool false)))))]
def laws_FnLeast.r32 : List Ent := [
  E0 0 (some 179) none (.i (.mv (.t 19))),
  E0 1 (some 180) none (.i (.mv (.t 179))),
  E0 2 (some 181) (some (180, false)) (.i (.mv (.t 25))),
  E0 3 (some 182) none (.i (.pick (.t 180) (.k (.dat none (.bool true))) (.t 181))),
  E0 4 (some 19) none (.i (.mv (.t 182)))]
def laws_FnLeast.r33 : List Ent := [
  E0 0 (some 126) none (.i (.mv (.t 20))),
  E0 1 (some 127) none (.i (.bin .add (.t 126) (.k (I64 1)))),
  E0 2 (some 20) none (.i (.mv (.t 127)))]
def laws_FnLeast.b1 : KC := .seq (.seq (.reg 6848 5 laws_FnLeast.r19) (.cond (.t 125) (.skip) (.exit 0))) (.seq (.block 1 (.seq (.reg 7168 4 laws_FnLeast.r20) (.seq (.reg 7424 1 laws_FnLeast.r21) (.seq (.seq (.reg 7488 3 laws_FnLeast.r22) (.nrm 22 8384 1 (.block 2 (.loop laws_FnLeast.b0)))) (.seq (.reg 8640 9 laws_FnLeast.r28) (.seq (.reg 9216 9 laws_FnLeast.r29) (.seq (.seq (.reg 9792 20 laws_FnLeast.r30) (.cond (.t 178) (.seq (.reg 11072 1 laws_FnLeast.r31) (.ret)) (.skip))) (.reg 11136 5 laws_FnLeast.r32)))))))) (.reg 11456 3 laws_FnLeast.r33))
def laws_FnLeast.r34 : List Ent := [
  E0 0 (some 183) none (.i (.mv (.t 19))),
  E0 1 (some 184) none (.i (.mv (.t 8))),
  E0 2 (some 185) none (.i (.eqb true (.t 183) (.t 184)))]
def laws_FnLeast.r35 : List Ent := [
  E0 0 (some 4) none (.i (.mv (.k (.dat none (.bool false)))))]
def laws_FnLeast.r36 : List Ent := [
  E0 0 (some 187) none (.i (.mv (.t 1))),
  E0 1 (some 188) none (.call F_spec_DrawHoldsIn false (roA [.t 187])),
  E0 2 (some 186) none (.i (.mv (.t 188))),
  E0 3 (some 189) none (.i (.ext 0 (.t 186))),
  E0 4 (some 190) none (.i (.ext 1 (.t 186))),
  E0 5 (some 191) none (.i (.ext 2 (.t 186))),
  E0 6 (some 29) none (.i (.mv (.t 189))),
  E0 7 (some 30) none (.i (.mv (.t 190))),
  E0 8 (some 31) none (.i (.mv (.t 191)))]
def laws_FnLeast.r37 : List Ent := [
  E0 0 (some 193) none (.i (.mv (.t 29))),
  E0 1 (some 194) none (.i (.mv (.t 30))),
  E0 2 (some 195) none (.i (.mv (.t 31))),
  E0 3 (some 196) none (.call F_impl_HoldsIn false (roA [.t 193, .t 194, .t 195])),
  E0 4 (some 192) none (.i (.mv (.t 196))),
  E0 5 (some 197) none (.i (.ext 0 (.t 192))),
  E0 6 (some 198) none (.i (.ext 1 (.t 192))),
  E0 7 (some 32) none (.i (.mv (.t 197))),
  E0 8 (some 33) none (.i (.mv (.t 198)))]
def laws_FnLeast.r38 : List Ent := [
  E0 0 (some 200) none (.i (.mv (.t 29))),
  E0 1 (some 201) none (.i (.mv (.t 30))),
  E0 2 (some 202) none (.i (.mv (.t 31))),
  E0 3 (some 203) none (.call F_spec_HoldsIn false (roA [.t 200, .t 201, .t 202])),
  E0 4 (some 199) none (.i (.mv (.t 203))),
  E0 5 (some 204) none (.i (.ext 0 (.t 199))),
  E0 6 (some 205) none (.i (.ext 1 (.t 199))),
  E0 7 (some 34) none (.i (.mv (.t 204))),
  E0 8 (some 35) none (.i (.mv (.t 205)))]
def laws_FnLeast.r39 : List Ent := [
  E0 0 (some 206) none (.i (.mv (.t 33))),
  E0 1 (some 207) none (.i (.mv (.t 35))),
  E0 2 (some 208) none (.i (.eqb false (.t 206) (.t 207))),
  E0 3 (some 209) none (.i (.mv (.t 208))),
  E0 4 (some 210) (some (209, true)) (.i (.mv (.t 32))),
  E0 5 (some 211) (some (209, true)) (.i (.mv (.t 34))),
  E0 6 (some 212) (some (209, true)) (.i (.eqb false (.t 210) (.t 211))),
  E0 7 (some 213) none (.i (.pick (.t 209) (.t 212) (.k (.dat none (.bool false))))),
  E0 8 (some 4) none (.i (.mv (.t 213)))]
def laws_FnLeast.fi : FI := { res := [.t 4], code := .seq (.reg 64 1 laws_FnLeast.r0) (.seq (.seq (.reg 128 6 laws_FnLeast.r1) (.cond (.t 41) (.seq (.reg 512 1 laws_FnLeast.r2) (.ret)) (.skip))) (.seq (.reg 576 7 laws_FnLeast.r3) (.seq (.fz 6 (.reg 1024 10 laws_FnLeast.r4)) (.seq (.reg 1664 10 laws_FnLeast.r5) (.seq (.seq (.reg 2304 21 laws_FnLeast.r6) (.cond (.t 81) (.seq (.reg 3648 1 laws_FnLeast.r7) (.ret)) (.skip))) (.seq (.seq (.reg 3712 1 laws_FnLeast.r8) (.cond (.t 82) (.seq (.fz 7 (.reg 3776 9 laws_FnLeast.r9)) (.seq (.reg 4352 8 laws_FnLeast.r10) (.seq (.seq (.reg 4864 11 laws_FnLeast.r11) (.cond (.t 106) (.seq (.reg 5568 1 laws_FnLeast.r12) (.ret)) (.skip))) (.seq (.fz 15 (.reg 5632 8 laws_FnLeast.r13)) (.seq (.seq (.reg 6144 6 laws_FnLeast.r14) (.cond (.t 118) (.seq (.reg 6528 1 laws_FnLeast.r15) (.ret)) (.skip))) (.seq (.reg 6592 2 laws_FnLeast.r16) (.cond (.t 120) (.seq (.reg 6720 1 laws_FnLeast.r17) (.seq (.seq (.reg 6784 1 laws_FnLeast.r18) (.nrm 22 8384 1 (.block 0 (.loop laws_FnLeast.b1)))) (.seq (.reg 11648 3 laws_FnLeast.r34) (.cond (.t 185) (.seq (.reg 11840 1 laws_FnLeast.r35) (.ret)) (.skip))))) (.skip)))))))) (.skip))) (.seq (.reg 11904 9 laws_FnLeast.r36) (.seq (.reg 12480 9 laws_FnLeast.r37) (.seq (.reg 13056 9 laws_FnLeast.r38) (.seq (.reg 13632 9 laws_FnLeast.r39) (.ret))))))))))) }
attribute [go_sem] laws_FnLeast.r0 laws_FnLeast.r1 laws_FnLeast.r2 laws_FnLeast.r3 laws_FnLeast.r4 laws_FnLeast.r5 laws_FnLeast.r6 laws_FnLeast.r7 laws_FnLeast.r8 laws_FnLeast.r9 laws_FnLeast.r10 laws_FnLeast.r11 laws_FnLeast.r12 laws_FnLeast.r13 laws_FnLeast.r14 laws_FnLeast.r15 laws_FnLeast.r16 laws_FnLeast.r17 laws_FnLeast.r18 laws_FnLeast.r19 laws_FnLeast.r20 laws_FnLeast.r21 laws_FnLeast.r22 laws_FnLeast.r23 laws_FnLeast.r24 laws_FnLeast.r25 laws_FnLeast.r26 laws_FnLeast.r27 laws_FnLeast.r28 laws_FnLeast.r29 laws_FnLeast.r30 laws_FnLeast.r31 laws_FnLeast.r32 laws_FnLeast.r33 laws_FnLeast.r34 laws_FnLeast.r35 laws_FnLeast.r36 laws_FnLeast.r37 laws_FnLeast.r38 laws_FnLeast.r39
theorem laws_FnLeast.ok : chkF prog F_laws_FnLeast 2 laws_FnLeast.fi = true := by kernel_rfl

/-! spec_l1Put_co -/
def spec_l1Put_co.r0 : List Ent := [
  E0 0 (some 4) none (.i (.mv (.k (.nil 1))))]
def spec_l1Put_co.r1 : List Ent := [
  E0 0 (some 5) none (.i (.mv (.k (I64 0))))]
def spec_l1Put_co.r2 : List Ent := [
  E0 0 (some 7) none (.i (.mv (.t 5))),
  E0 1 (some 8) none (.i (.mv (.t 0))),
  E0 2 (some 9) none (.i (.len (.t 8))),
  E0 3 (some 10) none (.i (.bin .lss (.t 7) (.t 9))),
  E0 4 (some 11) none (.i (.mv (.t 10))),
  E0 5 (some 12) (some (11, true)) (.i (.mv (.t 0))),
  E0 6 (some 13) (some (11, true)) (.i (.mv (.t 5))),
  E0 7 (some 14) (some (11, true)) (.i (.iad 1 (.t 12) (.t 13))),
  E0 8 (some 15) (some (11, true)) (.i (.load false false 1 (.t 14))),
  E0 9 (some 16) (some (11, true)) (.i (.mv (.t 1))),
  E0 10 (some 17) (some (11, true)) (.i (.bin .lss (.t 15) (.t 16))),
  E0 11 (some 18) none (.i (.pick (.t 11) (.t 17) (.k (.dat none (.bool false)))))]
def spec_l1Put_co.r3 : List Ent := [
  E0 0 (some 19) none (.i (.mv (.t 5))),
  E0 1 (some 20) none (.i (.bin .add (.t 19) (.k (I64 1)))),
  E0 2 (some 5) none (.i (.mv (.t 20)))]
def spec_l1Put_co.b0 : KC := .seq (.seq (.reg 192 12 spec_l1Put_co.r2) (.cond (.t 18) (.skip) (.exit 0))) (.block 1 (.reg 960 3 spec_l1Put_co.r3))
def spec_l1Put_co.r4 : List Ent := [
  E0 0 (some 21) none (.i (.mv (.t 5))),
  E0 1 (some 22) none (.i (.mv (.t 0))),
  E0 2 (some 23) none (.i (.len (.t 22))),
  E0 3 (some 24) none (.i (.bin .lss (.t 21) (.t 23))),
  E0 4 (some 25) none (.i (.mv (.t 24))),
  E0 5 (some 26) (some (25, true)) (.i (.mv (.t 0))),
  E0 6 (some 27) (some (25, true)) (.i (.mv (.t 5))),
  E0 7 (some 28) (some (25, true)) (.i (.iad 1 (.t 26) (.t 27))),
  E0 8 (some 29) (some (25, true)) (.i (.load false false 1 (.t 28))),
  E0 9 (some 30) (some (25, true)) (.i (.mv (.t 1))),
  E0 10 (some 31) (some (25, true)) (.i (.bin .eql (.t 29) (.t 30))),
  E0 11 (some 32) none (.i (.pick (.t 25) (.t 31) (.k (.dat none (.bool false)))))]
def spec_l1Put_co.r5 : List Ent := [
  E0 0 (some 33) none (.i (.mv (.t 0))),
  E0 1 (some 4) none (.i (.mv (.t 33)))]
def spec_l1Put_co.r6 : List Ent := [
  E0 0 (some 34) none (.i (.bsl false 1 [])),
  E0 1 (some 35) none (.i (.mv (.t 0))),
  E0 2 (some 36) none (.i (.mv (.t 5))),
  E0 3 (some 37) none (.i (.slc 1 (.t 35) (none) (some (.t 36)))),
  E0 4 (some 38) none (.i (.app 1 8 (.t 34) (.t 37))),
  E0 5 (some 6) none (.i (.mv (.t 38)))]
def spec_l1Put_co.r7 : List Ent := [
  E0 0 (some 39) none (.i (.mv (.t 6))),
  E0 1 (some 40) none (.i (.mv (.t 1))),
  E0 2 (some 41) none (.i (.bsl true 1 [.t 40])),
  E0 3 (some 42) none (.i (.app 1 8 (.t 39) (.t 41))),
  E0 4 (some 6) none (.i (.mv (.t 42)))]
def spec_l1Put_co.r8 : List Ent := [
  E0 0 (some 43) none (.i (.mv (.t 6))),
  E0 1 (some 44) none (.i (.mv (.t 0))),
  E0 2 (some 45) none (.i (.mv (.t 5))),
  E0 3 (some 46) none (.i (.slc 1 (.t 44) (some (.t 45)) (none))),
  E0 4 (some 47) none (.i (.app 1 8 (.t 43) (.t 46))),
  E0 5 (some 4) none (.i (.mv (.t 47)))]
def spec_l1Put_co.fi : FI := { res := [.t 4], code := .seq (.reg 64 1 spec_l1Put_co.r0) (.seq (.reg 128 1 spec_l1Put_co.r1) (.seq (.block 0 (.loop spec_l1Put_co.b0)) (.seq (.seq (.reg 1152 12 spec_l1Put_co.r4) (.cond (.t 32) (.seq (.reg 1920 2 spec_l1Put_co.r5) (.ret)) (.skip))) (.seq (.reg 2048 6 spec_l1Put_co.r6) (.seq (.reg 2432 5 spec_l1Put_co.r7) (.seq (.reg 2752 6 spec_l1Put_co.r8) (.ret))))))) }
attribute [go_sem] spec_l1Put_co.r0 spec_l1Put_co.r1 spec_l1Put_co.r2 spec_l1Put_co.r3 spec_l1Put_co.r4 spec_l1Put_co.r5 spec_l1Put_co.r6 spec_l1Put_co.r7 spec_l1Put_co.r8
theorem spec_l1Put_co.ok : chkF prog F_spec_l1Put 2 spec_l1Put_co.fi = true := by kernel_rfl
end Go.Vm.Ytdebllkmblakkaa
