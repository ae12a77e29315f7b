/- The functions that the law reaches, in the text of the interpreter, and that this text fits them (no condition). -/
import Derived.Test.YtdebllkmblakkaaVmc
import Derived.Test.YtdebllkmblakkaaProg
import Derived.KernelRfl
/- PRINTED BY irgen.py, a program of this claim's author: the functions that the claim reaches, in the text of the interpreter, and that they fit. -/
namespace Go.Vm.Ytdebllkmblakkaa
open Go Go.Vm
set_option linter.unusedVariables false
set_option maxRecDepth 100000
noncomputable abbrev prog : Program := Go.Proofs.Try.prog
abbrev F_laws_FnExactOpposed : FuncId := 3
abbrev F_laws_FnExactLeadsTo : FuncId := 4
abbrev F_laws_FnExactFixed : FuncId := 5
abbrev F_laws_FnExactLoopsOf : FuncId := 6
abbrev F_laws_FnExactSolveTwo : FuncId := 7
abbrev F_laws_FnLeads : FuncId := 8
abbrev F_laws_FnTwos : FuncId := 9
abbrev F_laws_FnLeast : FuncId := 10
abbrev F_laws_FnHorn : FuncId := 11
abbrev F_laws_FnEnough : FuncId := 12
abbrev F_laws_FnLaidOut : FuncId := 13
abbrev F_laws_szIntSS : FuncId := 14
abbrev F_spec_Opposed : FuncId := 15
abbrev F_laws_toIntSS : FuncId := 16
abbrev F_impl_Opposed : FuncId := 17
abbrev F_laws_eqIntSS : FuncId := 18
abbrev F_spec_LeadsTo : FuncId := 19
abbrev F_impl_LeadsTo : FuncId := 20
abbrev F_laws_eqIntS : FuncId := 21
abbrev F_laws_markIntSS : FuncId := 22
abbrev F_laws_markIntS : FuncId := 23
abbrev F_laws_heldIntS : FuncId := 24
abbrev F_spec_Fixed : FuncId := 25
abbrev F_impl_Fixed : FuncId := 26
abbrev F_spec_LoopsOf : FuncId := 27
abbrev F_impl_LoopsOf : FuncId := 28
abbrev F_laws_heldIntSS : FuncId := 29
abbrev F_spec_SolveTwo : FuncId := 30
abbrev F_impl_SolveTwo : FuncId := 31
abbrev F_laws_eqBoolS : FuncId := 32
abbrev F_laws_markBoolS : FuncId := 33
abbrev F_laws_heldBoolS : FuncId := 34
abbrev F_spec_DrawLeadsTo : FuncId := 35
abbrev F_laws_sameInts : FuncId := 36
abbrev F_laws_has : FuncId := 37
abbrev F_spec_DrawLoopsOf : FuncId := 38
abbrev F_spec_DrawTwoOf : FuncId := 39
abbrev F_impl_TwoOf : FuncId := 40
abbrev F_spec_TwoOf : FuncId := 41
abbrev F_laws_sameRows : FuncId := 42
abbrev F_spec_DrawSolveTwo : FuncId := 43
abbrev F_laws_sameBools : FuncId := 44
abbrev F_impl_IsTwo : FuncId := 45
abbrev F_impl_CountModels : FuncId := 46
abbrev F_impl_Solve : FuncId := 47
abbrev F_impl_HoldsAll : FuncId := 48
abbrev F_laws_allIn : FuncId := 49
abbrev F_impl_SolveWith : FuncId := 50
abbrev F_spec_DrawFixed : FuncId := 51
abbrev F_spec_DrawLeastOf : FuncId := 52
abbrev F_impl_LeastOf : FuncId := 53
abbrev F_spec_LeastOf : FuncId := 54
abbrev F_impl_GoodRules : FuncId := 55
abbrev F_impl_HoldsIn : FuncId := 56
abbrev F_impl_RulesAsClauses : FuncId := 57
abbrev F_impl_IsHorn : FuncId := 58
abbrev F_laws_modelOf : FuncId := 59
abbrev F_spec_DrawHoldsIn : FuncId := 60
abbrev F_spec_HoldsIn : FuncId := 61
abbrev F_spec_DrawWhyOf : FuncId := 62
abbrev F_impl_WhyOf : FuncId := 63
abbrev F_spec_WhyOf : FuncId := 64
abbrev F_laws_listOf : FuncId := 65
abbrev F_laws_numberOf : FuncId := 66
abbrev F_impl_MeetOf : FuncId := 67
abbrev F_spec_DrawMeetOf : FuncId := 68
abbrev F_spec_MeetOf : FuncId := 69
abbrev F_spec_DrawRulesAsClauses : FuncId := 70
abbrev F_spec_RulesAsClauses : FuncId := 71
abbrev F_spec_DrawIsHorn : FuncId := 72
abbrev F_spec_IsHorn : FuncId := 73
abbrev F_laws_sameRules : FuncId := 74
abbrev F_spec_DrawEnoughFor : FuncId := 75
abbrev F_impl_EnoughFor : FuncId := 76
abbrev F_spec_EnoughFor : FuncId := 77
abbrev F_impl_ReachWithin : FuncId := 78
abbrev F_spec_DrawWalksOf : FuncId := 79
abbrev F_impl_WalksOf : FuncId := 80
abbrev F_spec_WalksOf : FuncId := 81
abbrev F_laws_hasArc : FuncId := 82
abbrev F_spec_DrawReachWithin : FuncId := 83
abbrev F_spec_ReachWithin : FuncId := 84
abbrev F_spec_DrawIsWalk : FuncId := 85
abbrev F_impl_IsWalk : FuncId := 86
abbrev F_spec_IsWalk : FuncId := 87
abbrev F_impl_LaidWalk : FuncId := 88
abbrev F_spec_LaidWalk : FuncId := 89
abbrev F_impl_LayOut : FuncId := 90
abbrev F_spec_DrawLayOut : FuncId := 91
abbrev F_spec_LayOut : FuncId := 92
abbrev F_impl_BackArcs : FuncId := 93
abbrev F_spec_BackArcs : FuncId := 94
abbrev F_laws_sameArcs : FuncId := 95
abbrev F_impl_GoodArcs : FuncId := 96
abbrev F_laws_szIntS : FuncId := 97
abbrev F_spec_IsTwo : FuncId := 98
abbrev F_spec_l15Opposed : FuncId := 99
abbrev F_laws_toIntS : FuncId := 100
abbrev F_impl_opposed : FuncId := 101
abbrev F_spec_l1In : FuncId := 102
abbrev F_spec_l15Leads : FuncId := 103
abbrev F_impl_isLiteral : FuncId := 104
abbrev F_impl_leadsTo : FuncId := 105
abbrev F_spec_l1Has : FuncId := 106
abbrev F_impl_leads : FuncId := 107
abbrev F_slices_DeleteFunc__sint_int : FuncId := 108
abbrev F_impl_LoopsOf_c1 : FuncId := 109
abbrev F_spec_l1Put : FuncId := 110
abbrev F_slices_Contains__sint_int : FuncId := 111
abbrev F_spec_pl1Cur_twos : FuncId := 112
abbrev F_spec_pl1Cur_pick : FuncId := 113
abbrev F_spec_DrawIsTwo : FuncId := 114
abbrev F_spec_pl1Cur_one : FuncId := 115
abbrev F_impl_in : FuncId := 116
abbrev F_impl_isClause : FuncId := 117
abbrev F_spec_l4Clause : FuncId := 118
abbrev F_impl_GoodClauses : FuncId := 119
abbrev F_slices_ContainsFunc__ssint_sint : FuncId := 120
abbrev F_impl_IsTwo_c1 : FuncId := 121
abbrev F_impl_countModels : FuncId := 122
abbrev F_impl_solve : FuncId := 123
abbrev F_impl_holds : FuncId := 124
abbrev F_slices_Concat__ssint_sint : FuncId := 125
abbrev F_impl_units : FuncId := 126
abbrev F_spec_DrawGoodRules : FuncId := 127
abbrev F_impl_least : FuncId := 128
abbrev F_slices_ContainsFunc__sRule_Rule : FuncId := 129
abbrev F_impl_LeastOf_c1 : FuncId := 130
abbrev F_impl_Rule_met : FuncId := 131
abbrev F_impl_list : FuncId := 132
abbrev F_impl_LeastOf_c2 : FuncId := 133
abbrev F_spec_GoodRules : FuncId := 134
abbrev F_spec_l16Least : FuncId := 135
abbrev F_impl_GoodRules_c1 : FuncId := 136
abbrev F_impl_areFacts : FuncId := 137
abbrev F_impl_HoldsIn_c1 : FuncId := 138
abbrev F_impl_learn : FuncId := 139
abbrev F_slices_Clone__sint_int : FuncId := 140
abbrev F_impl_IsHorn_c1 : FuncId := 141
abbrev F_spec_pl1Cur_rules : FuncId := 142
abbrev F_spec_pl1Cur_facts : FuncId := 143
abbrev F_spec_l16Facts : FuncId := 144
abbrev F_spec_l16All : FuncId := 145
abbrev F_slices_IndexFunc__sint_int : FuncId := 146
abbrev F_impl_WhyOf_c1 : FuncId := 147
abbrev F_impl_MeetOf_c1 : FuncId := 148
abbrev F_spec_l5Negate : FuncId := 149
abbrev F_spec_DrawGoodClauses : FuncId := 150
abbrev F_spec_GoodClauses : FuncId := 151
abbrev F_slices_Equal__sbool_bool : FuncId := 152
abbrev F_impl_within : FuncId := 153
abbrev F_spec_GoodArcs : FuncId := 154
abbrev F_spec_l12Reach : FuncId := 155
abbrev F_impl_ReachWithin_c1 : FuncId := 156
abbrev F_spec_pl1Cur_arcs : FuncId := 157
abbrev F_spec_pl1Cur_walk : FuncId := 158
abbrev F_impl_isVertices : FuncId := 159
abbrev F_slices_Contains__sArc_Arc : FuncId := 160
abbrev F_spec_l12Walk : FuncId := 161
abbrev F_spec_l12Arc : FuncId := 162
abbrev F_impl_isSpots : FuncId := 163
abbrev F_impl_BackArcs_c1 : FuncId := 164
abbrev F_spec_l15Next : FuncId := 165
abbrev F_slices_Sort__sint_int : FuncId := 166
abbrev F_slices_Index__sint_int : FuncId := 167
abbrev F_spec_pl1Cur_among : FuncId := 168
abbrev F_spec_pl1Cur_lit : FuncId := 169
abbrev F_spec_CleanClause : FuncId := 170
abbrev F_spec_pl1Cur_among3 : FuncId := 171
abbrev F_spec_pl1Cur_next : FuncId := 172
abbrev F_slices_ContainsFunc__sint_int : FuncId := 173
abbrev F_impl_isClause_c1 : FuncId := 174
abbrev F_impl_variable : FuncId := 175
abbrev F_impl_areClauses : FuncId := 176
abbrev F_slices_IndexFunc__ssint_sint : FuncId := 177
abbrev F_impl_model : FuncId := 178
abbrev F_impl_propagate : FuncId := 179
abbrev F_impl_decide : FuncId := 180
abbrev F_impl_holds_c1 : FuncId := 181
abbrev F_slices_Grow__ssint_sint : FuncId := 182
abbrev F_slices_IndexFunc__sRule_Rule : FuncId := 183
abbrev F_impl_least_c1 : FuncId := 184
abbrev F_impl_Rule_met_c1 : FuncId := 185
abbrev F_spec_l1Least : FuncId := 186
abbrev F_spec_l1Rising : FuncId := 187
abbrev F_spec_pl1Cur_clauses : FuncId := 188
abbrev F_spec_l4Good : FuncId := 189
abbrev F_slices_Clone__sbool_bool : FuncId := 190
abbrev F_impl_isVertices_c1 : FuncId := 191
abbrev F_slices_Index__sArc_Arc : FuncId := 192
abbrev F_spec_l1All : FuncId := 193
abbrev F_slices_pdqsortOrdered__int : FuncId := 194
abbrev F_bits_Len : FuncId := 195
abbrev F_impl_areClauses_c1 : FuncId := 196
abbrev F_impl_meets : FuncId := 197
abbrev F_impl_without : FuncId := 198
abbrev F_slices_insertionSortOrdered__int : FuncId := 199
abbrev F_slices_heapSortOrdered__int : FuncId := 200
abbrev F_slices_breakPatternsOrdered__int : FuncId := 201
abbrev F_slices_choosePivotOrdered__int : FuncId := 202
abbrev F_slices_reverseRangeOrdered__int : FuncId := 203
abbrev F_slices_partialInsertionSortOrdered__int : FuncId := 204
abbrev F_cmp_Less__int : FuncId := 205
abbrev F_slices_partitionEqualOrdered__int : FuncId := 206
abbrev F_slices_partitionOrdered__int : FuncId := 207
abbrev F_bits_Len32 : FuncId := 208
abbrev F_bits_Len64 : FuncId := 209
abbrev F_impl_meets_c1 : FuncId := 210
abbrev F_impl_without_c1 : FuncId := 211
abbrev F_slices_siftDownOrdered__int : FuncId := 212
abbrev F_slices_nextPowerOfTwo : FuncId := 213
abbrev F_slices_pxorshift_Next : FuncId := 214
abbrev F_slices_medianAdjacentOrdered__int : FuncId := 215
abbrev F_slices_medianOrdered__int : FuncId := 216
abbrev F_cmp_isNaN__int : FuncId := 217
abbrev F_slices_order2Ordered__int : FuncId := 218
abbrev F_runtime_boundsError_Error : FuncId := 219
abbrev F_runtime_boundsError_RuntimeError : FuncId := 220
abbrev F_runtime_errorString_Error : FuncId := 221
abbrev F_runtime_errorString_RuntimeError : FuncId := 222
abbrev F_runtime_plainError_Error : FuncId := 223
abbrev F_runtime_plainError_RuntimeError : FuncId := 224
abbrev F_runtime_errorAddressString_Error : FuncId := 225
abbrev F_runtime_errorAddressString_RuntimeError : FuncId := 226
abbrev F_runtime_pTypeAssertionError_Error : FuncId := 227
abbrev F_runtime_pTypeAssertionError_RuntimeError : FuncId := 228
abbrev F_runtime_pPanicNilError_Error : FuncId := 229
abbrev F_runtime_pPanicNilError_RuntimeError : FuncId := 230
abbrev F_abi_pType_Align : FuncId := 231
abbrev F_maps_unhashableTypeError_Error : FuncId := 232
abbrev F_maps_unhashableTypeError_RuntimeError : FuncId := 233
abbrev F_abi_Kind_String : FuncId := 234

/-! spec_l1In -/
def spec_l1In.r0 : List Ent := [
  E0 0 (some 6) none (.i (.mv (.k (.dat none (.bool false)))))]
def spec_l1In.r1 : List Ent := [
  E0 0 (some 7) none (.i (.mv (.t 0))),
  E0 1 (some 8) none (.i (.mv (.t 1))),
  E0 2 (some 9) none (.i (.bin .geq (.t 7) (.t 8))),
  E0 3 (some 10) none (.i (.mv (.t 9))),
  E0 4 (some 11) (some (10, true)) (.i (.mv (.t 0))),
  E0 5 (some 12) (some (10, true)) (.i (.mv (.t 2))),
  E0 6 (some 13) (some (10, true)) (.i (.bin .leq (.t 11) (.t 12))),
  E0 7 (some 14) none (.i (.pick (.t 10) (.t 13) (.k (.dat none (.bool false))))),
  E0 8 (some 6) none (.i (.mv (.t 14)))]
def spec_l1In.fi : FI := { res := [.t 6], code := .seq (.reg 64 1 spec_l1In.r0) (.seq (.reg 128 9 spec_l1In.r1) (.ret)) }
attribute [go_sem] spec_l1In.r0 spec_l1In.r1
theorem spec_l1In.ok : chkF prog F_spec_l1In 3 spec_l1In.fi = true := by kernel_rfl

/-! spec_l1Has -/
def spec_l1Has.r0 : List Ent := [
  E0 0 (some 4) none (.i (.mv (.k (.dat none (.bool false)))))]
def spec_l1Has.r1 : List Ent := [
  E0 0 (some 7) none (.i (.mv (.t 0))),
  E0 1 (some 8) none (.i (.len (.t 7))),
  E0 2 (some 9) none (.i (.mv (.k (I64 0))))]
def spec_l1Has.r2 : List Ent := [
  E0 0 (some 10) none (.i (.bin .lss (.t 9) (.t 8)))]
def spec_l1Has.r3 : List Ent := [
  E0 0 (some 11) none (.i (.iad 1 (.t 7) (.t 9))),
  E0 1 (some 12) none (.i (.load false false 1 (.t 11))),
  E0 2 (some 6) none (.i (.mv (.t 12)))]
def spec_l1Has.r4 : List Ent := [
  E0 0 (some 13) none (.i (.mv (.t 6))),
  E0 1 (some 14) none (.i (.mv (.t 1))),
  E0 2 (some 15) none (.i (.bin .eql (.t 13) (.t 14)))]
def spec_l1Has.r5 : List Ent := [
  E0 0 (some 4) none (.i (.mv (.k (.dat none (.bool true)))))]
def spec_l1Has.r6 : List Ent := [
  E0 0 (some 16) none (.i (.bin .add (.t 9) (.k (I64 1)))),
  E0 1 (some 9) none (.i (.mv (.t 16)))]
def spec_l1Has.b0 : KC := .seq (.reg 320 1 spec_l1Has.r2) (.seq (.cond (.t 10) (.skip) (.exit 0)) (.seq (.block 1 (.seq (.reg 384 3 spec_l1Has.r3) (.seq (.reg 576 3 spec_l1Has.r4) (.cond (.t 15) (.seq (.reg 768 1 spec_l1Has.r5) (.ret)) (.skip))))) (.reg 832 2 spec_l1Has.r6)))
def spec_l1Has.r7 : List Ent := [
  E0 0 (some 4) none (.i (.mv (.k (.dat none (.bool false)))))]
def spec_l1Has.fi : FI := { res := [.t 4], code := .seq (.reg 64 1 spec_l1Has.r0) (.seq (.seq (.reg 128 3 spec_l1Has.r1) (.block 0 (.loop spec_l1Has.b0))) (.seq (.reg 960 1 spec_l1Has.r7) (.ret))) }
attribute [go_sem] spec_l1Has.r0 spec_l1Has.r1 spec_l1Has.r2 spec_l1Has.r3 spec_l1Has.r4 spec_l1Has.r5 spec_l1Has.r6 spec_l1Has.r7
theorem spec_l1Has.ok : chkF prog F_spec_l1Has 2 spec_l1Has.fi = true := by kernel_rfl

/-! spec_l4Clause -/
def spec_l4Clause.r0 : List Ent := [
  E0 0 (some 4) none (.i (.mv (.k (.dat none (.bool false)))))]
def spec_l4Clause.r1 : List Ent := [
  E0 0 (some 7) none (.i (.mv (.t 1))),
  E0 1 (some 8) none (.i (.len (.t 7))),
  E0 2 (some 9) none (.i (.mv (.k (I64 0))))]
def spec_l4Clause.r2 : List Ent := [
  E0 0 (some 10) none (.i (.bin .lss (.t 9) (.t 8)))]
def spec_l4Clause.r3 : List Ent := [
  E0 0 (some 11) none (.i (.mv (.t 9))),
  E0 1 (some 12) none (.i (.iad 1 (.t 7) (.t 9))),
  E0 2 (some 13) none (.i (.load false false 1 (.t 12))),
  E0 3 (some 5) none (.i (.mv (.t 11))),
  E0 4 (some 6) none (.i (.mv (.t 13)))]
def spec_l4Clause.r4 : List Ent := [
  E0 0 (some 14) none (.i (.mv (.t 6))),
  E0 1 (some 15) none (.i (.bin .eql (.t 14) (.k (I64 0)))),
  E0 2 (some 16) none (.i (.mv (.t 15))),
  E0 3 (some 17) (some (16, false)) (.i (.mv (.t 6))),
  E0 4 (some 18) (some (16, false)) (.i (.mv (.t 0))),
  E0 5 (some 19) (some (16, false)) (.i (.un .neg (.t 18))),
  E0 6 (some 20) (some (16, false)) (.i (.mv (.t 0))),
  E0 7 (some 21) (some (16, false)) (.call F_spec_l1In false (roA [.t 17, .t 19, .t 20])),
  E0 8 (some 22) (some (16, false)) (.i (.un .not (.t 21))),
  E0 9 (some 23) none (.i (.pick (.t 16) (.k (.dat none (.bool true))) (.t 22))),
  E0 10 (some 24) none (.i (.mv (.t 23))),
  E0 11 (some 25) (some (24, false)) (.i (.mv (.t 1))),
  E0 12 (some 26) (some (24, false)) (.i (.mv (.t 5))),
  E0 13 (some 27) (some (24, false)) (.i (.slc 1 (.t 25) (none) (some (.t 26)))),
  E0 14 (some 28) (some (24, false)) (.i (.mv (.t 6))),
  E0 15 (some 29) (some (24, false)) (.call F_spec_l1Has false (roA [.t 27, .t 28])),
  E0 16 (some 30) none (.i (.pick (.t 24) (.k (.dat none (.bool true))) (.t 29))),
  E0 17 (some 31) none (.i (.mv (.t 30))),
  E0 18 (some 32) (some (31, false)) (.i (.mv (.t 1))),
  E0 19 (some 33) (some (31, false)) (.i (.mv (.t 5))),
  E0 20 (some 34) (some (31, false)) (.i (.slc 1 (.t 32) (none) (some (.t 33)))),
  E0 21 (some 35) (some (31, false)) (.i (.mv (.t 6))),
  E0 22 (some 36) (some (31, false)) (.i (.un .neg (.t 35))),
  E0 23 (some 37) (some (31, false)) (.call F_spec_l1Has false (roA [.t 34, .t 36])),
  E0 24 (some 38) none (.i (.pick (.t 31) (.k (.dat none (.bool true))) (.t 37)))]
def spec_l4Clause.r5 : List Ent := [
  E0 0 (some 4) none (.i (.mv (.k (.dat none (.bool false)))))]
def spec_l4Clause.r6 : List Ent := [
  E0 0 (some 39) none (.i (.bin .add (.t 9) (.k (I64 1)))),
  E0 1 (some 9) none (.i (.mv (.t 39)))]
def spec_l4Clause.b0 : KC := .seq (.reg 320 1 spec_l4Clause.r2) (.seq (.cond (.t 10) (.skip) (.exit 0)) (.seq (.block 1 (.seq (.reg 384 5 spec_l4Clause.r3) (.seq (.reg 704 25 spec_l4Clause.r4) (.cond (.t 38) (.seq (.reg 2304 1 spec_l4Clause.r5) (.ret)) (.skip))))) (.reg 2368 2 spec_l4Clause.r6)))
def spec_l4Clause.r7 : List Ent := [
  E0 0 (some 40) none (.i (.mv (.t 1))),
  E0 1 (some 41) none (.i (.len (.t 40))),
  E0 2 (some 42) none (.i (.bin .leq (.t 41) (.k (I64 12)))),
  E0 3 (some 4) none (.i (.mv (.t 42)))]
def spec_l4Clause.fi : FI := { res := [.t 4], code := .seq (.reg 64 1 spec_l4Clause.r0) (.seq (.seq (.reg 128 3 spec_l4Clause.r1) (.block 0 (.loop spec_l4Clause.b0))) (.seq (.reg 2496 4 spec_l4Clause.r7) (.ret))) }
attribute [go_sem] spec_l4Clause.r0 spec_l4Clause.r1 spec_l4Clause.r2 spec_l4Clause.r3 spec_l4Clause.r4 spec_l4Clause.r5 spec_l4Clause.r6 spec_l4Clause.r7
theorem spec_l4Clause.ok : chkF prog F_spec_l4Clause 2 spec_l4Clause.fi = true := by kernel_rfl

/-! spec_l4Good -/
def spec_l4Good.r0 : List Ent := [
  E0 0 (some 6) none (.i (.mv (.k (.dat none (.bool false)))))]
def spec_l4Good.r1 : List Ent := [
  E0 0 (some 9) none (.i (.mv (.t 0))),
  E0 1 (some 10) none (.call F_spec_l1In false (roA [.t 9, .k (I64 0), .k (I64 12)])),
  E0 2 (some 11) none (.i (.un .not (.t 10))),
  E0 3 (some 12) none (.i (.mv (.t 11))),
  E0 4 (some 13) (some (12, false)) (.i (.mv (.t 1))),
  E0 5 (some 14) (some (12, false)) (.i (.len (.t 13))),
  E0 6 (some 15) (some (12, false)) (.i (.mv (.t 2))),
  E0 7 (some 16) (some (12, false)) (.i (.bin .gtr (.t 14) (.t 15))),
  E0 8 (some 17) none (.i (.pick (.t 12) (.k (.dat none (.bool true))) (.t 16)))]
def spec_l4Good.r2 : List Ent := [
  E0 0 (some 6) none (.i (.mv (.k (.dat none (.bool false)))))]
def spec_l4Good.r3 : List Ent := [
  E0 0 (some 18) none (.i (.mv (.t 1))),
  E0 1 (some 19) none (.i (.len (.t 18))),
  E0 2 (some 20) none (.i (.mv (.k (I64 0))))]
def spec_l4Good.r4 : List Ent := [
  E0 0 (some 21) none (.i (.bin .lss (.t 20) (.t 19)))]
def spec_l4Good.r5 : List Ent := [
  E0 0 (some 22) none (.i (.iad 1 (.t 18) (.t 20))),
  E0 1 (some 23) none (.i (.load false false 1 (.t 22))),
  E0 2 (some 8) none (.i (.mv (.t 23)))]
def spec_l4Good.r6 : List Ent := [
  E0 0 (some 24) none (.i (.mv (.t 0))),
  E0 1 (some 25) none (.i (.mv (.t 8))),
  E0 2 (some 26) none (.call F_spec_l4Clause false (roA [.t 24, .t 25])),
  E0 3 (some 27) none (.i (.un .not (.t 26)))]
def spec_l4Good.r7 : List Ent := [
  E0 0 (some 6) none (.i (.mv (.k (.dat none (.bool false)))))]
def spec_l4Good.r8 : List Ent := [
  E0 0 (some 28) none (.i (.bin .add (.t 20) (.k (I64 1)))),
  E0 1 (some 20) none (.i (.mv (.t 28)))]
def spec_l4Good.b0 : KC := .seq (.reg 960 1 spec_l4Good.r4) (.seq (.cond (.t 21) (.skip) (.exit 0)) (.seq (.block 1 (.seq (.reg 1024 3 spec_l4Good.r5) (.seq (.reg 1216 4 spec_l4Good.r6) (.cond (.t 27) (.seq (.reg 1472 1 spec_l4Good.r7) (.ret)) (.skip))))) (.reg 1536 2 spec_l4Good.r8)))
def spec_l4Good.r9 : List Ent := [
  E0 0 (some 6) none (.i (.mv (.k (.dat none (.bool true)))))]
def spec_l4Good.fi : FI := { res := [.t 6], code := .seq (.reg 64 1 spec_l4Good.r0) (.seq (.seq (.reg 128 9 spec_l4Good.r1) (.cond (.t 17) (.seq (.reg 704 1 spec_l4Good.r2) (.ret)) (.skip))) (.seq (.seq (.reg 768 3 spec_l4Good.r3) (.block 0 (.loop spec_l4Good.b0))) (.seq (.reg 1664 1 spec_l4Good.r9) (.ret)))) }
attribute [go_sem] spec_l4Good.r0 spec_l4Good.r1 spec_l4Good.r2 spec_l4Good.r3 spec_l4Good.r4 spec_l4Good.r5 spec_l4Good.r6 spec_l4Good.r7 spec_l4Good.r8 spec_l4Good.r9
theorem spec_l4Good.ok : chkF prog F_spec_l4Good 3 spec_l4Good.fi = true := by kernel_rfl

/-! spec_GoodClauses -/
def spec_GoodClauses.r0 : List Ent := [
  E0 0 (some 4) none (.i (.mv (.k (.dat none (.bool false)))))]
def spec_GoodClauses.r1 : List Ent := [
  E0 0 (some 5) none (.i (.mv (.t 0))),
  E0 1 (some 6) none (.i (.mv (.t 1))),
  E0 2 (some 7) none (.call F_spec_l4Good false (roA [.t 5, .t 6, .k (I64 60)])),
  E0 3 (some 4) none (.i (.mv (.t 7)))]
def spec_GoodClauses.fi : FI := { res := [.t 4], code := .seq (.reg 64 1 spec_GoodClauses.r0) (.seq (.reg 128 4 spec_GoodClauses.r1) (.ret)) }
attribute [go_sem] spec_GoodClauses.r0 spec_GoodClauses.r1
theorem spec_GoodClauses.ok : chkF prog F_spec_GoodClauses 2 spec_GoodClauses.fi = true := by kernel_rfl

/-! spec_IsTwo -/
def spec_IsTwo.r0 : List Ent := [
  E0 0 (some 4) none (.i (.mv (.k (.dat none (.bool false)))))]
def spec_IsTwo.r1 : List Ent := [
  E0 0 (some 7) none (.i (.mv (.t 1))),
  E0 1 (some 8) none (.i (.len (.t 7))),
  E0 2 (some 9) none (.i (.mv (.k (I64 0))))]
def spec_IsTwo.r2 : List Ent := [
  E0 0 (some 10) none (.i (.bin .lss (.t 9) (.t 8)))]
def spec_IsTwo.r3 : List Ent := [
  E0 0 (some 11) none (.i (.iad 1 (.t 7) (.t 9))),
  E0 1 (some 12) none (.i (.load false false 1 (.t 11))),
  E0 2 (some 6) none (.i (.mv (.t 12)))]
def spec_IsTwo.r4 : List Ent := [
  E0 0 (some 13) none (.i (.mv (.t 6))),
  E0 1 (some 14) none (.i (.len (.t 13))),
  E0 2 (some 15) none (.call F_spec_l1In false (roA [.t 14, .k (I64 1), .k (I64 2)])),
  E0 3 (some 16) none (.i (.un .not (.t 15)))]
def spec_IsTwo.r5 : List Ent := [
  E0 0 (some 4) none (.i (.mv (.k (.dat none (.bool false)))))]
def spec_IsTwo.r6 : List Ent := [
  E0 0 (some 17) none (.i (.bin .add (.t 9) (.k (I64 1)))),
  E0 1 (some 9) none (.i (.mv (.t 17)))]
def spec_IsTwo.b0 : KC := .seq (.reg 320 1 spec_IsTwo.r2) (.seq (.cond (.t 10) (.skip) (.exit 0)) (.seq (.block 1 (.seq (.reg 384 3 spec_IsTwo.r3) (.seq (.reg 576 4 spec_IsTwo.r4) (.cond (.t 16) (.seq (.reg 832 1 spec_IsTwo.r5) (.ret)) (.skip))))) (.reg 896 2 spec_IsTwo.r6)))
def spec_IsTwo.r7 : List Ent := [
  E0 0 (some 18) none (.i (.mv (.t 0))),
  E0 1 (some 19) none (.i (.mv (.t 1))),
  E0 2 (some 20) none (.call F_spec_GoodClauses false (roA [.t 18, .t 19])),
  E0 3 (some 4) none (.i (.mv (.t 20)))]
def spec_IsTwo.fi : FI := { res := [.t 4], code := .seq (.reg 64 1 spec_IsTwo.r0) (.seq (.seq (.reg 128 3 spec_IsTwo.r1) (.block 0 (.loop spec_IsTwo.b0))) (.seq (.reg 1024 4 spec_IsTwo.r7) (.ret))) }
attribute [go_sem] spec_IsTwo.r0 spec_IsTwo.r1 spec_IsTwo.r2 spec_IsTwo.r3 spec_IsTwo.r4 spec_IsTwo.r5 spec_IsTwo.r6 spec_IsTwo.r7
theorem spec_IsTwo.ok : chkF prog F_spec_IsTwo 2 spec_IsTwo.fi = true := by kernel_rfl

/-! spec_l15Next -/
def spec_l15Next.r0 : List Ent := [
  E0 0 (some 4) none (.i (.mv (.k (.nil 1))))]
def spec_l15Next.r1 : List Ent := [
  E0 0 (some 5) none (.i (.mv (.k (.nil 1))))]
def spec_l15Next.r2 : List Ent := [
  E0 0 (some 8) none (.i (.mv (.t 0))),
  E0 1 (some 9) none (.i (.len (.t 8))),
  E0 2 (some 10) none (.i (.mv (.k (I64 0))))]
def spec_l15Next.r3 : List Ent := [
  E0 0 (some 11) none (.i (.bin .lss (.t 10) (.t 9)))]
def spec_l15Next.r4 : List Ent := [
  E0 0 (some 12) none (.i (.iad 1 (.t 8) (.t 10))),
  E0 1 (some 13) none (.i (.load false false 1 (.t 12))),
  E0 2 (some 7) none (.i (.mv (.t 13)))]
def spec_l15Next.r5 : List Ent := [
  E0 0 (some 15) none (.i (.mv (.t 7))),
  E0 1 (some 16) none (.i (.len (.t 15))),
  E0 2 (some 17) none (.i (.bin .eql (.t 16) (.k (I64 1)))),
  E0 3 (some 18) none (.i (.mv (.t 17))),
  E0 4 (some 19) (some (18, true)) (.i (.mv (.t 7))),
  E0 5 (some 20) (some (18, true)) (.i (.iad 1 (.t 19) (.k (I64 0)))),
  E0 6 (some 21) (some (18, true)) (.i (.load false false 1 (.t 20))),
  E0 7 (some 22) (some (18, true)) (.i (.mv (.t 1))),
  E0 8 (some 23) (some (18, true)) (.i (.un .neg (.t 22))),
  E0 9 (some 24) (some (18, true)) (.i (.bin .eql (.t 21) (.t 23))),
  E0 10 (some 25) none (.i (.pick (.t 18) (.t 24) (.k (.dat none (.bool false))))),
  E0 11 (some 14) none (.i (.mv (.t 25)))]
def spec_l15Next.r6 : List Ent := [
  E0 0 (some 26) none (.i (.mv (.t 5))),
  E0 1 (some 27) none (.i (.mv (.t 7))),
  E0 2 (some 28) none (.i (.iad 1 (.t 27) (.k (I64 0)))),
  E0 3 (some 29) none (.i (.load false false 1 (.t 28))),
  E0 4 (some 30) none (.call F_spec_l1Put false [(.co, .t 26), (.ro, .t 29)]),
  E0 5 (some 5) none (.i (.mv (.t 30)))]
def spec_l15Next.r7 : List Ent := [
  E0 0 (some 32) none (.i (.mv (.t 7))),
  E0 1 (some 33) none (.i (.len (.t 32))),
  E0 2 (some 34) none (.i (.bin .eql (.t 33) (.k (I64 2)))),
  E0 3 (some 35) none (.i (.mv (.t 34))),
  E0 4 (some 36) (some (35, true)) (.i (.mv (.t 7))),
  E0 5 (some 37) (some (35, true)) (.i (.iad 1 (.t 36) (.k (I64 0)))),
  E0 6 (some 38) (some (35, true)) (.i (.load false false 1 (.t 37))),
  E0 7 (some 39) (some (35, true)) (.i (.mv (.t 1))),
  E0 8 (some 40) (some (35, true)) (.i (.un .neg (.t 39))),
  E0 9 (some 41) (some (35, true)) (.i (.bin .eql (.t 38) (.t 40))),
  E0 10 (some 42) none (.i (.pick (.t 35) (.t 41) (.k (.dat none (.bool false))))),
  E0 11 (some 31) none (.i (.mv (.t 42)))]
def spec_l15Next.r8 : List Ent := [
  E0 0 (some 43) none (.i (.mv (.t 5))),
  E0 1 (some 44) none (.i (.mv (.t 7))),
  E0 2 (some 45) none (.i (.iad 1 (.t 44) (.k (I64 1)))),
  E0 3 (some 46) none (.i (.load false false 1 (.t 45))),
  E0 4 (some 47) none (.call F_spec_l1Put false [(.co, .t 43), (.ro, .t 46)]),
  E0 5 (some 5) none (.i (.mv (.t 47)))]
def spec_l15Next.r9 : List Ent := [
  E0 0 (some 49) none (.i (.mv (.t 7))),
  E0 1 (some 50) none (.i (.len (.t 49))),
  E0 2 (some 51) none (.i (.bin .eql (.t 50) (.k (I64 2)))),
  E0 3 (some 52) none (.i (.mv (.t 51))),
  E0 4 (some 53) (some (52, true)) (.i (.mv (.t 7))),
  E0 5 (some 54) (some (52, true)) (.i (.iad 1 (.t 53) (.k (I64 1)))),
  E0 6 (some 55) (some (52, true)) (.i (.load false false 1 (.t 54))),
  E0 7 (some 56) (some (52, true)) (.i (.mv (.t 1))),
  E0 8 (some 57) (some (52, true)) (.i (.un .neg (.t 56))),
  E0 9 (some 58) (some (52, true)) (.i (.bin .eql (.t 55) (.t 57))),
  E0 10 (some 59) none (.i (.pick (.t 52) (.t 58) (.k (.dat none (.bool false))))),
  E0 11 (some 48) none (.i (.mv (.t 59)))]
def spec_l15Next.r10 : List Ent := [
  E0 0 (some 60) none (.i (.mv (.t 5))),
  E0 1 (some 61) none (.i (.mv (.t 7))),
  E0 2 (some 62) none (.i (.iad 1 (.t 61) (.k (I64 0)))),
  E0 3 (some 63) none (.i (.load false false 1 (.t 62))),
  E0 4 (some 64) none (.call F_spec_l1Put false [(.co, .t 60), (.ro, .t 63)]),
  E0 5 (some 5) none (.i (.mv (.t 64)))]
def spec_l15Next.r11 : List Ent := [
  E0 0 (some 65) none (.i (.bin .add (.t 10) (.k (I64 1)))),
  E0 1 (some 10) none (.i (.mv (.t 65)))]
def spec_l15Next.b0 : KC := .seq (.reg 384 1 spec_l15Next.r3) (.seq (.cond (.t 11) (.skip) (.exit 0)) (.seq (.block 1 (.seq (.reg 448 3 spec_l15Next.r4) (.block 2 (.seq (.reg 640 12 spec_l15Next.r5) (.cond (.t 14) (.reg 1408 6 spec_l15Next.r6) (.seq (.reg 1792 12 spec_l15Next.r7) (.cond (.t 31) (.reg 2560 6 spec_l15Next.r8) (.seq (.reg 2944 12 spec_l15Next.r9) (.cond (.t 48) (.reg 3712 6 spec_l15Next.r10) (.skip)))))))))) (.reg 4096 2 spec_l15Next.r11)))
def spec_l15Next.r12 : List Ent := [
  E0 0 (some 66) none (.i (.mv (.t 5))),
  E0 1 (some 4) none (.i (.mv (.t 66)))]
def spec_l15Next.fi : FI := { res := [.t 4], code := .seq (.reg 64 1 spec_l15Next.r0) (.seq (.reg 128 1 spec_l15Next.r1) (.seq (.seq (.reg 192 3 spec_l15Next.r2) (.block 0 (.loop spec_l15Next.b0))) (.seq (.reg 4224 2 spec_l15Next.r12) (.ret)))) }
attribute [go_sem] spec_l15Next.r0 spec_l15Next.r1 spec_l15Next.r2 spec_l15Next.r3 spec_l15Next.r4 spec_l15Next.r5 spec_l15Next.r6 spec_l15Next.r7 spec_l15Next.r8 spec_l15Next.r9 spec_l15Next.r10 spec_l15Next.r11 spec_l15Next.r12
theorem spec_l15Next.ok : chkF prog F_spec_l15Next 2 spec_l15Next.fi = true := by kernel_rfl

/-! spec_l15Leads -/
def spec_l15Leads.r0 : List Ent := [
  E0 0 (some 4) none (.i (.mv (.k (.nil 1))))]
def spec_l15Leads.r1 : List Ent := [
  E0 0 (some 10) none (.i (.mv (.t 1))),
  E0 1 (some 11) none (.i (.bsl false 1 [.t 10])),
  E0 2 (some 5) none (.i (.mv (.t 11)))]
def spec_l15Leads.r2 : List Ent := [
  E0 0 (some 12) none (.i (.mv (.t 1))),
  E0 1 (some 13) none (.i (.bsl false 1 [.t 12])),
  E0 2 (some 6) none (.i (.mv (.t 13)))]
def spec_l15Leads.r3 : List Ent := [
  E0 0 (some 14) none (.i (.mv (.t 6))),
  E0 1 (some 15) none (.i (.len (.t 14))),
  E0 2 (some 16) none (.i (.bin .gtr (.t 15) (.k (I64 0))))]
def spec_l15Leads.r4 : List Ent := [
  E0 0 (some 17) none (.i (.mv (.t 6))),
  E0 1 (some 18) none (.i (.iad 1 (.t 17) (.k (I64 0)))),
  E0 2 (some 19) none (.i (.load false false 1 (.t 18))),
  E0 3 (some 7) none (.i (.mv (.t 19)))]
def spec_l15Leads.r5 : List Ent := [
  E0 0 (some 20) none (.i (.mv (.t 6))),
  E0 1 (some 21) none (.i (.slc 1 (.t 20) (some (.k (I64 1))) (none))),
  E0 2 (some 6) none (.i (.mv (.t 21)))]
def spec_l15Leads.r6 : List Ent := [
  E0 0 (some 22) none (.i (.mv (.t 0))),
  E0 1 (some 23) none (.i (.mv (.t 7))),
  E0 2 (some 24) none (.call F_spec_l15Next false (roA [.t 22, .t 23])),
  E0 3 (some 25) none (.i (.len (.t 24))),
  E0 4 (some 26) none (.i (.mv (.k (I64 0))))]
def spec_l15Leads.r7 : List Ent := [
  E0 0 (some 27) none (.i (.bin .lss (.t 26) (.t 25)))]
def spec_l15Leads.r8 : List Ent := [
  E0 0 (some 28) none (.i (.iad 1 (.t 24) (.t 26))),
  E0 1 (some 29) none (.i (.load false false 1 (.t 28))),
  E0 2 (some 9) none (.i (.mv (.t 29)))]
def spec_l15Leads.r9 : List Ent := [
  E0 0 (some 30) none (.i (.mv (.t 5))),
  E0 1 (some 31) none (.i (.mv (.t 9))),
  E0 2 (some 32) none (.call F_spec_l1Has false (roA [.t 30, .t 31])),
  E0 3 (some 33) none (.i (.un .not (.t 32)))]
def spec_l15Leads.r10 : List Ent := [
  E0 0 (some 34) none (.i (.mv (.t 5))),
  E0 1 (some 35) none (.i (.mv (.t 9))),
  E0 2 (some 36) none (.call F_spec_l1Put false [(.co, .t 34), (.ro, .t 35)]),
  E0 3 (some 5) none (.i (.mv (.t 36)))]
def spec_l15Leads.r11 : List Ent := [
  E0 0 (some 37) none (.i (.mv (.t 6))),
  E0 1 (some 38) none (.i (.mv (.t 9))),
  E0 2 (some 39) none (.i (.bsl true 1 [.t 38])),
  E0 3 (some 40) none (.i (.app 1 8 (.t 37) (.t 39))),
  E0 4 (some 6) none (.i (.mv (.t 40)))]
def spec_l15Leads.r12 : List Ent := [
  E0 0 (some 41) none (.i (.bin .add (.t 26) (.k (I64 1)))),
  E0 1 (some 26) none (.i (.mv (.t 41)))]
def spec_l15Leads.b0 : KC := .seq (.reg 1472 1 spec_l15Leads.r7) (.seq (.cond (.t 27) (.skip) (.exit 2)) (.seq (.block 3 (.seq (.reg 1536 3 spec_l15Leads.r8) (.seq (.reg 1728 4 spec_l15Leads.r9) (.cond (.t 33) (.seq (.reg 1984 4 spec_l15Leads.r10) (.reg 2240 5 spec_l15Leads.r11)) (.skip))))) (.reg 2560 2 spec_l15Leads.r12)))
def spec_l15Leads.b1 : KC := .seq (.seq (.reg 512 3 spec_l15Leads.r3) (.cond (.t 16) (.skip) (.exit 0))) (.block 1 (.seq (.reg 704 4 spec_l15Leads.r4) (.seq (.reg 960 3 spec_l15Leads.r5) (.seq (.reg 1152 5 spec_l15Leads.r6) (.block 2 (.loop spec_l15Leads.b0))))))
def spec_l15Leads.r13 : List Ent := [
  E0 0 (some 42) none (.i (.mv (.t 5))),
  E0 1 (some 4) none (.i (.mv (.t 42)))]
def spec_l15Leads.fi : FI := { res := [.t 4], code := .seq (.reg 64 1 spec_l15Leads.r0) (.seq (.reg 128 3 spec_l15Leads.r1) (.seq (.reg 320 3 spec_l15Leads.r2) (.seq (.nrm 6 2432 1 (.block 0 (.loop spec_l15Leads.b1))) (.seq (.reg 2688 2 spec_l15Leads.r13) (.ret))))) }
attribute [go_sem] spec_l15Leads.r0 spec_l15Leads.r1 spec_l15Leads.r2 spec_l15Leads.r3 spec_l15Leads.r4 spec_l15Leads.r5 spec_l15Leads.r6 spec_l15Leads.r7 spec_l15Leads.r8 spec_l15Leads.r9 spec_l15Leads.r10 spec_l15Leads.r11 spec_l15Leads.r12 spec_l15Leads.r13
theorem spec_l15Leads.ok : chkF prog F_spec_l15Leads 2 spec_l15Leads.fi = true := by kernel_rfl

/-! impl_in -/
def impl_in.r0 : List Ent := [
  E0 0 (some 6) none (.i (.mv (.k (.dat none (.bool false)))))]
def impl_in.r1 : List Ent := [
  E0 0 (some 7) none (.i (.mv (.t 0))),
  E0 1 (some 8) none (.i (.mv (.t 1))),
  E0 2 (some 9) none (.i (.bin .geq (.t 7) (.t 8))),
  E0 3 (some 10) none (.i (.mv (.t 9))),
  E0 4 (some 11) (some (10, true)) (.i (.mv (.t 0))),
  E0 5 (some 12) (some (10, true)) (.i (.mv (.t 2))),
  E0 6 (some 13) (some (10, true)) (.i (.bin .leq (.t 11) (.t 12))),
  E0 7 (some 14) none (.i (.pick (.t 10) (.t 13) (.k (.dat none (.bool false))))),
  E0 8 (some 6) none (.i (.mv (.t 14)))]
def impl_in.fi : FI := { res := [.t 6], code := .seq (.reg 64 1 impl_in.r0) (.seq (.reg 128 9 impl_in.r1) (.ret)) }
attribute [go_sem] impl_in.r0 impl_in.r1
theorem impl_in.ok : chkF prog F_impl_in 3 impl_in.fi = true := by kernel_rfl

/-! slices_IndexFunc__ssint_sint -/
def slices_IndexFunc__ssint_sint.r0 : List Ent := [
  E0 0 (some 4) none (.i (.mv (.k (I64 0))))]
def slices_IndexFunc__ssint_sint.r1 : List Ent := [
  E0 0 (some 6) none (.i (.mv (.t 0))),
  E0 1 (some 7) none (.i (.len (.t 6))),
  E0 2 (some 8) none (.i (.mv (.k (I64 0))))]
def slices_IndexFunc__ssint_sint.r2 : List Ent := [
  E0 0 (some 9) none (.i (.bin .lss (.t 8) (.t 7)))]
def slices_IndexFunc__ssint_sint.r3 : List Ent := [
  E0 0 (some 10) none (.i (.mv (.t 8))),
  E0 1 (some 5) none (.i (.mv (.t 10)))]
def slices_IndexFunc__ssint_sint.r4 : List Ent := [
  E0 0 (some 11) none (.i (.mv (.t 1))),
  E0 1 (some 12) none (.i (.mv (.t 0))),
  E0 2 (some 13) none (.i (.mv (.t 5))),
  E0 3 (some 14) none (.i (.iad 1 (.t 12) (.t 13))),
  E0 4 (some 15) none (.i (.load false false 1 (.t 14))),
  E0 5 (some 16) none (.ccl (.t 11) false [.t 15])]
def slices_IndexFunc__ssint_sint.r5 : List Ent := [
  E0 0 (some 17) none (.i (.mv (.t 5))),
  E0 1 (some 4) none (.i (.mv (.t 17)))]
def slices_IndexFunc__ssint_sint.r6 : List Ent := [
  E0 0 (some 18) none (.i (.bin .add (.t 8) (.k (I64 1)))),
  E0 1 (some 8) none (.i (.mv (.t 18)))]
def slices_IndexFunc__ssint_sint.b0 : KC := .seq (.reg 320 1 slices_IndexFunc__ssint_sint.r2) (.seq (.cond (.t 9) (.skip) (.exit 0)) (.seq (.block 1 (.seq (.reg 384 2 slices_IndexFunc__ssint_sint.r3) (.seq (.reg 512 6 slices_IndexFunc__ssint_sint.r4) (.cond (.t 16) (.seq (.reg 896 2 slices_IndexFunc__ssint_sint.r5) (.ret)) (.skip))))) (.reg 1024 2 slices_IndexFunc__ssint_sint.r6)))
def slices_IndexFunc__ssint_sint.r7 : List Ent := [
  E0 0 (some 4) none (.i (.mv (.k (I64 (-1)))))]
def slices_IndexFunc__ssint_sint.fi : FI := { res := [.t 4], code := .seq (.reg 64 1 slices_IndexFunc__ssint_sint.r0) (.seq (.seq (.reg 128 3 slices_IndexFunc__ssint_sint.r1) (.block 0 (.loop slices_IndexFunc__ssint_sint.b0))) (.seq (.reg 1152 1 slices_IndexFunc__ssint_sint.r7) (.ret))) }
attribute [go_sem] slices_IndexFunc__ssint_sint.r0 slices_IndexFunc__ssint_sint.r1 slices_IndexFunc__ssint_sint.r2 slices_IndexFunc__ssint_sint.r3 slices_IndexFunc__ssint_sint.r4 slices_IndexFunc__ssint_sint.r5 slices_IndexFunc__ssint_sint.r6 slices_IndexFunc__ssint_sint.r7
theorem slices_IndexFunc__ssint_sint.ok : chkF prog F_slices_IndexFunc__ssint_sint 2 slices_IndexFunc__ssint_sint.fi = true := by kernel_rfl

/-! slices_ContainsFunc__ssint_sint -/
def slices_ContainsFunc__ssint_sint.r0 : List Ent := [
  E0 0 (some 4) none (.i (.mv (.k (.dat none (.bool false)))))]
def slices_ContainsFunc__ssint_sint.r1 : List Ent := [
  E0 0 (some 5) none (.i (.mv (.t 0))),
  E0 1 (some 6) none (.i (.mv (.t 1))),
  E0 2 (some 7) none (.call F_slices_IndexFunc__ssint_sint false (roA [.t 5, .t 6])),
  E0 3 (some 8) none (.i (.bin .geq (.t 7) (.k (I64 0)))),
  E0 4 (some 4) none (.i (.mv (.t 8)))]
def slices_ContainsFunc__ssint_sint.fi : FI := { res := [.t 4], code := .seq (.reg 64 1 slices_ContainsFunc__ssint_sint.r0) (.seq (.reg 128 5 slices_ContainsFunc__ssint_sint.r1) (.ret)) }
attribute [go_sem] slices_ContainsFunc__ssint_sint.r0 slices_ContainsFunc__ssint_sint.r1
theorem slices_ContainsFunc__ssint_sint.ok : chkF prog F_slices_ContainsFunc__ssint_sint 2 slices_ContainsFunc__ssint_sint.fi = true := by kernel_rfl

/-! impl_isLiteral -/
def impl_isLiteral.r0 : List Ent := [
  E0 0 (some 4) none (.i (.mv (.k (.dat none (.bool false)))))]
def impl_isLiteral.r1 : List Ent := [
  E0 0 (some 5) none (.i (.mv (.t 0))),
  E0 1 (some 6) none (.i (.bin .neq (.t 5) (.k (I64 0)))),
  E0 2 (some 7) none (.i (.mv (.t 6))),
  E0 3 (some 8) (some (7, true)) (.i (.mv (.t 0))),
  E0 4 (some 9) (some (7, true)) (.i (.mv (.t 1))),
  E0 5 (some 10) (some (7, true)) (.i (.un .neg (.t 9))),
  E0 6 (some 11) (some (7, true)) (.i (.mv (.t 1))),
  E0 7 (some 12) (some (7, true)) (.call F_impl_in false (roA [.t 8, .t 10, .t 11])),
  E0 8 (some 13) none (.i (.pick (.t 7) (.t 12) (.k (.dat none (.bool false))))),
  E0 9 (some 4) none (.i (.mv (.t 13)))]
def impl_isLiteral.fi : FI := { res := [.t 4], code := .seq (.reg 64 1 impl_isLiteral.r0) (.seq (.reg 128 10 impl_isLiteral.r1) (.ret)) }
attribute [go_sem] impl_isLiteral.r0 impl_isLiteral.r1
theorem impl_isLiteral.ok : chkF prog F_impl_isLiteral 2 impl_isLiteral.fi = true := by kernel_rfl

/-! slices_IndexFunc__sint_int -/
def slices_IndexFunc__sint_int.r0 : List Ent := [
  E0 0 (some 4) none (.i (.mv (.k (I64 0))))]
def slices_IndexFunc__sint_int.r1 : List Ent := [
  E0 0 (some 6) none (.i (.mv (.t 0))),
  E0 1 (some 7) none (.i (.len (.t 6))),
  E0 2 (some 8) none (.i (.mv (.k (I64 0))))]
def slices_IndexFunc__sint_int.r2 : List Ent := [
  E0 0 (some 9) none (.i (.bin .lss (.t 8) (.t 7)))]
def slices_IndexFunc__sint_int.r3 : List Ent := [
  E0 0 (some 10) none (.i (.mv (.t 8))),
  E0 1 (some 5) none (.i (.mv (.t 10)))]
def slices_IndexFunc__sint_int.r4 : List Ent := [
  E0 0 (some 11) none (.i (.mv (.t 1))),
  E0 1 (some 12) none (.i (.mv (.t 0))),
  E0 2 (some 13) none (.i (.mv (.t 5))),
  E0 3 (some 14) none (.i (.iad 1 (.t 12) (.t 13))),
  E0 4 (some 15) none (.i (.load false false 1 (.t 14))),
  E0 5 (some 16) none (.ccl (.t 11) false [.t 15])]
def slices_IndexFunc__sint_int.r5 : List Ent := [
  E0 0 (some 17) none (.i (.mv (.t 5))),
  E0 1 (some 4) none (.i (.mv (.t 17)))]
def slices_IndexFunc__sint_int.r6 : List Ent := [
  E0 0 (some 18) none (.i (.bin .add (.t 8) (.k (I64 1)))),
  E0 1 (some 8) none (.i (.mv (.t 18)))]
def slices_IndexFunc__sint_int.b0 : KC := .seq (.reg 320 1 slices_IndexFunc__sint_int.r2) (.seq (.cond (.t 9) (.skip) (.exit 0)) (.seq (.block 1 (.seq (.reg 384 2 slices_IndexFunc__sint_int.r3) (.seq (.reg 512 6 slices_IndexFunc__sint_int.r4) (.cond (.t 16) (.seq (.reg 896 2 slices_IndexFunc__sint_int.r5) (.ret)) (.skip))))) (.reg 1024 2 slices_IndexFunc__sint_int.r6)))
def slices_IndexFunc__sint_int.r7 : List Ent := [
  E0 0 (some 4) none (.i (.mv (.k (I64 (-1)))))]
def slices_IndexFunc__sint_int.fi : FI := { res := [.t 4], code := .seq (.reg 64 1 slices_IndexFunc__sint_int.r0) (.seq (.seq (.reg 128 3 slices_IndexFunc__sint_int.r1) (.block 0 (.loop slices_IndexFunc__sint_int.b0))) (.seq (.reg 1152 1 slices_IndexFunc__sint_int.r7) (.ret))) }
attribute [go_sem] slices_IndexFunc__sint_int.r0 slices_IndexFunc__sint_int.r1 slices_IndexFunc__sint_int.r2 slices_IndexFunc__sint_int.r3 slices_IndexFunc__sint_int.r4 slices_IndexFunc__sint_int.r5 slices_IndexFunc__sint_int.r6 slices_IndexFunc__sint_int.r7
theorem slices_IndexFunc__sint_int.ok : chkF prog F_slices_IndexFunc__sint_int 2 slices_IndexFunc__sint_int.fi = true := by kernel_rfl

/-! slices_ContainsFunc__sint_int -/
def slices_ContainsFunc__sint_int.r0 : List Ent := [
  E0 0 (some 4) none (.i (.mv (.k (.dat none (.bool false)))))]
def slices_ContainsFunc__sint_int.r1 : List Ent := [
  E0 0 (some 5) none (.i (.mv (.t 0))),
  E0 1 (some 6) none (.i (.mv (.t 1))),
  E0 2 (some 7) none (.call F_slices_IndexFunc__sint_int false (roA [.t 5, .t 6])),
  E0 3 (some 8) none (.i (.bin .geq (.t 7) (.k (I64 0)))),
  E0 4 (some 4) none (.i (.mv (.t 8)))]
def slices_ContainsFunc__sint_int.fi : FI := { res := [.t 4], code := .seq (.reg 64 1 slices_ContainsFunc__sint_int.r0) (.seq (.reg 128 5 slices_ContainsFunc__sint_int.r1) (.ret)) }
attribute [go_sem] slices_ContainsFunc__sint_int.r0 slices_ContainsFunc__sint_int.r1
theorem slices_ContainsFunc__sint_int.ok : chkF prog F_slices_ContainsFunc__sint_int 2 slices_ContainsFunc__sint_int.fi = true := by kernel_rfl

/-! impl_variable -/
def impl_variable.r0 : List Ent := [
  E0 0 (some 2) none (.i (.mv (.k (I64 0))))]
def impl_variable.r1 : List Ent := [
  E0 0 (some 3) none (.i (.mv (.t 0))),
  E0 1 (some 4) none (.i (.mv (.t 0))),
  E0 2 (some 5) none (.i (.un .neg (.t 4))),
  E0 3 (some 6) none (.i (.mnx true (.t 3) (.t 5))),
  E0 4 (some 2) none (.i (.mv (.t 6)))]
def impl_variable.fi : FI := { res := [.t 2], code := .seq (.reg 64 1 impl_variable.r0) (.seq (.reg 128 5 impl_variable.r1) (.ret)) }
attribute [go_sem] impl_variable.r0 impl_variable.r1
theorem impl_variable.ok : chkF prog F_impl_variable 1 impl_variable.fi = true := by kernel_rfl

/-! impl_isClause_c1 -/
def impl_isClause_c1.r0 : List Ent := [
  E0 0 (some 3) none (.i (.mv (.k (.dat none (.bool false)))))]
def impl_isClause_c1.r1 : List Ent := [
  E0 0 (some 4) none (.i (.mv (.t 0))),
  E2 1 (some 5) none (.call F_impl_variable false (roA [.t 4])),
  ER 2 (some 6) none (.load false false 1 (.t 1)),
  E0 3 (some 7) none (.call F_impl_variable false (roA [.t 6])),
  E0 4 (some 8) none (.i (.bin .eql (.t 5) (.t 7))),
  E0 5 (some 3) none (.i (.mv (.t 8)))]
def impl_isClause_c1.fi : FI := { res := [.t 3], code := .seq (.reg 64 1 impl_isClause_c1.r0) (.seq (.reg 128 6 impl_isClause_c1.r1) (.ret)) }
attribute [go_sem] impl_isClause_c1.r0 impl_isClause_c1.r1
theorem impl_isClause_c1.ok : chkF prog F_impl_isClause_c1 2 impl_isClause_c1.fi = true := by kernel_rfl

/-! impl_isClause -/
def impl_isClause.r0 : List Ent := [
  E0 0 (some 4) none (.i (.mv (.k (.dat none (.bool false)))))]
def impl_isClause.r1 : List Ent := [
  E0 0 (some 7) none (.i (.mv (.t 0))),
  E0 1 (some 8) none (.i (.len (.t 7))),
  E0 2 (some 9) none (.i (.mv (.k (I64 0))))]
def impl_isClause.r2 : List Ent := [
  E0 0 (some 10) none (.i (.bin .lss (.t 9) (.t 8)))]
def impl_isClause.r3 : List Ent := [
  E0 0 (some 11) none (.i (.mv (.t 9))),
  E0 1 (some 12) none (.i (.iad 1 (.t 7) (.t 9))),
  E0 2 (some 13) none (.i (.load false false 1 (.t 12))),
  E0 3 (some 6) none (.i (.box (.k (.dat none (.int .i64 0))))),
  E0 4 (some 5) none (.i (.mv (.t 11))),
  E0 5 none none (.i (.store 1 (.t 6) (.t 13)))]
def impl_isClause.r4 : List Ent := [
  E0 0 (some 14) none (.i (.load false false 1 (.t 6))),
  E0 1 (some 15) none (.i (.mv (.t 1))),
  E0 2 (some 16) none (.call F_impl_isLiteral false (roA [.t 14, .t 15])),
  E0 3 (some 17) none (.i (.un .not (.t 16))),
  E0 4 (some 18) none (.i (.mv (.t 17))),
  E0 5 (some 19) (some (18, false)) (.i (.mv (.t 0))),
  E0 6 (some 20) (some (18, false)) (.i (.mv (.t 5))),
  E0 7 (some 21) (some (18, false)) (.i (.slc 1 (.t 19) (none) (some (.t 20)))),
  E0 8 (some 22) (some (18, false)) (.i (.mkf F_impl_isClause_c1 [.t 6])),
  E0 9 (some 23) (some (18, false)) (.call F_slices_ContainsFunc__sint_int false (roA [.t 21, .t 22])),
  E0 10 (some 24) none (.i (.pick (.t 18) (.k (.dat none (.bool true))) (.t 23)))]
def impl_isClause.r5 : List Ent := [
  E0 0 (some 4) none (.i (.mv (.k (.dat none (.bool false)))))]
def impl_isClause.r6 : List Ent := [
  E0 0 (some 25) none (.i (.bin .add (.t 9) (.k (I64 1)))),
  E0 1 (some 9) none (.i (.mv (.t 25)))]
def impl_isClause.b0 : KC := .seq (.reg 320 1 impl_isClause.r2) (.seq (.cond (.t 10) (.skip) (.exit 0)) (.seq (.block 1 (.seq (.reg 384 6 impl_isClause.r3) (.seq (.reg 768 11 impl_isClause.r4) (.cond (.t 24) (.seq (.reg 1472 1 impl_isClause.r5) (.ret)) (.skip))))) (.reg 1536 2 impl_isClause.r6)))
def impl_isClause.r7 : List Ent := [
  E0 0 (some 26) none (.i (.mv (.t 0))),
  E0 1 (some 27) none (.i (.len (.t 26))),
  E0 2 (some 28) none (.i (.bin .leq (.t 27) (.k (I64 12)))),
  E0 3 (some 4) none (.i (.mv (.t 28)))]
def impl_isClause.fi : FI := { res := [.t 4], code := .seq (.reg 64 1 impl_isClause.r0) (.seq (.seq (.reg 128 3 impl_isClause.r1) (.block 0 (.loop impl_isClause.b0))) (.seq (.reg 1664 4 impl_isClause.r7) (.ret))) }
attribute [go_sem] impl_isClause.r0 impl_isClause.r1 impl_isClause.r2 impl_isClause.r3 impl_isClause.r4 impl_isClause.r5 impl_isClause.r6 impl_isClause.r7
theorem impl_isClause.ok : chkF prog F_impl_isClause 2 impl_isClause.fi = true := by kernel_rfl

/-! impl_areClauses_c1 -/
def impl_areClauses_c1.r0 : List Ent := [
  E0 0 (some 3) none (.i (.mv (.k (.dat none (.bool false)))))]
def impl_areClauses_c1.r1 : List Ent := [
  E0 0 (some 4) none (.i (.mv (.t 0))),
  E0 1 (some 5) none (.i (.load false false 1 (.t 1))),
  E0 2 (some 6) none (.call F_impl_isClause false (roA [.t 4, .t 5])),
  E0 3 (some 7) none (.i (.un .not (.t 6))),
  E0 4 (some 3) none (.i (.mv (.t 7)))]
def impl_areClauses_c1.fi : FI := { res := [.t 3], code := .seq (.reg 64 1 impl_areClauses_c1.r0) (.seq (.reg 128 5 impl_areClauses_c1.r1) (.ret)) }
attribute [go_sem] impl_areClauses_c1.r0 impl_areClauses_c1.r1
theorem impl_areClauses_c1.ok : chkF prog F_impl_areClauses_c1 2 impl_areClauses_c1.fi = true := by kernel_rfl

/-! impl_areClauses -/
def impl_areClauses.r0 : List Ent := [
  E0 0 (some 3) none (.i (.box (.t 1))),
  E0 1 (some 4) none (.i (.mv (.k (.dat none (.bool false)))))]
def impl_areClauses.r1 : List Ent := [
  E0 0 (some 5) none (.i (.mv (.t 0))),
  E0 1 (some 6) none (.i (.mkf F_impl_areClauses_c1 [.t 3])),
  E0 2 (some 7) none (.call F_slices_ContainsFunc__ssint_sint false (roA [.t 5, .t 6])),
  E0 3 (some 8) none (.i (.un .not (.t 7))),
  E0 4 (some 4) none (.i (.mv (.t 8)))]
def impl_areClauses.fi : FI := { res := [.t 4], code := .seq (.reg 64 2 impl_areClauses.r0) (.seq (.reg 192 5 impl_areClauses.r1) (.ret)) }
attribute [go_sem] impl_areClauses.r0 impl_areClauses.r1
theorem impl_areClauses.ok : chkF prog F_impl_areClauses 2 impl_areClauses.fi = true := by kernel_rfl

/-! impl_GoodClauses -/
def impl_GoodClauses.r0 : List Ent := [
  E0 0 (some 4) none (.i (.mv (.k (.dat none (.bool false)))))]
def impl_GoodClauses.r1 : List Ent := [
  E0 0 (some 5) none (.i (.mv (.t 0))),
  E0 1 (some 6) none (.call F_impl_in false (roA [.t 5, .k (I64 0), .k (I64 12)])),
  E0 2 (some 7) none (.i (.mv (.t 6))),
  E0 3 (some 8) (some (7, true)) (.i (.mv (.t 1))),
  E0 4 (some 9) (some (7, true)) (.i (.len (.t 8))),
  E0 5 (some 10) (some (7, true)) (.i (.bin .leq (.t 9) (.k (I64 60)))),
  E0 6 (some 11) none (.i (.pick (.t 7) (.t 10) (.k (.dat none (.bool false))))),
  E0 7 (some 12) none (.i (.mv (.t 11))),
  E0 8 (some 13) (some (12, true)) (.i (.mv (.t 1))),
  E0 9 (some 14) (some (12, true)) (.i (.mv (.t 0))),
  E0 10 (some 15) (some (12, true)) (.call F_impl_areClauses false (roA [.t 13, .t 14])),
  E0 11 (some 16) none (.i (.pick (.t 12) (.t 15) (.k (.dat none (.bool false))))),
  E0 12 (some 4) none (.i (.mv (.t 16)))]
def impl_GoodClauses.fi : FI := { res := [.t 4], code := .seq (.reg 64 1 impl_GoodClauses.r0) (.seq (.reg 128 13 impl_GoodClauses.r1) (.ret)) }
attribute [go_sem] impl_GoodClauses.r0 impl_GoodClauses.r1
theorem impl_GoodClauses.ok : chkF prog F_impl_GoodClauses 2 impl_GoodClauses.fi = true := by kernel_rfl

/-! impl_IsTwo_c1 -/
def impl_IsTwo_c1.r0 : List Ent := [
  E0 0 (some 2) none (.i (.mv (.k (.dat none (.bool false)))))]
def impl_IsTwo_c1.r1 : List Ent := [
  E0 0 (some 3) none (.i (.mv (.t 0))),
  E0 1 (some 4) none (.i (.len (.t 3))),
  E0 2 (some 5) none (.call F_impl_in false (roA [.t 4, .k (I64 1), .k (I64 2)])),
  E0 3 (some 6) none (.i (.un .not (.t 5))),
  E0 4 (some 2) none (.i (.mv (.t 6)))]
def impl_IsTwo_c1.fi : FI := { res := [.t 2], code := .seq (.reg 64 1 impl_IsTwo_c1.r0) (.seq (.reg 128 5 impl_IsTwo_c1.r1) (.ret)) }
attribute [go_sem] impl_IsTwo_c1.r0 impl_IsTwo_c1.r1
theorem impl_IsTwo_c1.ok : chkF prog F_impl_IsTwo_c1 1 impl_IsTwo_c1.fi = true := by kernel_rfl

/-! impl_IsTwo -/
def impl_IsTwo.r0 : List Ent := [
  E0 0 (some 4) none (.i (.mv (.k (.dat none (.bool false)))))]
def impl_IsTwo.r1 : List Ent := [
  E0 0 (some 5) none (.i (.mv (.t 0))),
  E0 1 (some 6) none (.i (.mv (.t 1))),
  E0 2 (some 7) none (.call F_impl_GoodClauses false (roA [.t 5, .t 6])),
  E0 3 (some 8) none (.i (.mv (.t 7))),
  E0 4 (some 9) (some (8, true)) (.i (.mv (.t 1))),
  E0 5 (some 10) (some (8, true)) (.call F_slices_ContainsFunc__ssint_sint false (roA [.t 9, .k (.clo F_impl_IsTwo_c1 [])])),
  E0 6 (some 11) (some (8, true)) (.i (.un .not (.t 10))),
  E0 7 (some 12) none (.i (.pick (.t 8) (.t 11) (.k (.dat none (.bool false))))),
  E0 8 (some 4) none (.i (.mv (.t 12)))]
def impl_IsTwo.fi : FI := { res := [.t 4], code := .seq (.reg 64 1 impl_IsTwo.r0) (.seq (.reg 128 9 impl_IsTwo.r1) (.ret)) }
attribute [go_sem] impl_IsTwo.r0 impl_IsTwo.r1
theorem impl_IsTwo.ok : chkF prog F_impl_IsTwo 2 impl_IsTwo.fi = true := by kernel_rfl

/-! slices_Index__sint_int -/
def slices_Index__sint_int.r0 : List Ent := [
  E0 0 (some 4) none (.i (.mv (.k (I64 0))))]
def slices_Index__sint_int.r1 : List Ent := [
  E0 0 (some 6) none (.i (.mv (.t 0))),
  E0 1 (some 7) none (.i (.len (.t 6))),
  E0 2 (some 8) none (.i (.mv (.k (I64 0))))]
def slices_Index__sint_int.r2 : List Ent := [
  E0 0 (some 9) none (.i (.bin .lss (.t 8) (.t 7)))]
def slices_Index__sint_int.r3 : List Ent := [
  E0 0 (some 10) none (.i (.mv (.t 8))),
  E0 1 (some 5) none (.i (.mv (.t 10)))]
def slices_Index__sint_int.r4 : List Ent := [
  E0 0 (some 11) none (.i (.mv (.t 1))),
  E0 1 (some 12) none (.i (.mv (.t 0))),
  E0 2 (some 13) none (.i (.mv (.t 5))),
  E0 3 (some 14) none (.i (.iad 1 (.t 12) (.t 13))),
  E0 4 (some 15) none (.i (.load false false 1 (.t 14))),
  E0 5 (some 16) none (.i (.bin .eql (.t 11) (.t 15)))]
def slices_Index__sint_int.r5 : List Ent := [
  E0 0 (some 17) none (.i (.mv (.t 5))),
  E0 1 (some 4) none (.i (.mv (.t 17)))]
def slices_Index__sint_int.r6 : List Ent := [
  E0 0 (some 18) none (.i (.bin .add (.t 8) (.k (I64 1)))),
  E0 1 (some 8) none (.i (.mv (.t 18)))]
def slices_Index__sint_int.b0 : KC := .seq (.reg 320 1 slices_Index__sint_int.r2) (.seq (.cond (.t 9) (.skip) (.exit 0)) (.seq (.block 1 (.seq (.reg 384 2 slices_Index__sint_int.r3) (.seq (.reg 512 6 slices_Index__sint_int.r4) (.cond (.t 16) (.seq (.reg 896 2 slices_Index__sint_int.r5) (.ret)) (.skip))))) (.reg 1024 2 slices_Index__sint_int.r6)))
def slices_Index__sint_int.r7 : List Ent := [
  E0 0 (some 4) none (.i (.mv (.k (I64 (-1)))))]
def slices_Index__sint_int.fi : FI := { res := [.t 4], code := .seq (.reg 64 1 slices_Index__sint_int.r0) (.seq (.seq (.reg 128 3 slices_Index__sint_int.r1) (.block 0 (.loop slices_Index__sint_int.b0))) (.seq (.reg 1152 1 slices_Index__sint_int.r7) (.ret))) }
attribute [go_sem] slices_Index__sint_int.r0 slices_Index__sint_int.r1 slices_Index__sint_int.r2 slices_Index__sint_int.r3 slices_Index__sint_int.r4 slices_Index__sint_int.r5 slices_Index__sint_int.r6 slices_Index__sint_int.r7
theorem slices_Index__sint_int.ok : chkF prog F_slices_Index__sint_int 2 slices_Index__sint_int.fi = true := by kernel_rfl

/-! slices_Contains__sint_int -/
def slices_Contains__sint_int.r0 : List Ent := [
  E0 0 (some 4) none (.i (.mv (.k (.dat none (.bool false)))))]
def slices_Contains__sint_int.r1 : List Ent := [
  E0 0 (some 5) none (.i (.mv (.t 0))),
  E0 1 (some 6) none (.i (.mv (.t 1))),
  E0 2 (some 7) none (.call F_slices_Index__sint_int false (roA [.t 5, .t 6])),
  E0 3 (some 8) none (.i (.bin .geq (.t 7) (.k (I64 0)))),
  E0 4 (some 4) none (.i (.mv (.t 8)))]
def slices_Contains__sint_int.fi : FI := { res := [.t 4], code := .seq (.reg 64 1 slices_Contains__sint_int.r0) (.seq (.reg 128 5 slices_Contains__sint_int.r1) (.ret)) }
attribute [go_sem] slices_Contains__sint_int.r0 slices_Contains__sint_int.r1
theorem slices_Contains__sint_int.ok : chkF prog F_slices_Contains__sint_int 2 slices_Contains__sint_int.fi = true := by kernel_rfl

/-! impl_leadsTo -/
def impl_leadsTo.r0 : List Ent := [
  E0 0 (some 4) none (.i (.mv (.k (.nil 1))))]
def impl_leadsTo.r1 : List Ent := [
  E0 0 (some 12) none (.i (.mv (.t 1))),
  E0 1 (some 13) none (.i (.bsl false 1 [.t 12])),
  E0 2 (some 5) none (.i (.mv (.t 13)))]
def impl_leadsTo.r2 : List Ent := [
  E0 0 (some 6) none (.i (.mv (.k (I64 0))))]
def impl_leadsTo.r3 : List Ent := [
  E0 0 (some 14) none (.i (.mv (.t 6))),
  E0 1 (some 15) none (.i (.mv (.t 5))),
  E0 2 (some 16) none (.i (.len (.t 15))),
  E0 3 (some 17) none (.i (.bin .lss (.t 14) (.t 16)))]
def impl_leadsTo.r4 : List Ent := [
  E0 0 (some 20) none (.i (.mv (.t 0))),
  E0 1 (some 21) none (.i (.len (.t 20))),
  E0 2 (some 22) none (.i (.mv (.k (I64 0))))]
def impl_leadsTo.r5 : List Ent := [
  E0 0 (some 23) none (.i (.bin .lss (.t 22) (.t 21)))]
def impl_leadsTo.r6 : List Ent := [
  E0 0 (some 24) none (.i (.iad 1 (.t 20) (.t 22))),
  E0 1 (some 25) none (.i (.load false false 1 (.t 24))),
  E0 2 (some 8) none (.i (.mv (.t 25)))]
def impl_leadsTo.r7 : List Ent := [
  E0 0 (some 26) none (.i (.mv (.t 8))),
  E0 1 (some 27) none (.i (.len (.t 26))),
  E0 2 (some 28) none (.i (.mv (.k (I64 0))))]
def impl_leadsTo.r8 : List Ent := [
  E0 0 (some 29) none (.i (.bin .lss (.t 28) (.t 27)))]
def impl_leadsTo.r9 : List Ent := [
  E0 0 (some 30) none (.i (.mv (.t 28))),
  E0 1 (some 31) none (.i (.iad 1 (.t 26) (.t 28))),
  E0 2 (some 32) none (.i (.load false false 1 (.t 31))),
  E0 3 (some 9) none (.i (.mv (.t 30))),
  E0 4 (some 10) none (.i (.mv (.t 32)))]
def impl_leadsTo.r10 : List Ent := [
  E0 0 (some 33) none (.i (.mv (.t 8))),
  E0 1 (some 34) none (.i (.mv (.t 8))),
  E0 2 (some 35) none (.i (.len (.t 34))),
  E0 3 (some 36) none (.i (.bin .sub (.t 35) (.k (I64 1)))),
  E0 4 (some 37) none (.i (.mv (.t 9))),
  E0 5 (some 38) none (.i (.bin .sub (.t 36) (.t 37))),
  E0 6 (some 39) none (.i (.iad 1 (.t 33) (.t 38))),
  E0 7 (some 40) none (.i (.load false false 1 (.t 39))),
  E0 8 (some 11) none (.i (.mv (.t 40)))]
def impl_leadsTo.r11 : List Ent := [
  E0 0 (some 41) none (.i (.mv (.t 10))),
  E0 1 (some 42) none (.i (.un .neg (.t 41))),
  E0 2 (some 43) none (.i (.mv (.t 5))),
  E0 3 (some 44) none (.i (.mv (.t 6))),
  E0 4 (some 45) none (.i (.iad 1 (.t 43) (.t 44))),
  E0 5 (some 46) none (.i (.load false false 1 (.t 45))),
  E0 6 (some 47) none (.i (.bin .eql (.t 42) (.t 46))),
  E0 7 (some 48) none (.i (.mv (.t 47))),
  E0 8 (some 49) (some (48, true)) (.i (.mv (.t 5))),
  E0 9 (some 50) (some (48, true)) (.i (.mv (.t 11))),
  E0 10 (some 51) (some (48, true)) (.call F_slices_Contains__sint_int false (roA [.t 49, .t 50])),
  E0 11 (some 52) (some (48, true)) (.i (.un .not (.t 51))),
  E0 12 (some 53) none (.i (.pick (.t 48) (.t 52) (.k (.dat none (.bool false)))))]
def impl_leadsTo.r12 : List Ent := [
  E0 0 (some 54) none (.i (.mv (.t 5))),
  E0 1 (some 55) none (.i (.mv (.t 11))),
  E0 2 (some 56) none (.i (.bsl true 1 [.t 55])),
  E0 3 (some 57) none (.i (.app 1 8 (.t 54) (.t 56))),
  E0 4 (some 5) none (.i (.mv (.t 57)))]
def impl_leadsTo.r13 : List Ent := [
  E0 0 (some 58) none (.i (.bin .add (.t 28) (.k (I64 1)))),
  E0 1 (some 28) none (.i (.mv (.t 58)))]
def impl_leadsTo.b0 : KC := .seq (.reg 1280 1 impl_leadsTo.r8) (.seq (.cond (.t 29) (.skip) (.exit 4)) (.seq (.block 5 (.seq (.reg 1344 5 impl_leadsTo.r9) (.seq (.reg 1664 9 impl_leadsTo.r10) (.seq (.reg 2240 13 impl_leadsTo.r11) (.cond (.t 53) (.reg 3072 5 impl_leadsTo.r12) (.skip)))))) (.reg 3392 2 impl_leadsTo.r13)))
def impl_leadsTo.r14 : List Ent := [
  E0 0 (some 59) none (.i (.bin .add (.t 22) (.k (I64 1)))),
  E0 1 (some 22) none (.i (.mv (.t 59)))]
def impl_leadsTo.b1 : KC := .seq (.reg 832 1 impl_leadsTo.r5) (.seq (.cond (.t 23) (.skip) (.exit 2)) (.seq (.block 3 (.seq (.reg 896 3 impl_leadsTo.r6) (.seq (.reg 1088 3 impl_leadsTo.r7) (.block 4 (.loop impl_leadsTo.b0))))) (.reg 3520 2 impl_leadsTo.r14)))
def impl_leadsTo.r15 : List Ent := [
  E0 0 (some 18) none (.i (.mv (.t 6))),
  E0 1 (some 19) none (.i (.bin .add (.t 18) (.k (I64 1)))),
  E0 2 (some 6) none (.i (.mv (.t 19)))]
def impl_leadsTo.b2 : KC := .seq (.seq (.reg 384 4 impl_leadsTo.r3) (.cond (.t 17) (.skip) (.exit 0))) (.seq (.block 1 (.seq (.reg 640 3 impl_leadsTo.r4) (.block 2 (.loop impl_leadsTo.b1)))) (.reg 3648 3 impl_leadsTo.r15))
def impl_leadsTo.r16 : List Ent := [
  E0 0 (some 60) none (.i (.mv (.t 5))),
  E0 1 (some 61) none (.call F_slices_Sort__sint_int false [(.io, .t 60)])]
def impl_leadsTo.r17 : List Ent := [
  E0 0 (some 62) none (.i (.mv (.t 5))),
  E0 1 (some 4) none (.i (.mv (.t 62)))]
def impl_leadsTo.fi : FI := { res := [.t 4], code := .seq (.reg 64 1 impl_leadsTo.r0) (.seq (.reg 128 3 impl_leadsTo.r1) (.seq (.seq (.reg 320 1 impl_leadsTo.r2) (.nrm 5 3264 1 (.block 0 (.loop impl_leadsTo.b2)))) (.seq (.reg 3840 2 impl_leadsTo.r16) (.seq (.reg 3968 2 impl_leadsTo.r17) (.ret))))) }
attribute [go_sem] impl_leadsTo.r0 impl_leadsTo.r1 impl_leadsTo.r2 impl_leadsTo.r3 impl_leadsTo.r4 impl_leadsTo.r5 impl_leadsTo.r6 impl_leadsTo.r7 impl_leadsTo.r8 impl_leadsTo.r9 impl_leadsTo.r10 impl_leadsTo.r11 impl_leadsTo.r12 impl_leadsTo.r13 impl_leadsTo.r14 impl_leadsTo.r15 impl_leadsTo.r16 impl_leadsTo.r17
theorem impl_leadsTo.ok : chkF prog F_impl_leadsTo 2 impl_leadsTo.fi = true := by kernel_rfl

/-! impl_leads -/
def impl_leads.r0 : List Ent := [
  E0 0 (some 6) none (.i (.mv (.k (.dat none (.bool false)))))]
def impl_leads.r1 : List Ent := [
  E0 0 (some 7) none (.i (.mv (.t 0))),
  E0 1 (some 8) none (.i (.mv (.t 1))),
  E0 2 (some 9) none (.call F_impl_leadsTo false (roA [.t 7, .t 8])),
  E0 3 (some 10) none (.i (.mv (.t 2))),
  E0 4 (some 11) none (.call F_slices_Contains__sint_int false (roA [.t 9, .t 10])),
  E0 5 (some 6) none (.i (.mv (.t 11)))]
def impl_leads.fi : FI := { res := [.t 6], code := .seq (.reg 64 1 impl_leads.r0) (.seq (.reg 128 6 impl_leads.r1) (.ret)) }
attribute [go_sem] impl_leads.r0 impl_leads.r1
theorem impl_leads.ok : chkF prog F_impl_leads 3 impl_leads.fi = true := by kernel_rfl

/-! spec_LeadsTo -/
def spec_LeadsTo.r0 : List Ent := [
  E0 0 (some 6) none (.i (.mv (.k (.nil 1)))),
  E0 1 (some 7) none (.i (.mv (.k (.dat none (.bool false)))))]
def spec_LeadsTo.r1 : List Ent := [
  E0 0 (some 8) none (.i (.mv (.t 0))),
  E0 1 (some 9) none (.i (.mv (.t 1))),
  E0 2 (some 10) none (.call F_spec_IsTwo false (roA [.t 8, .t 9])),
  E0 3 (some 11) none (.i (.un .not (.t 10))),
  E0 4 (some 12) none (.i (.mv (.t 11))),
  E0 5 (some 13) (some (12, false)) (.i (.mv (.t 2))),
  E0 6 (some 14) (some (12, false)) (.i (.bin .eql (.t 13) (.k (I64 0)))),
  E0 7 (some 15) none (.i (.pick (.t 12) (.k (.dat none (.bool true))) (.t 14))),
  E0 8 (some 16) none (.i (.mv (.t 15))),
  E0 9 (some 17) (some (16, false)) (.i (.mv (.t 2))),
  E0 10 (some 18) (some (16, false)) (.i (.mv (.t 0))),
  E0 11 (some 19) (some (16, false)) (.i (.un .neg (.t 18))),
  E0 12 (some 20) (some (16, false)) (.i (.mv (.t 0))),
  E0 13 (some 21) (some (16, false)) (.call F_spec_l1In false (roA [.t 17, .t 19, .t 20])),
  E0 14 (some 22) (some (16, false)) (.i (.un .not (.t 21))),
  E0 15 (some 23) none (.i (.pick (.t 16) (.k (.dat none (.bool true))) (.t 22)))]
def spec_LeadsTo.r2 : List Ent := [
  E0 0 (some 6) none (.i (.mv (.k (.nil 1)))),
  E0 1 (some 7) none (.i (.mv (.k (.dat none (.bool false)))))]
def spec_LeadsTo.r3 : List Ent := [
  E0 0 (some 24) none (.i (.mv (.t 1))),
  E0 1 (some 25) none (.i (.mv (.t 2))),
  E0 2 (some 26) none (.call F_spec_l15Leads false (roA [.t 24, .t 25])),
  E0 3 (some 6) none (.i (.mv (.t 26))),
  E0 4 (some 7) none (.i (.mv (.k (.dat none (.bool true)))))]
def spec_LeadsTo.fi : FI := { res := [.t 6, .t 7], code := .seq (.reg 64 2 spec_LeadsTo.r0) (.seq (.seq (.reg 192 16 spec_LeadsTo.r1) (.cond (.t 23) (.seq (.reg 1216 2 spec_LeadsTo.r2) (.ret)) (.skip))) (.seq (.reg 1344 5 spec_LeadsTo.r3) (.ret))) }
attribute [go_sem] spec_LeadsTo.r0 spec_LeadsTo.r1 spec_LeadsTo.r2 spec_LeadsTo.r3
theorem spec_LeadsTo.ok : chkF prog F_spec_LeadsTo 3 spec_LeadsTo.fi = true := by kernel_rfl

/-! impl_LeadsTo -/
def impl_LeadsTo.r0 : List Ent := [
  E0 0 (some 6) none (.i (.mv (.k (.nil 1)))),
  E0 1 (some 7) none (.i (.mv (.k (.dat none (.bool false)))))]
def impl_LeadsTo.r1 : List Ent := [
  E0 0 (some 8) none (.i (.mv (.t 0))),
  E0 1 (some 9) none (.i (.mv (.t 1))),
  E0 2 (some 10) none (.call F_impl_IsTwo false (roA [.t 8, .t 9])),
  E0 3 (some 11) none (.i (.un .not (.t 10))),
  E0 4 (some 12) none (.i (.mv (.t 11))),
  E0 5 (some 13) (some (12, false)) (.i (.mv (.t 2))),
  E0 6 (some 14) (some (12, false)) (.i (.mv (.t 0))),
  E0 7 (some 15) (some (12, false)) (.call F_impl_isLiteral false (roA [.t 13, .t 14])),
  E0 8 (some 16) (some (12, false)) (.i (.un .not (.t 15))),
  E0 9 (some 17) none (.i (.pick (.t 12) (.k (.dat none (.bool true))) (.t 16)))]
def impl_LeadsTo.r2 : List Ent := [
  E0 0 (some 6) none (.i (.mv (.k (.nil 1)))),
  E0 1 (some 7) none (.i (.mv (.k (.dat none (.bool false)))))]
def impl_LeadsTo.r3 : List Ent := [
  E0 0 (some 18) none (.i (.mv (.t 1))),
  E0 1 (some 19) none (.i (.mv (.t 2))),
  E0 2 (some 20) none (.call F_impl_leadsTo false (roA [.t 18, .t 19])),
  E0 3 (some 6) none (.i (.mv (.t 20))),
  E0 4 (some 7) none (.i (.mv (.k (.dat none (.bool true)))))]
def impl_LeadsTo.fi : FI := { res := [.t 6, .t 7], code := .seq (.reg 64 2 impl_LeadsTo.r0) (.seq (.seq (.reg 192 10 impl_LeadsTo.r1) (.cond (.t 17) (.seq (.reg 832 2 impl_LeadsTo.r2) (.ret)) (.skip))) (.seq (.reg 960 5 impl_LeadsTo.r3) (.ret))) }
attribute [go_sem] impl_LeadsTo.r0 impl_LeadsTo.r1 impl_LeadsTo.r2 impl_LeadsTo.r3
theorem impl_LeadsTo.ok : chkF prog F_impl_LeadsTo 3 impl_LeadsTo.fi = true := by kernel_rfl

/-! spec_LoopsOf -/
def spec_LoopsOf.r0 : List Ent := [
  E0 0 (some 4) none (.i (.mv (.k (.nil 1)))),
  E0 1 (some 5) none (.i (.mv (.k (.dat none (.bool false)))))]
def spec_LoopsOf.r1 : List Ent := [
  E0 0 (some 12) none (.i (.mv (.t 0))),
  E0 1 (some 13) none (.i (.mv (.t 1))),
  E0 2 (some 14) none (.call F_spec_IsTwo false (roA [.t 12, .t 13])),
  E0 3 (some 15) none (.i (.un .not (.t 14)))]
def spec_LoopsOf.r2 : List Ent := [
  E0 0 (some 4) none (.i (.mv (.k (.nil 1)))),
  E0 1 (some 5) none (.i (.mv (.k (.dat none (.bool false)))))]
def spec_LoopsOf.r3 : List Ent := [
  E0 0 (some 6) none (.i (.mv (.k (.nil 1))))]
def spec_LoopsOf.r4 : List Ent := [
  E0 0 (some 7) none (.i (.mv (.k (.nil 1))))]
def spec_LoopsOf.r5 : List Ent := [
  E0 0 (some 16) none (.i (.mv (.t 0))),
  E0 1 (some 17) none (.i (.un .neg (.t 16))),
  E0 2 (some 8) none (.i (.mv (.t 17)))]
def spec_LoopsOf.r6 : List Ent := [
  E0 0 (some 18) none (.i (.mv (.t 8))),
  E0 1 (some 19) none (.i (.mv (.t 0))),
  E0 2 (some 20) none (.i (.bin .leq (.t 18) (.t 19)))]
def spec_LoopsOf.r7 : List Ent := [
  E0 0 (some 23) none (.i (.mv (.t 8))),
  E0 1 (some 24) none (.i (.bin .eql (.t 23) (.k (I64 0)))),
  E0 2 (some 25) none (.i (.mv (.t 24))),
  E0 3 (some 26) (some (25, false)) (.i (.mv (.t 6))),
  E0 4 (some 27) (some (25, false)) (.i (.mv (.t 8))),
  E0 5 (some 28) (some (25, false)) (.call F_spec_l1Has false (roA [.t 26, .t 27])),
  E0 6 (some 29) none (.i (.pick (.t 25) (.k (.dat none (.bool true))) (.t 28)))]
def spec_LoopsOf.r8 : List Ent := [
  E0 0 (some 9) none (.i (.mv (.k (.nil 1))))]
def spec_LoopsOf.r9 : List Ent := [
  E0 0 (some 30) none (.i (.mv (.t 1))),
  E0 1 (some 31) none (.i (.mv (.t 8))),
  E0 2 (some 32) none (.call F_spec_l15Leads false (roA [.t 30, .t 31])),
  E0 3 (some 33) none (.i (.len (.t 32))),
  E0 4 (some 34) none (.i (.mv (.k (I64 0))))]
def spec_LoopsOf.r10 : List Ent := [
  E0 0 (some 35) none (.i (.bin .lss (.t 34) (.t 33)))]
def spec_LoopsOf.r11 : List Ent := [
  E0 0 (some 36) none (.i (.iad 1 (.t 32) (.t 34))),
  E0 1 (some 37) none (.i (.load false false 1 (.t 36))),
  E0 2 (some 11) none (.i (.mv (.t 37)))]
def spec_LoopsOf.r12 : List Ent := [
  E0 0 (some 38) none (.i (.mv (.t 1))),
  E0 1 (some 39) none (.i (.mv (.t 11))),
  E0 2 (some 40) none (.call F_spec_l15Leads false (roA [.t 38, .t 39])),
  E0 3 (some 41) none (.i (.mv (.t 8))),
  E0 4 (some 42) none (.call F_spec_l1Has false (roA [.t 40, .t 41]))]
def spec_LoopsOf.r13 : List Ent := [
  E0 0 (some 43) none (.i (.mv (.t 9))),
  E0 1 (some 44) none (.i (.mv (.t 11))),
  E0 2 (some 45) none (.i (.bsl true 1 [.t 44])),
  E0 3 (some 46) none (.i (.app 1 8 (.t 43) (.t 45))),
  E0 4 (some 9) none (.i (.mv (.t 46)))]
def spec_LoopsOf.r14 : List Ent := [
  E0 0 (some 47) none (.i (.mv (.t 6))),
  E0 1 (some 48) none (.i (.mv (.t 11))),
  E0 2 (some 49) none (.i (.bsl true 1 [.t 48])),
  E0 3 (some 50) none (.i (.app 1 8 (.t 47) (.t 49))),
  E0 4 (some 6) none (.i (.mv (.t 50)))]
def spec_LoopsOf.r15 : List Ent := [
  E0 0 (some 51) none (.i (.bin .add (.t 34) (.k (I64 1)))),
  E0 1 (some 34) none (.i (.mv (.t 51)))]
def spec_LoopsOf.b0 : KC := .seq (.reg 1920 1 spec_LoopsOf.r10) (.seq (.cond (.t 35) (.skip) (.exit 2)) (.seq (.block 3 (.seq (.reg 1984 3 spec_LoopsOf.r11) (.seq (.reg 2176 5 spec_LoopsOf.r12) (.cond (.t 42) (.seq (.reg 2496 5 spec_LoopsOf.r13) (.reg 2816 5 spec_LoopsOf.r14)) (.skip))))) (.reg 3136 2 spec_LoopsOf.r15)))
def spec_LoopsOf.r16 : List Ent := [
  E0 0 (some 52) none (.i (.mv (.t 7))),
  E0 1 (some 53) none (.i (.mv (.t 9))),
  E0 2 (some 54) none (.i (.bsl false 1 [.t 53])),
  E0 3 (some 55) none (.i (.app 1 24 (.t 52) (.t 54))),
  E0 4 (some 7) none (.i (.mv (.t 55)))]
def spec_LoopsOf.r17 : List Ent := [
  E0 0 (some 21) none (.i (.mv (.t 8))),
  E0 1 (some 22) none (.i (.bin .add (.t 21) (.k (I64 1)))),
  E0 2 (some 8) none (.i (.mv (.t 22)))]
def spec_LoopsOf.b1 : KC := .seq (.seq (.reg 896 3 spec_LoopsOf.r6) (.cond (.t 20) (.skip) (.exit 0))) (.seq (.block 1 (.seq (.seq (.reg 1088 7 spec_LoopsOf.r7) (.cond (.t 29) (.exit 1) (.skip))) (.seq (.reg 1536 1 spec_LoopsOf.r8) (.seq (.seq (.reg 1600 5 spec_LoopsOf.r9) (.block 2 (.loop spec_LoopsOf.b0))) (.reg 3264 5 spec_LoopsOf.r16))))) (.reg 3584 3 spec_LoopsOf.r17))
def spec_LoopsOf.r18 : List Ent := [
  E0 0 (some 56) none (.i (.mv (.t 7))),
  E0 1 (some 4) none (.i (.mv (.t 56))),
  E0 2 (some 5) none (.i (.mv (.k (.dat none (.bool true)))))]
def spec_LoopsOf.fi : FI := { res := [.t 4, .t 5], code := .seq (.reg 64 2 spec_LoopsOf.r0) (.seq (.seq (.reg 192 4 spec_LoopsOf.r1) (.cond (.t 15) (.seq (.reg 448 2 spec_LoopsOf.r2) (.ret)) (.skip))) (.seq (.reg 576 1 spec_LoopsOf.r3) (.seq (.reg 640 1 spec_LoopsOf.r4) (.seq (.seq (.reg 704 3 spec_LoopsOf.r5) (.nrm 6 3008 1 (.nrm 7 3456 1 (.nrm 9 2688 1 (.block 0 (.loop spec_LoopsOf.b1)))))) (.seq (.reg 3776 3 spec_LoopsOf.r18) (.ret)))))) }
attribute [go_sem] spec_LoopsOf.r0 spec_LoopsOf.r1 spec_LoopsOf.r2 spec_LoopsOf.r3 spec_LoopsOf.r4 spec_LoopsOf.r5 spec_LoopsOf.r6 spec_LoopsOf.r7 spec_LoopsOf.r8 spec_LoopsOf.r9 spec_LoopsOf.r10 spec_LoopsOf.r11 spec_LoopsOf.r12 spec_LoopsOf.r13 spec_LoopsOf.r14 spec_LoopsOf.r15 spec_LoopsOf.r16 spec_LoopsOf.r17 spec_LoopsOf.r18
theorem spec_LoopsOf.ok : chkF prog F_spec_LoopsOf 2 spec_LoopsOf.fi = true := by kernel_rfl

/-! slices_DeleteFunc__sint_int -/
def slices_DeleteFunc__sint_int.r0 : List Ent := [
  E0 0 (some 4) none (.i (.mv (.k (.nil 1))))]
def slices_DeleteFunc__sint_int.r1 : List Ent := [
  E0 0 (some 8) none (.i (.mv (.t 0))),
  E0 1 (some 9) none (.i (.mv (.t 1))),
  E0 2 (some 10) none (.call F_slices_IndexFunc__sint_int false (roA [.t 8, .t 9])),
  E0 3 (some 5) none (.i (.mv (.t 10)))]
def slices_DeleteFunc__sint_int.r2 : List Ent := [
  E0 0 (some 11) none (.i (.mv (.t 5))),
  E0 1 (some 12) none (.i (.bin .eql (.t 11) (.k (I64 (-1)))))]
def slices_DeleteFunc__sint_int.r3 : List Ent := [
  E0 0 (some 13) none (.i (.mv (.t 0))),
  E0 1 (some 4) none (.i (.mv (.t 13)))]
def slices_DeleteFunc__sint_int.r4 : List Ent := [
  E0 0 (some 14) none (.i (.mv (.t 5))),
  E0 1 (some 15) none (.i (.bin .add (.t 14) (.k (I64 1)))),
  E0 2 (some 6) none (.i (.mv (.t 15)))]
def slices_DeleteFunc__sint_int.r5 : List Ent := [
  E0 0 (some 16) none (.i (.mv (.t 6))),
  E0 1 (some 17) none (.i (.mv (.t 0))),
  E0 2 (some 18) none (.i (.len (.t 17))),
  E0 3 (some 19) none (.i (.bin .lss (.t 16) (.t 18)))]
def slices_DeleteFunc__sint_int.r6 : List Ent := [
  E0 0 (some 22) none (.i (.mv (.t 0))),
  E0 1 (some 23) none (.i (.mv (.t 6))),
  E0 2 (some 24) none (.i (.iad 1 (.t 22) (.t 23))),
  E0 3 (some 25) none (.i (.load false false 1 (.t 24))),
  E0 4 (some 7) none (.i (.mv (.t 25)))]
def slices_DeleteFunc__sint_int.r7 : List Ent := [
  E0 0 (some 26) none (.i (.mv (.t 1))),
  E0 1 (some 27) none (.i (.mv (.t 7))),
  E0 2 (some 28) none (.ccl (.t 26) false [.t 27]),
  E0 3 (some 29) none (.i (.un .not (.t 28)))]
def slices_DeleteFunc__sint_int.r8 : List Ent := [
  E0 0 (some 30) none (.i (.mv (.t 0))),
  E0 1 (some 31) none (.i (.mv (.t 5))),
  E0 2 (some 32) none (.i (.mv (.t 7))),
  E0 3 (some 33) none (.i (.iad 1 (.t 30) (.t 31))),
  E0 4 none none (.i (.store 1 (.t 33) (.t 32)))]
def slices_DeleteFunc__sint_int.r9 : List Ent := [
  E0 0 (some 34) none (.i (.mv (.t 5))),
  E0 1 (some 35) none (.i (.bin .add (.t 34) (.k (I64 1)))),
  E0 2 (some 5) none (.i (.mv (.t 35)))]
def slices_DeleteFunc__sint_int.r10 : List Ent := [
  E0 0 (some 20) none (.i (.mv (.t 6))),
  E0 1 (some 21) none (.i (.bin .add (.t 20) (.k (I64 1)))),
  E0 2 (some 6) none (.i (.mv (.t 21)))]
def slices_DeleteFunc__sint_int.b0 : KC := .seq (.seq (.reg 832 4 slices_DeleteFunc__sint_int.r5) (.cond (.t 19) (.skip) (.exit 0))) (.seq (.block 1 (.seq (.reg 1088 5 slices_DeleteFunc__sint_int.r6) (.seq (.reg 1408 4 slices_DeleteFunc__sint_int.r7) (.cond (.t 29) (.seq (.reg 1664 5 slices_DeleteFunc__sint_int.r8) (.reg 1984 3 slices_DeleteFunc__sint_int.r9)) (.skip))))) (.reg 2176 3 slices_DeleteFunc__sint_int.r10))
def slices_DeleteFunc__sint_int.r11 : List Ent := [
  E0 0 (some 36) none (.i (.mv (.t 0))),
  E0 1 (some 37) none (.i (.mv (.t 5))),
  E0 2 (some 38) none (.i (.slc 1 (.t 36) (some (.t 37)) (none))),
  E0 3 none none (.i (.clr 1 (.int .i64 0) (.t 38)))]
def slices_DeleteFunc__sint_int.r12 : List Ent := [
  E0 0 (some 39) none (.i (.mv (.t 0))),
  E0 1 (some 40) none (.i (.mv (.t 5))),
  E0 2 (some 41) none (.i (.slc 1 (.t 39) (none) (some (.t 40)))),
  E0 3 (some 4) none (.i (.mv (.t 41)))]
def slices_DeleteFunc__sint_int.fi : FI := { res := [.t 4], code := .seq (.reg 64 1 slices_DeleteFunc__sint_int.r0) (.seq (.reg 128 4 slices_DeleteFunc__sint_int.r1) (.seq (.seq (.reg 384 2 slices_DeleteFunc__sint_int.r2) (.cond (.t 12) (.seq (.reg 512 2 slices_DeleteFunc__sint_int.r3) (.ret)) (.skip))) (.seq (.seq (.reg 640 3 slices_DeleteFunc__sint_int.r4) (.block 0 (.loop slices_DeleteFunc__sint_int.b0))) (.seq (.reg 2368 4 slices_DeleteFunc__sint_int.r11) (.seq (.reg 2624 4 slices_DeleteFunc__sint_int.r12) (.ret)))))) }
attribute [go_sem] slices_DeleteFunc__sint_int.r0 slices_DeleteFunc__sint_int.r1 slices_DeleteFunc__sint_int.r2 slices_DeleteFunc__sint_int.r3 slices_DeleteFunc__sint_int.r4 slices_DeleteFunc__sint_int.r5 slices_DeleteFunc__sint_int.r6 slices_DeleteFunc__sint_int.r7 slices_DeleteFunc__sint_int.r8 slices_DeleteFunc__sint_int.r9 slices_DeleteFunc__sint_int.r10 slices_DeleteFunc__sint_int.r11 slices_DeleteFunc__sint_int.r12
theorem slices_DeleteFunc__sint_int.ok : chkF prog F_slices_DeleteFunc__sint_int 2 slices_DeleteFunc__sint_int.fi = true := by kernel_rfl

/-! impl_LoopsOf_c1 -/
def impl_LoopsOf_c1.r0 : List Ent := [
  E0 0 (some 4) none (.i (.mv (.k (.dat none (.bool false)))))]
def impl_LoopsOf_c1.r1 : List Ent := [
  E0 0 (some 5) none (.i (.load false false 1 (.t 1))),
  E0 1 (some 6) none (.i (.mv (.t 0))),
  E0 2 (some 7) none (.i (.load false false 1 (.t 2))),
  E0 3 (some 8) none (.call F_impl_leads false (roA [.t 5, .t 6, .t 7])),
  E0 4 (some 9) none (.i (.un .not (.t 8))),
  E0 5 (some 4) none (.i (.mv (.t 9)))]
def impl_LoopsOf_c1.fi : FI := { res := [.t 4], code := .seq (.reg 64 1 impl_LoopsOf_c1.r0) (.seq (.reg 128 6 impl_LoopsOf_c1.r1) (.ret)) }
attribute [go_sem] impl_LoopsOf_c1.r0 impl_LoopsOf_c1.r1
theorem impl_LoopsOf_c1.ok : chkF prog F_impl_LoopsOf_c1 3 impl_LoopsOf_c1.fi = true := by kernel_rfl

/-! impl_LoopsOf -/
def impl_LoopsOf.r0 : List Ent := [
  E0 0 (some 3) none (.i (.box (.t 1))),
  E0 1 (some 4) none (.i (.mv (.k (.nil 1)))),
  E0 2 (some 5) none (.i (.mv (.k (.dat none (.bool false)))))]
def impl_LoopsOf.r1 : List Ent := [
  E0 0 (some 9) none (.i (.mv (.t 0))),
  E0 1 (some 10) none (.i (.load false false 1 (.t 3))),
  E0 2 (some 11) none (.call F_impl_IsTwo false (roA [.t 9, .t 10])),
  E0 3 (some 12) none (.i (.un .not (.t 11)))]
def impl_LoopsOf.r2 : List Ent := [
  E0 0 (some 4) none (.i (.mv (.k (.nil 1)))),
  E0 1 (some 5) none (.i (.mv (.k (.dat none (.bool false)))))]
def impl_LoopsOf.r3 : List Ent := [
  E0 0 (some 6) none (.i (.mv (.k (.nil 1))))]
def impl_LoopsOf.r4 : List Ent := [
  E0 0 (some 13) none (.i (.mv (.t 0))),
  E0 1 (some 14) none (.i (.un .neg (.t 13))),
  E0 2 (some 7) none (.i (.box (.k (.dat none (.int .i64 0))))),
  E0 3 none none (.i (.store 1 (.t 7) (.t 14)))]
def impl_LoopsOf.r5 : List Ent := [
  E0 0 (some 15) none (.i (.load false false 1 (.t 7))),
  E0 1 (some 16) none (.i (.mv (.t 0))),
  E0 2 (some 17) none (.i (.bin .leq (.t 15) (.t 16)))]
def impl_LoopsOf.r6 : List Ent := [
  E0 0 (some 20) none (.i (.load false false 1 (.t 7))),
  E0 1 (some 21) none (.i (.bin .eql (.t 20) (.k (I64 0))))]
def impl_LoopsOf.r7 : List Ent := [
  E0 0 (some 22) none (.i (.load false false 1 (.t 3))),
  E0 1 (some 23) none (.i (.load false false 1 (.t 7))),
  E0 2 (some 24) none (.call F_impl_leadsTo false (roA [.t 22, .t 23])),
  E0 3 (some 25) none (.i (.mkf F_impl_LoopsOf_c1 [.t 3, .t 7])),
  E0 4 (some 26) none (.call F_slices_DeleteFunc__sint_int false [(.co, .t 24), (.ro, .t 25)]),
  E0 5 (some 8) none (.i (.mv (.t 26)))]
def impl_LoopsOf.r8 : List Ent := [
  E0 0 (some 27) none (.i (.mv (.t 8))),
  ER 1 (some 28) none (.iad 1 (.t 27) (.k (I64 0))),
  ER 2 (some 29) none (.load false false 1 (.t 28)),
  ER 3 (some 30) none (.load false false 1 (.t 7)),
  E0 4 (some 31) none (.i (.bin .eql (.t 29) (.t 30)))]
def impl_LoopsOf.r9 : List Ent := [
  E0 0 (some 32) none (.i (.mv (.t 6))),
  E0 1 (some 33) none (.i (.mv (.t 8))),
  E0 2 (some 34) none (.i (.bsl false 1 [.t 33])),
  E0 3 (some 35) none (.i (.app 1 24 (.t 32) (.t 34))),
  E0 4 (some 6) none (.i (.mv (.t 35)))]
def impl_LoopsOf.r10 : List Ent := [
  E0 0 (some 36) none (.i (.load false false 1 (.t 7)))]
def impl_LoopsOf.r11 : List Ent := [
  E0 0 (some 7) none (.i (.box (.k (.dat none (.int .i64 0))))),
  E0 1 none none (.i (.store 1 (.t 7) (.t 36)))]
def impl_LoopsOf.r12 : List Ent := [
  E0 0 (some 18) none (.i (.load false false 1 (.t 7))),
  E0 1 (some 19) none (.i (.bin .add (.t 18) (.k (I64 1)))),
  E0 2 none none (.i (.store 1 (.t 7) (.t 19)))]
def impl_LoopsOf.b0 : KC := .seq (.seq (.reg 960 3 impl_LoopsOf.r5) (.cond (.t 17) (.skip) (.exit 0))) (.seq (.block 1 (.seq (.seq (.reg 1152 2 impl_LoopsOf.r6) (.cond (.t 21) (.exit 1) (.skip))) (.seq (.reg 1280 6 impl_LoopsOf.r7) (.seq (.reg 1664 5 impl_LoopsOf.r8) (.cond (.t 31) (.reg 1984 5 impl_LoopsOf.r9) (.skip)))))) (.seq (.seq (.reg 2304 1 impl_LoopsOf.r10) (.reg 2368 2 impl_LoopsOf.r11)) (.reg 2496 3 impl_LoopsOf.r12)))
def impl_LoopsOf.r13 : List Ent := [
  E0 0 (some 37) none (.i (.mv (.t 6))),
  E0 1 (some 4) none (.i (.mv (.t 37))),
  E0 2 (some 5) none (.i (.mv (.k (.dat none (.bool true)))))]
def impl_LoopsOf.fi : FI := { res := [.t 4, .t 5], code := .seq (.reg 64 3 impl_LoopsOf.r0) (.seq (.seq (.reg 256 4 impl_LoopsOf.r1) (.cond (.t 12) (.seq (.reg 512 2 impl_LoopsOf.r2) (.ret)) (.skip))) (.seq (.reg 640 1 impl_LoopsOf.r3) (.seq (.seq (.reg 704 4 impl_LoopsOf.r4) (.nrm 6 2176 1 (.block 0 (.loop impl_LoopsOf.b0)))) (.seq (.reg 2688 3 impl_LoopsOf.r13) (.ret))))) }
attribute [go_sem] impl_LoopsOf.r0 impl_LoopsOf.r1 impl_LoopsOf.r2 impl_LoopsOf.r3 impl_LoopsOf.r4 impl_LoopsOf.r5 impl_LoopsOf.r6 impl_LoopsOf.r7 impl_LoopsOf.r8 impl_LoopsOf.r9 impl_LoopsOf.r10 impl_LoopsOf.r11 impl_LoopsOf.r12 impl_LoopsOf.r13
theorem impl_LoopsOf.ok : chkF prog F_impl_LoopsOf 2 impl_LoopsOf.fi = true := by kernel_rfl

/-! spec_pl1Cur_next -/
def spec_pl1Cur_next.r0 : List Ent := [
  E0 0 (some 2) none (.i (.mv (.k (I64 0))))]
def spec_pl1Cur_next.r1 : List Ent := [
  E0 0 (some 3) none (.i (.mv (.k (I64 0))))]
def spec_pl1Cur_next.r2 : List Ent := [
  E0 0 (some 4) none (.i (.mv (.t 0))),
  E0 1 (some 5) none (.i (.nck (.t 4))),
  ER 2 (some 6) none (.fad 1 (.t 5)),
  ER 3 (some 7) none (.load false false 1 (.t 6)),
  E0 4 (some 8) none (.i (.mv (.t 0))),
  E0 5 (some 9) none (.i (.nck (.t 8))),
  ER 6 (some 10) none (.fad 0 (.t 9)),
  ER 7 (some 11) none (.load false false 1 (.t 10)),
  ER 8 (some 12) none (.len (.t 11)),
  E0 9 (some 13) none (.i (.bin .lss (.t 7) (.t 12)))]
def spec_pl1Cur_next.r3 : List Ent := [
  E0 0 (some 14) none (.i (.mv (.t 0))),
  E0 1 (some 15) none (.i (.nck (.t 14))),
  ER 2 (some 16) none (.fad 0 (.t 15)),
  ER 3 (some 17) none (.load false false 1 (.t 16)),
  E0 4 (some 18) none (.i (.mv (.t 0))),
  E0 5 (some 19) none (.i (.nck (.t 18))),
  ER 6 (some 20) none (.fad 1 (.t 19)),
  ER 7 (some 21) none (.load false false 1 (.t 20)),
  E0 8 (some 22) none (.i (.iad 1 (.t 17) (.t 21))),
  E0 9 (some 23) none (.i (.load false false 1 (.t 22))),
  E0 10 (some 24) none (.i (.cnv .i64 (.t 23))),
  E0 11 (some 3) none (.i (.mv (.t 24)))]
def spec_pl1Cur_next.r4 : List Ent := [
  E0 0 (some 25) none (.i (.mv (.t 0))),
  E0 1 (some 26) none (.i (.nck (.t 25))),
  E0 2 (some 27) none (.i (.fad 1 (.t 26))),
  E0 3 (some 28) none (.i (.load false false 1 (.t 27))),
  E0 4 (some 29) none (.i (.bin .add (.t 28) (.k (I64 1)))),
  E0 5 (some 30) none (.i (.nck (.t 25))),
  E0 6 (some 31) none (.i (.fad 1 (.t 30))),
  E0 7 none none (.i (.store 1 (.t 31) (.t 29)))]
def spec_pl1Cur_next.r5 : List Ent := [
  E0 0 (some 32) none (.i (.mv (.t 0))),
  E0 1 (some 33) none (.i (.mv (.t 0))),
  E0 2 (some 34) none (.i (.nck (.t 33))),
  E0 3 (some 35) none (.i (.fad 2 (.t 34))),
  E0 4 (some 36) none (.i (.load false false 1 (.t 35))),
  E0 5 (some 37) none (.i (.bin .mul (.t 36) (.k (.dat none (.int .u64 6364136223846793005))))),
  E0 6 (some 38) none (.i (.mv (.t 3))),
  E0 7 (some 39) none (.i (.cnv .u64 (.t 38))),
  E0 8 (some 40) none (.i (.bin .add (.t 37) (.t 39))),
  E0 9 (some 41) none (.i (.bin .add (.t 40) (.k (.dat none (.int .u64 1442695040888963407))))),
  E0 10 (some 42) none (.i (.nck (.t 32))),
  E0 11 (some 43) none (.i (.fad 2 (.t 42))),
  E0 12 none none (.i (.store 1 (.t 43) (.t 41)))]
def spec_pl1Cur_next.r6 : List Ent := [
  E0 0 (some 44) none (.i (.mv (.t 0))),
  E0 1 (some 45) none (.i (.nck (.t 44))),
  ER 2 (some 46) none (.fad 1 (.t 45)),
  ER 3 (some 47) none (.load false false 1 (.t 46)),
  E0 4 (some 48) none (.i (.mv (.t 0))),
  E0 5 (some 49) none (.i (.nck (.t 48))),
  ER 6 (some 50) none (.fad 0 (.t 49)),
  ER 7 (some 51) none (.load false false 1 (.t 50)),
  ER 8 (some 52) none (.len (.t 51)),
  E0 9 (some 53) none (.i (.bin .leq (.t 47) (.t 52)))]
def spec_pl1Cur_next.r7 : List Ent := [
  E0 0 (some 54) none (.i (.mv (.t 3))),
  E0 1 (some 2) none (.i (.mv (.t 54)))]
def spec_pl1Cur_next.r8 : List Ent := [
  E0 0 (some 55) none (.i (.mv (.t 0))),
  E0 1 (some 56) none (.i (.nck (.t 55))),
  E0 2 (some 57) none (.i (.fad 2 (.t 56))),
  E0 3 (some 58) none (.i (.load false false 1 (.t 57))),
  E0 4 (some 59) none (.i (.bin .shr (.t 58) (.k (.dat none (.int .u64 40))))),
  E0 5 (some 60) none (.i (.bin .and (.t 59) (.k (.dat none (.int .u64 255))))),
  E0 6 (some 61) none (.i (.cnv .i64 (.t 60))),
  E0 7 (some 2) none (.i (.mv (.t 61)))]
def spec_pl1Cur_next.fi : FI := { res := [.t 2], code := .seq (.reg 64 1 spec_pl1Cur_next.r0) (.seq (.reg 128 1 spec_pl1Cur_next.r1) (.seq (.seq (.reg 192 10 spec_pl1Cur_next.r2) (.cond (.t 13) (.reg 832 12 spec_pl1Cur_next.r3) (.skip))) (.seq (.reg 1600 8 spec_pl1Cur_next.r4) (.seq (.reg 2112 13 spec_pl1Cur_next.r5) (.seq (.seq (.reg 2944 10 spec_pl1Cur_next.r6) (.cond (.t 53) (.seq (.reg 3584 2 spec_pl1Cur_next.r7) (.ret)) (.skip))) (.seq (.reg 3712 8 spec_pl1Cur_next.r8) (.ret))))))) }
attribute [go_sem] spec_pl1Cur_next.r0 spec_pl1Cur_next.r1 spec_pl1Cur_next.r2 spec_pl1Cur_next.r3 spec_pl1Cur_next.r4 spec_pl1Cur_next.r5 spec_pl1Cur_next.r6 spec_pl1Cur_next.r7 spec_pl1Cur_next.r8
theorem spec_pl1Cur_next.ok : chkF prog F_spec_pl1Cur_next 1 spec_pl1Cur_next.fi = true := by kernel_rfl

/-! spec_pl1Cur_pick -/
def spec_pl1Cur_pick.r0 : List Ent := [
  E0 0 (some 4) none (.i (.mv (.k (I64 0))))]
def spec_pl1Cur_pick.r1 : List Ent := [
  E0 0 (some 6) none (.i (.mv (.t 1))),
  E0 1 (some 7) none (.i (.bin .leq (.t 6) (.k (I64 1))))]
def spec_pl1Cur_pick.r2 : List Ent := [
  E0 0 (some 4) none (.i (.mv (.k (I64 0))))]
def spec_pl1Cur_pick.r3 : List Ent := [
  E0 0 (some 8) none (.i (.mv (.t 0))),
  E0 1 (some 9) none (.call F_spec_pl1Cur_next true [(.io, .t 8)]),
  E0 2 (some 5) none (.i (.mv (.t 9)))]
def spec_pl1Cur_pick.r4 : List Ent := [
  E0 0 (some 10) none (.i (.mv (.t 1))),
  E0 1 (some 11) none (.i (.bin .gtr (.t 10) (.k (I64 200))))]
def spec_pl1Cur_pick.r5 : List Ent := [
  E0 0 (some 12) none (.i (.mv (.t 5))),
  E0 1 (some 13) none (.i (.bin .mul (.t 12) (.k (I64 256)))),
  E0 2 (some 14) none (.i (.mv (.t 0))),
  E0 3 (some 15) none (.call F_spec_pl1Cur_next true [(.io, .t 14)]),
  E0 4 (some 16) none (.i (.bin .add (.t 13) (.t 15))),
  E0 5 (some 5) none (.i (.mv (.t 16)))]
def spec_pl1Cur_pick.r6 : List Ent := [
  E0 0 (some 17) none (.i (.mv (.t 5))),
  E0 1 (some 18) none (.i (.mv (.t 1))),
  E0 2 (some 19) none (.i (.bin .rem (.t 17) (.t 18))),
  E0 3 (some 4) none (.i (.mv (.t 19)))]
def spec_pl1Cur_pick.fi : FI := { res := [.t 4], code := .seq (.reg 64 1 spec_pl1Cur_pick.r0) (.seq (.seq (.reg 128 2 spec_pl1Cur_pick.r1) (.cond (.t 7) (.seq (.reg 256 1 spec_pl1Cur_pick.r2) (.ret)) (.skip))) (.seq (.reg 320 3 spec_pl1Cur_pick.r3) (.seq (.seq (.reg 512 2 spec_pl1Cur_pick.r4) (.cond (.t 11) (.reg 640 6 spec_pl1Cur_pick.r5) (.skip))) (.seq (.reg 1024 4 spec_pl1Cur_pick.r6) (.ret))))) }
attribute [go_sem] spec_pl1Cur_pick.r0 spec_pl1Cur_pick.r1 spec_pl1Cur_pick.r2 spec_pl1Cur_pick.r3 spec_pl1Cur_pick.r4 spec_pl1Cur_pick.r5 spec_pl1Cur_pick.r6
theorem spec_pl1Cur_pick.ok : chkF prog F_spec_pl1Cur_pick 2 spec_pl1Cur_pick.fi = true := by kernel_rfl

/-! spec_pl1Cur_one -/
def spec_pl1Cur_one.r0 : List Ent := [
  E0 0 (some 4) none (.i (.mv (.k (.dat none (.bool false)))))]
def spec_pl1Cur_one.r1 : List Ent := [
  E0 0 (some 5) none (.i (.mv (.t 0))),
  E0 1 (some 6) none (.i (.mv (.t 1))),
  E0 2 (some 7) none (.call F_spec_pl1Cur_pick true [(.io, .t 5), (.ro, .t 6)]),
  E0 3 (some 8) none (.i (.bin .eql (.t 7) (.k (I64 0)))),
  E0 4 (some 4) none (.i (.mv (.t 8)))]
def spec_pl1Cur_one.fi : FI := { res := [.t 4], code := .seq (.reg 64 1 spec_pl1Cur_one.r0) (.seq (.reg 128 5 spec_pl1Cur_one.r1) (.ret)) }
attribute [go_sem] spec_pl1Cur_one.r0 spec_pl1Cur_one.r1
theorem spec_pl1Cur_one.ok : chkF prog F_spec_pl1Cur_one 2 spec_pl1Cur_one.fi = true := by kernel_rfl

/-! spec_pl1Cur_among -/
def spec_pl1Cur_among.r0 : List Ent := [
  E0 0 (some 4) none (.i (.mv (.k (I64 0))))]
def spec_pl1Cur_among.r1 : List Ent := [
  E0 0 (some 5) none (.i (.mv (.t 1))),
  E0 1 (some 6) none (.i (.mv (.t 0))),
  E0 2 (some 7) none (.i (.mv (.t 1))),
  E0 3 (some 8) none (.i (.len (.t 7))),
  E0 4 (some 9) none (.call F_spec_pl1Cur_pick true [(.io, .t 6), (.ro, .t 8)]),
  E0 5 (some 10) none (.i (.iad 1 (.t 5) (.t 9))),
  E0 6 (some 11) none (.i (.load false false 1 (.t 10))),
  E0 7 (some 4) none (.i (.mv (.t 11)))]
def spec_pl1Cur_among.fi : FI := { res := [.t 4], code := .seq (.reg 64 1 spec_pl1Cur_among.r0) (.seq (.reg 128 8 spec_pl1Cur_among.r1) (.ret)) }
attribute [go_sem] spec_pl1Cur_among.r0 spec_pl1Cur_among.r1
theorem spec_pl1Cur_among.ok : chkF prog F_spec_pl1Cur_among 2 spec_pl1Cur_among.fi = true := by kernel_rfl

/-! spec_pl1Cur_lit -/
def spec_pl1Cur_lit.r0 : List Ent := [
  E0 0 (some 4) none (.i (.mv (.k (I64 0))))]
def spec_pl1Cur_lit.r1 : List Ent := [
  E0 0 (some 6) none (.i (.mv (.t 0))),
  E0 1 (some 7) none (.i (.mv (.t 1))),
  E0 2 (some 8) none (.call F_spec_pl1Cur_pick true [(.io, .t 6), (.ro, .t 7)]),
  E0 3 (some 9) none (.i (.bin .add (.k (I64 1)) (.t 8))),
  E0 4 (some 5) none (.i (.mv (.t 9)))]
def spec_pl1Cur_lit.r2 : List Ent := [
  E0 0 (some 10) none (.i (.mv (.t 0))),
  E0 1 (some 11) none (.call F_spec_pl1Cur_one true [(.io, .t 10), (.ro, .k (I64 2))])]
def spec_pl1Cur_lit.r3 : List Ent := [
  E0 0 (some 12) none (.i (.mv (.t 5))),
  E0 1 (some 13) none (.i (.un .neg (.t 12))),
  E0 2 (some 4) none (.i (.mv (.t 13)))]
def spec_pl1Cur_lit.r4 : List Ent := [
  E0 0 (some 14) none (.i (.mv (.t 5))),
  E0 1 (some 4) none (.i (.mv (.t 14)))]
def spec_pl1Cur_lit.fi : FI := { res := [.t 4], code := .seq (.reg 64 1 spec_pl1Cur_lit.r0) (.seq (.reg 128 5 spec_pl1Cur_lit.r1) (.seq (.seq (.reg 448 2 spec_pl1Cur_lit.r2) (.cond (.t 11) (.seq (.reg 576 3 spec_pl1Cur_lit.r3) (.ret)) (.skip))) (.seq (.reg 768 2 spec_pl1Cur_lit.r4) (.ret)))) }
attribute [go_sem] spec_pl1Cur_lit.r0 spec_pl1Cur_lit.r1 spec_pl1Cur_lit.r2 spec_pl1Cur_lit.r3 spec_pl1Cur_lit.r4
theorem spec_pl1Cur_lit.ok : chkF prog F_spec_pl1Cur_lit 2 spec_pl1Cur_lit.fi = true := by kernel_rfl

/-! spec_CleanClause -/
def spec_CleanClause.r0 : List Ent := [
  E0 0 (some 2) none (.i (.mv (.k (.nil 1)))),
  E0 1 (some 3) none (.i (.mv (.k (.dat none (.bool false)))))]
def spec_CleanClause.r1 : List Ent := [
  E0 0 (some 7) none (.i (.mv (.t 0))),
  E0 1 (some 8) none (.i (.len (.t 7))),
  E0 2 (some 9) none (.i (.bin .gtr (.t 8) (.k (I64 40))))]
def spec_CleanClause.r2 : List Ent := [
  E0 0 (some 2) none (.i (.mv (.k (.nil 1)))),
  E0 1 (some 3) none (.i (.mv (.k (.dat none (.bool false)))))]
def spec_CleanClause.r3 : List Ent := [
  E0 0 (some 4) none (.i (.mv (.k (.nil 1))))]
def spec_CleanClause.r4 : List Ent := [
  E0 0 (some 10) none (.i (.mv (.t 0))),
  E0 1 (some 11) none (.i (.len (.t 10))),
  E0 2 (some 12) none (.i (.mv (.k (I64 0))))]
def spec_CleanClause.r5 : List Ent := [
  E0 0 (some 13) none (.i (.bin .lss (.t 12) (.t 11)))]
def spec_CleanClause.r6 : List Ent := [
  E0 0 (some 14) none (.i (.iad 1 (.t 10) (.t 12))),
  E0 1 (some 15) none (.i (.load false false 1 (.t 14))),
  E0 2 (some 6) none (.i (.mv (.t 15)))]
def spec_CleanClause.r7 : List Ent := [
  E0 0 (some 16) none (.i (.mv (.t 6))),
  E0 1 (some 17) none (.i (.bin .eql (.t 16) (.k (I64 0)))),
  E0 2 (some 18) none (.i (.mv (.t 17))),
  E0 3 (some 19) (some (18, false)) (.i (.mv (.t 6))),
  E0 4 (some 20) (some (18, false)) (.call F_spec_l1In false (roA [.t 19, .k (I64 (-12)), .k (I64 12)])),
  E0 5 (some 21) (some (18, false)) (.i (.un .not (.t 20))),
  E0 6 (some 22) none (.i (.pick (.t 18) (.k (.dat none (.bool true))) (.t 21))),
  E0 7 (some 23) none (.i (.mv (.t 22))),
  E0 8 (some 24) (some (23, false)) (.i (.mv (.t 4))),
  E0 9 (some 25) (some (23, false)) (.i (.mv (.t 6))),
  E0 10 (some 26) (some (23, false)) (.i (.un .neg (.t 25))),
  E0 11 (some 27) (some (23, false)) (.call F_spec_l1Has false (roA [.t 24, .t 26])),
  E0 12 (some 28) none (.i (.pick (.t 23) (.k (.dat none (.bool true))) (.t 27)))]
def spec_CleanClause.r8 : List Ent := [
  E0 0 (some 2) none (.i (.mv (.k (.nil 1)))),
  E0 1 (some 3) none (.i (.mv (.k (.dat none (.bool false)))))]
def spec_CleanClause.r9 : List Ent := [
  E0 0 (some 29) none (.i (.mv (.t 4))),
  E0 1 (some 30) none (.i (.mv (.t 6))),
  E0 2 (some 31) none (.call F_spec_l1Has false (roA [.t 29, .t 30])),
  E0 3 (some 32) none (.i (.un .not (.t 31)))]
def spec_CleanClause.r10 : List Ent := [
  E0 0 (some 33) none (.i (.mv (.t 4))),
  E0 1 (some 34) none (.i (.mv (.t 6))),
  E0 2 (some 35) none (.i (.bsl true 1 [.t 34])),
  E0 3 (some 36) none (.i (.app 1 8 (.t 33) (.t 35))),
  E0 4 (some 4) none (.i (.mv (.t 36)))]
def spec_CleanClause.r11 : List Ent := [
  E0 0 (some 37) none (.i (.bin .add (.t 12) (.k (I64 1)))),
  E0 1 (some 12) none (.i (.mv (.t 37)))]
def spec_CleanClause.b0 : KC := .seq (.reg 768 1 spec_CleanClause.r5) (.seq (.cond (.t 13) (.skip) (.exit 0)) (.seq (.block 1 (.seq (.reg 832 3 spec_CleanClause.r6) (.seq (.seq (.reg 1024 13 spec_CleanClause.r7) (.cond (.t 28) (.seq (.reg 1856 2 spec_CleanClause.r8) (.ret)) (.skip))) (.seq (.reg 1984 4 spec_CleanClause.r9) (.cond (.t 32) (.reg 2240 5 spec_CleanClause.r10) (.skip)))))) (.reg 2560 2 spec_CleanClause.r11)))
def spec_CleanClause.r12 : List Ent := [
  E0 0 (some 38) none (.i (.mv (.t 4))),
  E0 1 (some 2) none (.i (.mv (.t 38))),
  E0 2 (some 3) none (.i (.mv (.k (.dat none (.bool true)))))]
def spec_CleanClause.fi : FI := { res := [.t 2, .t 3], code := .seq (.reg 64 2 spec_CleanClause.r0) (.seq (.seq (.reg 192 3 spec_CleanClause.r1) (.cond (.t 9) (.seq (.reg 384 2 spec_CleanClause.r2) (.ret)) (.skip))) (.seq (.reg 512 1 spec_CleanClause.r3) (.seq (.seq (.reg 576 3 spec_CleanClause.r4) (.nrm 4 2432 1 (.block 0 (.loop spec_CleanClause.b0)))) (.seq (.reg 2688 3 spec_CleanClause.r12) (.ret))))) }
attribute [go_sem] spec_CleanClause.r0 spec_CleanClause.r1 spec_CleanClause.r2 spec_CleanClause.r3 spec_CleanClause.r4 spec_CleanClause.r5 spec_CleanClause.r6 spec_CleanClause.r7 spec_CleanClause.r8 spec_CleanClause.r9 spec_CleanClause.r10 spec_CleanClause.r11 spec_CleanClause.r12
theorem spec_CleanClause.ok : chkF prog F_spec_CleanClause 1 spec_CleanClause.fi = true := by kernel_rfl

/-! spec_pl1Cur_among3 -/
def spec_pl1Cur_among3.r0 : List Ent := [
  E0 0 (some 2) none (.i (.mv (.k (.nil 1))))]
def spec_pl1Cur_among3.r1 : List Ent := [
  E0 0 (some 3) none (.i (.mv (.t 0))),
  E0 1 (some 4) none (.call F_spec_pl1Cur_one true [(.io, .t 3), (.ro, .k (I64 2))])]
def spec_pl1Cur_among3.r2 : List Ent := [
  E0 0 (some 2) none (.i (.mv (.k (.nil 1))))]
def spec_pl1Cur_among3.r3 : List Ent := [
  E0 0 (some 5) none (.i (.bsl false 1 [.k (I64 1), .k (I64 2), .k (I64 3)])),
  E0 1 (some 2) none (.i (.mv (.t 5)))]
def spec_pl1Cur_among3.fi : FI := { res := [.t 2], code := .seq (.reg 64 1 spec_pl1Cur_among3.r0) (.seq (.seq (.reg 128 2 spec_pl1Cur_among3.r1) (.cond (.t 4) (.seq (.reg 256 1 spec_pl1Cur_among3.r2) (.ret)) (.skip))) (.seq (.reg 320 2 spec_pl1Cur_among3.r3) (.ret))) }
attribute [go_sem] spec_pl1Cur_among3.r0 spec_pl1Cur_among3.r1 spec_pl1Cur_among3.r2 spec_pl1Cur_among3.r3
theorem spec_pl1Cur_among3.ok : chkF prog F_spec_pl1Cur_among3 1 spec_pl1Cur_among3.fi = true := by kernel_rfl

/-! spec_pl1Cur_twos -/
def spec_pl1Cur_twos.r0 : List Ent := [
  E0 0 (some 2) none (.i (.mv (.k (I64 0)))),
  E0 1 (some 3) none (.i (.mv (.k (.nil 1))))]
def spec_pl1Cur_twos.r1 : List Ent := [
  E0 0 (some 10) none (.i (.mv (.t 0))),
  E0 1 (some 11) none (.call F_spec_pl1Cur_pick true [(.io, .t 10), (.ro, .k (I64 6))]),
  E0 2 (some 12) none (.i (.bin .add (.k (I64 1)) (.t 11))),
  E0 3 (some 4) none (.i (.mv (.t 12)))]
def spec_pl1Cur_twos.r2 : List Ent := [
  E0 0 (some 13) none (.i (.mv (.t 0))),
  E0 1 (some 14) none (.call F_spec_pl1Cur_one true [(.io, .t 13), (.ro, .k (I64 30))])]
def spec_pl1Cur_twos.r3 : List Ent := [
  E0 0 (some 15) none (.i (.mv (.t 0))),
  E0 1 (some 16) none (.i (.bsl false 1 [.k (I64 0), .k (I64 10), .k (I64 13)])),
  E0 2 (some 17) none (.call F_spec_pl1Cur_among true [(.io, .t 15), (.co, .t 16)]),
  E0 3 (some 4) none (.i (.mv (.t 17)))]
def spec_pl1Cur_twos.r4 : List Ent := [
  E0 0 (some 5) none (.i (.mv (.k (.nil 1))))]
def spec_pl1Cur_twos.r5 : List Ent := [
  E0 0 (some 18) none (.i (.mv (.t 0))),
  E0 1 (some 19) none (.call F_spec_pl1Cur_pick true [(.io, .t 18), (.ro, .k (I64 12))]),
  E0 2 (some 6) none (.i (.mv (.t 19)))]
def spec_pl1Cur_twos.r6 : List Ent := [
  E0 0 (some 20) none (.i (.mv (.t 4))),
  E0 1 (some 21) none (.i (.bin .eql (.t 20) (.k (I64 0))))]
def spec_pl1Cur_twos.r7 : List Ent := [
  E0 0 (some 6) none (.i (.mv (.k (I64 0))))]
def spec_pl1Cur_twos.r8 : List Ent := [
  E0 0 (some 22) none (.i (.mv (.t 6))),
  E0 1 (some 23) none (.i (.bin .gtr (.t 22) (.k (I64 0))))]
def spec_pl1Cur_twos.r9 : List Ent := [
  E0 0 (some 26) none (.i (.mv (.t 0))),
  E0 1 (some 27) none (.i (.mv (.t 4))),
  E0 2 (some 28) none (.call F_spec_pl1Cur_lit true [(.io, .t 26), (.ro, .t 27)]),
  E0 3 (some 29) none (.i (.bsl false 1 [.t 28])),
  E0 4 (some 7) none (.i (.mv (.t 29)))]
def spec_pl1Cur_twos.r10 : List Ent := [
  E0 0 (some 30) none (.i (.mv (.t 0))),
  E0 1 (some 31) none (.call F_spec_pl1Cur_one true [(.io, .t 30), (.ro, .k (I64 6))]),
  E0 2 (some 32) none (.i (.un .not (.t 31)))]
def spec_pl1Cur_twos.r11 : List Ent := [
  E0 0 (some 33) none (.i (.mv (.t 7))),
  E0 1 (some 34) none (.i (.mv (.t 0))),
  E0 2 (some 35) none (.i (.mv (.t 4))),
  E0 3 (some 36) none (.call F_spec_pl1Cur_lit true [(.io, .t 34), (.ro, .t 35)]),
  E0 4 (some 37) none (.i (.bsl true 1 [.t 36])),
  E0 5 (some 38) none (.i (.app 1 8 (.t 33) (.t 37))),
  E0 6 (some 7) none (.i (.mv (.t 38)))]
def spec_pl1Cur_twos.r12 : List Ent := [
  E0 0 (some 40) none (.i (.mv (.t 7))),
  E0 1 (some 41) none (.call F_spec_CleanClause false (roA [.t 40])),
  E0 2 (some 39) none (.i (.mv (.t 41))),
  E0 3 (some 42) none (.i (.ext 0 (.t 39))),
  E0 4 (some 43) none (.i (.ext 1 (.t 39))),
  E0 5 (some 8) none (.i (.mv (.t 42))),
  E0 6 (some 9) none (.i (.mv (.t 43)))]
def spec_pl1Cur_twos.r13 : List Ent := [
  E0 0 (some 44) none (.i (.mv (.t 9)))]
def spec_pl1Cur_twos.r14 : List Ent := [
  E0 0 (some 45) none (.i (.mv (.t 5))),
  E0 1 (some 46) none (.i (.mv (.t 8))),
  E0 2 (some 47) none (.i (.bsl false 1 [.t 46])),
  E0 3 (some 48) none (.i (.app 1 24 (.t 45) (.t 47))),
  E0 4 (some 5) none (.i (.mv (.t 48)))]
def spec_pl1Cur_twos.r15 : List Ent := [
  E0 0 (some 24) none (.i (.mv (.t 6))),
  E0 1 (some 25) none (.i (.bin .sub (.t 24) (.k (I64 1)))),
  E0 2 (some 6) none (.i (.mv (.t 25)))]
def spec_pl1Cur_twos.b0 : KC := .seq (.seq (.reg 1280 2 spec_pl1Cur_twos.r8) (.cond (.t 23) (.skip) (.exit 0))) (.seq (.block 1 (.seq (.reg 1408 5 spec_pl1Cur_twos.r9) (.seq (.seq (.reg 1728 3 spec_pl1Cur_twos.r10) (.cond (.t 32) (.reg 1920 7 spec_pl1Cur_twos.r11) (.skip))) (.seq (.reg 2368 7 spec_pl1Cur_twos.r12) (.seq (.reg 2816 1 spec_pl1Cur_twos.r13) (.cond (.t 44) (.reg 2880 5 spec_pl1Cur_twos.r14) (.skip))))))) (.reg 3200 3 spec_pl1Cur_twos.r15))
def spec_pl1Cur_twos.r16 : List Ent := [
  E0 0 (some 49) none (.i (.mv (.t 5))),
  E0 1 (some 50) none (.i (.len (.t 49))),
  E0 2 (some 51) none (.i (.bin .gtr (.t 50) (.k (I64 0)))),
  E0 3 (some 52) none (.i (.mv (.t 51))),
  E0 4 (some 53) (some (52, true)) (.i (.mv (.t 0))),
  E0 5 (some 54) (some (52, true)) (.call F_spec_pl1Cur_one true [(.io, .t 53), (.ro, .k (I64 30))]),
  E0 6 (some 55) none (.i (.pick (.t 52) (.t 54) (.k (.dat none (.bool false)))))]
def spec_pl1Cur_twos.r17 : List Ent := [
  E0 0 (some 56) none (.i (.mv (.t 5))),
  E0 1 (some 57) none (.i (.mv (.t 0))),
  E0 2 (some 58) none (.call F_spec_pl1Cur_among3 true [(.io, .t 57)]),
  E0 3 (some 59) none (.i (.iad 1 (.t 56) (.k (I64 0)))),
  E0 4 none none (.i (.store 1 (.t 59) (.t 58)))]
def spec_pl1Cur_twos.r18 : List Ent := [
  E0 0 (some 60) none (.i (.mv (.t 4))),
  E0 1 (some 61) none (.i (.mv (.t 5))),
  E0 2 (some 2) none (.i (.mv (.t 60))),
  E0 3 (some 3) none (.i (.mv (.t 61)))]
def spec_pl1Cur_twos.fi : FI := { res := [.t 2, .t 3], code := .seq (.reg 64 2 spec_pl1Cur_twos.r0) (.seq (.reg 192 4 spec_pl1Cur_twos.r1) (.seq (.seq (.reg 448 2 spec_pl1Cur_twos.r2) (.cond (.t 14) (.reg 576 4 spec_pl1Cur_twos.r3) (.skip))) (.seq (.reg 832 1 spec_pl1Cur_twos.r4) (.seq (.reg 896 3 spec_pl1Cur_twos.r5) (.seq (.seq (.reg 1088 2 spec_pl1Cur_twos.r6) (.cond (.t 21) (.reg 1216 1 spec_pl1Cur_twos.r7) (.skip))) (.seq (.nrm 5 3072 1 (.nrm 7 2240 1 (.block 0 (.loop spec_pl1Cur_twos.b0)))) (.seq (.seq (.reg 3392 7 spec_pl1Cur_twos.r16) (.cond (.t 55) (.reg 3840 5 spec_pl1Cur_twos.r17) (.skip))) (.seq (.reg 4160 4 spec_pl1Cur_twos.r18) (.ret))))))))) }
attribute [go_sem] spec_pl1Cur_twos.r0 spec_pl1Cur_twos.r1 spec_pl1Cur_twos.r2 spec_pl1Cur_twos.r3 spec_pl1Cur_twos.r4 spec_pl1Cur_twos.r5 spec_pl1Cur_twos.r6 spec_pl1Cur_twos.r7 spec_pl1Cur_twos.r8 spec_pl1Cur_twos.r9 spec_pl1Cur_twos.r10 spec_pl1Cur_twos.r11 spec_pl1Cur_twos.r12 spec_pl1Cur_twos.r13 spec_pl1Cur_twos.r14 spec_pl1Cur_twos.r15 spec_pl1Cur_twos.r16 spec_pl1Cur_twos.r17 spec_pl1Cur_twos.r18
theorem spec_pl1Cur_twos.ok : chkF prog F_spec_pl1Cur_twos 1 spec_pl1Cur_twos.fi = true := by kernel_rfl

/-! spec_DrawLeadsTo -/
def spec_DrawLeadsTo.r0 : List Ent := [
  E0 0 (some 2) none (.i (.mv (.k (I64 0)))),
  E0 1 (some 3) none (.i (.mv (.k (.nil 1)))),
  E0 2 (some 4) none (.i (.mv (.k (I64 0))))]
def spec_DrawLeadsTo.r1 : List Ent := [
  E0 0 (some 8) none (.i (.mv (.t 0))),
  E0 1 (some 9) none (.i (.bld [.t 8, .k (.dat none (.int .i64 0)), .k (.dat none (.int .u64 0))])),
  E0 2 (some 10) none (.i (.box (.t 9))),
  E0 3 (some 5) none (.i (.mv (.t 10)))]
def spec_DrawLeadsTo.r2 : List Ent := [
  E0 0 (some 12) none (.i (.mv (.t 5))),
  E0 1 (some 13) none (.call F_spec_pl1Cur_twos true [(.io, .t 12)]),
  E0 2 (some 11) none (.i (.mv (.t 13))),
  E0 3 (some 14) none (.i (.ext 0 (.t 11))),
  E0 4 (some 15) none (.i (.ext 1 (.t 11))),
  E0 5 (some 6) none (.i (.mv (.t 14))),
  E0 6 (some 7) none (.i (.mv (.t 15)))]
def spec_DrawLeadsTo.r3 : List Ent := [
  E0 0 (some 16) none (.i (.mv (.t 6))),
  E0 1 (some 17) none (.i (.mv (.t 7))),
  E0 2 (some 18) none (.i (.mv (.t 5))),
  E0 3 (some 19) none (.i (.mv (.t 6))),
  E0 4 (some 20) none (.i (.bin .mul (.k (I64 2)) (.t 19))),
  E0 5 (some 21) none (.i (.bin .add (.t 20) (.k (I64 3)))),
  E0 6 (some 22) none (.call F_spec_pl1Cur_pick true [(.io, .t 18), (.ro, .t 21)]),
  E0 7 (some 23) none (.i (.mv (.t 6))),
  E0 8 (some 24) none (.i (.bin .sub (.t 22) (.t 23))),
  E0 9 (some 25) none (.i (.bin .sub (.t 24) (.k (I64 1)))),
  E0 10 (some 2) none (.i (.mv (.t 16))),
  E0 11 (some 3) none (.i (.mv (.t 17))),
  E0 12 (some 4) none (.i (.mv (.t 25)))]
def spec_DrawLeadsTo.fi : FI := { res := [.t 2, .t 3, .t 4], code := .seq (.reg 64 3 spec_DrawLeadsTo.r0) (.seq (.reg 256 4 spec_DrawLeadsTo.r1) (.seq (.reg 512 7 spec_DrawLeadsTo.r2) (.seq (.reg 960 13 spec_DrawLeadsTo.r3) (.ret)))) }
attribute [go_sem] spec_DrawLeadsTo.r0 spec_DrawLeadsTo.r1 spec_DrawLeadsTo.r2 spec_DrawLeadsTo.r3
theorem spec_DrawLeadsTo.ok : chkF prog F_spec_DrawLeadsTo 1 spec_DrawLeadsTo.fi = true := by kernel_rfl

/-! laws_sameInts -/
def laws_sameInts.r0 : List Ent := [
  E0 0 (some 4) none (.i (.mv (.k (.dat none (.bool false)))))]
def laws_sameInts.r1 : List Ent := [
  E0 0 (some 6) none (.i (.mv (.t 0))),
  E0 1 (some 7) none (.i (.len (.t 6))),
  E0 2 (some 8) none (.i (.mv (.t 1))),
  E0 3 (some 9) none (.i (.len (.t 8))),
  E0 4 (some 10) none (.i (.bin .neq (.t 7) (.t 9)))]
def laws_sameInts.r2 : List Ent := [
  E0 0 (some 4) none (.i (.mv (.k (.dat none (.bool false)))))]
def laws_sameInts.r3 : List Ent := [
  E0 0 (some 11) none (.i (.mv (.t 0))),
  E0 1 (some 12) none (.i (.len (.t 11))),
  E0 2 (some 13) none (.i (.mv (.k (I64 0))))]
def laws_sameInts.r4 : List Ent := [
  E0 0 (some 14) none (.i (.bin .lss (.t 13) (.t 12)))]
def laws_sameInts.r5 : List Ent := [
  E0 0 (some 15) none (.i (.mv (.t 13))),
  E0 1 (some 5) none (.i (.mv (.t 15)))]
def laws_sameInts.r6 : List Ent := [
  E0 0 (some 16) none (.i (.mv (.t 0))),
  E0 1 (some 17) none (.i (.mv (.t 5))),
  ER 2 (some 18) none (.iad 1 (.t 16) (.t 17)),
  ER 3 (some 19) none (.load false false 1 (.t 18)),
  E0 4 (some 20) none (.i (.mv (.t 1))),
  E0 5 (some 21) none (.i (.mv (.t 5))),
  ER 6 (some 22) none (.iad 1 (.t 20) (.t 21)),
  ER 7 (some 23) none (.load false false 1 (.t 22)),
  E0 8 (some 24) none (.i (.bin .neq (.t 19) (.t 23)))]
def laws_sameInts.r7 : List Ent := [
  E0 0 (some 4) none (.i (.mv (.k (.dat none (.bool false)))))]
def laws_sameInts.r8 : List Ent := [
  E0 0 (some 25) none (.i (.bin .add (.t 13) (.k (I64 1)))),
  E0 1 (some 13) none (.i (.mv (.t 25)))]
def laws_sameInts.b0 : KC := .seq (.reg 704 1 laws_sameInts.r4) (.seq (.cond (.t 14) (.skip) (.exit 0)) (.seq (.block 1 (.seq (.reg 768 2 laws_sameInts.r5) (.seq (.reg 896 9 laws_sameInts.r6) (.cond (.t 24) (.seq (.reg 1472 1 laws_sameInts.r7) (.ret)) (.skip))))) (.reg 1536 2 laws_sameInts.r8)))
def laws_sameInts.r9 : List Ent := [
  E0 0 (some 4) none (.i (.mv (.k (.dat none (.bool true)))))]
def laws_sameInts.fi : FI := { res := [.t 4], code := .seq (.reg 64 1 laws_sameInts.r0) (.seq (.seq (.reg 128 5 laws_sameInts.r1) (.cond (.t 10) (.seq (.reg 448 1 laws_sameInts.r2) (.ret)) (.skip))) (.seq (.seq (.reg 512 3 laws_sameInts.r3) (.block 0 (.loop laws_sameInts.b0))) (.seq (.reg 1664 1 laws_sameInts.r9) (.ret)))) }
attribute [go_sem] laws_sameInts.r0 laws_sameInts.r1 laws_sameInts.r2 laws_sameInts.r3 laws_sameInts.r4 laws_sameInts.r5 laws_sameInts.r6 laws_sameInts.r7 laws_sameInts.r8 laws_sameInts.r9
theorem laws_sameInts.ok : chkF prog F_laws_sameInts 2 laws_sameInts.fi = true := by kernel_rfl

/-! laws_has -/
def laws_has.r0 : List Ent := [
  E0 0 (some 4) none (.i (.mv (.k (.dat none (.bool false)))))]
def laws_has.r1 : List Ent := [
  E0 0 (some 7) none (.i (.mv (.t 0))),
  E0 1 (some 8) none (.i (.len (.t 7))),
  E0 2 (some 9) none (.i (.mv (.k (I64 0))))]
def laws_has.r2 : List Ent := [
  E0 0 (some 10) none (.i (.bin .lss (.t 9) (.t 8)))]
def laws_has.r3 : List Ent := [
  E0 0 (some 11) none (.i (.iad 1 (.t 7) (.t 9))),
  E0 1 (some 12) none (.i (.load false false 1 (.t 11))),
  E0 2 (some 6) none (.i (.mv (.t 12)))]
def laws_has.r4 : List Ent := [
  E0 0 (some 13) none (.i (.mv (.t 6))),
  E0 1 (some 14) none (.i (.mv (.t 1))),
  E0 2 (some 15) none (.i (.bin .eql (.t 13) (.t 14)))]
def laws_has.r5 : List Ent := [
  E0 0 (some 4) none (.i (.mv (.k (.dat none (.bool true)))))]
def laws_has.r6 : List Ent := [
  E0 0 (some 16) none (.i (.bin .add (.t 9) (.k (I64 1)))),
  E0 1 (some 9) none (.i (.mv (.t 16)))]
def laws_has.b0 : KC := .seq (.reg 320 1 laws_has.r2) (.seq (.cond (.t 10) (.skip) (.exit 0)) (.seq (.block 1 (.seq (.reg 384 3 laws_has.r3) (.seq (.reg 576 3 laws_has.r4) (.cond (.t 15) (.seq (.reg 768 1 laws_has.r5) (.ret)) (.skip))))) (.reg 832 2 laws_has.r6)))
def laws_has.r7 : List Ent := [
  E0 0 (some 4) none (.i (.mv (.k (.dat none (.bool false)))))]
def laws_has.fi : FI := { res := [.t 4], code := .seq (.reg 64 1 laws_has.r0) (.seq (.seq (.reg 128 3 laws_has.r1) (.block 0 (.loop laws_has.b0))) (.seq (.reg 960 1 laws_has.r7) (.ret))) }
attribute [go_sem] laws_has.r0 laws_has.r1 laws_has.r2 laws_has.r3 laws_has.r4 laws_has.r5 laws_has.r6 laws_has.r7
theorem laws_has.ok : chkF prog F_laws_has 2 laws_has.fi = true := by kernel_rfl

/-! spec_DrawIsTwo -/
def spec_DrawIsTwo.r0 : List Ent := [
  E0 0 (some 2) none (.i (.mv (.k (I64 0)))),
  E0 1 (some 3) none (.i (.mv (.k (.nil 1))))]
def spec_DrawIsTwo.r1 : List Ent := [
  E0 0 (some 5) none (.i (.mv (.t 0))),
  E0 1 (some 6) none (.i (.bld [.t 5, .k (.dat none (.int .i64 0)), .k (.dat none (.int .u64 0))])),
  E0 2 (some 7) none (.i (.box (.t 6))),
  E0 3 (some 4) none (.i (.mv (.t 7)))]
def spec_DrawIsTwo.r2 : List Ent := [
  E0 0 (some 8) none (.i (.mv (.t 4))),
  E0 1 (some 9) none (.call F_spec_pl1Cur_twos true [(.io, .t 8)]),
  E0 2 (some 10) none (.i (.ext 0 (.t 9))),
  E0 3 (some 11) none (.i (.ext 1 (.t 9))),
  E0 4 (some 2) none (.i (.mv (.t 10))),
  E0 5 (some 3) none (.i (.mv (.t 11)))]
def spec_DrawIsTwo.fi : FI := { res := [.t 2, .t 3], code := .seq (.reg 64 2 spec_DrawIsTwo.r0) (.seq (.reg 192 4 spec_DrawIsTwo.r1) (.seq (.reg 448 6 spec_DrawIsTwo.r2) (.ret))) }
attribute [go_sem] spec_DrawIsTwo.r0 spec_DrawIsTwo.r1 spec_DrawIsTwo.r2
theorem spec_DrawIsTwo.ok : chkF prog F_spec_DrawIsTwo 1 spec_DrawIsTwo.fi = true := by kernel_rfl

/-! spec_DrawLoopsOf -/
def spec_DrawLoopsOf.r0 : List Ent := [
  E0 0 (some 2) none (.i (.mv (.k (I64 0)))),
  E0 1 (some 3) none (.i (.mv (.k (.nil 1))))]
def spec_DrawLoopsOf.r1 : List Ent := [
  E0 0 (some 4) none (.i (.mv (.t 0))),
  E0 1 (some 5) none (.call F_spec_DrawIsTwo false (roA [.t 4])),
  E0 2 (some 6) none (.i (.ext 0 (.t 5))),
  E0 3 (some 7) none (.i (.ext 1 (.t 5))),
  E0 4 (some 2) none (.i (.mv (.t 6))),
  E0 5 (some 3) none (.i (.mv (.t 7)))]
def spec_DrawLoopsOf.fi : FI := { res := [.t 2, .t 3], code := .seq (.reg 64 2 spec_DrawLoopsOf.r0) (.seq (.reg 192 6 spec_DrawLoopsOf.r1) (.ret)) }
attribute [go_sem] spec_DrawLoopsOf.r0 spec_DrawLoopsOf.r1
theorem spec_DrawLoopsOf.ok : chkF prog F_spec_DrawLoopsOf 1 spec_DrawLoopsOf.fi = true := by kernel_rfl

/-! spec_DrawTwoOf -/
def spec_DrawTwoOf.r0 : List Ent := [
  E0 0 (some 2) none (.i (.mv (.k (I64 0)))),
  E0 1 (some 3) none (.i (.mv (.k (.nil 1))))]
def spec_DrawTwoOf.r1 : List Ent := [
  E0 0 (some 10) none (.i (.mv (.t 0))),
  E0 1 (some 11) none (.i (.bld [.t 10, .k (.dat none (.int .i64 0)), .k (.dat none (.int .u64 0))])),
  E0 2 (some 12) none (.i (.box (.t 11))),
  E0 3 (some 4) none (.i (.mv (.t 12)))]
def spec_DrawTwoOf.r2 : List Ent := [
  E0 0 (some 14) none (.i (.mv (.t 4))),
  E0 1 (some 15) none (.call F_spec_pl1Cur_twos true [(.io, .t 14)]),
  E0 2 (some 13) none (.i (.mv (.t 15))),
  E0 3 (some 16) none (.i (.ext 0 (.t 13))),
  E0 4 (some 17) none (.i (.ext 1 (.t 13))),
  E0 5 (some 5) none (.i (.mv (.t 16))),
  E0 6 (some 6) none (.i (.mv (.t 17)))]
def spec_DrawTwoOf.r3 : List Ent := [
  E0 0 (some 7) none (.i (.mv (.k (.nil 1))))]
def spec_DrawTwoOf.r4 : List Ent := [
  E0 0 (some 18) none (.i (.mv (.t 6))),
  E0 1 (some 19) none (.i (.len (.t 18))),
  E0 2 (some 20) none (.i (.mv (.k (I64 0))))]
def spec_DrawTwoOf.r5 : List Ent := [
  E0 0 (some 21) none (.i (.bin .lss (.t 20) (.t 19)))]
def spec_DrawTwoOf.r6 : List Ent := [
  E0 0 (some 22) none (.i (.iad 1 (.t 18) (.t 20))),
  E0 1 (some 23) none (.i (.load false false 1 (.t 22))),
  E0 2 (some 9) none (.i (.mv (.t 23)))]
def spec_DrawTwoOf.r7 : List Ent := [
  E0 0 (some 24) none (.i (.mv (.t 9))),
  E0 1 (some 25) none (.i (.len (.t 24))),
  E0 2 (some 26) none (.i (.bin .eql (.t 25) (.k (I64 2)))),
  E0 3 (some 27) none (.i (.mv (.t 26))),
  E0 4 (some 28) (some (27, false)) (.i (.mv (.t 4))),
  E0 5 (some 29) (some (27, false)) (.call F_spec_pl1Cur_one true [(.io, .t 28), (.ro, .k (I64 12))]),
  E0 6 (some 30) none (.i (.pick (.t 27) (.k (.dat none (.bool true))) (.t 29)))]
def spec_DrawTwoOf.r8 : List Ent := [
  E0 0 (some 31) none (.i (.mv (.t 7))),
  E0 1 (some 32) none (.i (.mv (.t 9))),
  E0 2 (some 33) none (.i (.bsl false 1 [.t 32])),
  E0 3 (some 34) none (.i (.app 1 24 (.t 31) (.t 33))),
  E0 4 (some 7) none (.i (.mv (.t 34)))]
def spec_DrawTwoOf.r9 : List Ent := [
  E0 0 (some 35) none (.i (.bin .add (.t 20) (.k (I64 1)))),
  E0 1 (some 20) none (.i (.mv (.t 35)))]
def spec_DrawTwoOf.b0 : KC := .seq (.reg 1152 1 spec_DrawTwoOf.r5) (.seq (.cond (.t 21) (.skip) (.exit 0)) (.seq (.block 1 (.seq (.reg 1216 3 spec_DrawTwoOf.r6) (.seq (.reg 1408 7 spec_DrawTwoOf.r7) (.cond (.t 30) (.reg 1856 5 spec_DrawTwoOf.r8) (.skip))))) (.reg 2176 2 spec_DrawTwoOf.r9)))
def spec_DrawTwoOf.r10 : List Ent := [
  E0 0 (some 36) none (.i (.mv (.t 5))),
  E0 1 (some 37) none (.i (.mv (.t 7))),
  E0 2 (some 2) none (.i (.mv (.t 36))),
  E0 3 (some 3) none (.i (.mv (.t 37)))]
def spec_DrawTwoOf.fi : FI := { res := [.t 2, .t 3], code := .seq (.reg 64 2 spec_DrawTwoOf.r0) (.seq (.reg 192 4 spec_DrawTwoOf.r1) (.seq (.reg 448 7 spec_DrawTwoOf.r2) (.seq (.reg 896 1 spec_DrawTwoOf.r3) (.seq (.seq (.fz 6 (.reg 960 3 spec_DrawTwoOf.r4)) (.nrm 7 2048 1 (.block 0 (.loop spec_DrawTwoOf.b0)))) (.seq (.reg 2304 4 spec_DrawTwoOf.r10) (.fz 3 (.ret))))))) }
attribute [go_sem] spec_DrawTwoOf.r0 spec_DrawTwoOf.r1 spec_DrawTwoOf.r2 spec_DrawTwoOf.r3 spec_DrawTwoOf.r4 spec_DrawTwoOf.r5 spec_DrawTwoOf.r6 spec_DrawTwoOf.r7 spec_DrawTwoOf.r8 spec_DrawTwoOf.r9 spec_DrawTwoOf.r10
theorem spec_DrawTwoOf.ok : chkF prog F_spec_DrawTwoOf 1 spec_DrawTwoOf.fi = true := by kernel_rfl

/-! impl_TwoOf -/
def impl_TwoOf.r0 : List Ent := [
  E0 0 (some 4) none (.i (.mv (.k (.nil 1)))),
  E0 1 (some 5) none (.i (.mv (.k (.dat none (.bool false)))))]
def impl_TwoOf.r1 : List Ent := [
  E0 0 (some 9) none (.i (.mv (.t 0))),
  E0 1 (some 10) none (.call F_impl_in false (roA [.t 9, .k (I64 0), .k (I64 12)])),
  E0 2 (some 11) none (.i (.un .not (.t 10))),
  E0 3 (some 12) none (.i (.mv (.t 11))),
  E0 4 (some 13) (some (12, false)) (.i (.mv (.t 1))),
  E0 5 (some 14) (some (12, false)) (.i (.len (.t 13))),
  E0 6 (some 15) (some (12, false)) (.i (.bin .gtr (.t 14) (.k (I64 60)))),
  E0 7 (some 16) none (.i (.pick (.t 12) (.k (.dat none (.bool true))) (.t 15)))]
def impl_TwoOf.r2 : List Ent := [
  E0 0 (some 4) none (.i (.mv (.k (.nil 1)))),
  E0 1 (some 5) none (.i (.mv (.k (.dat none (.bool false)))))]
def impl_TwoOf.r3 : List Ent := [
  E0 0 (some 6) none (.i (.mv (.k (.nil 1))))]
def impl_TwoOf.r4 : List Ent := [
  E0 0 (some 17) none (.i (.mv (.t 1))),
  E0 1 (some 18) none (.i (.len (.t 17))),
  E0 2 (some 19) none (.i (.mv (.k (I64 0))))]
def impl_TwoOf.r5 : List Ent := [
  E0 0 (some 20) none (.i (.bin .lss (.t 19) (.t 18)))]
def impl_TwoOf.r6 : List Ent := [
  E0 0 (some 21) none (.i (.iad 1 (.t 17) (.t 19))),
  E0 1 (some 22) none (.i (.load false false 1 (.t 21))),
  E0 2 (some 8) none (.i (.mv (.t 22)))]
def impl_TwoOf.r7 : List Ent := [
  E0 0 (some 23) none (.i (.mv (.t 8))),
  E0 1 (some 24) none (.i (.len (.t 23))),
  E0 2 (some 25) none (.i (.bin .neq (.t 24) (.k (I64 2)))),
  E0 3 (some 26) none (.i (.mv (.t 25))),
  E0 4 (some 27) (some (26, false)) (.i (.mv (.t 8))),
  E0 5 (some 28) (some (26, false)) (.i (.mv (.t 0))),
  E0 6 (some 29) (some (26, false)) (.call F_impl_isClause false (roA [.t 27, .t 28])),
  E0 7 (some 30) (some (26, false)) (.i (.un .not (.t 29))),
  E0 8 (some 31) none (.i (.pick (.t 26) (.k (.dat none (.bool true))) (.t 30)))]
def impl_TwoOf.r8 : List Ent := [
  E0 0 (some 4) none (.i (.mv (.k (.nil 1)))),
  E0 1 (some 5) none (.i (.mv (.k (.dat none (.bool false)))))]
def impl_TwoOf.r9 : List Ent := [
  E0 0 (some 32) none (.i (.mv (.t 6))),
  E0 1 (some 33) none (.i (.mv (.t 8))),
  ER 2 (some 34) none (.iad 1 (.t 33) (.k (I64 0))),
  ER 3 (some 35) none (.load false false 1 (.t 34)),
  E0 4 (some 36) none (.i (.un .neg (.t 35))),
  E0 5 (some 37) none (.i (.mv (.t 8))),
  ER 6 (some 38) none (.iad 1 (.t 37) (.k (I64 1))),
  ER 7 (some 39) none (.load false false 1 (.t 38)),
  E0 8 (some 40) none (.i (.bsl false 1 [.t 36, .t 39])),
  E0 9 (some 41) none (.i (.bsl false 1 [.t 40])),
  E0 10 (some 42) none (.i (.app 1 24 (.t 32) (.t 41))),
  E0 11 (some 6) none (.i (.mv (.t 42)))]
def impl_TwoOf.r10 : List Ent := [
  E0 0 (some 43) none (.i (.bin .add (.t 19) (.k (I64 1)))),
  E0 1 (some 19) none (.i (.mv (.t 43)))]
def impl_TwoOf.b0 : KC := .seq (.reg 1088 1 impl_TwoOf.r5) (.seq (.cond (.t 20) (.skip) (.exit 0)) (.seq (.block 1 (.seq (.reg 1152 3 impl_TwoOf.r6) (.seq (.seq (.reg 1344 9 impl_TwoOf.r7) (.cond (.t 31) (.seq (.reg 1920 2 impl_TwoOf.r8) (.ret)) (.skip))) (.reg 2048 12 impl_TwoOf.r9)))) (.reg 2816 2 impl_TwoOf.r10)))
def impl_TwoOf.r11 : List Ent := [
  E0 0 (some 44) none (.i (.mv (.t 6))),
  E0 1 (some 4) none (.i (.mv (.t 44))),
  E0 2 (some 5) none (.i (.mv (.k (.dat none (.bool true)))))]
def impl_TwoOf.fi : FI := { res := [.t 4, .t 5], code := .seq (.reg 64 2 impl_TwoOf.r0) (.seq (.seq (.reg 192 8 impl_TwoOf.r1) (.cond (.t 16) (.seq (.reg 704 2 impl_TwoOf.r2) (.ret)) (.skip))) (.seq (.reg 832 1 impl_TwoOf.r3) (.seq (.seq (.reg 896 3 impl_TwoOf.r4) (.nrm 6 2688 1 (.block 0 (.loop impl_TwoOf.b0)))) (.seq (.reg 2944 3 impl_TwoOf.r11) (.ret))))) }
attribute [go_sem] impl_TwoOf.r0 impl_TwoOf.r1 impl_TwoOf.r2 impl_TwoOf.r3 impl_TwoOf.r4 impl_TwoOf.r5 impl_TwoOf.r6 impl_TwoOf.r7 impl_TwoOf.r8 impl_TwoOf.r9 impl_TwoOf.r10 impl_TwoOf.r11
theorem impl_TwoOf.ok : chkF prog F_impl_TwoOf 2 impl_TwoOf.fi = true := by kernel_rfl

/-! spec_TwoOf -/
def spec_TwoOf.r0 : List Ent := [
  E0 0 (some 4) none (.i (.mv (.k (.nil 1)))),
  E0 1 (some 5) none (.i (.mv (.k (.dat none (.bool false)))))]
def spec_TwoOf.r1 : List Ent := [
  E0 0 (some 9) none (.i (.mv (.t 0))),
  E0 1 (some 10) none (.call F_spec_l1In false (roA [.t 9, .k (I64 0), .k (I64 12)])),
  E0 2 (some 11) none (.i (.un .not (.t 10))),
  E0 3 (some 12) none (.i (.mv (.t 11))),
  E0 4 (some 13) (some (12, false)) (.i (.mv (.t 1))),
  E0 5 (some 14) (some (12, false)) (.i (.len (.t 13))),
  E0 6 (some 15) (some (12, false)) (.i (.bin .gtr (.t 14) (.k (I64 60)))),
  E0 7 (some 16) none (.i (.pick (.t 12) (.k (.dat none (.bool true))) (.t 15)))]
def spec_TwoOf.r2 : List Ent := [
  E0 0 (some 4) none (.i (.mv (.k (.nil 1)))),
  E0 1 (some 5) none (.i (.mv (.k (.dat none (.bool false)))))]
def spec_TwoOf.r3 : List Ent := [
  E0 0 (some 6) none (.i (.mv (.k (.nil 1))))]
def spec_TwoOf.r4 : List Ent := [
  E0 0 (some 17) none (.i (.mv (.t 1))),
  E0 1 (some 18) none (.i (.len (.t 17))),
  E0 2 (some 19) none (.i (.mv (.k (I64 0))))]
def spec_TwoOf.r5 : List Ent := [
  E0 0 (some 20) none (.i (.bin .lss (.t 19) (.t 18)))]
def spec_TwoOf.r6 : List Ent := [
  E0 0 (some 21) none (.i (.iad 1 (.t 17) (.t 19))),
  E0 1 (some 22) none (.i (.load false false 1 (.t 21))),
  E0 2 (some 8) none (.i (.mv (.t 22)))]
def spec_TwoOf.r7 : List Ent := [
  E0 0 (some 23) none (.i (.mv (.t 8))),
  E0 1 (some 24) none (.i (.len (.t 23))),
  E0 2 (some 25) none (.i (.bin .neq (.t 24) (.k (I64 2)))),
  E0 3 (some 26) none (.i (.mv (.t 25))),
  E0 4 (some 27) (some (26, false)) (.i (.mv (.t 0))),
  E0 5 (some 28) (some (26, false)) (.i (.mv (.t 8))),
  E0 6 (some 29) (some (26, false)) (.call F_spec_l4Clause false (roA [.t 27, .t 28])),
  E0 7 (some 30) (some (26, false)) (.i (.un .not (.t 29))),
  E0 8 (some 31) none (.i (.pick (.t 26) (.k (.dat none (.bool true))) (.t 30)))]
def spec_TwoOf.r8 : List Ent := [
  E0 0 (some 4) none (.i (.mv (.k (.nil 1)))),
  E0 1 (some 5) none (.i (.mv (.k (.dat none (.bool false)))))]
def spec_TwoOf.r9 : List Ent := [
  E0 0 (some 32) none (.i (.mv (.t 6))),
  E0 1 (some 33) none (.i (.mv (.t 8))),
  ER 2 (some 34) none (.iad 1 (.t 33) (.k (I64 0))),
  ER 3 (some 35) none (.load false false 1 (.t 34)),
  E0 4 (some 36) none (.i (.un .neg (.t 35))),
  E0 5 (some 37) none (.i (.mv (.t 8))),
  ER 6 (some 38) none (.iad 1 (.t 37) (.k (I64 1))),
  ER 7 (some 39) none (.load false false 1 (.t 38)),
  E0 8 (some 40) none (.i (.bsl false 1 [.t 36, .t 39])),
  E0 9 (some 41) none (.i (.bsl false 1 [.t 40])),
  E0 10 (some 42) none (.i (.app 1 24 (.t 32) (.t 41))),
  E0 11 (some 6) none (.i (.mv (.t 42)))]
def spec_TwoOf.r10 : List Ent := [
  E0 0 (some 43) none (.i (.bin .add (.t 19) (.k (I64 1)))),
  E0 1 (some 19) none (.i (.mv (.t 43)))]
def spec_TwoOf.b0 : KC := .seq (.reg 1088 1 spec_TwoOf.r5) (.seq (.cond (.t 20) (.skip) (.exit 0)) (.seq (.block 1 (.seq (.reg 1152 3 spec_TwoOf.r6) (.seq (.seq (.reg 1344 9 spec_TwoOf.r7) (.cond (.t 31) (.seq (.reg 1920 2 spec_TwoOf.r8) (.ret)) (.skip))) (.reg 2048 12 spec_TwoOf.r9)))) (.reg 2816 2 spec_TwoOf.r10)))
def spec_TwoOf.r11 : List Ent := [
  E0 0 (some 44) none (.i (.mv (.t 6))),
  E0 1 (some 4) none (.i (.mv (.t 44))),
  E0 2 (some 5) none (.i (.mv (.k (.dat none (.bool true)))))]
def spec_TwoOf.fi : FI := { res := [.t 4, .t 5], code := .seq (.reg 64 2 spec_TwoOf.r0) (.seq (.seq (.reg 192 8 spec_TwoOf.r1) (.cond (.t 16) (.seq (.reg 704 2 spec_TwoOf.r2) (.ret)) (.skip))) (.seq (.reg 832 1 spec_TwoOf.r3) (.seq (.seq (.reg 896 3 spec_TwoOf.r4) (.nrm 6 2688 1 (.block 0 (.loop spec_TwoOf.b0)))) (.seq (.reg 2944 3 spec_TwoOf.r11) (.ret))))) }
attribute [go_sem] spec_TwoOf.r0 spec_TwoOf.r1 spec_TwoOf.r2 spec_TwoOf.r3 spec_TwoOf.r4 spec_TwoOf.r5 spec_TwoOf.r6 spec_TwoOf.r7 spec_TwoOf.r8 spec_TwoOf.r9 spec_TwoOf.r10 spec_TwoOf.r11
theorem spec_TwoOf.ok : chkF prog F_spec_TwoOf 2 spec_TwoOf.fi = true := by kernel_rfl

/-! laws_sameRows -/
def laws_sameRows.r0 : List Ent := [
  E0 0 (some 4) none (.i (.mv (.k (.dat none (.bool false)))))]
def laws_sameRows.r1 : List Ent := [
  E0 0 (some 6) none (.i (.mv (.t 0))),
  E0 1 (some 7) none (.i (.len (.t 6))),
  E0 2 (some 8) none (.i (.mv (.t 1))),
  E0 3 (some 9) none (.i (.len (.t 8))),
  E0 4 (some 10) none (.i (.bin .neq (.t 7) (.t 9)))]
def laws_sameRows.r2 : List Ent := [
  E0 0 (some 4) none (.i (.mv (.k (.dat none (.bool false)))))]
def laws_sameRows.r3 : List Ent := [
  E0 0 (some 11) none (.i (.mv (.t 0))),
  E0 1 (some 12) none (.i (.len (.t 11))),
  E0 2 (some 13) none (.i (.mv (.k (I64 0))))]
def laws_sameRows.r4 : List Ent := [
  E0 0 (some 14) none (.i (.bin .lss (.t 13) (.t 12)))]
def laws_sameRows.r5 : List Ent := [
  E0 0 (some 15) none (.i (.mv (.t 13))),
  E0 1 (some 5) none (.i (.mv (.t 15)))]
def laws_sameRows.r6 : List Ent := [
  E0 0 (some 16) none (.i (.mv (.t 0))),
  E0 1 (some 17) none (.i (.mv (.t 5))),
  ER 2 (some 18) none (.iad 1 (.t 16) (.t 17)),
  ER 3 (some 19) none (.load false false 1 (.t 18)),
  E0 4 (some 20) none (.i (.mv (.t 1))),
  E0 5 (some 21) none (.i (.mv (.t 5))),
  ER 6 (some 22) none (.iad 1 (.t 20) (.t 21)),
  ER 7 (some 23) none (.load false false 1 (.t 22)),
  E0 8 (some 24) none (.call F_laws_sameInts false (roA [.t 19, .t 23])),
  E0 9 (some 25) none (.i (.un .not (.t 24)))]
def laws_sameRows.r7 : List Ent := [
  E0 0 (some 4) none (.i (.mv (.k (.dat none (.bool false)))))]
def laws_sameRows.r8 : List Ent := [
  E0 0 (some 26) none (.i (.bin .add (.t 13) (.k (I64 1)))),
  E0 1 (some 13) none (.i (.mv (.t 26)))]
def laws_sameRows.b0 : KC := .seq (.reg 704 1 laws_sameRows.r4) (.seq (.cond (.t 14) (.skip) (.exit 0)) (.seq (.block 1 (.seq (.reg 768 2 laws_sameRows.r5) (.seq (.reg 896 10 laws_sameRows.r6) (.cond (.t 25) (.seq (.reg 1536 1 laws_sameRows.r7) (.ret)) (.skip))))) (.reg 1600 2 laws_sameRows.r8)))
def laws_sameRows.r9 : List Ent := [
  E0 0 (some 4) none (.i (.mv (.k (.dat none (.bool true)))))]
def laws_sameRows.fi : FI := { res := [.t 4], code := .seq (.reg 64 1 laws_sameRows.r0) (.seq (.seq (.reg 128 5 laws_sameRows.r1) (.cond (.t 10) (.seq (.reg 448 1 laws_sameRows.r2) (.ret)) (.skip))) (.seq (.seq (.reg 512 3 laws_sameRows.r3) (.block 0 (.loop laws_sameRows.b0))) (.seq (.reg 1728 1 laws_sameRows.r9) (.ret)))) }
attribute [go_sem] laws_sameRows.r0 laws_sameRows.r1 laws_sameRows.r2 laws_sameRows.r3 laws_sameRows.r4 laws_sameRows.r5 laws_sameRows.r6 laws_sameRows.r7 laws_sameRows.r8 laws_sameRows.r9
theorem laws_sameRows.ok : chkF prog F_laws_sameRows 2 laws_sameRows.fi = true := by kernel_rfl

/-! laws_FnLeads -/
def laws_FnLeads.r0 : List Ent := [
  E0 0 (some 4) none (.i (.mv (.k (.dat none (.bool false)))))]
def laws_FnLeads.r1 : List Ent := [
  E0 0 (some 39) none (.i (.mv (.t 0))),
  E0 1 (some 40) none (.i (.len (.t 39))),
  E0 2 (some 41) none (.i (.mv (.t 1))),
  E0 3 (some 42) none (.i (.len (.t 41))),
  E0 4 (some 43) none (.i (.bin .add (.t 40) (.t 42))),
  E0 5 (some 44) none (.i (.bin .gtr (.t 43) (.k (I64 1048576))))]
def laws_FnLeads.r2 : List Ent := [
  E0 0 (some 4) none (.i (.mv (.k (.dat none (.bool true)))))]
def laws_FnLeads.r3 : List Ent := [
  E0 0 (some 46) none (.i (.mv (.t 0))),
  E0 1 (some 47) none (.call F_spec_DrawLeadsTo false (roA [.t 46])),
  E0 2 (some 45) none (.i (.mv (.t 47))),
  E0 3 (some 48) none (.i (.ext 0 (.t 45))),
  E0 4 (some 49) none (.i (.ext 1 (.t 45))),
  E0 5 (some 50) none (.i (.ext 2 (.t 45))),
  E0 6 (some 5) none (.i (.mv (.t 48))),
  E0 7 (some 6) none (.i (.mv (.t 49))),
  E0 8 (some 7) none (.i (.mv (.t 50)))]
def laws_FnLeads.r4 : List Ent := [
  E0 0 (some 52) none (.i (.mv (.t 5))),
  E0 1 (some 53) none (.i (.mv (.t 6))),
  E0 2 (some 54) none (.i (.mv (.t 7))),
  E0 3 (some 55) none (.call F_impl_LeadsTo false (roA [.t 52, .t 53, .t 54])),
  E0 4 (some 51) none (.i (.mv (.t 55))),
  E0 5 (some 56) none (.i (.ext 0 (.t 51))),
  E0 6 (some 57) none (.i (.ext 1 (.t 51))),
  E0 7 (some 8) none (.i (.mv (.t 56))),
  E0 8 (some 9) none (.i (.mv (.t 57)))]
def laws_FnLeads.r5 : List Ent := [
  E0 0 (some 59) none (.i (.mv (.t 5))),
  E0 1 (some 60) none (.i (.mv (.t 6))),
  E0 2 (some 61) none (.i (.mv (.t 7))),
  E0 3 (some 62) none (.call F_spec_LeadsTo false (roA [.t 59, .t 60, .t 61])),
  E0 4 (some 58) none (.i (.mv (.t 62))),
  E0 5 (some 63) none (.i (.ext 0 (.t 58))),
  E0 6 (some 64) none (.i (.ext 1 (.t 58))),
  E0 7 (some 10) none (.i (.mv (.t 63))),
  E0 8 (some 11) none (.i (.mv (.t 64)))]
def laws_FnLeads.r6 : List Ent := [
  E0 0 (some 65) none (.i (.mv (.t 9))),
  E0 1 (some 66) none (.i (.mv (.t 11))),
  E0 2 (some 67) none (.i (.eqb true (.t 65) (.t 66))),
  E0 3 (some 68) none (.i (.mv (.t 67))),
  E0 4 (some 69) (some (68, false)) (.i (.mv (.t 8))),
  E0 5 (some 70) (some (68, false)) (.i (.mv (.t 10))),
  E0 6 (some 71) (some (68, false)) (.call F_laws_sameInts false (roA [.t 69, .t 70])),
  E0 7 (some 72) (some (68, false)) (.i (.un .not (.t 71))),
  E0 8 (some 73) none (.i (.pick (.t 68) (.k (.dat none (.bool true))) (.t 72)))]
def laws_FnLeads.r7 : List Ent := [
  E0 0 (some 4) none (.i (.mv (.k (.dat none (.bool false)))))]
def laws_FnLeads.r8 : List Ent := [
  E0 0 (some 74) none (.i (.mv (.t 9)))]
def laws_FnLeads.r9 : List Ent := [
  E0 0 (some 75) none (.i (.mv (.t 8))),
  E0 1 (some 76) none (.i (.len (.t 75))),
  E0 2 (some 77) none (.i (.mv (.k (I64 0))))]
def laws_FnLeads.r10 : List Ent := [
  E0 0 (some 78) none (.i (.bin .lss (.t 77) (.t 76)))]
def laws_FnLeads.r11 : List Ent := [
  E0 0 (some 79) none (.i (.iad 1 (.t 75) (.t 77))),
  E0 1 (some 80) none (.i (.load false false 1 (.t 79))),
  E0 2 (some 13) none (.i (.mv (.t 80)))]
def laws_FnLeads.r12 : List Ent := [
  E0 0 (some 82) none (.i (.mv (.t 5))),
  E0 1 (some 83) none (.i (.mv (.t 6))),
  E0 2 (some 84) none (.i (.mv (.t 13))),
  E0 3 (some 85) none (.i (.un .neg (.t 84))),
  E0 4 (some 86) none (.call F_impl_LeadsTo false (roA [.t 82, .t 83, .t 85])),
  E0 5 (some 81) none (.i (.mv (.t 86))),
  E0 6 (some 87) none (.i (.ext 0 (.t 81))),
  E0 7 (some 88) none (.i (.ext 1 (.t 81))),
  E0 8 (some 14) none (.i (.mv (.t 87))),
  E0 9 (some 15) none (.i (.mv (.t 88)))]
def laws_FnLeads.r13 : List Ent := [
  E0 0 (some 89) none (.i (.mv (.t 15))),
  E0 1 (some 90) none (.i (.un .not (.t 89))),
  E0 2 (some 91) none (.i (.mv (.t 90))),
  E0 3 (some 92) (some (91, false)) (.i (.mv (.t 14))),
  E0 4 (some 93) (some (91, false)) (.i (.mv (.t 7))),
  E0 5 (some 94) (some (91, false)) (.i (.un .neg (.t 93))),
  E0 6 (some 95) (some (91, false)) (.call F_laws_has false (roA [.t 92, .t 94])),
  E0 7 (some 96) (some (91, false)) (.i (.un .not (.t 95))),
  E0 8 (some 97) none (.i (.pick (.t 91) (.k (.dat none (.bool true))) (.t 96)))]
def laws_FnLeads.r14 : List Ent := [
  E0 0 (some 4) none (.i (.mv (.k (.dat none (.bool false)))))]
def laws_FnLeads.r15 : List Ent := [
  E0 0 (some 98) none (.i (.bin .add (.t 77) (.k (I64 1)))),
  E0 1 (some 77) none (.i (.mv (.t 98)))]
def laws_FnLeads.b0 : KC := .seq (.reg 3200 1 laws_FnLeads.r10) (.seq (.cond (.t 78) (.skip) (.exit 0)) (.seq (.block 1 (.seq (.reg 3264 3 laws_FnLeads.r11) (.seq (.reg 3456 10 laws_FnLeads.r12) (.seq (.reg 4096 9 laws_FnLeads.r13) (.cond (.t 97) (.seq (.reg 4672 1 laws_FnLeads.r14) (.ret)) (.skip)))))) (.reg 4736 2 laws_FnLeads.r15)))
def laws_FnLeads.r16 : List Ent := [
  E0 0 (some 100) none (.i (.mv (.t 5))),
  E0 1 (some 101) none (.i (.mv (.t 6))),
  E0 2 (some 102) none (.call F_impl_LoopsOf false (roA [.t 100, .t 101])),
  E0 3 (some 99) none (.i (.mv (.t 102))),
  E0 4 (some 103) none (.i (.ext 0 (.t 99))),
  E0 5 (some 104) none (.i (.ext 1 (.t 99))),
  E0 6 (some 16) none (.i (.mv (.t 103))),
  E0 7 (some 17) none (.i (.mv (.t 104)))]
def laws_FnLeads.r17 : List Ent := [
  E0 0 (some 18) none (.i (.mv (.k (I64 0))))]
def laws_FnLeads.r18 : List Ent := [
  E0 0 (some 105) none (.i (.mv (.t 16))),
  E0 1 (some 106) none (.i (.len (.t 105))),
  E0 2 (some 107) none (.i (.mv (.k (I64 0))))]
def laws_FnLeads.r19 : List Ent := [
  E0 0 (some 108) none (.i (.bin .lss (.t 107) (.t 106)))]
def laws_FnLeads.r20 : List Ent := [
  E0 0 (some 109) none (.i (.iad 1 (.t 105) (.t 107))),
  E0 1 (some 110) none (.i (.load false false 1 (.t 109))),
  E0 2 (some 20) none (.i (.mv (.t 110)))]
def laws_FnLeads.r21 : List Ent := [
  E0 0 (some 111) none (.i (.mv (.t 18))),
  E0 1 (some 112) none (.i (.mv (.t 20))),
  E0 2 (some 113) none (.i (.len (.t 112))),
  E0 3 (some 114) none (.i (.bin .add (.t 111) (.t 113))),
  E0 4 (some 18) none (.i (.mv (.t 114)))]
def laws_FnLeads.r22 : List Ent := [
  E0 0 (some 115) none (.i (.mv (.t 20))),
  E0 1 (some 116) none (.i (.len (.t 115))),
  E0 2 (some 117) none (.i (.mv (.k (I64 0))))]
def laws_FnLeads.r23 : List Ent := [
  E0 0 (some 118) none (.i (.bin .lss (.t 117) (.t 116)))]
def laws_FnLeads.r24 : List Ent := [
  E0 0 (some 119) none (.i (.iad 1 (.t 115) (.t 117))),
  E0 1 (some 120) none (.i (.load false false 1 (.t 119))),
  E0 2 (some 22) none (.i (.mv (.t 120)))]
def laws_FnLeads.r25 : List Ent := [
  E0 0 (some 122) none (.i (.mv (.t 5))),
  E0 1 (some 123) none (.i (.mv (.t 6))),
  E0 2 (some 124) none (.i (.mv (.t 20))),
  E0 3 (some 125) none (.i (.iad 1 (.t 124) (.k (I64 0)))),
  E0 4 (some 126) none (.i (.load false false 1 (.t 125))),
  E0 5 (some 127) none (.call F_impl_LeadsTo false (roA [.t 122, .t 123, .t 126])),
  E0 6 (some 121) none (.i (.mv (.t 127))),
  E0 7 (some 128) none (.i (.ext 0 (.t 121))),
  E0 8 (some 129) none (.i (.ext 1 (.t 121))),
  E0 9 (some 23) none (.i (.mv (.t 128))),
  E0 10 (some 24) none (.i (.mv (.t 129)))]
def laws_FnLeads.r26 : List Ent := [
  E0 0 (some 130) none (.i (.mv (.t 24))),
  E0 1 (some 131) none (.i (.un .not (.t 130))),
  E0 2 (some 132) none (.i (.mv (.t 131))),
  E0 3 (some 133) (some (132, false)) (.i (.mv (.t 23))),
  E0 4 (some 134) (some (132, false)) (.i (.mv (.t 22))),
  E0 5 (some 135) (some (132, false)) (.call F_laws_has false (roA [.t 133, .t 134])),
  E0 6 (some 136) (some (132, false)) (.i (.un .not (.t 135))),
  E0 7 (some 137) none (.i (.pick (.t 132) (.k (.dat none (.bool true))) (.t 136)))]
def laws_FnLeads.r27 : List Ent := [
  E0 0 (some 4) none (.i (.mv (.k (.dat none (.bool false)))))]
def laws_FnLeads.r28 : List Ent := [
  E0 0 (some 138) none (.i (.bin .add (.t 117) (.k (I64 1)))),
  E0 1 (some 117) none (.i (.mv (.t 138)))]
def laws_FnLeads.b1 : KC := .seq (.reg 6400 1 laws_FnLeads.r23) (.seq (.cond (.t 118) (.skip) (.exit 4)) (.seq (.block 5 (.seq (.reg 6464 3 laws_FnLeads.r24) (.seq (.reg 6656 11 laws_FnLeads.r25) (.seq (.reg 7360 8 laws_FnLeads.r26) (.cond (.t 137) (.seq (.reg 7872 1 laws_FnLeads.r27) (.ret)) (.skip)))))) (.reg 7936 2 laws_FnLeads.r28)))
def laws_FnLeads.r29 : List Ent := [
  E0 0 (some 139) none (.i (.bin .add (.t 107) (.k (I64 1)))),
  E0 1 (some 107) none (.i (.mv (.t 139)))]
def laws_FnLeads.b2 : KC := .seq (.reg 5632 1 laws_FnLeads.r19) (.seq (.cond (.t 108) (.skip) (.exit 2)) (.seq (.block 3 (.seq (.reg 5696 3 laws_FnLeads.r20) (.seq (.reg 5888 5 laws_FnLeads.r21) (.seq (.reg 6208 3 laws_FnLeads.r22) (.block 4 (.loop laws_FnLeads.b1)))))) (.reg 8064 2 laws_FnLeads.r29)))
def laws_FnLeads.r30 : List Ent := [
  E0 0 (some 140) none (.i (.mv (.t 17))),
  E0 1 (some 141) none (.i (.un .not (.t 140))),
  E0 2 (some 142) none (.i (.mv (.t 141))),
  E0 3 (some 143) (some (142, false)) (.i (.mv (.t 18))),
  E0 4 (some 144) (some (142, false)) (.i (.mv (.t 5))),
  E0 5 (some 145) (some (142, false)) (.i (.bin .mul (.k (I64 2)) (.t 144))),
  E0 6 (some 146) (some (142, false)) (.i (.bin .neq (.t 143) (.t 145))),
  E0 7 (some 147) none (.i (.pick (.t 142) (.k (.dat none (.bool true))) (.t 146)))]
def laws_FnLeads.r31 : List Ent := [
  E0 0 (some 4) none (.i (.mv (.k (.dat none (.bool false)))))]
def laws_FnLeads.r32 : List Ent := [
  E0 0 (some 149) none (.i (.mv (.t 1))),
  E0 1 (some 150) none (.call F_spec_DrawLoopsOf false (roA [.t 149])),
  E0 2 (some 148) none (.i (.mv (.t 150))),
  E0 3 (some 151) none (.i (.ext 0 (.t 148))),
  E0 4 (some 152) none (.i (.ext 1 (.t 148))),
  E0 5 (some 25) none (.i (.mv (.t 151))),
  E0 6 (some 26) none (.i (.mv (.t 152)))]
def laws_FnLeads.r33 : List Ent := [
  E0 0 (some 154) none (.i (.mv (.t 25))),
  E0 1 (some 155) none (.i (.mv (.t 26))),
  E0 2 (some 156) none (.call F_impl_LoopsOf false (roA [.t 154, .t 155])),
  E0 3 (some 153) none (.i (.mv (.t 156))),
  E0 4 (some 157) none (.i (.ext 0 (.t 153))),
  E0 5 (some 158) none (.i (.ext 1 (.t 153))),
  E0 6 (some 27) none (.i (.mv (.t 157))),
  E0 7 (some 28) none (.i (.mv (.t 158)))]
def laws_FnLeads.r34 : List Ent := [
  E0 0 (some 160) none (.i (.mv (.t 25))),
  E0 1 (some 161) none (.i (.mv (.t 26))),
  E0 2 (some 162) none (.call F_spec_LoopsOf false (roA [.t 160, .t 161])),
  E0 3 (some 159) none (.i (.mv (.t 162))),
  E0 4 (some 163) none (.i (.ext 0 (.t 159))),
  E0 5 (some 164) none (.i (.ext 1 (.t 159))),
  E0 6 (some 29) none (.i (.mv (.t 163))),
  E0 7 (some 30) none (.i (.mv (.t 164)))]
def laws_FnLeads.r35 : List Ent := [
  E0 0 (some 166) none (.i (.mv (.t 1))),
  E0 1 (some 167) none (.call F_spec_DrawTwoOf true (roA [.t 166])),
  E0 2 (some 165) none (.i (.mv (.t 167))),
  E0 3 (some 168) none (.i (.ext 0 (.t 165))),
  E0 4 (some 169) none (.i (.ext 1 (.t 165))),
  E0 5 (some 31) none (.i (.mv (.t 168))),
  E0 6 (some 32) none (.i (.mv (.t 169)))]
def laws_FnLeads.r36 : List Ent := [
  E0 0 (some 171) none (.i (.mv (.t 31))),
  E0 1 (some 172) none (.i (.mv (.t 32))),
  E0 2 (some 173) none (.call F_impl_TwoOf false (roA [.t 171, .t 172])),
  E0 3 (some 170) none (.i (.mv (.t 173))),
  E0 4 (some 174) none (.i (.ext 0 (.t 170))),
  E0 5 (some 175) none (.i (.ext 1 (.t 170))),
  E0 6 (some 33) none (.i (.mv (.t 174))),
  E0 7 (some 34) none (.i (.mv (.t 175)))]
def laws_FnLeads.r37 : List Ent := [
  E0 0 (some 177) none (.i (.mv (.t 31))),
  E0 1 (some 178) none (.i (.mv (.t 32))),
  E0 2 (some 179) none (.call F_spec_TwoOf false (roA [.t 177, .t 178])),
  E0 3 (some 176) none (.i (.mv (.t 179))),
  E0 4 (some 180) none (.i (.ext 0 (.t 176))),
  E0 5 (some 181) none (.i (.ext 1 (.t 176))),
  E0 6 (some 35) none (.i (.mv (.t 180))),
  E0 7 (some 36) none (.i (.mv (.t 181)))]
def laws_FnLeads.r38 : List Ent := [
  E0 0 (some 182) none (.i (.mv (.t 28))),
  E0 1 (some 183) none (.i (.mv (.t 30))),
  E0 2 (some 184) none (.i (.eqb true (.t 182) (.t 183))),
  E0 3 (some 185) none (.i (.mv (.t 184))),
  E0 4 (some 186) (some (185, false)) (.i (.mv (.t 27))),
  E0 5 (some 187) (some (185, false)) (.i (.mv (.t 29))),
  E0 6 (some 188) (some (185, false)) (.call F_laws_sameRows false (roA [.t 186, .t 187])),
  E0 7 (some 189) (some (185, false)) (.i (.un .not (.t 188))),
  E0 8 (some 190) none (.i (.pick (.t 185) (.k (.dat none (.bool true))) (.t 189))),
  E0 9 (some 191) none (.i (.mv (.t 190))),
  E0 10 (some 192) (some (191, false)) (.i (.mv (.t 34))),
  E0 11 (some 193) (some (191, false)) (.i (.mv (.t 36))),
  E0 12 (some 194) (some (191, false)) (.i (.eqb true (.t 192) (.t 193))),
  E0 13 (some 195) none (.i (.pick (.t 191) (.k (.dat none (.bool true))) (.t 194))),
  E0 14 (some 196) none (.i (.mv (.t 195))),
  E0 15 (some 197) (some (196, false)) (.i (.mv (.t 33))),
  E0 16 (some 198) (some (196, false)) (.i (.mv (.t 35))),
  E0 17 (some 199) (some (196, false)) (.call F_laws_sameRows false (roA [.t 197, .t 198])),
  E0 18 (some 200) (some (196, false)) (.i (.un .not (.t 199))),
  E0 19 (some 201) none (.i (.pick (.t 196) (.k (.dat none (.bool true))) (.t 200)))]
def laws_FnLeads.r39 : List Ent := [
  E0 0 (some 4) none (.i (.mv (.k (.dat none (.bool false)))))]
def laws_FnLeads.r40 : List Ent := [
  E0 0 (some 202) none (.i (.mv (.t 34))),
  E0 1 (some 203) none (.i (.mv (.t 202))),
  E0 2 (some 204) (some (203, true)) (.i (.mv (.t 31))),
  E0 3 (some 205) (some (203, true)) (.i (.bin .gtr (.t 204) (.k (I64 0)))),
  E0 4 (some 206) none (.i (.pick (.t 203) (.t 205) (.k (.dat none (.bool false))))),
  E0 5 (some 207) none (.i (.mv (.t 206))),
  E0 6 (some 208) (some (207, true)) (.i (.mv (.t 32))),
  E0 7 (some 209) (some (207, true)) (.i (.len (.t 208))),
  E0 8 (some 210) (some (207, true)) (.i (.bin .gtr (.t 209) (.k (I64 0)))),
  E0 9 (some 211) none (.i (.pick (.t 207) (.t 210) (.k (.dat none (.bool false)))))]
def laws_FnLeads.r41 : List Ent := [
  E0 0 (some 213) none (.i (.mv (.t 31))),
  E0 1 (some 214) none (.i (.mv (.t 33))),
  E0 2 (some 215) none (.i (.mv (.t 32))),
  E0 3 (some 216) none (.i (.iad 1 (.t 215) (.k (I64 0)))),
  E0 4 (some 217) none (.i (.load false false 1 (.t 216))),
  E0 5 (some 218) none (.i (.iad 1 (.t 217) (.k (I64 0)))),
  E0 6 (some 219) none (.i (.load false false 1 (.t 218))),
  E0 7 (some 220) none (.call F_impl_LeadsTo false (roA [.t 213, .t 214, .t 219])),
  E0 8 (some 212) none (.i (.mv (.t 220))),
  E0 9 (some 221) none (.i (.ext 0 (.t 212))),
  E0 10 (some 222) none (.i (.ext 1 (.t 212))),
  E0 11 (some 37) none (.i (.mv (.t 221))),
  E0 12 (some 38) none (.i (.mv (.t 222)))]
def laws_FnLeads.r42 : List Ent := [
  E0 0 (some 223) none (.i (.mv (.t 38))),
  E0 1 (some 224) none (.i (.mv (.t 223))),
  E0 2 (some 225) (some (224, true)) (.i (.mv (.t 37))),
  E0 3 (some 226) (some (224, true)) (.i (.mv (.t 32))),
  E0 4 (some 227) (some (224, true)) (.i (.iad 1 (.t 226) (.k (I64 0)))),
  E0 5 (some 228) (some (224, true)) (.i (.load false false 1 (.t 227))),
  E0 6 (some 229) (some (224, true)) (.i (.iad 1 (.t 228) (.k (I64 1)))),
  E0 7 (some 230) (some (224, true)) (.i (.load false false 1 (.t 229))),
  E0 8 (some 231) (some (224, true)) (.call F_laws_has false (roA [.t 225, .t 230])),
  E0 9 (some 232) none (.i (.pick (.t 224) (.t 231) (.k (.dat none (.bool false))))),
  E0 10 (some 4) none (.i (.mv (.t 232)))]
def laws_FnLeads.r43 : List Ent := [
  E0 0 (some 4) none (.i (.mv (.k (.dat none (.bool true)))))]
def laws_FnLeads.fi : FI := { res := [.t 4], code := .seq (.reg 64 1 laws_FnLeads.r0) (.seq (.seq (.reg 128 6 laws_FnLeads.r1) (.cond (.t 44) (.seq (.reg 512 1 laws_FnLeads.r2) (.ret)) (.skip))) (.seq (.reg 576 9 laws_FnLeads.r3) (.seq (.fz 6 (.reg 1152 9 laws_FnLeads.r4)) (.seq (.reg 1728 9 laws_FnLeads.r5) (.seq (.seq (.reg 2304 9 laws_FnLeads.r6) (.cond (.t 73) (.seq (.reg 2880 1 laws_FnLeads.r7) (.ret)) (.skip))) (.seq (.seq (.reg 2944 1 laws_FnLeads.r8) (.cond (.t 74) (.seq (.seq (.fz 8 (.reg 3008 3 laws_FnLeads.r9)) (.block 0 (.loop laws_FnLeads.b0))) (.seq (.reg 4864 8 laws_FnLeads.r16) (.seq (.reg 5376 1 laws_FnLeads.r17) (.seq (.seq (.fz 16 (.reg 5440 3 laws_FnLeads.r18)) (.block 2 (.loop laws_FnLeads.b2))) (.seq (.reg 8192 8 laws_FnLeads.r30) (.cond (.t 147) (.seq (.reg 8704 1 laws_FnLeads.r31) (.ret)) (.skip))))))) (.skip))) (.seq (.reg 8768 7 laws_FnLeads.r32) (.seq (.reg 9216 8 laws_FnLeads.r33) (.seq (.reg 9728 8 laws_FnLeads.r34) (.seq (.reg 10240 7 laws_FnLeads.r35) (.seq (.reg 10688 8 laws_FnLeads.r36) (.seq (.reg 11200 8 laws_FnLeads.r37) (.seq (.seq (.reg 11712 20 laws_FnLeads.r38) (.cond (.t 201) (.seq (.reg 12992 1 laws_FnLeads.r39) (.ret)) (.skip))) (.seq (.seq (.reg 13056 10 laws_FnLeads.r40) (.cond (.t 211) (.seq (.fz 33 (.reg 13696 13 laws_FnLeads.r41)) (.seq (.reg 14528 11 laws_FnLeads.r42) (.ret))) (.skip))) (.seq (.reg 15232 1 laws_FnLeads.r43) (.ret)))))))))))))))) }
attribute [go_sem] laws_FnLeads.r0 laws_FnLeads.r1 laws_FnLeads.r2 laws_FnLeads.r3 laws_FnLeads.r4 laws_FnLeads.r5 laws_FnLeads.r6 laws_FnLeads.r7 laws_FnLeads.r8 laws_FnLeads.r9 laws_FnLeads.r10 laws_FnLeads.r11 laws_FnLeads.r12 laws_FnLeads.r13 laws_FnLeads.r14 laws_FnLeads.r15 laws_FnLeads.r16 laws_FnLeads.r17 laws_FnLeads.r18 laws_FnLeads.r19 laws_FnLeads.r20 laws_FnLeads.r21 laws_FnLeads.r22 laws_FnLeads.r23 laws_FnLeads.r24 laws_FnLeads.r25 laws_FnLeads.r26 laws_FnLeads.r27 laws_FnLeads.r28 laws_FnLeads.r29 laws_FnLeads.r30 laws_FnLeads.r31 laws_FnLeads.r32 laws_FnLeads.r33 laws_FnLeads.r34 laws_FnLeads.r35 laws_FnLeads.r36 laws_FnLeads.r37 laws_FnLeads.r38 laws_FnLeads.r39 laws_FnLeads.r40 laws_FnLeads.r41 laws_FnLeads.r42 laws_FnLeads.r43
theorem laws_FnLeads.ok : chkF prog F_laws_FnLeads 2 laws_FnLeads.fi = true := by kernel_rfl

/-! spec_l1Put_co -/
def spec_l1Put_co.r0 : List Ent := [
  E0 0 (some 4) none (.i (.mv (.k (.nil 1))))]
def spec_l1Put_co.r1 : List Ent := [
  E0 0 (some 5) none (.i (.mv (.k (I64 0))))]
def spec_l1Put_co.r2 : List Ent := [
  E0 0 (some 7) none (.i (.mv (.t 5))),
  E0 1 (some 8) none (.i (.mv (.t 0))),
  E0 2 (some 9) none (.i (.len (.t 8))),
  E0 3 (some 10) none (.i (.bin .lss (.t 7) (.t 9))),
  E0 4 (some 11) none (.i (.mv (.t 10))),
  E0 5 (some 12) (some (11, true)) (.i (.mv (.t 0))),
  E0 6 (some 13) (some (11, true)) (.i (.mv (.t 5))),
  E0 7 (some 14) (some (11, true)) (.i (.iad 1 (.t 12) (.t 13))),
  E0 8 (some 15) (some (11, true)) (.i (.load false false 1 (.t 14))),
  E0 9 (some 16) (some (11, true)) (.i (.mv (.t 1))),
  E0 10 (some 17) (some (11, true)) (.i (.bin .lss (.t 15) (.t 16))),
  E0 11 (some 18) none (.i (.pick (.t 11) (.t 17) (.k (.dat none (.bool false)))))]
def spec_l1Put_co.r3 : List Ent := [
  E0 0 (some 19) none (.i (.mv (.t 5))),
  E0 1 (some 20) none (.i (.bin .add (.t 19) (.k (I64 1)))),
  E0 2 (some 5) none (.i (.mv (.t 20)))]
def spec_l1Put_co.b0 : KC := .seq (.seq (.reg 192 12 spec_l1Put_co.r2) (.cond (.t 18) (.skip) (.exit 0))) (.block 1 (.reg 960 3 spec_l1Put_co.r3))
def spec_l1Put_co.r4 : List Ent := [
  E0 0 (some 21) none (.i (.mv (.t 5))),
  E0 1 (some 22) none (.i (.mv (.t 0))),
  E0 2 (some 23) none (.i (.len (.t 22))),
  E0 3 (some 24) none (.i (.bin .lss (.t 21) (.t 23))),
  E0 4 (some 25) none (.i (.mv (.t 24))),
  E0 5 (some 26) (some (25, true)) (.i (.mv (.t 0))),
  E0 6 (some 27) (some (25, true)) (.i (.mv (.t 5))),
  E0 7 (some 28) (some (25, true)) (.i (.iad 1 (.t 26) (.t 27))),
  E0 8 (some 29) (some (25, true)) (.i (.load false false 1 (.t 28))),
  E0 9 (some 30) (some (25, true)) (.i (.mv (.t 1))),
  E0 10 (some 31) (some (25, true)) (.i (.bin .eql (.t 29) (.t 30))),
  E0 11 (some 32) none (.i (.pick (.t 25) (.t 31) (.k (.dat none (.bool false)))))]
def spec_l1Put_co.r5 : List Ent := [
  E0 0 (some 33) none (.i (.mv (.t 0))),
  E0 1 (some 4) none (.i (.mv (.t 33)))]
def spec_l1Put_co.r6 : List Ent := [
  E0 0 (some 34) none (.i (.bsl false 1 [])),
  E0 1 (some 35) none (.i (.mv (.t 0))),
  E0 2 (some 36) none (.i (.mv (.t 5))),
  E0 3 (some 37) none (.i (.slc 1 (.t 35) (none) (some (.t 36)))),
  E0 4 (some 38) none (.i (.app 1 8 (.t 34) (.t 37))),
  E0 5 (some 6) none (.i (.mv (.t 38)))]
def spec_l1Put_co.r7 : List Ent := [
  E0 0 (some 39) none (.i (.mv (.t 6))),
  E0 1 (some 40) none (.i (.mv (.t 1))),
  E0 2 (some 41) none (.i (.bsl true 1 [.t 40])),
  E0 3 (some 42) none (.i (.app 1 8 (.t 39) (.t 41))),
  E0 4 (some 6) none (.i (.mv (.t 42)))]
def spec_l1Put_co.r8 : List Ent := [
  E0 0 (some 43) none (.i (.mv (.t 6))),
  E0 1 (some 44) none (.i (.mv (.t 0))),
  E0 2 (some 45) none (.i (.mv (.t 5))),
  E0 3 (some 46) none (.i (.slc 1 (.t 44) (some (.t 45)) (none))),
  E0 4 (some 47) none (.i (.app 1 8 (.t 43) (.t 46))),
  E0 5 (some 4) none (.i (.mv (.t 47)))]
def spec_l1Put_co.fi : FI := { res := [.t 4], code := .seq (.reg 64 1 spec_l1Put_co.r0) (.seq (.reg 128 1 spec_l1Put_co.r1) (.seq (.block 0 (.loop spec_l1Put_co.b0)) (.seq (.seq (.reg 1152 12 spec_l1Put_co.r4) (.cond (.t 32) (.seq (.reg 1920 2 spec_l1Put_co.r5) (.ret)) (.skip))) (.seq (.reg 2048 6 spec_l1Put_co.r6) (.seq (.reg 2432 5 spec_l1Put_co.r7) (.seq (.reg 2752 6 spec_l1Put_co.r8) (.ret))))))) }
attribute [go_sem] spec_l1Put_co.r0 spec_l1Put_co.r1 spec_l1Put_co.r2 spec_l1Put_co.r3 spec_l1Put_co.r4 spec_l1Put_co.r5 spec_l1Put_co.r6 spec_l1Put_co.r7 spec_l1Put_co.r8
theorem spec_l1Put_co.ok : chkF prog F_spec_l1Put 2 spec_l1Put_co.fi = true := by kernel_rfl
end Go.Vm.Ytdebllkmblakkaa
