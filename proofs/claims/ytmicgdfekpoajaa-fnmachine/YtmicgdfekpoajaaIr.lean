/- The functions that the law reaches, in the text of the interpreter, and that this text fits them (no condition). -/
import Derived.Test.YtmicgdfekpoajaaVmc
import Derived.Test.YtmicgdfekpoajaaProg
import Derived.KernelRfl
/- PRINTED BY irgen.py, a program of this claim's author: the functions that the claim reaches, in the text of the interpreter, and that they fit. -/
namespace Go.Vm.Ytmicgdfekpoajaa
open Go Go.Vm
set_option linter.unusedVariables false
set_option maxRecDepth 100000
noncomputable abbrev prog : Program := Go.Proofs.Try.prog
abbrev F_laws_FnExactGoodMay : FuncId := 3
abbrev F_laws_FnExactStartMay : FuncId := 4
abbrev F_laws_FnExactInMay : FuncId := 5
abbrev F_laws_FnExactJoinMay : FuncId := 6
abbrev F_laws_FnExactHeedJump : FuncId := 7
abbrev F_laws_FnExactStepMay : FuncId := 8
abbrev F_laws_FnHeeded : FuncId := 9
abbrev F_laws_FnExactDoStep : FuncId := 10
abbrev F_laws_FnSteps : FuncId := 11
abbrev F_laws_FnMachine : FuncId := 12
abbrev F_laws_FnExactTriesFor : FuncId := 13
abbrev F_laws_szMay : FuncId := 14
abbrev F_spec_GoodMay : FuncId := 15
abbrev F_laws_toMay : FuncId := 16
abbrev F_impl_GoodMay : FuncId := 17
abbrev F_laws_eqMay : FuncId := 18
abbrev F_spec_StartMay : FuncId := 19
abbrev F_impl_StartMay : FuncId := 20
abbrev F_laws_markMay : FuncId := 21
abbrev F_laws_heldMay : FuncId := 22
abbrev F_laws_szMachine : FuncId := 23
abbrev F_spec_InMay : FuncId := 24
abbrev F_laws_toMachine : FuncId := 25
abbrev F_impl_InMay : FuncId := 26
abbrev F_laws_eqMachine : FuncId := 27
abbrev F_spec_JoinMay : FuncId := 28
abbrev F_impl_JoinMay : FuncId := 29
abbrev F_spec_HeedJump : FuncId := 30
abbrev F_laws_toStep : FuncId := 31
abbrev F_impl_HeedJump : FuncId := 32
abbrev F_spec_StepMay : FuncId := 33
abbrev F_impl_StepMay : FuncId := 34
abbrev F_spec_DrawReduceBoth : FuncId := 35
abbrev F_impl_ReduceBoth : FuncId := 36
abbrev F_spec_ReduceBoth : FuncId := 37
abbrev F_impl_GoodStretch : FuncId := 38
abbrev F_impl_GoodKnown : FuncId := 39
abbrev F_impl_WordOf : FuncId := 40
abbrev F_laws_numberOf : FuncId := 41
abbrev F_impl_InStretch : FuncId := 42
abbrev F_impl_MayBe : FuncId := 43
abbrev F_spec_DrawHeedJump : FuncId := 44
abbrev F_spec_DrawStepMay : FuncId := 45
abbrev F_laws_sameMay : FuncId := 46
abbrev F_laws_szStepS : FuncId := 47
abbrev F_spec_DoStep : FuncId := 48
abbrev F_laws_toStepS : FuncId := 49
abbrev F_laws_toIntS : FuncId := 50
abbrev F_impl_DoStep : FuncId := 51
abbrev F_laws_eqStepS : FuncId := 52
abbrev F_laws_eqIntS : FuncId := 53
abbrev F_laws_markStepS : FuncId := 54
abbrev F_laws_markIntS : FuncId := 55
abbrev F_laws_markMachine : FuncId := 56
abbrev F_laws_heldMachine : FuncId := 57
abbrev F_spec_DrawDoStep : FuncId := 58
abbrev F_laws_sameMachine : FuncId := 59
abbrev F_impl_GoodMachine : FuncId := 60
abbrev F_spec_GoodMachine : FuncId := 61
abbrev F_impl_NextsOf : FuncId := 62
abbrev F_laws_has : FuncId := 63
abbrev F_spec_DrawFaultFree : FuncId := 64
abbrev F_impl_FaultFree : FuncId := 65
abbrev F_spec_FaultFree : FuncId := 66
abbrev F_impl_NewMachine : FuncId := 67
abbrev F_spec_NewMachine : FuncId := 68
abbrev F_spec_DrawTraceOf : FuncId := 69
abbrev F_impl_TraceOf : FuncId := 70
abbrev F_spec_TraceOf : FuncId := 71
abbrev F_laws_sameInts : FuncId := 72
abbrev F_impl_RunProgram : FuncId := 73
abbrev F_spec_DrawRunProgram : FuncId := 74
abbrev F_spec_RunProgram : FuncId := 75
abbrev F_spec_TriesFor : FuncId := 76
abbrev F_impl_TriesFor : FuncId := 77
abbrev F_laws_eqIntSS : FuncId := 78
abbrev F_laws_markIntSS : FuncId := 79
abbrev F_laws_heldIntSS : FuncId := 80
abbrev F_laws_szStretchS : FuncId := 81
abbrev F_laws_szKnownS : FuncId := 82
abbrev F_laws_szBoolS : FuncId := 83
abbrev F_spec_GoodStretch : FuncId := 84
abbrev F_spec_GoodKnown : FuncId := 85
abbrev F_laws_toStretchS : FuncId := 86
abbrev F_laws_toKnownS : FuncId := 87
abbrev F_laws_toBoolS : FuncId := 88
abbrev F_impl_GoodMay_c1 : FuncId := 89
abbrev F_slices_ContainsFunc__sStretch_Stretch : FuncId := 90
abbrev F_slices_ContainsFunc__sKnown_Known : FuncId := 91
abbrev F_impl_GoodMay_c2 : FuncId := 92
abbrev F_laws_eqStretchS : FuncId := 93
abbrev F_laws_eqKnownS : FuncId := 94
abbrev F_laws_eqBoolS : FuncId := 95
abbrev F_spec_l13Const : FuncId := 96
abbrev F_spec_l9All : FuncId := 97
abbrev F_slices_Repeat__sStretch_Stretch : FuncId := 98
abbrev F_impl_allWords : FuncId := 99
abbrev F_laws_markStretchS : FuncId := 100
abbrev F_laws_markKnownS : FuncId := 101
abbrev F_laws_markBoolS : FuncId := 102
abbrev F_laws_heldStretchS : FuncId := 103
abbrev F_laws_heldKnownS : FuncId := 104
abbrev F_laws_heldBoolS : FuncId := 105
abbrev F_laws_szIntS : FuncId := 106
abbrev F_spec_l1In : FuncId := 107
abbrev F_spec_l10May : FuncId := 108
abbrev F_impl_in : FuncId := 109
abbrev F_impl_Known_matches : FuncId := 110
abbrev F_spec_l13Join : FuncId := 111
abbrev F_impl_joined : FuncId := 112
abbrev F_spec_l2Step : FuncId := 113
abbrev F_spec_l13Heed : FuncId := 114
abbrev F_spec_l13Own : FuncId := 115
abbrev F_impl_Step_valid : FuncId := 116
abbrev F_impl_heedJump : FuncId := 117
abbrev F_spec_l13Step : FuncId := 118
abbrev F_impl_stepMay : FuncId := 119
abbrev F_spec_pl1Cur_stretch : FuncId := 120
abbrev F_spec_pl1Cur_known : FuncId := 121
abbrev F_impl_reduceBoth : FuncId := 122
abbrev F_spec_l13Reduce : FuncId := 123
abbrev F_impl_isWord : FuncId := 124
abbrev F_spec_pl1Cur_among : FuncId := 125
abbrev F_spec_pl1Cur_pick : FuncId := 126
abbrev F_spec_pl1Cur_may : FuncId := 127
abbrev F_spec_pl1Cur_one : FuncId := 128
abbrev F_spec_pl1Cur_step : FuncId := 129
abbrev F_laws_sameBools : FuncId := 130
abbrev F_spec_GoodProgram : FuncId := 131
abbrev F_spec_l3Ctx : FuncId := 132
abbrev F_spec_l3Do : FuncId := 133
abbrev F_spec_l3Own : FuncId := 134
abbrev F_impl_GoodProgram : FuncId := 135
abbrev F_impl_isContext : FuncId := 136
abbrev F_impl_Machine_own : FuncId := 137
abbrev F_impl_pMachine_step : FuncId := 138
abbrev F_laws_eqStep : FuncId := 139
abbrev F_laws_heldIntS : FuncId := 140
abbrev F_spec_pl1Cur_program : FuncId := 141
abbrev F_spec_pl1Cur_ctx : FuncId := 142
abbrev F_spec_pl1Cur_machine : FuncId := 143
abbrev F_impl_areWords : FuncId := 144
abbrev F_spec_l1All : FuncId := 145
abbrev F_impl_nexts : FuncId := 146
abbrev F_impl_run : FuncId := 147
abbrev F_spec_l3Run : FuncId := 148
abbrev F_spec_l17Tries : FuncId := 149
abbrev F_impl_tries : FuncId := 150
abbrev F_spec_l1Word : FuncId := 151
abbrev F_laws_toStretch : FuncId := 152
abbrev F_laws_toKnown : FuncId := 153
abbrev F_slices_IndexFunc__sStretch_Stretch : FuncId := 154
abbrev F_slices_IndexFunc__sKnown_Known : FuncId := 155
abbrev F_laws_eqStretch : FuncId := 156
abbrev F_laws_eqKnown : FuncId := 157
abbrev F_bits_Mul : FuncId := 158
abbrev F_spec_l9Join : FuncId := 159
abbrev F_spec_l10Join : FuncId := 160
abbrev F_impl_May_own : FuncId := 161
abbrev F_impl_joinStretch : FuncId := 162
abbrev F_impl_joinKnown : FuncId := 163
abbrev F_spec_l2Reg : FuncId := 164
abbrev F_spec_l2Zero : FuncId := 165
abbrev F_spec_l9Meet : FuncId := 166
abbrev F_spec_l10Meet : FuncId := 167
abbrev F_spec_l9Less : FuncId := 168
abbrev F_spec_l1Most : FuncId := 169
abbrev F_spec_l1Least : FuncId := 170
abbrev F_impl_fields : FuncId := 171
abbrev F_impl_Step_ranges : FuncId := 172
abbrev F_impl_pStep_field : FuncId := 173
abbrev F_impl_meetStretch : FuncId := 174
abbrev F_impl_meetKnown : FuncId := 175
abbrev F_impl_splitLess : FuncId := 176
abbrev F_spec_l13Set : FuncId := 177
abbrev F_spec_l9Do : FuncId := 178
abbrev F_spec_l10Do : FuncId := 179
abbrev F_impl_pMay_put : FuncId := 180
abbrev F_impl_stretched : FuncId := 181
abbrev F_impl_doKnown : FuncId := 182
abbrev F_impl_exact : FuncId := 183
abbrev F_impl_unknown : FuncId := 184
abbrev F_spec_pl1Cur_word : FuncId := 185
abbrev F_spec_pl1Cur_rawWord : FuncId := 186
abbrev F_spec_l10Not : FuncId := 187
abbrev F_spec_pl1Cur_next : FuncId := 188
abbrev F_spec_l1Do : FuncId := 189
abbrev F_impl_Step_jumps : FuncId := 190
abbrev F_slices_ContainsFunc__sint_int : FuncId := 191
abbrev F_impl_isContext_c1 : FuncId := 192
abbrev F_slices_Clone__sint_int : FuncId := 193
abbrev F_slices_Clone__sbool_bool : FuncId := 194
abbrev F_impl_do : FuncId := 195
abbrev F_impl_areWords_c1 : FuncId := 196
abbrev F_spec_l17Full : FuncId := 197
abbrev F_spec_l1Has : FuncId := 198
abbrev F_impl_alone : FuncId := 199
abbrev F_slices_Contains__sint_int : FuncId := 200
abbrev F_bits_Mul32 : FuncId := 201
abbrev F_bits_Mul64 : FuncId := 202
abbrev F_slices_Clone__sStretch_Stretch : FuncId := 203
abbrev F_slices_Clone__sKnown_Known : FuncId := 204
abbrev F_impl_known : FuncId := 205
abbrev F_spec_l9Ends : FuncId := 206
abbrev F_spec_l9Mod : FuncId := 207
abbrev F_spec_l9Ones : FuncId := 208
abbrev F_spec_l9Shift : FuncId := 209
abbrev F_spec_l10Bits : FuncId := 210
abbrev F_spec_l1Wrap : FuncId := 211
abbrev F_impl_wrap : FuncId := 212
abbrev F_impl_ones : FuncId := 213
abbrev F_impl_bitwise : FuncId := 214
abbrev F_slices_IndexFunc__sint_int : FuncId := 215
abbrev F_slices_Repeat__sint_int : FuncId := 216
abbrev F_slices_Index__sint_int : FuncId := 217
abbrev F_spec_l9Floor : FuncId := 218
abbrev F_impl_Known_may : FuncId := 219
abbrev F_runtime_boundsError_Error : FuncId := 220
abbrev F_runtime_boundsError_RuntimeError : FuncId := 221
abbrev F_runtime_errorString_Error : FuncId := 222
abbrev F_runtime_errorString_RuntimeError : FuncId := 223
abbrev F_runtime_plainError_Error : FuncId := 224
abbrev F_runtime_plainError_RuntimeError : FuncId := 225
abbrev F_runtime_errorAddressString_Error : FuncId := 226
abbrev F_runtime_errorAddressString_RuntimeError : FuncId := 227
abbrev F_runtime_pTypeAssertionError_Error : FuncId := 228
abbrev F_runtime_pTypeAssertionError_RuntimeError : FuncId := 229
abbrev F_runtime_pPanicNilError_Error : FuncId := 230
abbrev F_runtime_pPanicNilError_RuntimeError : FuncId := 231
abbrev F_abi_pType_Align : FuncId := 232
abbrev F_maps_unhashableTypeError_Error : FuncId := 233
abbrev F_maps_unhashableTypeError_RuntimeError : FuncId := 234
abbrev F_impl_Step_branches : FuncId := 235
abbrev F_abi_Kind_String : FuncId := 236

/-! spec_l1In -/
def spec_l1In.r0 : List Ent := [
  E0 0 (some 6) none (.i (.mv (.k (.dat none (.bool false)))))]
def spec_l1In.r1 : List Ent := [
  E0 0 (some 7) none (.i (.mv (.t 0))),
  E0 1 (some 8) none (.i (.mv (.t 1))),
  E0 2 (some 9) none (.i (.bin .geq (.t 7) (.t 8))),
  E0 3 (some 10) none (.i (.mv (.t 9))),
  E0 4 (some 11) (some (10, true)) (.i (.mv (.t 0))),
  E0 5 (some 12) (some (10, true)) (.i (.mv (.t 2))),
  E0 6 (some 13) (some (10, true)) (.i (.bin .leq (.t 11) (.t 12))),
  E0 7 (some 14) none (.i (.pick (.t 10) (.t 13) (.k (.dat none (.bool false))))),
  E0 8 (some 6) none (.i (.mv (.t 14)))]
def spec_l1In.fi : FI := { res := [.t 6], code := .seq (.reg 64 1 spec_l1In.r0) (.seq (.reg 128 9 spec_l1In.r1) (.ret)) }
attribute [go_sem] spec_l1In.r0 spec_l1In.r1
theorem spec_l1In.ok : chkF prog F_spec_l1In 3 spec_l1In.fi = true := by kernel_rfl

/-! impl_in -/
def impl_in.r0 : List Ent := [
  E0 0 (some 6) none (.i (.mv (.k (.dat none (.bool false)))))]
def impl_in.r1 : List Ent := [
  E0 0 (some 7) none (.i (.mv (.t 0))),
  E0 1 (some 8) none (.i (.mv (.t 1))),
  E0 2 (some 9) none (.i (.bin .geq (.t 7) (.t 8))),
  E0 3 (some 10) none (.i (.mv (.t 9))),
  E0 4 (some 11) (some (10, true)) (.i (.mv (.t 0))),
  E0 5 (some 12) (some (10, true)) (.i (.mv (.t 2))),
  E0 6 (some 13) (some (10, true)) (.i (.bin .leq (.t 11) (.t 12))),
  E0 7 (some 14) none (.i (.pick (.t 10) (.t 13) (.k (.dat none (.bool false))))),
  E0 8 (some 6) none (.i (.mv (.t 14)))]
def impl_in.fi : FI := { res := [.t 6], code := .seq (.reg 64 1 impl_in.r0) (.seq (.reg 128 9 impl_in.r1) (.ret)) }
attribute [go_sem] impl_in.r0 impl_in.r1
theorem impl_in.ok : chkF prog F_impl_in 3 impl_in.fi = true := by kernel_rfl

/-! impl_isWord -/
def impl_isWord.r0 : List Ent := [
  E0 0 (some 2) none (.i (.mv (.k (.dat none (.bool false)))))]
def impl_isWord.r1 : List Ent := [
  E0 0 (some 3) none (.i (.mv (.t 0))),
  E0 1 (some 4) none (.call F_impl_in false (roA [.t 3, .k (I64 0), .k (I64 65535)])),
  E0 2 (some 2) none (.i (.mv (.t 4)))]
def impl_isWord.fi : FI := { res := [.t 2], code := .seq (.reg 64 1 impl_isWord.r0) (.seq (.reg 128 3 impl_isWord.r1) (.ret)) }
attribute [go_sem] impl_isWord.r0 impl_isWord.r1
theorem impl_isWord.ok : chkF prog F_impl_isWord 1 impl_isWord.fi = true := by kernel_rfl

/-! spec_l1All -/
def spec_l1All.r0 : List Ent := [
  E0 0 (some 6) none (.i (.mv (.k (.dat none (.bool false)))))]
def spec_l1All.r1 : List Ent := [
  E0 0 (some 9) none (.i (.mv (.t 0))),
  E0 1 (some 10) none (.i (.len (.t 9))),
  E0 2 (some 11) none (.i (.mv (.k (I64 0))))]
def spec_l1All.r2 : List Ent := [
  E0 0 (some 12) none (.i (.bin .lss (.t 11) (.t 10)))]
def spec_l1All.r3 : List Ent := [
  E0 0 (some 13) none (.i (.iad 1 (.t 9) (.t 11))),
  E0 1 (some 14) none (.i (.load false false 1 (.t 13))),
  E0 2 (some 8) none (.i (.mv (.t 14)))]
def spec_l1All.r4 : List Ent := [
  E0 0 (some 15) none (.i (.mv (.t 8))),
  E0 1 (some 16) none (.i (.mv (.t 1))),
  E0 2 (some 17) none (.i (.mv (.t 2))),
  E0 3 (some 18) none (.call F_spec_l1In false (roA [.t 15, .t 16, .t 17])),
  E0 4 (some 19) none (.i (.un .not (.t 18)))]
def spec_l1All.r5 : List Ent := [
  E0 0 (some 6) none (.i (.mv (.k (.dat none (.bool false)))))]
def spec_l1All.r6 : List Ent := [
  E0 0 (some 20) none (.i (.bin .add (.t 11) (.k (I64 1)))),
  E0 1 (some 11) none (.i (.mv (.t 20)))]
def spec_l1All.b0 : KC := .seq (.reg 320 1 spec_l1All.r2) (.seq (.cond (.t 12) (.skip) (.exit 0)) (.seq (.block 1 (.seq (.reg 384 3 spec_l1All.r3) (.seq (.reg 576 5 spec_l1All.r4) (.cond (.t 19) (.seq (.reg 896 1 spec_l1All.r5) (.ret)) (.skip))))) (.reg 960 2 spec_l1All.r6)))
def spec_l1All.r7 : List Ent := [
  E0 0 (some 6) none (.i (.mv (.k (.dat none (.bool true)))))]
def spec_l1All.fi : FI := { res := [.t 6], code := .seq (.reg 64 1 spec_l1All.r0) (.seq (.seq (.reg 128 3 spec_l1All.r1) (.block 0 (.loop spec_l1All.b0))) (.seq (.reg 1088 1 spec_l1All.r7) (.ret))) }
attribute [go_sem] spec_l1All.r0 spec_l1All.r1 spec_l1All.r2 spec_l1All.r3 spec_l1All.r4 spec_l1All.r5 spec_l1All.r6 spec_l1All.r7
theorem spec_l1All.ok : chkF prog F_spec_l1All 3 spec_l1All.fi = true := by kernel_rfl

/-! slices_IndexFunc__sint_int -/
def slices_IndexFunc__sint_int.r0 : List Ent := [
  E0 0 (some 4) none (.i (.mv (.k (I64 0))))]
def slices_IndexFunc__sint_int.r1 : List Ent := [
  E0 0 (some 6) none (.i (.mv (.t 0))),
  E0 1 (some 7) none (.i (.len (.t 6))),
  E0 2 (some 8) none (.i (.mv (.k (I64 0))))]
def slices_IndexFunc__sint_int.r2 : List Ent := [
  E0 0 (some 9) none (.i (.bin .lss (.t 8) (.t 7)))]
def slices_IndexFunc__sint_int.r3 : List Ent := [
  E0 0 (some 10) none (.i (.mv (.t 8))),
  E0 1 (some 5) none (.i (.mv (.t 10)))]
def slices_IndexFunc__sint_int.r4 : List Ent := [
  E0 0 (some 11) none (.i (.mv (.t 1))),
  E0 1 (some 12) none (.i (.mv (.t 0))),
  E0 2 (some 13) none (.i (.mv (.t 5))),
  E0 3 (some 14) none (.i (.iad 1 (.t 12) (.t 13))),
  E0 4 (some 15) none (.i (.load false false 1 (.t 14))),
  E0 5 (some 16) none (.ccl (.t 11) false [.t 15])]
def slices_IndexFunc__sint_int.r5 : List Ent := [
  E0 0 (some 17) none (.i (.mv (.t 5))),
  E0 1 (some 4) none (.i (.mv (.t 17)))]
def slices_IndexFunc__sint_int.r6 : List Ent := [
  E0 0 (some 18) none (.i (.bin .add (.t 8) (.k (I64 1)))),
  E0 1 (some 8) none (.i (.mv (.t 18)))]
def slices_IndexFunc__sint_int.b0 : KC := .seq (.reg 320 1 slices_IndexFunc__sint_int.r2) (.seq (.cond (.t 9) (.skip) (.exit 0)) (.seq (.block 1 (.seq (.reg 384 2 slices_IndexFunc__sint_int.r3) (.seq (.reg 512 6 slices_IndexFunc__sint_int.r4) (.cond (.t 16) (.seq (.reg 896 2 slices_IndexFunc__sint_int.r5) (.ret)) (.skip))))) (.reg 1024 2 slices_IndexFunc__sint_int.r6)))
def slices_IndexFunc__sint_int.r7 : List Ent := [
  E0 0 (some 4) none (.i (.mv (.k (I64 (-1)))))]
def slices_IndexFunc__sint_int.fi : FI := { res := [.t 4], code := .seq (.reg 64 1 slices_IndexFunc__sint_int.r0) (.seq (.seq (.reg 128 3 slices_IndexFunc__sint_int.r1) (.block 0 (.loop slices_IndexFunc__sint_int.b0))) (.seq (.reg 1152 1 slices_IndexFunc__sint_int.r7) (.ret))) }
attribute [go_sem] slices_IndexFunc__sint_int.r0 slices_IndexFunc__sint_int.r1 slices_IndexFunc__sint_int.r2 slices_IndexFunc__sint_int.r3 slices_IndexFunc__sint_int.r4 slices_IndexFunc__sint_int.r5 slices_IndexFunc__sint_int.r6 slices_IndexFunc__sint_int.r7
theorem slices_IndexFunc__sint_int.ok : chkF prog F_slices_IndexFunc__sint_int 2 slices_IndexFunc__sint_int.fi = true := by kernel_rfl

/-! slices_ContainsFunc__sint_int -/
def slices_ContainsFunc__sint_int.r0 : List Ent := [
  E0 0 (some 4) none (.i (.mv (.k (.dat none (.bool false)))))]
def slices_ContainsFunc__sint_int.r1 : List Ent := [
  E0 0 (some 5) none (.i (.mv (.t 0))),
  E0 1 (some 6) none (.i (.mv (.t 1))),
  E0 2 (some 7) none (.call F_slices_IndexFunc__sint_int false (roA [.t 5, .t 6])),
  E0 3 (some 8) none (.i (.bin .geq (.t 7) (.k (I64 0)))),
  E0 4 (some 4) none (.i (.mv (.t 8)))]
def slices_ContainsFunc__sint_int.fi : FI := { res := [.t 4], code := .seq (.reg 64 1 slices_ContainsFunc__sint_int.r0) (.seq (.reg 128 5 slices_ContainsFunc__sint_int.r1) (.ret)) }
attribute [go_sem] slices_ContainsFunc__sint_int.r0 slices_ContainsFunc__sint_int.r1
theorem slices_ContainsFunc__sint_int.ok : chkF prog F_slices_ContainsFunc__sint_int 2 slices_ContainsFunc__sint_int.fi = true := by kernel_rfl

/-! impl_areWords_c1 -/
def impl_areWords_c1.r0 : List Ent := [
  E0 0 (some 2) none (.i (.mv (.k (.dat none (.bool false)))))]
def impl_areWords_c1.r1 : List Ent := [
  E0 0 (some 3) none (.i (.mv (.t 0))),
  E0 1 (some 4) none (.call F_impl_isWord false (roA [.t 3])),
  E0 2 (some 5) none (.i (.un .not (.t 4))),
  E0 3 (some 2) none (.i (.mv (.t 5)))]
def impl_areWords_c1.fi : FI := { res := [.t 2], code := .seq (.reg 64 1 impl_areWords_c1.r0) (.seq (.reg 128 4 impl_areWords_c1.r1) (.ret)) }
attribute [go_sem] impl_areWords_c1.r0 impl_areWords_c1.r1
theorem impl_areWords_c1.ok : chkF prog F_impl_areWords_c1 1 impl_areWords_c1.fi = true := by kernel_rfl

/-! impl_areWords -/
def impl_areWords.r0 : List Ent := [
  E0 0 (some 2) none (.i (.mv (.k (.dat none (.bool false)))))]
def impl_areWords.r1 : List Ent := [
  E0 0 (some 3) none (.i (.mv (.t 0))),
  E0 1 (some 4) none (.call F_slices_ContainsFunc__sint_int false (roA [.t 3, .k (.clo F_impl_areWords_c1 [])])),
  E0 2 (some 5) none (.i (.un .not (.t 4))),
  E0 3 (some 2) none (.i (.mv (.t 5)))]
def impl_areWords.fi : FI := { res := [.t 2], code := .seq (.reg 64 1 impl_areWords.r0) (.seq (.reg 128 4 impl_areWords.r1) (.ret)) }
attribute [go_sem] impl_areWords.r0 impl_areWords.r1
theorem impl_areWords.ok : chkF prog F_impl_areWords 1 impl_areWords.fi = true := by kernel_rfl

/-! impl_GoodMachine -/
def impl_GoodMachine.r0 : List Ent := [
  E0 0 (some 1) none (.i (.box (.t 0))),
  E0 1 (some 2) none (.i (.mv (.k (.dat none (.bool false)))))]
def impl_GoodMachine.r1 : List Ent := [
  E0 0 (some 3) none (.i (.fad 0 (.t 1))),
  E0 1 (some 4) none (.i (.load false false 1 (.t 3))),
  E0 2 (some 5) none (.call F_impl_in false (roA [.t 4, .k (I64 0), .k (I64 19)])),
  E0 3 (some 6) none (.i (.mv (.t 5))),
  E0 4 (some 7) (some (6, true)) (.i (.fad 1 (.t 1))),
  E0 5 (some 8) (some (6, true)) (.i (.load false false 1 (.t 7))),
  E0 6 (some 9) (some (6, true)) (.i (.len (.t 8))),
  E0 7 (some 10) (some (6, true)) (.i (.bin .eql (.t 9) (.k (I64 6)))),
  E0 8 (some 11) none (.i (.pick (.t 6) (.t 10) (.k (.dat none (.bool false))))),
  E0 9 (some 12) none (.i (.mv (.t 11))),
  E0 10 (some 13) (some (12, true)) (.i (.fad 2 (.t 1))),
  E0 11 (some 14) (some (12, true)) (.i (.load false false 1 (.t 13))),
  E0 12 (some 15) (some (12, true)) (.i (.len (.t 14))),
  E0 13 (some 16) (some (12, true)) (.i (.bin .eql (.t 15) (.k (I64 16)))),
  E0 14 (some 17) none (.i (.pick (.t 12) (.t 16) (.k (.dat none (.bool false))))),
  E0 15 (some 18) none (.i (.mv (.t 17))),
  E0 16 (some 19) (some (18, true)) (.i (.fad 3 (.t 1))),
  E0 17 (some 20) (some (18, true)) (.i (.load false false 1 (.t 19))),
  E0 18 (some 21) (some (18, true)) (.i (.len (.t 20))),
  E0 19 (some 22) (some (18, true)) (.i (.bin .eql (.t 21) (.k (I64 16)))),
  E0 20 (some 23) none (.i (.pick (.t 18) (.t 22) (.k (.dat none (.bool false))))),
  E0 21 (some 24) none (.i (.mv (.t 23))),
  E0 22 (some 25) (some (24, true)) (.i (.fad 1 (.t 1))),
  E0 23 (some 26) (some (24, true)) (.i (.load false false 1 (.t 25))),
  E0 24 (some 27) (some (24, true)) (.call F_impl_areWords false (roA [.t 26])),
  E0 25 (some 28) none (.i (.pick (.t 24) (.t 27) (.k (.dat none (.bool false))))),
  E0 26 (some 29) none (.i (.mv (.t 28))),
  E0 27 (some 30) (some (29, true)) (.i (.fad 2 (.t 1))),
  E0 28 (some 31) (some (29, true)) (.i (.load false false 1 (.t 30))),
  E0 29 (some 32) (some (29, true)) (.call F_impl_areWords false (roA [.t 31])),
  E0 30 (some 33) none (.i (.pick (.t 29) (.t 32) (.k (.dat none (.bool false))))),
  E0 31 (some 2) none (.i (.mv (.t 33)))]
def impl_GoodMachine.fi : FI := { res := [.t 2], code := .seq (.reg 64 2 impl_GoodMachine.r0) (.seq (.reg 192 32 impl_GoodMachine.r1) (.ret)) }
attribute [go_sem] impl_GoodMachine.r0 impl_GoodMachine.r1
theorem impl_GoodMachine.ok : chkF prog F_impl_GoodMachine 1 impl_GoodMachine.fi = true := by kernel_rfl

/-! spec_l1Least -/
def spec_l1Least.r0 : List Ent := [
  E0 0 (some 4) none (.i (.mv (.k (I64 0))))]
def spec_l1Least.r1 : List Ent := [
  E0 0 (some 5) none (.i (.mv (.t 0))),
  E0 1 (some 6) none (.i (.mv (.t 1))),
  E0 2 (some 7) none (.i (.bin .lss (.t 5) (.t 6)))]
def spec_l1Least.r2 : List Ent := [
  E0 0 (some 8) none (.i (.mv (.t 0))),
  E0 1 (some 4) none (.i (.mv (.t 8)))]
def spec_l1Least.r3 : List Ent := [
  E0 0 (some 9) none (.i (.mv (.t 1))),
  E0 1 (some 4) none (.i (.mv (.t 9)))]
def spec_l1Least.fi : FI := { res := [.t 4], code := .seq (.reg 64 1 spec_l1Least.r0) (.seq (.seq (.reg 128 3 spec_l1Least.r1) (.cond (.t 7) (.seq (.reg 320 2 spec_l1Least.r2) (.ret)) (.skip))) (.seq (.reg 448 2 spec_l1Least.r3) (.ret))) }
attribute [go_sem] spec_l1Least.r0 spec_l1Least.r1 spec_l1Least.r2 spec_l1Least.r3
theorem spec_l1Least.ok : chkF prog F_spec_l1Least 2 spec_l1Least.fi = true := by kernel_rfl

/-! slices_Clone__sbool_bool -/
def slices_Clone__sbool_bool.r0 : List Ent := [
  E0 0 (some 2) none (.i (.mv (.k (.nil 1))))]
def slices_Clone__sbool_bool.r1 : List Ent := [
  E0 0 (some 3) none (.i (.mv (.t 0))),
  E0 1 (some 4) none (.i (.eqnil false (.t 3)))]
def slices_Clone__sbool_bool.r2 : List Ent := [
  E0 0 (some 2) none (.i (.mv (.k (.nil 1))))]
def slices_Clone__sbool_bool.r3 : List Ent := [
  E0 0 (some 5) none (.i (.bsl false 1 [])),
  E0 1 (some 6) none (.i (.mv (.t 0))),
  E0 2 (some 7) none (.i (.app 1 1 (.t 5) (.t 6))),
  E0 3 (some 2) none (.i (.mv (.t 7)))]
def slices_Clone__sbool_bool.fi : FI := { res := [.t 2], code := .seq (.reg 64 1 slices_Clone__sbool_bool.r0) (.seq (.seq (.reg 128 2 slices_Clone__sbool_bool.r1) (.condu (.t 4) (.seq (.reg 256 1 slices_Clone__sbool_bool.r2) (.ret)) (.skip))) (.seq (.reg 320 4 slices_Clone__sbool_bool.r3) (.ret))) }
attribute [go_sem] slices_Clone__sbool_bool.r0 slices_Clone__sbool_bool.r1 slices_Clone__sbool_bool.r2 slices_Clone__sbool_bool.r3
theorem slices_Clone__sbool_bool.ok : chkF prog F_slices_Clone__sbool_bool 1 slices_Clone__sbool_bool.fi = true := by kernel_rfl

/-! spec_l2Reg -/
def spec_l2Reg.r0 : List Ent := [
  E0 0 (some 2) none (.i (.mv (.k (.dat none (.bool false)))))]
def spec_l2Reg.r1 : List Ent := [
  E0 0 (some 3) none (.i (.mv (.t 0))),
  E0 1 (some 4) none (.call F_spec_l1In false (roA [.t 3, .k (I64 0), .k (I64 5)])),
  E0 2 (some 2) none (.i (.mv (.t 4)))]
def spec_l2Reg.fi : FI := { res := [.t 2], code := .seq (.reg 64 1 spec_l2Reg.r0) (.seq (.reg 128 3 spec_l2Reg.r1) (.ret)) }
attribute [go_sem] spec_l2Reg.r0 spec_l2Reg.r1
theorem spec_l2Reg.ok : chkF prog F_spec_l2Reg 1 spec_l2Reg.fi = true := by kernel_rfl

/-! spec_l2Zero -/
def spec_l2Zero.r0 : List Ent := [
  E0 0 (some 6) none (.i (.box (.t 0))),
  E0 1 (some 12) none (.i (.mv (.k (.dat none (.bool false)))))]
def spec_l2Zero.r1 : List Ent := [
  E0 0 (some 13) none (.i (.mv (.t 1))),
  E0 1 (some 14) none (.i (.mv (.t 13))),
  E0 2 (some 15) (some (14, false)) (.i (.fad 1 (.t 6))),
  E0 3 (some 16) (some (14, false)) (.i (.load false false 1 (.t 15))),
  E0 4 (some 17) (some (14, false)) (.i (.bin .eql (.t 16) (.k (I64 0)))),
  E0 5 (some 18) none (.i (.pick (.t 14) (.k (.dat none (.bool true))) (.t 17))),
  E0 6 (some 19) none (.i (.mv (.t 18))),
  E0 7 (some 20) (some (19, true)) (.i (.mv (.t 2))),
  E0 8 (some 21) (some (19, true)) (.i (.mv (.t 20))),
  E0 9 (some 22) (some (21, false)) (.i (.fad 2 (.t 6))),
  E0 10 (some 23) (some (21, false)) (.i (.load false false 1 (.t 22))),
  E0 11 (some 24) (some (21, false)) (.i (.bin .eql (.t 23) (.k (I64 0)))),
  E0 12 (some 25) (some (19, true)) (.i (.pick (.t 21) (.k (.dat none (.bool true))) (.t 24))),
  E0 13 (some 26) none (.i (.pick (.t 19) (.t 25) (.k (.dat none (.bool false))))),
  E0 14 (some 27) none (.i (.mv (.t 26))),
  E0 15 (some 28) (some (27, true)) (.i (.mv (.t 3))),
  E0 16 (some 29) (some (27, true)) (.i (.mv (.t 28))),
  E0 17 (some 30) (some (29, false)) (.i (.fad 3 (.t 6))),
  E0 18 (some 31) (some (29, false)) (.i (.load false false 1 (.t 30))),
  E0 19 (some 32) (some (29, false)) (.i (.bin .eql (.t 31) (.k (I64 0)))),
  E0 20 (some 33) (some (27, true)) (.i (.pick (.t 29) (.k (.dat none (.bool true))) (.t 32))),
  E0 21 (some 34) none (.i (.pick (.t 27) (.t 33) (.k (.dat none (.bool false))))),
  E0 22 (some 35) none (.i (.mv (.t 34))),
  E0 23 (some 36) (some (35, true)) (.i (.mv (.t 4))),
  E0 24 (some 37) (some (35, true)) (.i (.mv (.t 36))),
  E0 25 (some 38) (some (37, false)) (.i (.fad 4 (.t 6))),
  E0 26 (some 39) (some (37, false)) (.i (.load false false 1 (.t 38))),
  E0 27 (some 40) (some (37, false)) (.i (.bin .eql (.t 39) (.k (I64 0)))),
  E0 28 (some 41) (some (35, true)) (.i (.pick (.t 37) (.k (.dat none (.bool true))) (.t 40))),
  E0 29 (some 42) none (.i (.pick (.t 35) (.t 41) (.k (.dat none (.bool false))))),
  E0 30 (some 43) none (.i (.mv (.t 42))),
  E0 31 (some 44) (some (43, true)) (.i (.mv (.t 5))),
  E0 32 (some 45) (some (43, true)) (.i (.mv (.t 44))),
  E0 33 (some 46) (some (45, false)) (.i (.fad 5 (.t 6))),
  E0 34 (some 47) (some (45, false)) (.i (.load false false 1 (.t 46))),
  E0 35 (some 48) (some (45, false)) (.i (.bin .eql (.t 47) (.k (I64 0)))),
  E0 36 (some 49) (some (43, true)) (.i (.pick (.t 45) (.k (.dat none (.bool true))) (.t 48))),
  E0 37 (some 50) none (.i (.pick (.t 43) (.t 49) (.k (.dat none (.bool false))))),
  E0 38 (some 12) none (.i (.mv (.t 50)))]
def spec_l2Zero.fi : FI := { res := [.t 12], code := .seq (.reg 64 2 spec_l2Zero.r0) (.seq (.reg 192 39 spec_l2Zero.r1) (.ret)) }
attribute [go_sem] spec_l2Zero.r0 spec_l2Zero.r1
theorem spec_l2Zero.ok : chkF prog F_spec_l2Zero 6 spec_l2Zero.fi = true := by kernel_rfl

/-! spec_l2Step -/
def spec_l2Step.r0 : List Ent := [
  E0 0 (some 1) none (.i (.box (.t 0))),
  E0 1 (some 2) none (.i (.mv (.k (.dat none (.bool false)))))]
def spec_l2Step.r1 : List Ent := [
  E0 0 (some 5) none (.i (.fad 1 (.t 1))),
  E0 1 (some 6) none (.i (.load false false 1 (.t 5))),
  E0 2 (some 7) none (.call F_spec_l1In false (roA [.t 6, .k (I64 1), .k (I64 10)])),
  E0 3 (some 3) none (.i (.mv (.t 7)))]
def spec_l2Step.r2 : List Ent := [
  E0 0 (some 8) none (.i (.fad 5 (.t 1))),
  E0 1 (some 9) none (.i (.load false false 1 (.t 8))),
  E0 2 (some 10) none (.call F_spec_l1In false (roA [.t 9, .k (I64 1), .k (I64 19)])),
  E0 3 (some 4) none (.i (.mv (.t 10)))]
def spec_l2Step.r3 : List Ent := [
  E0 0 (some 11) none (.i (.fad 2 (.t 1))),
  E0 1 (some 12) none (.i (.load false false 1 (.t 11))),
  E0 2 (some 13) none (.call F_spec_l2Reg false (roA [.t 12])),
  E0 3 (some 14) none (.i (.un .not (.t 13))),
  E0 4 (some 15) none (.i (.mv (.t 14))),
  E0 5 (some 16) (some (15, false)) (.i (.fad 3 (.t 1))),
  E0 6 (some 17) (some (15, false)) (.i (.load false false 1 (.t 16))),
  E0 7 (some 18) (some (15, false)) (.call F_spec_l2Reg false (roA [.t 17])),
  E0 8 (some 19) (some (15, false)) (.i (.un .not (.t 18))),
  E0 9 (some 20) none (.i (.pick (.t 15) (.k (.dat none (.bool true))) (.t 19)))]
def spec_l2Step.r4 : List Ent := [
  E0 0 (some 2) none (.i (.mv (.k (.dat none (.bool false)))))]
def spec_l2Step.r5 : List Ent := [
  E0 0 (some 21) none (.i (.fad 0 (.t 1))),
  E0 1 (some 22) none (.i (.load false false 1 (.t 21)))]
def spec_l2Step.r6 : List Ent := [
  E0 0 (some 24) none (.i (.bin .eql (.t 22) (.k (I64 1)))),
  E0 1 (some 23) none (.i (.mv (.t 24)))]
def spec_l2Step.r7 : List Ent := [
  E0 0 (some 25) none (.i (.mv (.t 3))),
  E0 1 (some 26) none (.i (.mv (.t 25))),
  E0 2 (some 27) (some (26, true)) (.i (.load false true 6 (.t 1))),
  E0 3 (some 28) (some (26, true)) (.call F_spec_l2Zero false (roA [.t 27, .k (.dat none (.bool true)), .k (.dat none (.bool true)), .k (.dat none (.bool true)), .k (.dat none (.bool false)), .k (.dat none (.bool false))])),
  E0 4 (some 29) none (.i (.pick (.t 26) (.t 28) (.k (.dat none (.bool false))))),
  E0 5 (some 2) none (.i (.mv (.t 29)))]
def spec_l2Step.r8 : List Ent := [
  E0 0 (some 31) none (.i (.bin .eql (.t 22) (.k (I64 2)))),
  E0 1 (some 30) none (.i (.mv (.t 31)))]
def spec_l2Step.r9 : List Ent := [
  E0 0 (some 32) none (.i (.mv (.t 3))),
  E0 1 (some 33) none (.i (.mv (.t 32))),
  E0 2 (some 34) (some (33, true)) (.i (.fad 4 (.t 1))),
  E0 3 (some 35) (some (33, true)) (.i (.load false false 1 (.t 34))),
  E0 4 (some 36) (some (33, true)) (.call F_spec_l1In false (roA [.t 35, .k (I64 0), .k (I64 255)])),
  E0 5 (some 37) none (.i (.pick (.t 33) (.t 36) (.k (.dat none (.bool false))))),
  E0 6 (some 38) none (.i (.mv (.t 37))),
  E0 7 (some 39) (some (38, true)) (.i (.load false true 6 (.t 1))),
  E0 8 (some 40) (some (38, true)) (.call F_spec_l2Zero false (roA [.t 39, .k (.dat none (.bool true)), .k (.dat none (.bool true)), .k (.dat none (.bool false)), .k (.dat none (.bool true)), .k (.dat none (.bool false))])),
  E0 9 (some 41) none (.i (.pick (.t 38) (.t 40) (.k (.dat none (.bool false))))),
  E0 10 (some 2) none (.i (.mv (.t 41)))]
def spec_l2Step.r10 : List Ent := [
  E0 0 (some 43) none (.i (.bin .eql (.t 22) (.k (I64 3)))),
  E0 1 (some 42) none (.i (.mv (.t 43)))]
def spec_l2Step.r11 : List Ent := [
  E0 0 (some 44) none (.i (.fad 4 (.t 1))),
  E0 1 (some 45) none (.i (.load false false 1 (.t 44))),
  E0 2 (some 46) none (.call F_spec_l1In false (roA [.t 45, .k (I64 0), .k (I64 255)])),
  E0 3 (some 47) none (.i (.mv (.t 46))),
  E0 4 (some 48) (some (47, true)) (.i (.load false true 6 (.t 1))),
  E0 5 (some 49) (some (47, true)) (.call F_spec_l2Zero false (roA [.t 48, .k (.dat none (.bool false)), .k (.dat none (.bool true)), .k (.dat none (.bool false)), .k (.dat none (.bool true)), .k (.dat none (.bool false))])),
  E0 6 (some 50) none (.i (.pick (.t 47) (.t 49) (.k (.dat none (.bool false))))),
  E0 7 (some 2) none (.i (.mv (.t 50)))]
def spec_l2Step.r12 : List Ent := [
  E0 0 (some 52) none (.i (.bin .eql (.t 22) (.k (I64 4)))),
  E0 1 (some 51) none (.i (.mv (.t 52)))]
def spec_l2Step.r13 : List Ent := [
  E0 0 (some 53) none (.i (.fad 4 (.t 1))),
  E0 1 (some 54) none (.i (.load false false 1 (.t 53))),
  E0 2 (some 55) none (.call F_spec_l1In false (roA [.t 54, .k (I64 256), .k (I64 65535)])),
  E0 3 (some 56) none (.i (.mv (.t 55))),
  E0 4 (some 57) (some (56, true)) (.i (.load false true 6 (.t 1))),
  E0 5 (some 58) (some (56, true)) (.call F_spec_l2Zero false (roA [.t 57, .k (.dat none (.bool false)), .k (.dat none (.bool true)), .k (.dat none (.bool false)), .k (.dat none (.bool true)), .k (.dat none (.bool false))])),
  E0 6 (some 59) none (.i (.pick (.t 56) (.t 58) (.k (.dat none (.bool false))))),
  E0 7 (some 2) none (.i (.mv (.t 59)))]
def spec_l2Step.r14 : List Ent := [
  E0 0 (some 61) none (.i (.bin .eql (.t 22) (.k (I64 5)))),
  E0 1 (some 60) none (.i (.mv (.t 61)))]
def spec_l2Step.r15 : List Ent := [
  E0 0 (some 62) none (.i (.fad 4 (.t 1))),
  E0 1 (some 63) none (.i (.load false false 1 (.t 62))),
  E0 2 (some 64) none (.call F_spec_l1In false (roA [.t 63, .k (I64 0), .k (I64 7)])),
  E0 3 (some 65) none (.i (.mv (.t 64))),
  E0 4 (some 66) (some (65, true)) (.i (.load false true 6 (.t 1))),
  E0 5 (some 67) (some (65, true)) (.call F_spec_l2Zero false (roA [.t 66, .k (.dat none (.bool false)), .k (.dat none (.bool true)), .k (.dat none (.bool true)), .k (.dat none (.bool true)), .k (.dat none (.bool false))])),
  E0 6 (some 68) none (.i (.pick (.t 65) (.t 67) (.k (.dat none (.bool false))))),
  E0 7 (some 2) none (.i (.mv (.t 68)))]
def spec_l2Step.r16 : List Ent := [
  E0 0 (some 70) none (.i (.bin .eql (.t 22) (.k (I64 6)))),
  E0 1 (some 69) none (.i (.mv (.t 70)))]
def spec_l2Step.r17 : List Ent := [
  E0 0 (some 71) none (.i (.bin .eql (.t 22) (.k (I64 7)))),
  E0 1 (some 69) none (.i (.mv (.t 71)))]
def spec_l2Step.r18 : List Ent := [
  E0 0 (some 72) none (.i (.fad 4 (.t 1))),
  E0 1 (some 73) none (.i (.load false false 1 (.t 72))),
  E0 2 (some 74) none (.call F_spec_l1In false (roA [.t 73, .k (I64 0), .k (I64 255)])),
  E0 3 (some 75) none (.i (.mv (.t 74))),
  E0 4 (some 76) (some (75, true)) (.i (.load false true 6 (.t 1))),
  E0 5 (some 77) (some (75, true)) (.call F_spec_l2Zero false (roA [.t 76, .k (.dat none (.bool false)), .k (.dat none (.bool true)), .k (.dat none (.bool false)), .k (.dat none (.bool true)), .k (.dat none (.bool false))])),
  E0 6 (some 78) none (.i (.pick (.t 75) (.t 77) (.k (.dat none (.bool false))))),
  E0 7 (some 2) none (.i (.mv (.t 78)))]
def spec_l2Step.r19 : List Ent := [
  E0 0 (some 80) none (.i (.bin .eql (.t 22) (.k (I64 8)))),
  E0 1 (some 79) none (.i (.mv (.t 80)))]
def spec_l2Step.r20 : List Ent := [
  E0 0 (some 81) none (.i (.mv (.t 4))),
  E0 1 (some 82) none (.i (.mv (.t 81))),
  E0 2 (some 83) (some (82, true)) (.i (.load false true 6 (.t 1))),
  E0 3 (some 84) (some (82, true)) (.call F_spec_l2Zero false (roA [.t 83, .k (.dat none (.bool false)), .k (.dat none (.bool false)), .k (.dat none (.bool false)), .k (.dat none (.bool false)), .k (.dat none (.bool true))])),
  E0 4 (some 85) none (.i (.pick (.t 82) (.t 84) (.k (.dat none (.bool false))))),
  E0 5 (some 2) none (.i (.mv (.t 85)))]
def spec_l2Step.r21 : List Ent := [
  E0 0 (some 87) none (.i (.bin .eql (.t 22) (.k (I64 9)))),
  E0 1 (some 86) none (.i (.mv (.t 87)))]
def spec_l2Step.r22 : List Ent := [
  E0 0 (some 88) none (.i (.bin .eql (.t 22) (.k (I64 10)))),
  E0 1 (some 86) none (.i (.mv (.t 88)))]
def spec_l2Step.r23 : List Ent := [
  E0 0 (some 89) none (.i (.mv (.t 4))),
  E0 1 (some 90) none (.i (.mv (.t 89))),
  E0 2 (some 91) (some (90, true)) (.i (.load false true 6 (.t 1))),
  E0 3 (some 92) (some (90, true)) (.call F_spec_l2Zero false (roA [.t 91, .k (.dat none (.bool false)), .k (.dat none (.bool true)), .k (.dat none (.bool true)), .k (.dat none (.bool false)), .k (.dat none (.bool true))])),
  E0 4 (some 93) none (.i (.pick (.t 90) (.t 92) (.k (.dat none (.bool false))))),
  E0 5 (some 2) none (.i (.mv (.t 93)))]
def spec_l2Step.r24 : List Ent := [
  E0 0 (some 94) none (.i (.fad 0 (.t 1))),
  E0 1 (some 95) none (.i (.load false false 1 (.t 94))),
  E0 2 (some 96) none (.i (.bin .eql (.t 95) (.k (I64 11)))),
  E0 3 (some 97) none (.i (.mv (.t 96))),
  E0 4 (some 98) (some (97, true)) (.i (.load false true 6 (.t 1))),
  E0 5 (some 99) (some (97, true)) (.call F_spec_l2Zero false (roA [.t 98, .k (.dat none (.bool false)), .k (.dat none (.bool false)), .k (.dat none (.bool false)), .k (.dat none (.bool false)), .k (.dat none (.bool false))])),
  E0 6 (some 100) none (.i (.pick (.t 97) (.t 99) (.k (.dat none (.bool false))))),
  E0 7 (some 2) none (.i (.mv (.t 100)))]
def spec_l2Step.fi : FI := { res := [.t 2], code := .seq (.reg 64 2 spec_l2Step.r0) (.seq (.reg 192 4 spec_l2Step.r1) (.seq (.reg 448 4 spec_l2Step.r2) (.seq (.seq (.reg 704 10 spec_l2Step.r3) (.cond (.t 20) (.seq (.reg 1344 1 spec_l2Step.r4) (.ret)) (.skip))) (.seq (.seq (.reg 1408 2 spec_l2Step.r5) (.block 0 (.seq (.reg 1536 2 spec_l2Step.r6) (.cond (.t 23) (.seq (.reg 1664 6 spec_l2Step.r7) (.ret)) (.seq (.reg 2048 2 spec_l2Step.r8) (.cond (.t 30) (.seq (.reg 2176 11 spec_l2Step.r9) (.ret)) (.seq (.reg 2880 2 spec_l2Step.r10) (.cond (.t 42) (.seq (.reg 3008 8 spec_l2Step.r11) (.ret)) (.seq (.reg 3520 2 spec_l2Step.r12) (.cond (.t 51) (.seq (.reg 3648 8 spec_l2Step.r13) (.ret)) (.seq (.reg 4160 2 spec_l2Step.r14) (.cond (.t 60) (.seq (.reg 4288 8 spec_l2Step.r15) (.ret)) (.seq (.seq (.reg 4800 2 spec_l2Step.r16) (.cond (.t 69) (.skip) (.reg 4928 2 spec_l2Step.r17))) (.cond (.t 69) (.seq (.reg 5056 8 spec_l2Step.r18) (.ret)) (.seq (.reg 5568 2 spec_l2Step.r19) (.cond (.t 79) (.seq (.reg 5696 6 spec_l2Step.r20) (.ret)) (.seq (.seq (.reg 6080 2 spec_l2Step.r21) (.cond (.t 86) (.skip) (.reg 6208 2 spec_l2Step.r22))) (.cond (.t 86) (.seq (.reg 6336 6 spec_l2Step.r23) (.ret)) (.skip))))))))))))))))))) (.seq (.reg 6720 8 spec_l2Step.r24) (.ret)))))) }
attribute [go_sem] spec_l2Step.r0 spec_l2Step.r1 spec_l2Step.r2 spec_l2Step.r3 spec_l2Step.r4 spec_l2Step.r5 spec_l2Step.r6 spec_l2Step.r7 spec_l2Step.r8 spec_l2Step.r9 spec_l2Step.r10 spec_l2Step.r11 spec_l2Step.r12 spec_l2Step.r13 spec_l2Step.r14 spec_l2Step.r15 spec_l2Step.r16 spec_l2Step.r17 spec_l2Step.r18 spec_l2Step.r19 spec_l2Step.r20 spec_l2Step.r21 spec_l2Step.r22 spec_l2Step.r23 spec_l2Step.r24
theorem spec_l2Step.ok : chkF prog F_spec_l2Step 1 spec_l2Step.fi = true := by kernel_rfl

/-! impl_fields -/
def impl_fields.r0 : List Ent := [
  E0 0 (some 2) none (.i (.mv (.k (.dat none (.str ⟨#[]⟩)))))]
def impl_fields.r1 : List Ent := [
  E0 0 (some 3) none (.i (.mv (.t 0)))]
def impl_fields.r2 : List Ent := [
  E0 0 (some 5) none (.i (.bin .eql (.t 3) (.k (I64 1)))),
  E0 1 (some 4) none (.i (.mv (.t 5)))]
def impl_fields.r3 : List Ent := [
  E0 0 (some 2) none (.i (.mv (.k (.dat none (.str ⟨#[111, 100, 115]⟩)))))]
def impl_fields.r4 : List Ent := [
  E0 0 (some 7) none (.i (.bin .eql (.t 3) (.k (I64 2)))),
  E0 1 (some 6) none (.i (.mv (.t 7)))]
def impl_fields.r5 : List Ent := [
  E0 0 (some 2) none (.i (.mv (.k (.dat none (.str ⟨#[111, 100, 105]⟩)))))]
def impl_fields.r6 : List Ent := [
  E0 0 (some 9) none (.i (.bin .eql (.t 3) (.k (I64 3)))),
  E0 1 (some 8) none (.i (.mv (.t 9)))]
def impl_fields.r7 : List Ent := [
  E0 0 (some 10) none (.i (.bin .eql (.t 3) (.k (I64 4)))),
  E0 1 (some 8) none (.i (.mv (.t 10)))]
def impl_fields.r8 : List Ent := [
  E0 0 (some 11) none (.i (.bin .eql (.t 3) (.k (I64 6)))),
  E0 1 (some 8) none (.i (.mv (.t 11)))]
def impl_fields.r9 : List Ent := [
  E0 0 (some 12) none (.i (.bin .eql (.t 3) (.k (I64 7)))),
  E0 1 (some 8) none (.i (.mv (.t 12)))]
def impl_fields.r10 : List Ent := [
  E0 0 (some 2) none (.i (.mv (.k (.dat none (.str ⟨#[100, 105]⟩)))))]
def impl_fields.r11 : List Ent := [
  E0 0 (some 14) none (.i (.bin .eql (.t 3) (.k (I64 5)))),
  E0 1 (some 13) none (.i (.mv (.t 14)))]
def impl_fields.r12 : List Ent := [
  E0 0 (some 2) none (.i (.mv (.k (.dat none (.str ⟨#[100, 115, 105]⟩)))))]
def impl_fields.r13 : List Ent := [
  E0 0 (some 16) none (.i (.bin .eql (.t 3) (.k (I64 8)))),
  E0 1 (some 15) none (.i (.mv (.t 16)))]
def impl_fields.r14 : List Ent := [
  E0 0 (some 2) none (.i (.mv (.k (.dat none (.str ⟨#[116]⟩)))))]
def impl_fields.r15 : List Ent := [
  E0 0 (some 18) none (.i (.bin .eql (.t 3) (.k (I64 9)))),
  E0 1 (some 17) none (.i (.mv (.t 18)))]
def impl_fields.r16 : List Ent := [
  E0 0 (some 19) none (.i (.bin .eql (.t 3) (.k (I64 10)))),
  E0 1 (some 17) none (.i (.mv (.t 19)))]
def impl_fields.r17 : List Ent := [
  E0 0 (some 2) none (.i (.mv (.k (.dat none (.str ⟨#[100, 115, 116]⟩)))))]
def impl_fields.r18 : List Ent := [
  E0 0 (some 2) none (.i (.mv (.k (.dat none (.str ⟨#[]⟩)))))]
def impl_fields.fi : FI := { res := [.t 2], code := .seq (.reg 64 1 impl_fields.r0) (.seq (.seq (.reg 128 1 impl_fields.r1) (.block 0 (.seq (.reg 192 2 impl_fields.r2) (.cond (.t 4) (.seq (.reg 320 1 impl_fields.r3) (.ret)) (.seq (.reg 384 2 impl_fields.r4) (.cond (.t 6) (.seq (.reg 512 1 impl_fields.r5) (.ret)) (.seq (.seq (.reg 576 2 impl_fields.r6) (.cond (.t 8) (.skip) (.seq (.reg 704 2 impl_fields.r7) (.cond (.t 8) (.skip) (.seq (.reg 832 2 impl_fields.r8) (.cond (.t 8) (.skip) (.reg 960 2 impl_fields.r9))))))) (.cond (.t 8) (.seq (.reg 1088 1 impl_fields.r10) (.ret)) (.seq (.reg 1152 2 impl_fields.r11) (.cond (.t 13) (.seq (.reg 1280 1 impl_fields.r12) (.ret)) (.seq (.reg 1344 2 impl_fields.r13) (.cond (.t 15) (.seq (.reg 1472 1 impl_fields.r14) (.ret)) (.seq (.seq (.reg 1536 2 impl_fields.r15) (.cond (.t 17) (.skip) (.reg 1664 2 impl_fields.r16))) (.cond (.t 17) (.seq (.reg 1792 1 impl_fields.r17) (.ret)) (.skip))))))))))))))) (.seq (.reg 1856 1 impl_fields.r18) (.ret))) }
attribute [go_sem] impl_fields.r0 impl_fields.r1 impl_fields.r2 impl_fields.r3 impl_fields.r4 impl_fields.r5 impl_fields.r6 impl_fields.r7 impl_fields.r8 impl_fields.r9 impl_fields.r10 impl_fields.r11 impl_fields.r12 impl_fields.r13 impl_fields.r14 impl_fields.r15 impl_fields.r16 impl_fields.r17 impl_fields.r18
theorem impl_fields.ok : chkF prog F_impl_fields 1 impl_fields.fi = true := by kernel_rfl

/-! impl_Step_ranges -/
def impl_Step_ranges.r0 : List Ent := [
  E0 0 (some 2) none (.i (.box (.t 0))),
  E0 1 (some 4) none (.i (.mv (.k (I64 0)))),
  E0 2 (some 5) none (.i (.mv (.k (I64 0))))]
def impl_Step_ranges.r1 : List Ent := [
  E0 0 (some 7) none (.i (.mv (.t 1))),
  E0 1 (some 8) none (.i (.bin .eql (.t 7) (.k (.dat none (.int .u8 111))))),
  E0 2 (some 6) none (.i (.mv (.t 8)))]
def impl_Step_ranges.r2 : List Ent := [
  E0 0 (some 4) none (.i (.mv (.k (I64 1)))),
  E0 1 (some 5) none (.i (.mv (.k (I64 10))))]
def impl_Step_ranges.r3 : List Ent := [
  E0 0 (some 10) none (.i (.mv (.t 1))),
  E0 1 (some 11) none (.i (.bin .eql (.t 10) (.k (.dat none (.int .u8 100))))),
  E0 2 (some 12) none (.i (.mv (.t 11))),
  E0 3 (some 13) (some (12, false)) (.i (.mv (.t 1))),
  E0 4 (some 14) (some (12, false)) (.i (.bin .eql (.t 13) (.k (.dat none (.int .u8 115))))),
  E0 5 (some 15) none (.i (.pick (.t 12) (.k (.dat none (.bool true))) (.t 14))),
  E0 6 (some 9) none (.i (.mv (.t 15)))]
def impl_Step_ranges.r4 : List Ent := [
  E0 0 (some 4) none (.i (.mv (.k (I64 0)))),
  E0 1 (some 5) none (.i (.mv (.k (I64 5))))]
def impl_Step_ranges.r5 : List Ent := [
  E0 0 (some 17) none (.i (.mv (.t 1))),
  E0 1 (some 18) none (.i (.bin .eql (.t 17) (.k (.dat none (.int .u8 116))))),
  E0 2 (some 16) none (.i (.mv (.t 18)))]
def impl_Step_ranges.r6 : List Ent := [
  E0 0 (some 4) none (.i (.mv (.k (I64 1)))),
  E0 1 (some 5) none (.i (.mv (.k (I64 19))))]
def impl_Step_ranges.r7 : List Ent := [
  E0 0 (some 20) none (.i (.fad 0 (.t 2))),
  E0 1 (some 21) none (.i (.load false false 1 (.t 20))),
  E0 2 (some 22) none (.i (.bin .eql (.t 21) (.k (I64 4)))),
  E0 3 (some 19) none (.i (.mv (.t 22)))]
def impl_Step_ranges.r8 : List Ent := [
  E0 0 (some 4) none (.i (.mv (.k (I64 256)))),
  E0 1 (some 5) none (.i (.mv (.k (I64 65535))))]
def impl_Step_ranges.r9 : List Ent := [
  E0 0 (some 24) none (.i (.fad 0 (.t 2))),
  E0 1 (some 25) none (.i (.load false false 1 (.t 24))),
  E0 2 (some 26) none (.i (.bin .eql (.t 25) (.k (I64 5)))),
  E0 3 (some 23) none (.i (.mv (.t 26)))]
def impl_Step_ranges.r10 : List Ent := [
  E0 0 (some 4) none (.i (.mv (.k (I64 0)))),
  E0 1 (some 5) none (.i (.mv (.k (I64 7))))]
def impl_Step_ranges.r11 : List Ent := [
  E0 0 (some 4) none (.i (.mv (.k (I64 0)))),
  E0 1 (some 5) none (.i (.mv (.k (I64 255))))]
def impl_Step_ranges.fi : FI := { res := [.t 4, .t 5], code := .seq (.reg 64 3 impl_Step_ranges.r0) (.seq (.block 0 (.seq (.reg 256 3 impl_Step_ranges.r1) (.cond (.t 6) (.seq (.reg 448 2 impl_Step_ranges.r2) (.ret)) (.seq (.reg 576 7 impl_Step_ranges.r3) (.cond (.t 9) (.seq (.reg 1024 2 impl_Step_ranges.r4) (.ret)) (.seq (.reg 1152 3 impl_Step_ranges.r5) (.cond (.t 16) (.seq (.reg 1344 2 impl_Step_ranges.r6) (.ret)) (.seq (.reg 1472 4 impl_Step_ranges.r7) (.cond (.t 19) (.seq (.reg 1728 2 impl_Step_ranges.r8) (.ret)) (.seq (.reg 1856 4 impl_Step_ranges.r9) (.cond (.t 23) (.seq (.reg 2112 2 impl_Step_ranges.r10) (.ret)) (.skip)))))))))))) (.seq (.reg 2240 2 impl_Step_ranges.r11) (.ret))) }
attribute [go_sem] impl_Step_ranges.r0 impl_Step_ranges.r1 impl_Step_ranges.r2 impl_Step_ranges.r3 impl_Step_ranges.r4 impl_Step_ranges.r5 impl_Step_ranges.r6 impl_Step_ranges.r7 impl_Step_ranges.r8 impl_Step_ranges.r9 impl_Step_ranges.r10 impl_Step_ranges.r11
theorem impl_Step_ranges.ok : chkF prog F_impl_Step_ranges 2 impl_Step_ranges.fi = true := by kernel_rfl

/-! impl_Step_valid -/
def impl_Step_valid.r0 : List Ent := [
  E0 0 (some 1) none (.i (.box (.t 0))),
  E0 1 (some 2) none (.i (.mv (.k (.dat none (.bool false)))))]
def impl_Step_valid.r1 : List Ent := [
  E0 0 (some 8) none (.i (.load false true 6 (.t 1))),
  E0 1 (some 3) none (.i (.box (.k (.agg [.dat none (.int .i64 0), .dat none (.int .i64 0), .dat none (.int .i64 0), .dat none (.int .i64 0), .dat none (.int .i64 0), .dat none (.int .i64 0)])))),
  E0 2 none none (.i (.store 6 (.t 3) (.t 8)))]
def impl_Step_valid.r2 : List Ent := [
  E0 0 (some 9) none (.i (.fad 0 (.t 3))),
  E0 1 none none (.i (.store 1 (.t 9) (.k (I64 0))))]
def impl_Step_valid.r3 : List Ent := [
  E0 0 (some 10) none (.i (.fad 0 (.t 1))),
  E0 1 (some 11) none (.i (.load false false 1 (.t 10))),
  E0 2 (some 12) none (.call F_impl_fields false (roA [.t 11])),
  E0 3 (some 13) none (.i (.lens (.t 12))),
  E0 4 (some 14) none (.i (.mv (.k (I64 0))))]
def impl_Step_valid.r4 : List Ent := [
  E0 0 (some 15) none (.i (.bin .lss (.t 14) (.t 13)))]
def impl_Step_valid.r5 : List Ent := [
  E0 0 (some 16) none (.i (.mv (.t 14))),
  E0 1 (some 4) none (.i (.mv (.t 16)))]
def impl_Step_valid.r6 : List Ent := [
  E0 0 (some 17) none (.i (.fad 0 (.t 1))),
  E0 1 (some 18) none (.i (.load false false 1 (.t 17))),
  E0 2 (some 19) none (.call F_impl_fields false (roA [.t 18])),
  E0 3 (some 20) none (.i (.mv (.t 4))),
  E0 4 (some 21) none (.i (.ids (.t 19) (.t 20))),
  E0 5 (some 5) none (.i (.mv (.t 21)))]
def impl_Step_valid.r7 : List Ent := [
  E0 0 (some 23) none (.i (.load false true 6 (.t 1))),
  E0 1 (some 24) none (.i (.mv (.t 5))),
  E0 2 (some 25) none (.call F_impl_Step_ranges false (roA [.t 23, .t 24])),
  E0 3 (some 22) none (.i (.mv (.t 25))),
  E0 4 (some 26) none (.i (.ext 0 (.t 22))),
  E0 5 (some 27) none (.i (.ext 1 (.t 22))),
  E0 6 (some 6) none (.i (.mv (.t 26))),
  E0 7 (some 7) none (.i (.mv (.t 27)))]
def impl_Step_valid.r8 : List Ent := [
  E0 0 (some 28) none (.i (.mv (.t 5))),
  E0 1 (some 29) none (.fcl F_impl_pStep_field (.t 1) (.t 28)),
  E0 2 (some 30) none (.i (.nck (.t 29))),
  E0 3 (some 31) none (.i (.load false false 1 (.t 30))),
  E0 4 (some 32) none (.i (.mv (.t 6))),
  E0 5 (some 33) none (.i (.mv (.t 7))),
  E0 6 (some 34) none (.call F_impl_in false (roA [.t 31, .t 32, .t 33])),
  E0 7 (some 35) none (.i (.un .not (.t 34)))]
def impl_Step_valid.r9 : List Ent := [
  E0 0 (some 2) none (.i (.mv (.k (.dat none (.bool false)))))]
def impl_Step_valid.r10 : List Ent := [
  E0 0 (some 36) none (.i (.mv (.t 5))),
  E0 1 (some 37) none (.fcl F_impl_pStep_field (.t 3) (.t 36)),
  E0 2 (some 38) none (.i (.nck (.t 37))),
  E0 3 none none (.i (.store 1 (.t 38) (.k (I64 0))))]
def impl_Step_valid.r11 : List Ent := [
  E0 0 (some 39) none (.i (.bin .add (.t 14) (.k (I64 1)))),
  E0 1 (some 14) none (.i (.mv (.t 39)))]
def impl_Step_valid.b0 : KC := .seq (.reg 832 1 impl_Step_valid.r4) (.seq (.cond (.t 15) (.skip) (.exit 0)) (.seq (.block 1 (.seq (.reg 896 2 impl_Step_valid.r5) (.seq (.reg 1024 6 impl_Step_valid.r6) (.seq (.reg 1408 8 impl_Step_valid.r7) (.seq (.seq (.reg 1920 8 impl_Step_valid.r8) (.cond (.t 35) (.seq (.reg 2432 1 impl_Step_valid.r9) (.ret)) (.skip))) (.reg 2496 4 impl_Step_valid.r10)))))) (.reg 2752 2 impl_Step_valid.r11)))
def impl_Step_valid.r12 : List Ent := [
  E0 0 (some 40) none (.i (.fad 0 (.t 1))),
  E0 1 (some 41) none (.i (.load false false 1 (.t 40))),
  E0 2 (some 42) none (.call F_impl_in false (roA [.t 41, .k (I64 1), .k (I64 11)])),
  E0 3 (some 43) none (.i (.mv (.t 42))),
  E0 4 (some 44) (some (43, true)) (.i (.load false true 6 (.t 3))),
  E0 5 (some 45) (some (43, true)) (.i (.bld [.k (.dat none (.int .i64 0)), .k (.dat none (.int .i64 0)), .k (.dat none (.int .i64 0)), .k (.dat none (.int .i64 0)), .k (.dat none (.int .i64 0)), .k (.dat none (.int .i64 0))])),
  E0 6 (some 46) (some (43, true)) (.i (.eqag 6 false (.t 44) (.t 45))),
  E0 7 (some 47) none (.i (.pick (.t 43) (.t 46) (.k (.dat none (.bool false))))),
  E0 8 (some 2) none (.i (.mv (.t 47)))]
def impl_Step_valid.fi : FI := { res := [.t 2], code := .seq (.reg 64 2 impl_Step_valid.r0) (.seq (.reg 192 3 impl_Step_valid.r1) (.seq (.reg 384 2 impl_Step_valid.r2) (.seq (.seq (.reg 512 5 impl_Step_valid.r3) (.block 0 (.loop impl_Step_valid.b0))) (.seq (.reg 2880 9 impl_Step_valid.r12) (.ret))))) }
attribute [go_sem] impl_Step_valid.r0 impl_Step_valid.r1 impl_Step_valid.r2 impl_Step_valid.r3 impl_Step_valid.r4 impl_Step_valid.r5 impl_Step_valid.r6 impl_Step_valid.r7 impl_Step_valid.r8 impl_Step_valid.r9 impl_Step_valid.r10 impl_Step_valid.r11 impl_Step_valid.r12
theorem impl_Step_valid.ok : chkF prog F_impl_Step_valid 1 impl_Step_valid.fi = true := by kernel_rfl

/-! spec_l1Wrap -/
def spec_l1Wrap.r0 : List Ent := [
  E0 0 (some 2) none (.i (.mv (.k (I64 0))))]
def spec_l1Wrap.r1 : List Ent := [
  E0 0 (some 3) none (.i (.mv (.t 0))),
  E0 1 (some 4) none (.i (.bin .rem (.t 3) (.k (I64 65536)))),
  E0 2 (some 5) none (.i (.bin .add (.t 4) (.k (I64 65536)))),
  E0 3 (some 6) none (.i (.bin .rem (.t 5) (.k (I64 65536)))),
  E0 4 (some 2) none (.i (.mv (.t 6)))]
def spec_l1Wrap.fi : FI := { res := [.t 2], code := .seq (.reg 64 1 spec_l1Wrap.r0) (.seq (.reg 128 5 spec_l1Wrap.r1) (.ret)) }
attribute [go_sem] spec_l1Wrap.r0 spec_l1Wrap.r1
theorem spec_l1Wrap.ok : chkF prog F_spec_l1Wrap 1 spec_l1Wrap.fi = true := by kernel_rfl

/-! spec_l1Do -/
def spec_l1Do.r0 : List Ent := [
  E0 0 (some 6) none (.i (.mv (.k (I64 0))))]
def spec_l1Do.r1 : List Ent := [
  E0 0 (some 7) none (.i (.mv (.t 0)))]
def spec_l1Do.r2 : List Ent := [
  E0 0 (some 9) none (.i (.bin .eql (.t 7) (.k (I64 1)))),
  E0 1 (some 8) none (.i (.mv (.t 9)))]
def spec_l1Do.r3 : List Ent := [
  E0 0 (some 10) none (.i (.mv (.t 1))),
  E0 1 (some 11) none (.i (.mv (.t 2))),
  E0 2 (some 12) none (.i (.bin .add (.t 10) (.t 11))),
  E0 3 (some 13) none (.call F_spec_l1Wrap false (roA [.t 12])),
  E0 4 (some 6) none (.i (.mv (.t 13)))]
def spec_l1Do.r4 : List Ent := [
  E0 0 (some 15) none (.i (.bin .eql (.t 7) (.k (I64 2)))),
  E0 1 (some 14) none (.i (.mv (.t 15)))]
def spec_l1Do.r5 : List Ent := [
  E0 0 (some 16) none (.i (.mv (.t 1))),
  E0 1 (some 17) none (.i (.mv (.t 2))),
  E0 2 (some 18) none (.i (.bin .sub (.t 16) (.t 17))),
  E0 3 (some 19) none (.call F_spec_l1Wrap false (roA [.t 18])),
  E0 4 (some 6) none (.i (.mv (.t 19)))]
def spec_l1Do.r6 : List Ent := [
  E0 0 (some 21) none (.i (.bin .eql (.t 7) (.k (I64 3)))),
  E0 1 (some 20) none (.i (.mv (.t 21)))]
def spec_l1Do.r7 : List Ent := [
  E0 0 (some 22) none (.i (.mv (.t 1))),
  E0 1 (some 23) none (.i (.mv (.t 2))),
  E0 2 (some 24) none (.i (.bin .mul (.t 22) (.t 23))),
  E0 3 (some 25) none (.call F_spec_l1Wrap false (roA [.t 24])),
  E0 4 (some 6) none (.i (.mv (.t 25)))]
def spec_l1Do.r8 : List Ent := [
  E0 0 (some 27) none (.i (.bin .eql (.t 7) (.k (I64 4)))),
  E0 1 (some 26) none (.i (.mv (.t 27)))]
def spec_l1Do.r9 : List Ent := [
  E0 0 (some 28) none (.i (.mv (.t 2))),
  E0 1 (some 29) none (.i (.bin .eql (.t 28) (.k (I64 0))))]
def spec_l1Do.r10 : List Ent := [
  E0 0 (some 6) none (.i (.mv (.k (I64 0))))]
def spec_l1Do.r11 : List Ent := [
  E0 0 (some 30) none (.i (.mv (.t 1))),
  E0 1 (some 31) none (.i (.mv (.t 2))),
  E0 2 (some 32) none (.i (.bin .quo (.t 30) (.t 31))),
  E0 3 (some 6) none (.i (.mv (.t 32)))]
def spec_l1Do.r12 : List Ent := [
  E0 0 (some 34) none (.i (.bin .eql (.t 7) (.k (I64 5)))),
  E0 1 (some 33) none (.i (.mv (.t 34)))]
def spec_l1Do.r13 : List Ent := [
  E0 0 (some 35) none (.i (.mv (.t 2))),
  E0 1 (some 36) none (.i (.bin .eql (.t 35) (.k (I64 0))))]
def spec_l1Do.r14 : List Ent := [
  E0 0 (some 37) none (.i (.mv (.t 1))),
  E0 1 (some 6) none (.i (.mv (.t 37)))]
def spec_l1Do.r15 : List Ent := [
  E0 0 (some 38) none (.i (.mv (.t 1))),
  E0 1 (some 39) none (.i (.mv (.t 2))),
  E0 2 (some 40) none (.i (.bin .rem (.t 38) (.t 39))),
  E0 3 (some 6) none (.i (.mv (.t 40)))]
def spec_l1Do.r16 : List Ent := [
  E0 0 (some 42) none (.i (.bin .eql (.t 7) (.k (I64 6)))),
  E0 1 (some 41) none (.i (.mv (.t 42)))]
def spec_l1Do.r17 : List Ent := [
  E0 0 (some 43) none (.i (.mv (.t 1))),
  E0 1 (some 44) none (.i (.mv (.t 2))),
  E0 2 (some 45) none (.i (.bin .and (.t 43) (.t 44))),
  E0 3 (some 6) none (.i (.mv (.t 45)))]
def spec_l1Do.r18 : List Ent := [
  E0 0 (some 47) none (.i (.bin .eql (.t 7) (.k (I64 7)))),
  E0 1 (some 46) none (.i (.mv (.t 47)))]
def spec_l1Do.r19 : List Ent := [
  E0 0 (some 48) none (.i (.mv (.t 1))),
  E0 1 (some 49) none (.i (.mv (.t 2))),
  E0 2 (some 50) none (.i (.bin .or (.t 48) (.t 49))),
  E0 3 (some 6) none (.i (.mv (.t 50)))]
def spec_l1Do.r20 : List Ent := [
  E0 0 (some 52) none (.i (.bin .eql (.t 7) (.k (I64 8)))),
  E0 1 (some 51) none (.i (.mv (.t 52)))]
def spec_l1Do.r21 : List Ent := [
  E0 0 (some 53) none (.i (.mv (.t 1))),
  E0 1 (some 54) none (.i (.mv (.t 2))),
  E0 2 (some 55) none (.i (.bin .xor (.t 53) (.t 54))),
  E0 3 (some 6) none (.i (.mv (.t 55)))]
def spec_l1Do.r22 : List Ent := [
  E0 0 (some 57) none (.i (.bin .eql (.t 7) (.k (I64 9)))),
  E0 1 (some 56) none (.i (.mv (.t 57)))]
def spec_l1Do.r23 : List Ent := [
  E0 0 (some 58) none (.i (.mv (.t 1))),
  E0 1 (some 59) none (.i (.mv (.t 2))),
  E0 2 (some 60) none (.i (.bin .rem (.t 59) (.k (I64 16)))),
  E0 3 (some 61) none (.i (.cnv .u64 (.t 60))),
  E0 4 (some 62) none (.i (.bin .shl (.t 58) (.t 61))),
  E0 5 (some 63) none (.call F_spec_l1Wrap false (roA [.t 62])),
  E0 6 (some 6) none (.i (.mv (.t 63)))]
def spec_l1Do.r24 : List Ent := [
  E0 0 (some 64) none (.i (.mv (.t 1))),
  E0 1 (some 65) none (.i (.mv (.t 2))),
  E0 2 (some 66) none (.i (.bin .rem (.t 65) (.k (I64 16)))),
  E0 3 (some 67) none (.i (.cnv .u64 (.t 66))),
  E0 4 (some 68) none (.i (.bin .shr (.t 64) (.t 67))),
  E0 5 (some 6) none (.i (.mv (.t 68)))]
def spec_l1Do.fi : FI := { res := [.t 6], code := .seq (.reg 64 1 spec_l1Do.r0) (.seq (.seq (.reg 128 1 spec_l1Do.r1) (.block 0 (.seq (.reg 192 2 spec_l1Do.r2) (.cond (.t 8) (.seq (.reg 320 5 spec_l1Do.r3) (.ret)) (.seq (.reg 640 2 spec_l1Do.r4) (.cond (.t 14) (.seq (.reg 768 5 spec_l1Do.r5) (.ret)) (.seq (.reg 1088 2 spec_l1Do.r6) (.cond (.t 20) (.seq (.reg 1216 5 spec_l1Do.r7) (.ret)) (.seq (.reg 1536 2 spec_l1Do.r8) (.cond (.t 26) (.seq (.seq (.reg 1664 2 spec_l1Do.r9) (.cond (.t 29) (.seq (.reg 1792 1 spec_l1Do.r10) (.ret)) (.skip))) (.seq (.reg 1856 4 spec_l1Do.r11) (.ret))) (.seq (.reg 2112 2 spec_l1Do.r12) (.cond (.t 33) (.seq (.seq (.reg 2240 2 spec_l1Do.r13) (.cond (.t 36) (.seq (.reg 2368 2 spec_l1Do.r14) (.ret)) (.skip))) (.seq (.reg 2496 4 spec_l1Do.r15) (.ret))) (.seq (.reg 2752 2 spec_l1Do.r16) (.cond (.t 41) (.seq (.reg 2880 4 spec_l1Do.r17) (.ret)) (.seq (.reg 3136 2 spec_l1Do.r18) (.cond (.t 46) (.seq (.reg 3264 4 spec_l1Do.r19) (.ret)) (.seq (.reg 3520 2 spec_l1Do.r20) (.cond (.t 51) (.seq (.reg 3648 4 spec_l1Do.r21) (.ret)) (.seq (.reg 3904 2 spec_l1Do.r22) (.cond (.t 56) (.seq (.reg 4032 7 spec_l1Do.r23) (.ret)) (.skip))))))))))))))))))))) (.seq (.reg 4480 6 spec_l1Do.r24) (.ret))) }
attribute [go_sem] spec_l1Do.r0 spec_l1Do.r1 spec_l1Do.r2 spec_l1Do.r3 spec_l1Do.r4 spec_l1Do.r5 spec_l1Do.r6 spec_l1Do.r7 spec_l1Do.r8 spec_l1Do.r9 spec_l1Do.r10 spec_l1Do.r11 spec_l1Do.r12 spec_l1Do.r13 spec_l1Do.r14 spec_l1Do.r15 spec_l1Do.r16 spec_l1Do.r17 spec_l1Do.r18 spec_l1Do.r19 spec_l1Do.r20 spec_l1Do.r21 spec_l1Do.r22 spec_l1Do.r23 spec_l1Do.r24
theorem spec_l1Do.ok : chkF prog F_spec_l1Do 3 spec_l1Do.fi = true := by kernel_rfl

/-! impl_WordOf -/
def impl_WordOf.r0 : List Ent := [
  E0 0 (some 2) none (.i (.mv (.k (I64 0))))]
def impl_WordOf.r1 : List Ent := [
  E0 0 (some 3) none (.i (.mv (.t 0))),
  E0 1 (some 4) none (.i (.bin .and (.t 3) (.k (I64 65535)))),
  E0 2 (some 2) none (.i (.mv (.t 4)))]
def impl_WordOf.fi : FI := { res := [.t 2], code := .seq (.reg 64 1 impl_WordOf.r0) (.seq (.reg 128 3 impl_WordOf.r1) (.ret)) }
attribute [go_sem] impl_WordOf.r0 impl_WordOf.r1
theorem impl_WordOf.ok : chkF prog F_impl_WordOf 1 impl_WordOf.fi = true := by kernel_rfl

/-! impl_do -/
def impl_do.r0 : List Ent := [
  E0 0 (some 6) none (.i (.mv (.k (I64 0))))]
def impl_do.r1 : List Ent := [
  E0 0 (some 7) none (.i (.mv (.t 0)))]
def impl_do.r2 : List Ent := [
  E0 0 (some 9) none (.i (.bin .eql (.t 7) (.k (I64 1)))),
  E0 1 (some 8) none (.i (.mv (.t 9)))]
def impl_do.r3 : List Ent := [
  E0 0 (some 10) none (.i (.mv (.t 1))),
  E0 1 (some 11) none (.i (.mv (.t 2))),
  E0 2 (some 12) none (.i (.bin .add (.t 10) (.t 11))),
  E0 3 (some 13) none (.call F_impl_WordOf false (roA [.t 12])),
  E0 4 (some 6) none (.i (.mv (.t 13)))]
def impl_do.r4 : List Ent := [
  E0 0 (some 15) none (.i (.bin .eql (.t 7) (.k (I64 2)))),
  E0 1 (some 14) none (.i (.mv (.t 15)))]
def impl_do.r5 : List Ent := [
  E0 0 (some 16) none (.i (.mv (.t 1))),
  E0 1 (some 17) none (.i (.mv (.t 2))),
  E0 2 (some 18) none (.i (.bin .sub (.t 16) (.t 17))),
  E0 3 (some 19) none (.call F_impl_WordOf false (roA [.t 18])),
  E0 4 (some 6) none (.i (.mv (.t 19)))]
def impl_do.r6 : List Ent := [
  E0 0 (some 21) none (.i (.bin .eql (.t 7) (.k (I64 3)))),
  E0 1 (some 20) none (.i (.mv (.t 21)))]
def impl_do.r7 : List Ent := [
  E0 0 (some 22) none (.i (.mv (.t 1))),
  E0 1 (some 23) none (.i (.mv (.t 2))),
  E0 2 (some 24) none (.i (.bin .mul (.t 22) (.t 23))),
  E0 3 (some 25) none (.call F_impl_WordOf false (roA [.t 24])),
  E0 4 (some 6) none (.i (.mv (.t 25)))]
def impl_do.r8 : List Ent := [
  E0 0 (some 27) none (.i (.bin .eql (.t 7) (.k (I64 4)))),
  E0 1 (some 26) none (.i (.mv (.t 27)))]
def impl_do.r9 : List Ent := [
  E0 0 (some 28) none (.i (.mv (.t 2))),
  E0 1 (some 29) none (.i (.bin .eql (.t 28) (.k (I64 0))))]
def impl_do.r10 : List Ent := [
  E0 0 (some 6) none (.i (.mv (.k (I64 0))))]
def impl_do.r11 : List Ent := [
  E0 0 (some 30) none (.i (.mv (.t 1))),
  E0 1 (some 31) none (.i (.mv (.t 2))),
  E0 2 (some 32) none (.i (.bin .quo (.t 30) (.t 31))),
  E0 3 (some 6) none (.i (.mv (.t 32)))]
def impl_do.r12 : List Ent := [
  E0 0 (some 34) none (.i (.bin .eql (.t 7) (.k (I64 5)))),
  E0 1 (some 33) none (.i (.mv (.t 34)))]
def impl_do.r13 : List Ent := [
  E0 0 (some 35) none (.i (.mv (.t 2))),
  E0 1 (some 36) none (.i (.bin .eql (.t 35) (.k (I64 0))))]
def impl_do.r14 : List Ent := [
  E0 0 (some 37) none (.i (.mv (.t 1))),
  E0 1 (some 6) none (.i (.mv (.t 37)))]
def impl_do.r15 : List Ent := [
  E0 0 (some 38) none (.i (.mv (.t 1))),
  E0 1 (some 39) none (.i (.mv (.t 2))),
  E0 2 (some 40) none (.i (.bin .rem (.t 38) (.t 39))),
  E0 3 (some 6) none (.i (.mv (.t 40)))]
def impl_do.r16 : List Ent := [
  E0 0 (some 42) none (.i (.bin .eql (.t 7) (.k (I64 6)))),
  E0 1 (some 41) none (.i (.mv (.t 42)))]
def impl_do.r17 : List Ent := [
  E0 0 (some 43) none (.i (.mv (.t 1))),
  E0 1 (some 44) none (.i (.mv (.t 2))),
  E0 2 (some 45) none (.i (.bin .and (.t 43) (.t 44))),
  E0 3 (some 6) none (.i (.mv (.t 45)))]
def impl_do.r18 : List Ent := [
  E0 0 (some 47) none (.i (.bin .eql (.t 7) (.k (I64 7)))),
  E0 1 (some 46) none (.i (.mv (.t 47)))]
def impl_do.r19 : List Ent := [
  E0 0 (some 48) none (.i (.mv (.t 1))),
  E0 1 (some 49) none (.i (.mv (.t 2))),
  E0 2 (some 50) none (.i (.bin .or (.t 48) (.t 49))),
  E0 3 (some 6) none (.i (.mv (.t 50)))]
def impl_do.r20 : List Ent := [
  E0 0 (some 52) none (.i (.bin .eql (.t 7) (.k (I64 8)))),
  E0 1 (some 51) none (.i (.mv (.t 52)))]
def impl_do.r21 : List Ent := [
  E0 0 (some 53) none (.i (.mv (.t 1))),
  E0 1 (some 54) none (.i (.mv (.t 2))),
  E0 2 (some 55) none (.i (.bin .xor (.t 53) (.t 54))),
  E0 3 (some 6) none (.i (.mv (.t 55)))]
def impl_do.r22 : List Ent := [
  E0 0 (some 57) none (.i (.bin .eql (.t 7) (.k (I64 9)))),
  E0 1 (some 56) none (.i (.mv (.t 57)))]
def impl_do.r23 : List Ent := [
  E0 0 (some 58) none (.i (.mv (.t 1))),
  E0 1 (some 59) none (.i (.mv (.t 2))),
  E0 2 (some 60) none (.i (.bin .rem (.t 59) (.k (I64 16)))),
  E0 3 (some 61) none (.i (.bin .shl (.t 58) (.t 60))),
  E0 4 (some 62) none (.call F_impl_WordOf false (roA [.t 61])),
  E0 5 (some 6) none (.i (.mv (.t 62)))]
def impl_do.r24 : List Ent := [
  E0 0 (some 63) none (.i (.mv (.t 1))),
  E0 1 (some 64) none (.i (.mv (.t 2))),
  E0 2 (some 65) none (.i (.bin .rem (.t 64) (.k (I64 16)))),
  E0 3 (some 66) none (.i (.bin .shr (.t 63) (.t 65))),
  E0 4 (some 6) none (.i (.mv (.t 66)))]
def impl_do.fi : FI := { res := [.t 6], code := .seq (.reg 64 1 impl_do.r0) (.seq (.seq (.reg 128 1 impl_do.r1) (.block 0 (.seq (.reg 192 2 impl_do.r2) (.cond (.t 8) (.seq (.reg 320 5 impl_do.r3) (.ret)) (.seq (.reg 640 2 impl_do.r4) (.cond (.t 14) (.seq (.reg 768 5 impl_do.r5) (.ret)) (.seq (.reg 1088 2 impl_do.r6) (.cond (.t 20) (.seq (.reg 1216 5 impl_do.r7) (.ret)) (.seq (.reg 1536 2 impl_do.r8) (.cond (.t 26) (.seq (.seq (.reg 1664 2 impl_do.r9) (.cond (.t 29) (.seq (.reg 1792 1 impl_do.r10) (.ret)) (.skip))) (.seq (.reg 1856 4 impl_do.r11) (.ret))) (.seq (.reg 2112 2 impl_do.r12) (.cond (.t 33) (.seq (.seq (.reg 2240 2 impl_do.r13) (.cond (.t 36) (.seq (.reg 2368 2 impl_do.r14) (.ret)) (.skip))) (.seq (.reg 2496 4 impl_do.r15) (.ret))) (.seq (.reg 2752 2 impl_do.r16) (.cond (.t 41) (.seq (.reg 2880 4 impl_do.r17) (.ret)) (.seq (.reg 3136 2 impl_do.r18) (.cond (.t 46) (.seq (.reg 3264 4 impl_do.r19) (.ret)) (.seq (.reg 3520 2 impl_do.r20) (.cond (.t 51) (.seq (.reg 3648 4 impl_do.r21) (.ret)) (.seq (.reg 3904 2 impl_do.r22) (.cond (.t 56) (.seq (.reg 4032 6 impl_do.r23) (.ret)) (.skip))))))))))))))))))))) (.seq (.reg 4416 5 impl_do.r24) (.ret))) }
attribute [go_sem] impl_do.r0 impl_do.r1 impl_do.r2 impl_do.r3 impl_do.r4 impl_do.r5 impl_do.r6 impl_do.r7 impl_do.r8 impl_do.r9 impl_do.r10 impl_do.r11 impl_do.r12 impl_do.r13 impl_do.r14 impl_do.r15 impl_do.r16 impl_do.r17 impl_do.r18 impl_do.r19 impl_do.r20 impl_do.r21 impl_do.r22 impl_do.r23 impl_do.r24
theorem impl_do.ok : chkF prog F_impl_do 3 impl_do.fi = true := by kernel_rfl

/-! spec_pl1Cur_next -/
def spec_pl1Cur_next.r0 : List Ent := [
  E0 0 (some 2) none (.i (.mv (.k (I64 0))))]
def spec_pl1Cur_next.r1 : List Ent := [
  E0 0 (some 3) none (.i (.mv (.k (I64 0))))]
def spec_pl1Cur_next.r2 : List Ent := [
  E0 0 (some 4) none (.i (.mv (.t 0))),
  E0 1 (some 5) none (.i (.nck (.t 4))),
  ER 2 (some 6) none (.fad 1 (.t 5)),
  ER 3 (some 7) none (.load false false 1 (.t 6)),
  E0 4 (some 8) none (.i (.mv (.t 0))),
  E0 5 (some 9) none (.i (.nck (.t 8))),
  ER 6 (some 10) none (.fad 0 (.t 9)),
  ER 7 (some 11) none (.load false false 1 (.t 10)),
  ER 8 (some 12) none (.len (.t 11)),
  E0 9 (some 13) none (.i (.bin .lss (.t 7) (.t 12)))]
def spec_pl1Cur_next.r3 : List Ent := [
  E0 0 (some 14) none (.i (.mv (.t 0))),
  E0 1 (some 15) none (.i (.nck (.t 14))),
  ER 2 (some 16) none (.fad 0 (.t 15)),
  ER 3 (some 17) none (.load false false 1 (.t 16)),
  E0 4 (some 18) none (.i (.mv (.t 0))),
  E0 5 (some 19) none (.i (.nck (.t 18))),
  ER 6 (some 20) none (.fad 1 (.t 19)),
  ER 7 (some 21) none (.load false false 1 (.t 20)),
  E0 8 (some 22) none (.i (.iad 1 (.t 17) (.t 21))),
  E0 9 (some 23) none (.i (.load false false 1 (.t 22))),
  E0 10 (some 24) none (.i (.cnv .i64 (.t 23))),
  E0 11 (some 3) none (.i (.mv (.t 24)))]
def spec_pl1Cur_next.r4 : List Ent := [
  E0 0 (some 25) none (.i (.mv (.t 0))),
  E0 1 (some 26) none (.i (.nck (.t 25))),
  E0 2 (some 27) none (.i (.fad 1 (.t 26))),
  E0 3 (some 28) none (.i (.load false false 1 (.t 27))),
  E0 4 (some 29) none (.i (.bin .add (.t 28) (.k (I64 1)))),
  E0 5 (some 30) none (.i (.nck (.t 25))),
  E0 6 (some 31) none (.i (.fad 1 (.t 30))),
  E0 7 none none (.i (.store 1 (.t 31) (.t 29)))]
def spec_pl1Cur_next.r5 : List Ent := [
  E0 0 (some 32) none (.i (.mv (.t 0))),
  E0 1 (some 33) none (.i (.mv (.t 0))),
  E0 2 (some 34) none (.i (.nck (.t 33))),
  E0 3 (some 35) none (.i (.fad 2 (.t 34))),
  E0 4 (some 36) none (.i (.load false false 1 (.t 35))),
  E0 5 (some 37) none (.i (.bin .mul (.t 36) (.k (.dat none (.int .u64 6364136223846793005))))),
  E0 6 (some 38) none (.i (.mv (.t 3))),
  E0 7 (some 39) none (.i (.cnv .u64 (.t 38))),
  E0 8 (some 40) none (.i (.bin .add (.t 37) (.t 39))),
  E0 9 (some 41) none (.i (.bin .add (.t 40) (.k (.dat none (.int .u64 1442695040888963407))))),
  E0 10 (some 42) none (.i (.nck (.t 32))),
  E0 11 (some 43) none (.i (.fad 2 (.t 42))),
  E0 12 none none (.i (.store 1 (.t 43) (.t 41)))]
def spec_pl1Cur_next.r6 : List Ent := [
  E0 0 (some 44) none (.i (.mv (.t 0))),
  E0 1 (some 45) none (.i (.nck (.t 44))),
  ER 2 (some 46) none (.fad 1 (.t 45)),
  ER 3 (some 47) none (.load false false 1 (.t 46)),
  E0 4 (some 48) none (.i (.mv (.t 0))),
  E0 5 (some 49) none (.i (.nck (.t 48))),
  ER 6 (some 50) none (.fad 0 (.t 49)),
  ER 7 (some 51) none (.load false false 1 (.t 50)),
  ER 8 (some 52) none (.len (.t 51)),
  E0 9 (some 53) none (.i (.bin .leq (.t 47) (.t 52)))]
def spec_pl1Cur_next.r7 : List Ent := [
  E0 0 (some 54) none (.i (.mv (.t 3))),
  E0 1 (some 2) none (.i (.mv (.t 54)))]
def spec_pl1Cur_next.r8 : List Ent := [
  E0 0 (some 55) none (.i (.mv (.t 0))),
  E0 1 (some 56) none (.i (.nck (.t 55))),
  E0 2 (some 57) none (.i (.fad 2 (.t 56))),
  E0 3 (some 58) none (.i (.load false false 1 (.t 57))),
  E0 4 (some 59) none (.i (.bin .shr (.t 58) (.k (.dat none (.int .u64 40))))),
  E0 5 (some 60) none (.i (.bin .and (.t 59) (.k (.dat none (.int .u64 255))))),
  E0 6 (some 61) none (.i (.cnv .i64 (.t 60))),
  E0 7 (some 2) none (.i (.mv (.t 61)))]
def spec_pl1Cur_next.fi : FI := { res := [.t 2], code := .seq (.reg 64 1 spec_pl1Cur_next.r0) (.seq (.reg 128 1 spec_pl1Cur_next.r1) (.seq (.seq (.reg 192 10 spec_pl1Cur_next.r2) (.cond (.t 13) (.reg 832 12 spec_pl1Cur_next.r3) (.skip))) (.seq (.reg 1600 8 spec_pl1Cur_next.r4) (.seq (.reg 2112 13 spec_pl1Cur_next.r5) (.seq (.seq (.reg 2944 10 spec_pl1Cur_next.r6) (.cond (.t 53) (.seq (.reg 3584 2 spec_pl1Cur_next.r7) (.ret)) (.skip))) (.seq (.reg 3712 8 spec_pl1Cur_next.r8) (.ret))))))) }
attribute [go_sem] spec_pl1Cur_next.r0 spec_pl1Cur_next.r1 spec_pl1Cur_next.r2 spec_pl1Cur_next.r3 spec_pl1Cur_next.r4 spec_pl1Cur_next.r5 spec_pl1Cur_next.r6 spec_pl1Cur_next.r7 spec_pl1Cur_next.r8
theorem spec_pl1Cur_next.ok : chkF prog F_spec_pl1Cur_next 1 spec_pl1Cur_next.fi = true := by kernel_rfl

/-! spec_pl1Cur_pick -/
def spec_pl1Cur_pick.r0 : List Ent := [
  E0 0 (some 4) none (.i (.mv (.k (I64 0))))]
def spec_pl1Cur_pick.r1 : List Ent := [
  E0 0 (some 6) none (.i (.mv (.t 1))),
  E0 1 (some 7) none (.i (.bin .leq (.t 6) (.k (I64 1))))]
def spec_pl1Cur_pick.r2 : List Ent := [
  E0 0 (some 4) none (.i (.mv (.k (I64 0))))]
def spec_pl1Cur_pick.r3 : List Ent := [
  E0 0 (some 8) none (.i (.mv (.t 0))),
  E0 1 (some 9) none (.call F_spec_pl1Cur_next true [(.io, .t 8)]),
  E0 2 (some 5) none (.i (.mv (.t 9)))]
def spec_pl1Cur_pick.r4 : List Ent := [
  E0 0 (some 10) none (.i (.mv (.t 1))),
  E0 1 (some 11) none (.i (.bin .gtr (.t 10) (.k (I64 200))))]
def spec_pl1Cur_pick.r5 : List Ent := [
  E0 0 (some 12) none (.i (.mv (.t 5))),
  E0 1 (some 13) none (.i (.bin .mul (.t 12) (.k (I64 256)))),
  E0 2 (some 14) none (.i (.mv (.t 0))),
  E0 3 (some 15) none (.call F_spec_pl1Cur_next true [(.io, .t 14)]),
  E0 4 (some 16) none (.i (.bin .add (.t 13) (.t 15))),
  E0 5 (some 5) none (.i (.mv (.t 16)))]
def spec_pl1Cur_pick.r6 : List Ent := [
  E0 0 (some 17) none (.i (.mv (.t 5))),
  E0 1 (some 18) none (.i (.mv (.t 1))),
  E0 2 (some 19) none (.i (.bin .rem (.t 17) (.t 18))),
  E0 3 (some 4) none (.i (.mv (.t 19)))]
def spec_pl1Cur_pick.fi : FI := { res := [.t 4], code := .seq (.reg 64 1 spec_pl1Cur_pick.r0) (.seq (.seq (.reg 128 2 spec_pl1Cur_pick.r1) (.cond (.t 7) (.seq (.reg 256 1 spec_pl1Cur_pick.r2) (.ret)) (.skip))) (.seq (.reg 320 3 spec_pl1Cur_pick.r3) (.seq (.seq (.reg 512 2 spec_pl1Cur_pick.r4) (.cond (.t 11) (.reg 640 6 spec_pl1Cur_pick.r5) (.skip))) (.seq (.reg 1024 4 spec_pl1Cur_pick.r6) (.ret))))) }
attribute [go_sem] spec_pl1Cur_pick.r0 spec_pl1Cur_pick.r1 spec_pl1Cur_pick.r2 spec_pl1Cur_pick.r3 spec_pl1Cur_pick.r4 spec_pl1Cur_pick.r5 spec_pl1Cur_pick.r6
theorem spec_pl1Cur_pick.ok : chkF prog F_spec_pl1Cur_pick 2 spec_pl1Cur_pick.fi = true := by kernel_rfl

/-! spec_pl1Cur_one -/
def spec_pl1Cur_one.r0 : List Ent := [
  E0 0 (some 4) none (.i (.mv (.k (.dat none (.bool false)))))]
def spec_pl1Cur_one.r1 : List Ent := [
  E0 0 (some 5) none (.i (.mv (.t 0))),
  E0 1 (some 6) none (.i (.mv (.t 1))),
  E0 2 (some 7) none (.call F_spec_pl1Cur_pick true [(.io, .t 5), (.ro, .t 6)]),
  E0 3 (some 8) none (.i (.bin .eql (.t 7) (.k (I64 0)))),
  E0 4 (some 4) none (.i (.mv (.t 8)))]
def spec_pl1Cur_one.fi : FI := { res := [.t 4], code := .seq (.reg 64 1 spec_pl1Cur_one.r0) (.seq (.reg 128 5 spec_pl1Cur_one.r1) (.ret)) }
attribute [go_sem] spec_pl1Cur_one.r0 spec_pl1Cur_one.r1
theorem spec_pl1Cur_one.ok : chkF prog F_spec_pl1Cur_one 2 spec_pl1Cur_one.fi = true := by kernel_rfl

/-! spec_pl1Cur_among -/
def spec_pl1Cur_among.r0 : List Ent := [
  E0 0 (some 4) none (.i (.mv (.k (I64 0))))]
def spec_pl1Cur_among.r1 : List Ent := [
  E0 0 (some 5) none (.i (.mv (.t 1))),
  E0 1 (some 6) none (.i (.mv (.t 0))),
  E0 2 (some 7) none (.i (.mv (.t 1))),
  E0 3 (some 8) none (.i (.len (.t 7))),
  E0 4 (some 9) none (.call F_spec_pl1Cur_pick true [(.io, .t 6), (.ro, .t 8)]),
  E0 5 (some 10) none (.i (.iad 1 (.t 5) (.t 9))),
  E0 6 (some 11) none (.i (.load false false 1 (.t 10))),
  E0 7 (some 4) none (.i (.mv (.t 11)))]
def spec_pl1Cur_among.fi : FI := { res := [.t 4], code := .seq (.reg 64 1 spec_pl1Cur_among.r0) (.seq (.reg 128 8 spec_pl1Cur_among.r1) (.ret)) }
attribute [go_sem] spec_pl1Cur_among.r0 spec_pl1Cur_among.r1
theorem spec_pl1Cur_among.ok : chkF prog F_spec_pl1Cur_among 2 spec_pl1Cur_among.fi = true := by kernel_rfl

/-! spec_pl1Cur_step -/
def spec_pl1Cur_step.r0 : List Ent := [
  E0 0 (some 4) none (.i (.box (.k (.agg [.dat none (.int .i64 0), .dat none (.int .i64 0), .dat none (.int .i64 0), .dat none (.int .i64 0), .dat none (.int .i64 0), .dat none (.int .i64 0)]))))]
def spec_pl1Cur_step.r1 : List Ent := [
  E0 0 (some 6) none (.i (.mv (.t 0))),
  E0 1 (some 7) none (.i (.bsl false 1 [.k (I64 1), .k (I64 1), .k (I64 2), .k (I64 2), .k (I64 2), .k (I64 3), .k (I64 3), .k (I64 4), .k (I64 5), .k (I64 5), .k (I64 6), .k (I64 7), .k (I64 7), .k (I64 8), .k (I64 9), .k (I64 10), .k (I64 10)])),
  E0 2 (some 8) none (.call F_spec_pl1Cur_among true [(.io, .t 6), (.co, .t 7)]),
  E0 3 (some 9) none (.i (.bld [.t 8, .k (.dat none (.int .i64 0)), .k (.dat none (.int .i64 0)), .k (.dat none (.int .i64 0)), .k (.dat none (.int .i64 0)), .k (.dat none (.int .i64 0))])),
  E0 4 (some 5) none (.i (.box (.k (.agg [.dat none (.int .i64 0), .dat none (.int .i64 0), .dat none (.int .i64 0), .dat none (.int .i64 0), .dat none (.int .i64 0), .dat none (.int .i64 0)])))),
  E0 5 none none (.i (.store 6 (.t 5) (.t 9)))]
def spec_pl1Cur_step.r2 : List Ent := [
  E0 0 (some 10) none (.i (.fad 0 (.t 5))),
  E0 1 (some 11) none (.i (.load false false 1 (.t 10))),
  E0 2 (some 12) none (.i (.bin .geq (.t 11) (.k (I64 8)))),
  E0 3 (some 13) none (.i (.mv (.t 12))),
  E0 4 (some 14) (some (13, true)) (.i (.mv (.t 1))),
  E0 5 (some 15) (some (13, true)) (.i (.bin .lss (.t 14) (.k (I64 2)))),
  E0 6 (some 16) none (.i (.pick (.t 13) (.t 15) (.k (.dat none (.bool false)))))]
def spec_pl1Cur_step.r3 : List Ent := [
  E0 0 (some 17) none (.i (.fad 0 (.t 5))),
  E0 1 none none (.i (.store 1 (.t 17) (.k (I64 3))))]
def spec_pl1Cur_step.r4 : List Ent := [
  E0 0 (some 18) none (.i (.fad 0 (.t 5))),
  E0 1 (some 19) none (.i (.load false false 1 (.t 18)))]
def spec_pl1Cur_step.r5 : List Ent := [
  E0 0 (some 21) none (.i (.bin .eql (.t 19) (.k (I64 1)))),
  E0 1 (some 20) none (.i (.mv (.t 21)))]
def spec_pl1Cur_step.r6 : List Ent := [
  E0 0 (some 22) none (.i (.bin .eql (.t 19) (.k (I64 5)))),
  E0 1 (some 20) none (.i (.mv (.t 22)))]
def spec_pl1Cur_step.r7 : List Ent := [
  E0 0 (some 23) none (.i (.bin .eql (.t 19) (.k (I64 9)))),
  E0 1 (some 20) none (.i (.mv (.t 23)))]
def spec_pl1Cur_step.r8 : List Ent := [
  E0 0 (some 24) none (.i (.bin .eql (.t 19) (.k (I64 10)))),
  E0 1 (some 20) none (.i (.mv (.t 24)))]
def spec_pl1Cur_step.r9 : List Ent := [
  E0 0 (some 25) none (.i (.mv (.t 0))),
  E0 1 (some 26) none (.call F_spec_pl1Cur_pick true [(.io, .t 25), (.ro, .k (I64 3))]),
  E0 2 (some 27) none (.i (.fad 3 (.t 5))),
  E0 3 none none (.i (.store 1 (.t 27) (.t 26)))]
def spec_pl1Cur_step.r10 : List Ent := [
  E0 0 (some 28) none (.i (.fad 0 (.t 5))),
  E0 1 (some 29) none (.i (.load false false 1 (.t 28))),
  E0 2 (some 30) none (.i (.bin .neq (.t 29) (.k (I64 8))))]
def spec_pl1Cur_step.r11 : List Ent := [
  E0 0 (some 31) none (.i (.mv (.t 0))),
  E0 1 (some 32) none (.call F_spec_pl1Cur_pick true [(.io, .t 31), (.ro, .k (I64 3))]),
  E0 2 (some 33) none (.i (.fad 2 (.t 5))),
  E0 3 none none (.i (.store 1 (.t 33) (.t 32)))]
def spec_pl1Cur_step.r12 : List Ent := [
  E0 0 (some 34) none (.i (.fad 0 (.t 5))),
  E0 1 (some 35) none (.i (.load false false 1 (.t 34)))]
def spec_pl1Cur_step.r13 : List Ent := [
  E0 0 (some 37) none (.i (.bin .eql (.t 35) (.k (I64 1)))),
  E0 1 (some 36) none (.i (.mv (.t 37)))]
def spec_pl1Cur_step.r14 : List Ent := [
  E0 0 (some 38) none (.i (.bin .eql (.t 35) (.k (I64 2)))),
  E0 1 (some 36) none (.i (.mv (.t 38)))]
def spec_pl1Cur_step.r15 : List Ent := [
  E0 0 (some 39) none (.i (.mv (.t 0))),
  E0 1 (some 40) none (.call F_spec_pl1Cur_pick true [(.io, .t 39), (.ro, .k (I64 10))]),
  E0 2 (some 41) none (.i (.bin .add (.k (I64 1)) (.t 40))),
  E0 3 (some 42) none (.i (.fad 1 (.t 5))),
  E0 4 none none (.i (.store 1 (.t 42) (.t 41)))]
def spec_pl1Cur_step.r16 : List Ent := [
  E0 0 (some 43) none (.i (.fad 0 (.t 5))),
  E0 1 (some 44) none (.i (.load false false 1 (.t 43)))]
def spec_pl1Cur_step.r17 : List Ent := [
  E0 0 (some 46) none (.i (.bin .eql (.t 44) (.k (I64 2)))),
  E0 1 (some 45) none (.i (.mv (.t 46)))]
def spec_pl1Cur_step.r18 : List Ent := [
  E0 0 (some 47) none (.i (.bin .eql (.t 44) (.k (I64 3)))),
  E0 1 (some 45) none (.i (.mv (.t 47)))]
def spec_pl1Cur_step.r19 : List Ent := [
  E0 0 (some 48) none (.i (.mv (.t 0))),
  E0 1 (some 49) none (.i (.mv (.t 0))),
  E0 2 (some 50) none (.call F_spec_pl1Cur_pick true [(.io, .t 49), (.ro, .k (I64 20))]),
  E0 3 (some 51) none (.i (.bsl false 1 [.k (I64 0), .k (I64 1), .k (I64 3), .k (I64 7), .k (I64 255), .t 50])),
  E0 4 (some 52) none (.call F_spec_pl1Cur_among true [(.io, .t 48), (.co, .t 51)]),
  E0 5 (some 53) none (.i (.fad 4 (.t 5))),
  E0 6 none none (.i (.store 1 (.t 53) (.t 52)))]
def spec_pl1Cur_step.r20 : List Ent := [
  E0 0 (some 55) none (.i (.bin .eql (.t 44) (.k (I64 4)))),
  E0 1 (some 54) none (.i (.mv (.t 55)))]
def spec_pl1Cur_step.r21 : List Ent := [
  E0 0 (some 56) none (.i (.mv (.t 0))),
  E0 1 (some 57) none (.i (.mv (.t 0))),
  E0 2 (some 58) none (.call F_spec_pl1Cur_pick true [(.io, .t 57), (.ro, .k (I64 256))]),
  E0 3 (some 59) none (.i (.mv (.t 0))),
  E0 4 (some 60) none (.call F_spec_pl1Cur_pick true [(.io, .t 59), (.ro, .k (I64 250))]),
  E0 5 (some 61) none (.i (.bin .mul (.t 58) (.t 60))),
  E0 6 (some 62) none (.i (.bin .add (.k (I64 256)) (.t 61))),
  E0 7 (some 63) none (.i (.bsl false 1 [.k (I64 256), .k (I64 65535), .t 62])),
  E0 8 (some 64) none (.call F_spec_pl1Cur_among true [(.io, .t 56), (.co, .t 63)]),
  E0 9 (some 65) none (.i (.fad 4 (.t 5))),
  E0 10 none none (.i (.store 1 (.t 65) (.t 64)))]
def spec_pl1Cur_step.r22 : List Ent := [
  E0 0 (some 67) none (.i (.bin .eql (.t 44) (.k (I64 5)))),
  E0 1 (some 66) none (.i (.mv (.t 67)))]
def spec_pl1Cur_step.r23 : List Ent := [
  E0 0 (some 68) none (.i (.mv (.t 0))),
  E0 1 (some 69) none (.call F_spec_pl1Cur_pick true [(.io, .t 68), (.ro, .k (I64 5))]),
  E0 2 (some 70) none (.i (.fad 4 (.t 5))),
  E0 3 none none (.i (.store 1 (.t 70) (.t 69)))]
def spec_pl1Cur_step.r24 : List Ent := [
  E0 0 (some 72) none (.i (.bin .eql (.t 44) (.k (I64 6)))),
  E0 1 (some 71) none (.i (.mv (.t 72)))]
def spec_pl1Cur_step.r25 : List Ent := [
  E0 0 (some 73) none (.i (.bin .eql (.t 44) (.k (I64 7)))),
  E0 1 (some 71) none (.i (.mv (.t 73)))]
def spec_pl1Cur_step.r26 : List Ent := [
  E0 0 (some 74) none (.i (.mv (.t 0))),
  E0 1 (some 75) none (.call F_spec_pl1Cur_pick true [(.io, .t 74), (.ro, .k (I64 18))]),
  E0 2 (some 76) none (.i (.fad 4 (.t 5))),
  E0 3 none none (.i (.store 1 (.t 76) (.t 75)))]
def spec_pl1Cur_step.r27 : List Ent := [
  E0 0 (some 78) none (.i (.bin .eql (.t 44) (.k (I64 8)))),
  E0 1 (some 77) none (.i (.mv (.t 78)))]
def spec_pl1Cur_step.r28 : List Ent := [
  E0 0 (some 79) none (.i (.bin .eql (.t 44) (.k (I64 9)))),
  E0 1 (some 77) none (.i (.mv (.t 79)))]
def spec_pl1Cur_step.r29 : List Ent := [
  E0 0 (some 80) none (.i (.bin .eql (.t 44) (.k (I64 10)))),
  E0 1 (some 77) none (.i (.mv (.t 80)))]
def spec_pl1Cur_step.r30 : List Ent := [
  E0 0 (some 81) none (.i (.mv (.t 0))),
  E0 1 (some 82) none (.i (.mv (.t 1))),
  E0 2 (some 83) none (.i (.bin .sub (.t 82) (.k (I64 1)))),
  E0 3 (some 84) none (.call F_spec_l1Least false (roA [.k (I64 4), .t 83])),
  E0 4 (some 85) none (.call F_spec_pl1Cur_pick true [(.io, .t 81), (.ro, .t 84)]),
  E0 5 (some 86) none (.i (.bin .add (.k (I64 1)) (.t 85))),
  E0 6 (some 87) none (.i (.fad 5 (.t 5))),
  E0 7 none none (.i (.store 1 (.t 87) (.t 86)))]
def spec_pl1Cur_step.r31 : List Ent := [
  E0 0 (some 88) none (.i (.load false true 6 (.t 5))),
  E0 1 none none (.i (.store 6 (.t 4) (.t 88)))]
def spec_pl1Cur_step.fi : FI := { res := [.c 4 true 6], code := .seq (.reg 64 1 spec_pl1Cur_step.r0) (.seq (.reg 128 6 spec_pl1Cur_step.r1) (.seq (.seq (.reg 512 7 spec_pl1Cur_step.r2) (.cond (.t 16) (.reg 960 2 spec_pl1Cur_step.r3) (.skip))) (.seq (.seq (.reg 1088 2 spec_pl1Cur_step.r4) (.block 0 (.seq (.seq (.reg 1216 2 spec_pl1Cur_step.r5) (.cond (.t 20) (.skip) (.seq (.reg 1344 2 spec_pl1Cur_step.r6) (.cond (.t 20) (.skip) (.seq (.reg 1472 2 spec_pl1Cur_step.r7) (.cond (.t 20) (.skip) (.reg 1600 2 spec_pl1Cur_step.r8))))))) (.cond (.t 20) (.reg 1728 4 spec_pl1Cur_step.r9) (.skip))))) (.seq (.seq (.reg 1984 3 spec_pl1Cur_step.r10) (.cond (.t 30) (.reg 2176 4 spec_pl1Cur_step.r11) (.skip))) (.seq (.seq (.reg 2432 2 spec_pl1Cur_step.r12) (.block 1 (.seq (.seq (.reg 2560 2 spec_pl1Cur_step.r13) (.cond (.t 36) (.skip) (.reg 2688 2 spec_pl1Cur_step.r14))) (.cond (.t 36) (.reg 2816 5 spec_pl1Cur_step.r15) (.skip))))) (.seq (.seq (.reg 3136 2 spec_pl1Cur_step.r16) (.block 2 (.seq (.seq (.reg 3264 2 spec_pl1Cur_step.r17) (.cond (.t 45) (.skip) (.reg 3392 2 spec_pl1Cur_step.r18))) (.cond (.t 45) (.reg 3520 7 spec_pl1Cur_step.r19) (.seq (.reg 3968 2 spec_pl1Cur_step.r20) (.cond (.t 54) (.reg 4096 11 spec_pl1Cur_step.r21) (.seq (.reg 4800 2 spec_pl1Cur_step.r22) (.cond (.t 66) (.reg 4928 4 spec_pl1Cur_step.r23) (.seq (.seq (.reg 5184 2 spec_pl1Cur_step.r24) (.cond (.t 71) (.skip) (.reg 5312 2 spec_pl1Cur_step.r25))) (.cond (.t 71) (.reg 5440 4 spec_pl1Cur_step.r26) (.seq (.seq (.reg 5696 2 spec_pl1Cur_step.r27) (.cond (.t 77) (.skip) (.seq (.reg 5824 2 spec_pl1Cur_step.r28) (.cond (.t 77) (.skip) (.reg 5952 2 spec_pl1Cur_step.r29))))) (.cond (.t 77) (.reg 6080 8 spec_pl1Cur_step.r30) (.skip))))))))))))) (.seq (.reg 6592 2 spec_pl1Cur_step.r31) (.ret)))))))) }
attribute [go_sem] spec_pl1Cur_step.r0 spec_pl1Cur_step.r1 spec_pl1Cur_step.r2 spec_pl1Cur_step.r3 spec_pl1Cur_step.r4 spec_pl1Cur_step.r5 spec_pl1Cur_step.r6 spec_pl1Cur_step.r7 spec_pl1Cur_step.r8 spec_pl1Cur_step.r9 spec_pl1Cur_step.r10 spec_pl1Cur_step.r11 spec_pl1Cur_step.r12 spec_pl1Cur_step.r13 spec_pl1Cur_step.r14 spec_pl1Cur_step.r15 spec_pl1Cur_step.r16 spec_pl1Cur_step.r17 spec_pl1Cur_step.r18 spec_pl1Cur_step.r19 spec_pl1Cur_step.r20 spec_pl1Cur_step.r21 spec_pl1Cur_step.r22 spec_pl1Cur_step.r23 spec_pl1Cur_step.r24 spec_pl1Cur_step.r25 spec_pl1Cur_step.r26 spec_pl1Cur_step.r27 spec_pl1Cur_step.r28 spec_pl1Cur_step.r29 spec_pl1Cur_step.r30 spec_pl1Cur_step.r31
theorem spec_pl1Cur_step.ok : chkF prog F_spec_pl1Cur_step 2 spec_pl1Cur_step.fi = true := by kernel_rfl

/-! spec_GoodProgram -/
def spec_GoodProgram.r0 : List Ent := [
  E0 0 (some 2) none (.i (.mv (.k (.dat none (.bool false)))))]
def spec_GoodProgram.r1 : List Ent := [
  E0 0 (some 5) none (.i (.mv (.t 0))),
  E0 1 (some 6) none (.i (.len (.t 5))),
  E0 2 (some 7) none (.i (.mv (.k (I64 0))))]
def spec_GoodProgram.r2 : List Ent := [
  E0 0 (some 8) none (.i (.bin .lss (.t 7) (.t 6)))]
def spec_GoodProgram.r3 : List Ent := [
  E0 0 (some 9) none (.i (.mv (.t 7))),
  E0 1 (some 10) none (.i (.iad 6 (.t 5) (.t 7))),
  E0 2 (some 11) none (.i (.load false true 6 (.t 10))),
  E0 3 (some 4) none (.i (.box (.k (.agg [.dat none (.int .i64 0), .dat none (.int .i64 0), .dat none (.int .i64 0), .dat none (.int .i64 0), .dat none (.int .i64 0), .dat none (.int .i64 0)])))),
  E0 4 (some 3) none (.i (.mv (.t 9))),
  E0 5 none none (.i (.store 6 (.t 4) (.t 11)))]
def spec_GoodProgram.r4 : List Ent := [
  E0 0 (some 12) none (.i (.load false true 6 (.t 4))),
  E0 1 (some 13) none (.call F_spec_l2Step false (roA [.t 12])),
  E0 2 (some 14) none (.i (.un .not (.t 13))),
  E0 3 (some 15) none (.i (.mv (.t 14))),
  E0 4 (some 16) (some (15, false)) (.i (.fad 5 (.t 4))),
  E0 5 (some 17) (some (15, false)) (.i (.load false false 1 (.t 16))),
  E0 6 (some 18) (some (15, false)) (.i (.bin .gtr (.t 17) (.k (I64 0)))),
  E0 7 (some 19) (some (15, false)) (.i (.mv (.t 18))),
  E0 8 (some 20) (some (19, true)) (.i (.mv (.t 3))),
  E0 9 (some 21) (some (19, true)) (.i (.fad 5 (.t 4))),
  E0 10 (some 22) (some (19, true)) (.i (.load false false 1 (.t 21))),
  E0 11 (some 23) (some (19, true)) (.i (.bin .add (.t 20) (.t 22))),
  E0 12 (some 24) (some (19, true)) (.i (.bin .add (.t 23) (.k (I64 1)))),
  E0 13 (some 25) (some (19, true)) (.i (.mv (.t 0))),
  E0 14 (some 26) (some (19, true)) (.i (.len (.t 25))),
  E0 15 (some 27) (some (19, true)) (.i (.bin .geq (.t 24) (.t 26))),
  E0 16 (some 28) (some (15, false)) (.i (.pick (.t 19) (.t 27) (.k (.dat none (.bool false))))),
  E0 17 (some 29) none (.i (.pick (.t 15) (.k (.dat none (.bool true))) (.t 28)))]
def spec_GoodProgram.r5 : List Ent := [
  E0 0 (some 2) none (.i (.mv (.k (.dat none (.bool false)))))]
def spec_GoodProgram.r6 : List Ent := [
  E0 0 (some 30) none (.i (.bin .add (.t 7) (.k (I64 1)))),
  E0 1 (some 7) none (.i (.mv (.t 30)))]
def spec_GoodProgram.b0 : KC := .seq (.reg 320 1 spec_GoodProgram.r2) (.seq (.cond (.t 8) (.skip) (.exit 0)) (.seq (.block 1 (.seq (.reg 384 6 spec_GoodProgram.r3) (.seq (.reg 768 18 spec_GoodProgram.r4) (.cond (.t 29) (.seq (.reg 1920 1 spec_GoodProgram.r5) (.ret)) (.skip))))) (.reg 1984 2 spec_GoodProgram.r6)))
def spec_GoodProgram.r7 : List Ent := [
  E0 0 (some 31) none (.i (.mv (.t 0))),
  E0 1 (some 32) none (.i (.len (.t 31))),
  E0 2 (some 33) none (.call F_spec_l1In false (roA [.t 32, .k (I64 1), .k (I64 20)])),
  E0 3 (some 34) none (.i (.mv (.t 33))),
  E0 4 (some 35) (some (34, true)) (.i (.mv (.t 0))),
  E0 5 (some 36) (some (34, true)) (.i (.mv (.t 0))),
  E0 6 (some 37) (some (34, true)) (.i (.len (.t 36))),
  E0 7 (some 38) (some (34, true)) (.i (.bin .sub (.t 37) (.k (I64 1)))),
  E0 8 (some 39) (some (34, true)) (.i (.iad 6 (.t 35) (.t 38))),
  E0 9 (some 40) (some (34, true)) (.i (.fad 0 (.t 39))),
  E0 10 (some 41) (some (34, true)) (.i (.load false false 1 (.t 40))),
  E0 11 (some 42) (some (34, true)) (.i (.bin .eql (.t 41) (.k (I64 11)))),
  E0 12 (some 43) none (.i (.pick (.t 34) (.t 42) (.k (.dat none (.bool false))))),
  E0 13 (some 2) none (.i (.mv (.t 43)))]
def spec_GoodProgram.fi : FI := { res := [.t 2], code := .seq (.reg 64 1 spec_GoodProgram.r0) (.seq (.seq (.reg 128 3 spec_GoodProgram.r1) (.block 0 (.loop spec_GoodProgram.b0))) (.seq (.reg 2112 14 spec_GoodProgram.r7) (.ret))) }
attribute [go_sem] spec_GoodProgram.r0 spec_GoodProgram.r1 spec_GoodProgram.r2 spec_GoodProgram.r3 spec_GoodProgram.r4 spec_GoodProgram.r5 spec_GoodProgram.r6 spec_GoodProgram.r7
theorem spec_GoodProgram.ok : chkF prog F_spec_GoodProgram 1 spec_GoodProgram.fi = true := by kernel_rfl

/-! spec_l3Ctx -/
def spec_l3Ctx.r0 : List Ent := [
  E0 0 (some 2) none (.i (.mv (.k (.dat none (.bool false)))))]
def spec_l3Ctx.r1 : List Ent := [
  E0 0 (some 3) none (.i (.mv (.t 0))),
  E0 1 (some 4) none (.i (.len (.t 3))),
  E0 2 (some 5) none (.i (.bin .eql (.t 4) (.k (I64 8)))),
  E0 3 (some 6) none (.i (.mv (.t 5))),
  E0 4 (some 7) (some (6, true)) (.i (.mv (.t 0))),
  E0 5 (some 8) (some (6, true)) (.call F_spec_l1All false (roA [.t 7, .k (I64 0), .k (I64 255)])),
  E0 6 (some 9) none (.i (.pick (.t 6) (.t 8) (.k (.dat none (.bool false))))),
  E0 7 (some 2) none (.i (.mv (.t 9)))]
def spec_l3Ctx.fi : FI := { res := [.t 2], code := .seq (.reg 64 1 spec_l3Ctx.r0) (.seq (.reg 128 8 spec_l3Ctx.r1) (.ret)) }
attribute [go_sem] spec_l3Ctx.r0 spec_l3Ctx.r1
theorem spec_l3Ctx.ok : chkF prog F_spec_l3Ctx 1 spec_l3Ctx.fi = true := by kernel_rfl

/-! spec_l3Do -/
def spec_l3Do.r0 : List Ent := [
  E0 0 (some 5) none (.i (.box (.t 2))),
  E0 1 (some 6) none (.i (.box (.k (.agg [.dat none (.int .i64 0), .nil 1, .nil 1, .nil 1])))),
  E0 2 (some 7) none (.i (.mv (.k (I64 0)))),
  E0 3 (some 8) none (.i (.mv (.k (.dat none (.bool false)))))]
def spec_l3Do.r1 : List Ent := [
  E0 0 (some 13) none (.i (.mv (.t 0))),
  E0 1 (some 14) none (.i (.fad 0 (.t 5))),
  E0 2 (some 15) none (.i (.load false false 1 (.t 14))),
  E0 3 (some 16) none (.i (.iad 6 (.t 13) (.t 15))),
  E0 4 (some 17) none (.i (.load false true 6 (.t 16))),
  E0 5 (some 9) none (.i (.box (.k (.agg [.dat none (.int .i64 0), .dat none (.int .i64 0), .dat none (.int .i64 0), .dat none (.int .i64 0), .dat none (.int .i64 0), .dat none (.int .i64 0)])))),
  E0 6 none none (.i (.store 6 (.t 9) (.t 17)))]
def spec_l3Do.r2 : List Ent := [
  E0 0 (some 18) none (.i (.fad 0 (.t 5))),
  E0 1 (some 19) none (.i (.load false false 1 (.t 18))),
  E0 2 (some 20) none (.i (.bin .add (.t 19) (.k (I64 1)))),
  E0 3 (some 10) none (.i (.mv (.t 20)))]
def spec_l3Do.r3 : List Ent := [
  E0 0 (some 21) none (.i (.fad 1 (.t 5))),
  E0 1 (some 22) none (.i (.load false false 1 (.t 21))),
  E0 2 (some 23) none (.i (.fad 2 (.t 9))),
  E0 3 (some 24) none (.i (.load false false 1 (.t 23))),
  E0 4 (some 25) none (.i (.iad 1 (.t 22) (.t 24))),
  E0 5 (some 26) none (.i (.load false false 1 (.t 25))),
  E0 6 (some 11) none (.i (.mv (.t 26)))]
def spec_l3Do.r4 : List Ent := [
  E0 0 (some 27) none (.i (.fad 1 (.t 5))),
  E0 1 (some 28) none (.i (.load false false 1 (.t 27))),
  E0 2 (some 29) none (.i (.fad 3 (.t 9))),
  E0 3 (some 30) none (.i (.load false false 1 (.t 29))),
  E0 4 (some 31) none (.i (.iad 1 (.t 28) (.t 30))),
  E0 5 (some 32) none (.i (.load false false 1 (.t 31))),
  E0 6 (some 12) none (.i (.mv (.t 32)))]
def spec_l3Do.r5 : List Ent := [
  E0 0 (some 33) none (.i (.fad 0 (.t 9))),
  E0 1 (some 34) none (.i (.load false false 1 (.t 33)))]
def spec_l3Do.r6 : List Ent := [
  E0 0 (some 36) none (.i (.bin .eql (.t 34) (.k (I64 11)))),
  E0 1 (some 35) none (.i (.mv (.t 36)))]
def spec_l3Do.r7 : List Ent := [
  E0 0 (some 37) none (.i (.load false true 4 (.t 5))),
  E0 1 none none (.i (.store 4 (.t 6) (.t 37))),
  E0 2 (some 7) none (.i (.mv (.k (I64 0)))),
  E0 3 (some 8) none (.i (.mv (.k (.dat none (.bool true)))))]
def spec_l3Do.r8 : List Ent := [
  E0 0 (some 39) none (.i (.bin .eql (.t 34) (.k (I64 1)))),
  E0 1 (some 38) none (.i (.mv (.t 39)))]
def spec_l3Do.r9 : List Ent := [
  ER 0 (some 40) none (.fad 1 (.t 5)),
  ER 1 (some 41) none (.load false false 1 (.t 40)),
  ER 2 (some 42) none (.fad 2 (.t 9)),
  ER 3 (some 43) none (.load false false 1 (.t 42)),
  ER 4 (some 44) none (.fad 1 (.t 9)),
  ER 5 (some 45) none (.load false false 1 (.t 44)),
  E0 6 (some 46) none (.i (.mv (.t 11))),
  E0 7 (some 47) none (.i (.mv (.t 12))),
  E2 8 (some 48) none (.call F_spec_l1Do false (roA [.t 45, .t 46, .t 47])),
  E0 9 (some 49) none (.i (.iad 1 (.t 41) (.t 43))),
  E0 10 none none (.i (.store 1 (.t 49) (.t 48)))]
def spec_l3Do.r10 : List Ent := [
  E0 0 (some 51) none (.i (.bin .eql (.t 34) (.k (I64 2)))),
  E0 1 (some 50) none (.i (.mv (.t 51)))]
def spec_l3Do.r11 : List Ent := [
  ER 0 (some 52) none (.fad 1 (.t 5)),
  ER 1 (some 53) none (.load false false 1 (.t 52)),
  ER 2 (some 54) none (.fad 2 (.t 9)),
  ER 3 (some 55) none (.load false false 1 (.t 54)),
  ER 4 (some 56) none (.fad 1 (.t 9)),
  ER 5 (some 57) none (.load false false 1 (.t 56)),
  E0 6 (some 58) none (.i (.mv (.t 11))),
  ER 7 (some 59) none (.fad 4 (.t 9)),
  ER 8 (some 60) none (.load false false 1 (.t 59)),
  E2 9 (some 61) none (.call F_spec_l1Do false (roA [.t 57, .t 58, .t 60])),
  E0 10 (some 62) none (.i (.iad 1 (.t 53) (.t 55))),
  E0 11 none none (.i (.store 1 (.t 62) (.t 61)))]
def spec_l3Do.r12 : List Ent := [
  E0 0 (some 64) none (.i (.bin .eql (.t 34) (.k (I64 3)))),
  E0 1 (some 63) none (.i (.mv (.t 64)))]
def spec_l3Do.r13 : List Ent := [
  E0 0 (some 65) none (.i (.bin .eql (.t 34) (.k (I64 4)))),
  E0 1 (some 63) none (.i (.mv (.t 65)))]
def spec_l3Do.r14 : List Ent := [
  E0 0 (some 66) none (.i (.fad 1 (.t 5))),
  E0 1 (some 67) none (.i (.load false false 1 (.t 66))),
  E0 2 (some 68) none (.i (.fad 2 (.t 9))),
  E0 3 (some 69) none (.i (.load false false 1 (.t 68))),
  E0 4 (some 70) none (.i (.fad 4 (.t 9))),
  E0 5 (some 71) none (.i (.load false false 1 (.t 70))),
  E0 6 (some 72) none (.i (.iad 1 (.t 67) (.t 69))),
  E0 7 none none (.i (.store 1 (.t 72) (.t 71)))]
def spec_l3Do.r15 : List Ent := [
  E0 0 (some 74) none (.i (.bin .eql (.t 34) (.k (I64 5)))),
  E0 1 (some 73) none (.i (.mv (.t 74)))]
def spec_l3Do.r16 : List Ent := [
  E0 0 (some 75) none (.i (.mv (.t 12))),
  E0 1 (some 76) none (.i (.fad 4 (.t 9))),
  E0 2 (some 77) none (.i (.load false false 1 (.t 76))),
  E0 3 (some 78) none (.i (.bin .add (.t 75) (.t 77))),
  E0 4 (some 79) none (.i (.bin .geq (.t 78) (.k (I64 8))))]
def spec_l3Do.r17 : List Ent := [
  E0 0 (some 80) none (.i (.load false true 4 (.t 5))),
  E0 1 none none (.i (.store 4 (.t 6) (.t 80))),
  E0 2 (some 7) none (.i (.mv (.k (I64 1)))),
  E0 3 (some 8) none (.i (.mv (.k (.dat none (.bool false)))))]
def spec_l3Do.r18 : List Ent := [
  ER 0 (some 81) none (.fad 1 (.t 5)),
  ER 1 (some 82) none (.load false false 1 (.t 81)),
  ER 2 (some 83) none (.fad 2 (.t 9)),
  ER 3 (some 84) none (.load false false 1 (.t 83)),
  E0 4 (some 85) none (.i (.mv (.t 1))),
  E0 5 (some 86) none (.i (.mv (.t 12))),
  ER 6 (some 87) none (.fad 4 (.t 9)),
  ER 7 (some 88) none (.load false false 1 (.t 87)),
  E0 8 (some 89) none (.i (.bin .add (.t 86) (.t 88))),
  ER 9 (some 90) none (.iad 1 (.t 85) (.t 89)),
  ER 10 (some 91) none (.load false false 1 (.t 90)),
  E0 11 (some 92) none (.i (.iad 1 (.t 82) (.t 84))),
  E0 12 none none (.i (.store 1 (.t 92) (.t 91)))]
def spec_l3Do.r19 : List Ent := [
  E0 0 (some 94) none (.i (.bin .eql (.t 34) (.k (I64 7)))),
  E0 1 (some 93) none (.i (.mv (.t 94)))]
def spec_l3Do.r20 : List Ent := [
  E0 0 (some 95) none (.i (.bin .eql (.t 34) (.k (I64 6)))),
  E0 1 (some 93) none (.i (.mv (.t 95)))]
def spec_l3Do.r21 : List Ent := [
  E0 0 (some 96) none (.i (.fad 4 (.t 9))),
  E0 1 (some 97) none (.i (.load false false 1 (.t 96))),
  E0 2 (some 98) none (.i (.bin .geq (.t 97) (.k (I64 16))))]
def spec_l3Do.r22 : List Ent := [
  E0 0 (some 99) none (.i (.load false true 4 (.t 5))),
  E0 1 none none (.i (.store 4 (.t 6) (.t 99))),
  E0 2 (some 7) none (.i (.mv (.k (I64 2)))),
  E0 3 (some 8) none (.i (.mv (.k (.dat none (.bool false)))))]
def spec_l3Do.r23 : List Ent := [
  E0 0 (some 100) none (.i (.fad 0 (.t 9))),
  E0 1 (some 101) none (.i (.load false false 1 (.t 100))),
  E0 2 (some 102) none (.i (.bin .eql (.t 101) (.k (I64 7))))]
def spec_l3Do.r24 : List Ent := [
  E0 0 (some 103) none (.i (.fad 2 (.t 5))),
  E0 1 (some 104) none (.i (.load false false 1 (.t 103))),
  E0 2 (some 105) none (.i (.fad 4 (.t 9))),
  E0 3 (some 106) none (.i (.load false false 1 (.t 105))),
  E0 4 (some 107) none (.i (.mv (.t 11))),
  E0 5 (some 108) none (.i (.iad 1 (.t 104) (.t 106))),
  E0 6 none none (.i (.store 1 (.t 108) (.t 107)))]
def spec_l3Do.r25 : List Ent := [
  E0 0 (some 109) none (.i (.fad 3 (.t 5))),
  E0 1 (some 110) none (.i (.load false false 1 (.t 109))),
  E0 2 (some 111) none (.i (.fad 4 (.t 9))),
  E0 3 (some 112) none (.i (.load false false 1 (.t 111))),
  E0 4 (some 113) none (.i (.iad 1 (.t 110) (.t 112))),
  E0 5 none none (.i (.store 1 (.t 113) (.k (.dat none (.bool true)))))]
def spec_l3Do.r26 : List Ent := [
  E0 0 (some 114) none (.i (.fad 3 (.t 5))),
  E0 1 (some 115) none (.i (.load false false 1 (.t 114))),
  E0 2 (some 116) none (.i (.fad 4 (.t 9))),
  E0 3 (some 117) none (.i (.load false false 1 (.t 116))),
  E0 4 (some 118) none (.i (.iad 1 (.t 115) (.t 117))),
  E0 5 (some 119) none (.i (.load false false 1 (.t 118))),
  E0 6 (some 120) none (.i (.un .not (.t 119)))]
def spec_l3Do.r27 : List Ent := [
  E0 0 (some 121) none (.i (.load false true 4 (.t 5))),
  E0 1 none none (.i (.store 4 (.t 6) (.t 121))),
  E0 2 (some 7) none (.i (.mv (.k (I64 3)))),
  E0 3 (some 8) none (.i (.mv (.k (.dat none (.bool false)))))]
def spec_l3Do.r28 : List Ent := [
  ER 0 (some 122) none (.fad 1 (.t 5)),
  ER 1 (some 123) none (.load false false 1 (.t 122)),
  ER 2 (some 124) none (.fad 2 (.t 9)),
  ER 3 (some 125) none (.load false false 1 (.t 124)),
  ER 4 (some 126) none (.fad 2 (.t 5)),
  ER 5 (some 127) none (.load false false 1 (.t 126)),
  ER 6 (some 128) none (.fad 4 (.t 9)),
  ER 7 (some 129) none (.load false false 1 (.t 128)),
  ER 8 (some 130) none (.iad 1 (.t 127) (.t 129)),
  ER 9 (some 131) none (.load false false 1 (.t 130)),
  E0 10 (some 132) none (.i (.iad 1 (.t 123) (.t 125))),
  E0 11 none none (.i (.store 1 (.t 132) (.t 131)))]
def spec_l3Do.r29 : List Ent := [
  E0 0 (some 133) none (.i (.fad 0 (.t 9))),
  E0 1 (some 134) none (.i (.load false false 1 (.t 133))),
  E0 2 (some 135) none (.i (.bin .eql (.t 134) (.k (I64 8)))),
  E0 3 (some 136) none (.i (.mv (.t 135))),
  E0 4 (some 137) (some (136, false)) (.i (.fad 0 (.t 9))),
  E0 5 (some 138) (some (136, false)) (.i (.load false false 1 (.t 137))),
  E0 6 (some 139) (some (136, false)) (.i (.bin .eql (.t 138) (.k (I64 9)))),
  E0 7 (some 140) (some (136, false)) (.i (.mv (.t 139))),
  E0 8 (some 141) (some (140, true)) (.i (.mv (.t 11))),
  E0 9 (some 142) (some (140, true)) (.i (.mv (.t 12))),
  E0 10 (some 143) (some (140, true)) (.i (.bin .eql (.t 141) (.t 142))),
  E0 11 (some 144) (some (136, false)) (.i (.pick (.t 140) (.t 143) (.k (.dat none (.bool false))))),
  E0 12 (some 145) none (.i (.pick (.t 136) (.k (.dat none (.bool true))) (.t 144))),
  E0 13 (some 146) none (.i (.mv (.t 145))),
  E0 14 (some 147) (some (146, false)) (.i (.fad 0 (.t 9))),
  E0 15 (some 148) (some (146, false)) (.i (.load false false 1 (.t 147))),
  E0 16 (some 149) (some (146, false)) (.i (.bin .eql (.t 148) (.k (I64 10)))),
  E0 17 (some 150) (some (146, false)) (.i (.mv (.t 149))),
  E0 18 (some 151) (some (150, true)) (.i (.mv (.t 11))),
  E0 19 (some 152) (some (150, true)) (.i (.mv (.t 12))),
  E0 20 (some 153) (some (150, true)) (.i (.bin .lss (.t 151) (.t 152))),
  E0 21 (some 154) (some (146, false)) (.i (.pick (.t 150) (.t 153) (.k (.dat none (.bool false))))),
  E0 22 (some 155) none (.i (.pick (.t 146) (.k (.dat none (.bool true))) (.t 154)))]
def spec_l3Do.r30 : List Ent := [
  E0 0 (some 156) none (.i (.fad 0 (.t 5))),
  E0 1 (some 157) none (.i (.load false false 1 (.t 156))),
  E0 2 (some 158) none (.i (.fad 5 (.t 9))),
  E0 3 (some 159) none (.i (.load false false 1 (.t 158))),
  E0 4 (some 160) none (.i (.bin .add (.t 157) (.t 159))),
  E0 5 (some 161) none (.i (.bin .add (.t 160) (.k (I64 1)))),
  E0 6 (some 10) none (.i (.mv (.t 161)))]
def spec_l3Do.r31 : List Ent := [
  E0 0 (some 162) none (.i (.mv (.t 10))),
  E0 1 (some 163) none (.i (.fad 0 (.t 5))),
  E0 2 none none (.i (.store 1 (.t 163) (.t 162)))]
def spec_l3Do.r32 : List Ent := [
  E0 0 (some 164) none (.i (.load false true 4 (.t 5))),
  E0 1 none none (.i (.store 4 (.t 6) (.t 164))),
  E0 2 (some 7) none (.i (.mv (.k (I64 0)))),
  E0 3 (some 8) none (.i (.mv (.k (.dat none (.bool false)))))]
def spec_l3Do.fi : FI := { res := [.c 6 true 4, .t 7, .t 8], code := .seq (.reg 64 4 spec_l3Do.r0) (.seq (.reg 320 7 spec_l3Do.r1) (.seq (.reg 768 4 spec_l3Do.r2) (.seq (.reg 1024 7 spec_l3Do.r3) (.seq (.reg 1472 7 spec_l3Do.r4) (.seq (.seq (.reg 1920 2 spec_l3Do.r5) (.block 0 (.seq (.reg 2048 2 spec_l3Do.r6) (.cond (.t 35) (.seq (.reg 2176 4 spec_l3Do.r7) (.ret)) (.seq (.reg 2432 2 spec_l3Do.r8) (.cond (.t 38) (.reg 2560 11 spec_l3Do.r9) (.seq (.reg 3264 2 spec_l3Do.r10) (.cond (.t 50) (.reg 3392 12 spec_l3Do.r11) (.seq (.seq (.reg 4160 2 spec_l3Do.r12) (.cond (.t 63) (.skip) (.reg 4288 2 spec_l3Do.r13))) (.cond (.t 63) (.reg 4416 8 spec_l3Do.r14) (.seq (.reg 4928 2 spec_l3Do.r15) (.cond (.t 73) (.seq (.seq (.reg 5056 5 spec_l3Do.r16) (.cond (.t 79) (.seq (.reg 5376 4 spec_l3Do.r17) (.ret)) (.skip))) (.reg 5632 13 spec_l3Do.r18)) (.seq (.seq (.reg 6464 2 spec_l3Do.r19) (.cond (.t 93) (.skip) (.reg 6592 2 spec_l3Do.r20))) (.cond (.t 93) (.seq (.seq (.reg 6720 3 spec_l3Do.r21) (.cond (.t 98) (.seq (.reg 6912 4 spec_l3Do.r22) (.ret)) (.skip))) (.seq (.seq (.reg 7168 3 spec_l3Do.r23) (.cond (.t 102) (.seq (.reg 7360 7 spec_l3Do.r24) (.seq (.reg 7808 6 spec_l3Do.r25) (.exit 0))) (.skip))) (.seq (.seq (.reg 8192 7 spec_l3Do.r26) (.cond (.t 120) (.seq (.reg 8640 4 spec_l3Do.r27) (.ret)) (.skip))) (.reg 8896 12 spec_l3Do.r28)))) (.skip))))))))))))))) (.seq (.seq (.reg 9664 23 spec_l3Do.r29) (.cond (.t 155) (.reg 11136 7 spec_l3Do.r30) (.skip))) (.seq (.reg 11584 3 spec_l3Do.r31) (.seq (.reg 11776 4 spec_l3Do.r32) (.ret))))))))) }
attribute [go_sem] spec_l3Do.r0 spec_l3Do.r1 spec_l3Do.r2 spec_l3Do.r3 spec_l3Do.r4 spec_l3Do.r5 spec_l3Do.r6 spec_l3Do.r7 spec_l3Do.r8 spec_l3Do.r9 spec_l3Do.r10 spec_l3Do.r11 spec_l3Do.r12 spec_l3Do.r13 spec_l3Do.r14 spec_l3Do.r15 spec_l3Do.r16 spec_l3Do.r17 spec_l3Do.r18 spec_l3Do.r19 spec_l3Do.r20 spec_l3Do.r21 spec_l3Do.r22 spec_l3Do.r23 spec_l3Do.r24 spec_l3Do.r25 spec_l3Do.r26 spec_l3Do.r27 spec_l3Do.r28 spec_l3Do.r29 spec_l3Do.r30 spec_l3Do.r31 spec_l3Do.r32
theorem spec_l3Do.ok : chkF prog F_spec_l3Do 3 spec_l3Do.fi = true := by kernel_rfl

/-! impl_Step_jumps -/
def impl_Step_jumps.r0 : List Ent := [
  E0 0 (some 1) none (.i (.box (.t 0))),
  E0 1 (some 2) none (.i (.mv (.k (.dat none (.bool false)))))]
def impl_Step_jumps.r1 : List Ent := [
  E0 0 (some 3) none (.i (.fad 0 (.t 1))),
  E0 1 (some 4) none (.i (.load false false 1 (.t 3))),
  E0 2 (some 5) none (.i (.bin .eql (.t 4) (.k (I64 8)))),
  E0 3 (some 6) none (.i (.mv (.t 5))),
  E0 4 (some 7) (some (6, false)) (.i (.fad 0 (.t 1))),
  E0 5 (some 8) (some (6, false)) (.i (.load false false 1 (.t 7))),
  E0 6 (some 9) (some (6, false)) (.i (.bin .eql (.t 8) (.k (I64 9)))),
  E0 7 (some 10) none (.i (.pick (.t 6) (.k (.dat none (.bool true))) (.t 9))),
  E0 8 (some 11) none (.i (.mv (.t 10))),
  E0 9 (some 12) (some (11, false)) (.i (.fad 0 (.t 1))),
  E0 10 (some 13) (some (11, false)) (.i (.load false false 1 (.t 12))),
  E0 11 (some 14) (some (11, false)) (.i (.bin .eql (.t 13) (.k (I64 10)))),
  E0 12 (some 15) none (.i (.pick (.t 11) (.k (.dat none (.bool true))) (.t 14))),
  E0 13 (some 2) none (.i (.mv (.t 15)))]
def impl_Step_jumps.fi : FI := { res := [.t 2], code := .seq (.reg 64 2 impl_Step_jumps.r0) (.seq (.reg 192 14 impl_Step_jumps.r1) (.ret)) }
attribute [go_sem] impl_Step_jumps.r0 impl_Step_jumps.r1
theorem impl_Step_jumps.ok : chkF prog F_impl_Step_jumps 1 impl_Step_jumps.fi = true := by kernel_rfl

/-! impl_GoodProgram -/
def impl_GoodProgram.r0 : List Ent := [
  E0 0 (some 2) none (.i (.mv (.k (.dat none (.bool false)))))]
def impl_GoodProgram.r1 : List Ent := [
  E0 0 (some 5) none (.i (.mv (.t 0))),
  E0 1 (some 6) none (.i (.len (.t 5))),
  E0 2 (some 7) none (.call F_impl_in false (roA [.t 6, .k (I64 1), .k (I64 20)])),
  E0 3 (some 8) none (.i (.un .not (.t 7))),
  E0 4 (some 9) none (.i (.mv (.t 8))),
  E0 5 (some 10) (some (9, false)) (.i (.mv (.t 0))),
  E0 6 (some 11) (some (9, false)) (.i (.mv (.t 0))),
  E0 7 (some 12) (some (9, false)) (.i (.len (.t 11))),
  E0 8 (some 13) (some (9, false)) (.i (.bin .sub (.t 12) (.k (I64 1)))),
  E0 9 (some 14) (some (9, false)) (.i (.iad 6 (.t 10) (.t 13))),
  E0 10 (some 15) (some (9, false)) (.i (.fad 0 (.t 14))),
  E0 11 (some 16) (some (9, false)) (.i (.load false false 1 (.t 15))),
  E0 12 (some 17) (some (9, false)) (.i (.bin .neq (.t 16) (.k (I64 11)))),
  E0 13 (some 18) none (.i (.pick (.t 9) (.k (.dat none (.bool true))) (.t 17)))]
def impl_GoodProgram.r2 : List Ent := [
  E0 0 (some 2) none (.i (.mv (.k (.dat none (.bool false)))))]
def impl_GoodProgram.r3 : List Ent := [
  E0 0 (some 19) none (.i (.mv (.t 0))),
  E0 1 (some 20) none (.i (.len (.t 19))),
  E0 2 (some 21) none (.i (.mv (.k (I64 0))))]
def impl_GoodProgram.r4 : List Ent := [
  E0 0 (some 22) none (.i (.bin .lss (.t 21) (.t 20)))]
def impl_GoodProgram.r5 : List Ent := [
  E0 0 (some 23) none (.i (.mv (.t 21))),
  E0 1 (some 24) none (.i (.iad 6 (.t 19) (.t 21))),
  E0 2 (some 25) none (.i (.load false true 6 (.t 24))),
  E0 3 (some 4) none (.i (.box (.k (.agg [.dat none (.int .i64 0), .dat none (.int .i64 0), .dat none (.int .i64 0), .dat none (.int .i64 0), .dat none (.int .i64 0), .dat none (.int .i64 0)])))),
  E0 4 (some 3) none (.i (.mv (.t 23))),
  E0 5 none none (.i (.store 6 (.t 4) (.t 25)))]
def impl_GoodProgram.r6 : List Ent := [
  E0 0 (some 26) none (.i (.load false true 6 (.t 4))),
  E0 1 (some 27) none (.call F_impl_Step_valid false (roA [.t 26])),
  E0 2 (some 28) none (.i (.un .not (.t 27))),
  E0 3 (some 29) none (.i (.mv (.t 28))),
  E0 4 (some 30) (some (29, false)) (.i (.load false true 6 (.t 4))),
  E0 5 (some 31) (some (29, false)) (.call F_impl_Step_jumps false (roA [.t 30])),
  E0 6 (some 32) (some (29, false)) (.i (.mv (.t 31))),
  E0 7 (some 33) (some (32, true)) (.i (.mv (.t 3))),
  E0 8 (some 34) (some (32, true)) (.i (.fad 5 (.t 4))),
  E0 9 (some 35) (some (32, true)) (.i (.load false false 1 (.t 34))),
  E0 10 (some 36) (some (32, true)) (.i (.bin .add (.t 33) (.t 35))),
  E0 11 (some 37) (some (32, true)) (.i (.bin .add (.t 36) (.k (I64 1)))),
  E0 12 (some 38) (some (32, true)) (.i (.mv (.t 0))),
  E0 13 (some 39) (some (32, true)) (.i (.len (.t 38))),
  E0 14 (some 40) (some (32, true)) (.i (.bin .geq (.t 37) (.t 39))),
  E0 15 (some 41) (some (29, false)) (.i (.pick (.t 32) (.t 40) (.k (.dat none (.bool false))))),
  E0 16 (some 42) none (.i (.pick (.t 29) (.k (.dat none (.bool true))) (.t 41)))]
def impl_GoodProgram.r7 : List Ent := [
  E0 0 (some 2) none (.i (.mv (.k (.dat none (.bool false)))))]
def impl_GoodProgram.r8 : List Ent := [
  E0 0 (some 43) none (.i (.bin .add (.t 21) (.k (I64 1)))),
  E0 1 (some 21) none (.i (.mv (.t 43)))]
def impl_GoodProgram.b0 : KC := .seq (.reg 1280 1 impl_GoodProgram.r4) (.seq (.cond (.t 22) (.skip) (.exit 0)) (.seq (.block 1 (.seq (.reg 1344 6 impl_GoodProgram.r5) (.seq (.reg 1728 17 impl_GoodProgram.r6) (.cond (.t 42) (.seq (.reg 2816 1 impl_GoodProgram.r7) (.ret)) (.skip))))) (.reg 2880 2 impl_GoodProgram.r8)))
def impl_GoodProgram.r9 : List Ent := [
  E0 0 (some 2) none (.i (.mv (.k (.dat none (.bool true)))))]
def impl_GoodProgram.fi : FI := { res := [.t 2], code := .seq (.reg 64 1 impl_GoodProgram.r0) (.seq (.seq (.reg 128 14 impl_GoodProgram.r1) (.cond (.t 18) (.seq (.reg 1024 1 impl_GoodProgram.r2) (.ret)) (.skip))) (.seq (.seq (.reg 1088 3 impl_GoodProgram.r3) (.block 0 (.loop impl_GoodProgram.b0))) (.seq (.reg 3008 1 impl_GoodProgram.r9) (.ret)))) }
attribute [go_sem] impl_GoodProgram.r0 impl_GoodProgram.r1 impl_GoodProgram.r2 impl_GoodProgram.r3 impl_GoodProgram.r4 impl_GoodProgram.r5 impl_GoodProgram.r6 impl_GoodProgram.r7 impl_GoodProgram.r8 impl_GoodProgram.r9
theorem impl_GoodProgram.ok : chkF prog F_impl_GoodProgram 1 impl_GoodProgram.fi = true := by kernel_rfl

/-! impl_isContext_c1 -/
def impl_isContext_c1.r0 : List Ent := [
  E0 0 (some 2) none (.i (.mv (.k (.dat none (.bool false)))))]
def impl_isContext_c1.r1 : List Ent := [
  E0 0 (some 3) none (.i (.mv (.t 0))),
  E0 1 (some 4) none (.call F_impl_in false (roA [.t 3, .k (I64 0), .k (I64 255)])),
  E0 2 (some 5) none (.i (.un .not (.t 4))),
  E0 3 (some 2) none (.i (.mv (.t 5)))]
def impl_isContext_c1.fi : FI := { res := [.t 2], code := .seq (.reg 64 1 impl_isContext_c1.r0) (.seq (.reg 128 4 impl_isContext_c1.r1) (.ret)) }
attribute [go_sem] impl_isContext_c1.r0 impl_isContext_c1.r1
theorem impl_isContext_c1.ok : chkF prog F_impl_isContext_c1 1 impl_isContext_c1.fi = true := by kernel_rfl

/-! impl_isContext -/
def impl_isContext.r0 : List Ent := [
  E0 0 (some 2) none (.i (.mv (.k (.dat none (.bool false)))))]
def impl_isContext.r1 : List Ent := [
  E0 0 (some 3) none (.i (.mv (.t 0))),
  E0 1 (some 4) none (.i (.len (.t 3))),
  E0 2 (some 5) none (.i (.bin .eql (.t 4) (.k (I64 8)))),
  E0 3 (some 6) none (.i (.mv (.t 5))),
  E0 4 (some 7) (some (6, true)) (.i (.mv (.t 0))),
  E0 5 (some 8) (some (6, true)) (.call F_slices_ContainsFunc__sint_int false (roA [.t 7, .k (.clo F_impl_isContext_c1 [])])),
  E0 6 (some 9) (some (6, true)) (.i (.un .not (.t 8))),
  E0 7 (some 10) none (.i (.pick (.t 6) (.t 9) (.k (.dat none (.bool false))))),
  E0 8 (some 2) none (.i (.mv (.t 10)))]
def impl_isContext.fi : FI := { res := [.t 2], code := .seq (.reg 64 1 impl_isContext.r0) (.seq (.reg 128 9 impl_isContext.r1) (.ret)) }
attribute [go_sem] impl_isContext.r0 impl_isContext.r1
theorem impl_isContext.ok : chkF prog F_impl_isContext 1 impl_isContext.fi = true := by kernel_rfl

/-! slices_Clone__sint_int -/
def slices_Clone__sint_int.r0 : List Ent := [
  E0 0 (some 2) none (.i (.mv (.k (.nil 1))))]
def slices_Clone__sint_int.r1 : List Ent := [
  E0 0 (some 3) none (.i (.mv (.t 0))),
  E0 1 (some 4) none (.i (.eqnil false (.t 3)))]
def slices_Clone__sint_int.r2 : List Ent := [
  E0 0 (some 2) none (.i (.mv (.k (.nil 1))))]
def slices_Clone__sint_int.r3 : List Ent := [
  E0 0 (some 5) none (.i (.bsl false 1 [])),
  E0 1 (some 6) none (.i (.mv (.t 0))),
  E0 2 (some 7) none (.i (.app 1 8 (.t 5) (.t 6))),
  E0 3 (some 2) none (.i (.mv (.t 7)))]
def slices_Clone__sint_int.fi : FI := { res := [.t 2], code := .seq (.reg 64 1 slices_Clone__sint_int.r0) (.seq (.seq (.reg 128 2 slices_Clone__sint_int.r1) (.condu (.t 4) (.seq (.reg 256 1 slices_Clone__sint_int.r2) (.ret)) (.skip))) (.seq (.reg 320 4 slices_Clone__sint_int.r3) (.ret))) }
attribute [go_sem] slices_Clone__sint_int.r0 slices_Clone__sint_int.r1 slices_Clone__sint_int.r2 slices_Clone__sint_int.r3
theorem slices_Clone__sint_int.ok : chkF prog F_slices_Clone__sint_int 1 slices_Clone__sint_int.fi = true := by kernel_rfl

/-! impl_Machine_own -/
def impl_Machine_own.r0 : List Ent := [
  E0 0 (some 1) none (.i (.box (.t 0))),
  E0 1 (some 2) none (.i (.box (.k (.agg [.dat none (.int .i64 0), .nil 1, .nil 1, .nil 1]))))]
def impl_Machine_own.r1 : List Ent := [
  EX 0 (some 3) none (.i (.fad 0 (.t 1))) 2 [4, 7, 10] [] false,
  EX 1 (some 4) none (.i (.load false false 1 (.t 3))) 2 [4, 7, 10] [] false,
  ER 2 (some 5) none (.fad 1 (.t 1)),
  ER 3 (some 6) none (.load false false 1 (.t 5)),
  EP 4 (some 7) none (.call F_slices_Clone__sint_int false (roA [.t 6])) 1 false,
  EX 5 (some 8) none (.i (.fad 2 (.t 1))) 2 [4] [] false,
  EX 6 (some 9) none (.i (.load false false 1 (.t 8))) 2 [4] [] false,
  EP 7 (some 10) none (.call F_slices_Clone__sint_int false (roA [.t 9])) 1 false,
  EX 8 (some 11) none (.i (.fad 3 (.t 1))) 2 [4, 7] [] false,
  EX 9 (some 12) none (.i (.load false false 1 (.t 11))) 2 [4, 7] [] false,
  EP 10 (some 13) none (.call F_slices_Clone__sbool_bool false (roA [.t 12])) 1 false,
  E0 11 (some 14) none (.i (.bld [.t 4, .t 7, .t 10, .t 13])),
  E0 12 none none (.i (.store 4 (.t 2) (.t 14)))]
def impl_Machine_own.fi : FI := { res := [.c 2 true 4], code := .seq (.reg 64 2 impl_Machine_own.r0) (.seq (.reg 192 13 impl_Machine_own.r1) (.ret)) }
attribute [go_sem] impl_Machine_own.r0 impl_Machine_own.r1
theorem impl_Machine_own.ok : chkF prog F_impl_Machine_own 1 impl_Machine_own.fi = true := by kernel_rfl

/-! impl_pMachine_step -/
def impl_pMachine_step.r0 : List Ent := [
  E0 0 (some 6) none (.i (.mv (.k (I64 0)))),
  E0 1 (some 7) none (.i (.mv (.k (.dat none (.bool false)))))]
def impl_pMachine_step.r1 : List Ent := [
  E0 0 (some 12) none (.i (.mv (.t 1))),
  E0 1 (some 13) none (.i (.mv (.t 0))),
  E0 2 (some 14) none (.i (.nck (.t 13))),
  E0 3 (some 15) none (.i (.fad 0 (.t 14))),
  E0 4 (some 16) none (.i (.load false false 1 (.t 15))),
  E0 5 (some 17) none (.i (.iad 6 (.t 12) (.t 16))),
  E0 6 (some 18) none (.i (.load false true 6 (.t 17))),
  E0 7 (some 8) none (.i (.box (.k (.agg [.dat none (.int .i64 0), .dat none (.int .i64 0), .dat none (.int .i64 0), .dat none (.int .i64 0), .dat none (.int .i64 0), .dat none (.int .i64 0)])))),
  E0 8 none none (.i (.store 6 (.t 8) (.t 18)))]
def impl_pMachine_step.r2 : List Ent := [
  E0 0 (some 19) none (.i (.mv (.t 0))),
  E0 1 (some 20) none (.i (.nck (.t 19))),
  E0 2 (some 21) none (.i (.fad 0 (.t 20))),
  E0 3 (some 22) none (.i (.load false false 1 (.t 21))),
  E0 4 (some 23) none (.i (.bin .add (.t 22) (.k (I64 1)))),
  E0 5 (some 9) none (.i (.mv (.t 23)))]
def impl_pMachine_step.r3 : List Ent := [
  E0 0 (some 24) none (.i (.mv (.t 0))),
  E0 1 (some 25) none (.i (.nck (.t 24))),
  E0 2 (some 26) none (.i (.fad 1 (.t 25))),
  E0 3 (some 27) none (.i (.load false false 1 (.t 26))),
  E0 4 (some 10) none (.i (.mv (.t 27)))]
def impl_pMachine_step.r4 : List Ent := [
  E0 0 (some 28) none (.i (.fad 0 (.t 8))),
  E0 1 (some 29) none (.i (.load false false 1 (.t 28)))]
def impl_pMachine_step.r5 : List Ent := [
  E0 0 (some 69) none (.i (.bin .eql (.t 29) (.k (I64 1)))),
  E0 1 (some 68) none (.i (.mv (.t 69)))]
def impl_pMachine_step.r6 : List Ent := [
  E0 0 (some 70) none (.i (.mv (.t 10))),
  ER 1 (some 71) none (.fad 2 (.t 8)),
  ER 2 (some 72) none (.load false false 1 (.t 71)),
  ER 3 (some 73) none (.fad 1 (.t 8)),
  ER 4 (some 74) none (.load false false 1 (.t 73)),
  E0 5 (some 75) none (.i (.mv (.t 10))),
  ER 6 (some 76) none (.fad 2 (.t 8)),
  ER 7 (some 77) none (.load false false 1 (.t 76)),
  ER 8 (some 78) none (.iad 1 (.t 75) (.t 77)),
  ER 9 (some 79) none (.load false false 1 (.t 78)),
  E0 10 (some 80) none (.i (.mv (.t 10))),
  ER 11 (some 81) none (.fad 3 (.t 8)),
  ER 12 (some 82) none (.load false false 1 (.t 81)),
  ER 13 (some 83) none (.iad 1 (.t 80) (.t 82)),
  ER 14 (some 84) none (.load false false 1 (.t 83)),
  E2 15 (some 85) none (.call F_impl_do false (roA [.t 74, .t 79, .t 84])),
  E0 16 (some 86) none (.i (.iad 1 (.t 70) (.t 72))),
  E0 17 none none (.i (.store 1 (.t 86) (.t 85)))]
def impl_pMachine_step.r7 : List Ent := [
  E0 0 (some 88) none (.i (.bin .eql (.t 29) (.k (I64 2)))),
  E0 1 (some 87) none (.i (.mv (.t 88)))]
def impl_pMachine_step.r8 : List Ent := [
  E0 0 (some 89) none (.i (.mv (.t 10))),
  ER 1 (some 90) none (.fad 2 (.t 8)),
  ER 2 (some 91) none (.load false false 1 (.t 90)),
  ER 3 (some 92) none (.fad 1 (.t 8)),
  ER 4 (some 93) none (.load false false 1 (.t 92)),
  E0 5 (some 94) none (.i (.mv (.t 10))),
  ER 6 (some 95) none (.fad 2 (.t 8)),
  ER 7 (some 96) none (.load false false 1 (.t 95)),
  ER 8 (some 97) none (.iad 1 (.t 94) (.t 96)),
  ER 9 (some 98) none (.load false false 1 (.t 97)),
  ER 10 (some 99) none (.fad 4 (.t 8)),
  ER 11 (some 100) none (.load false false 1 (.t 99)),
  E2 12 (some 101) none (.call F_impl_do false (roA [.t 93, .t 98, .t 100])),
  E0 13 (some 102) none (.i (.iad 1 (.t 89) (.t 91))),
  E0 14 none none (.i (.store 1 (.t 102) (.t 101)))]
def impl_pMachine_step.r9 : List Ent := [
  E0 0 (some 104) none (.i (.bin .eql (.t 29) (.k (I64 3)))),
  E0 1 (some 103) none (.i (.mv (.t 104)))]
def impl_pMachine_step.r10 : List Ent := [
  E0 0 (some 105) none (.i (.bin .eql (.t 29) (.k (I64 4)))),
  E0 1 (some 103) none (.i (.mv (.t 105)))]
def impl_pMachine_step.r11 : List Ent := [
  E0 0 (some 106) none (.i (.mv (.t 10))),
  E0 1 (some 107) none (.i (.fad 2 (.t 8))),
  E0 2 (some 108) none (.i (.load false false 1 (.t 107))),
  E0 3 (some 109) none (.i (.fad 4 (.t 8))),
  E0 4 (some 110) none (.i (.load false false 1 (.t 109))),
  E0 5 (some 111) none (.i (.iad 1 (.t 106) (.t 108))),
  E0 6 none none (.i (.store 1 (.t 111) (.t 110)))]
def impl_pMachine_step.r12 : List Ent := [
  E0 0 (some 113) none (.i (.bin .eql (.t 29) (.k (I64 5)))),
  E0 1 (some 112) none (.i (.mv (.t 113)))]
def impl_pMachine_step.r13 : List Ent := [
  E0 0 (some 114) none (.i (.mv (.t 10))),
  ER 1 (some 115) none (.fad 3 (.t 8)),
  ER 2 (some 116) none (.load false false 1 (.t 115)),
  ER 3 (some 117) none (.iad 1 (.t 114) (.t 116)),
  ER 4 (some 118) none (.load false false 1 (.t 117)),
  ER 5 (some 119) none (.fad 4 (.t 8)),
  ER 6 (some 120) none (.load false false 1 (.t 119)),
  E0 7 (some 121) none (.i (.bin .add (.t 118) (.t 120))),
  E0 8 (some 11) none (.i (.mv (.t 121)))]
def impl_pMachine_step.r14 : List Ent := [
  E0 0 (some 122) none (.i (.mv (.t 11))),
  E0 1 (some 123) none (.i (.bin .geq (.t 122) (.k (I64 8))))]
def impl_pMachine_step.r15 : List Ent := [
  E0 0 (some 6) none (.i (.mv (.k (I64 1)))),
  E0 1 (some 7) none (.i (.mv (.k (.dat none (.bool false)))))]
def impl_pMachine_step.r16 : List Ent := [
  E0 0 (some 124) none (.i (.mv (.t 10))),
  ER 1 (some 125) none (.fad 2 (.t 8)),
  ER 2 (some 126) none (.load false false 1 (.t 125)),
  E0 3 (some 127) none (.i (.mv (.t 2))),
  E0 4 (some 128) none (.i (.mv (.t 11))),
  ER 5 (some 129) none (.iad 1 (.t 127) (.t 128)),
  ER 6 (some 130) none (.load false false 1 (.t 129)),
  E0 7 (some 131) none (.i (.iad 1 (.t 124) (.t 126))),
  E0 8 none none (.i (.store 1 (.t 131) (.t 130)))]
def impl_pMachine_step.r17 : List Ent := [
  E0 0 (some 133) none (.i (.bin .eql (.t 29) (.k (I64 7)))),
  E0 1 (some 132) none (.i (.mv (.t 133)))]
def impl_pMachine_step.r18 : List Ent := [
  E0 0 (some 134) none (.i (.bin .eql (.t 29) (.k (I64 6)))),
  E0 1 (some 132) none (.i (.mv (.t 134)))]
def impl_pMachine_step.r19 : List Ent := [
  E0 0 (some 135) none (.i (.fad 4 (.t 8))),
  E0 1 (some 136) none (.i (.load false false 1 (.t 135))),
  E0 2 (some 137) none (.i (.bin .geq (.t 136) (.k (I64 16))))]
def impl_pMachine_step.r20 : List Ent := [
  E0 0 (some 6) none (.i (.mv (.k (I64 2)))),
  E0 1 (some 7) none (.i (.mv (.k (.dat none (.bool false)))))]
def impl_pMachine_step.r21 : List Ent := [
  E0 0 (some 138) none (.i (.fad 0 (.t 8))),
  E0 1 (some 139) none (.i (.load false false 1 (.t 138))),
  E0 2 (some 140) none (.i (.bin .eql (.t 139) (.k (I64 7))))]
def impl_pMachine_step.r22 : List Ent := [
  E0 0 (some 141) none (.i (.mv (.t 0))),
  E0 1 (some 142) none (.i (.nck (.t 141))),
  ER 2 (some 143) none (.fad 2 (.t 142)),
  ER 3 (some 144) none (.load false false 1 (.t 143)),
  ER 4 (some 145) none (.fad 4 (.t 8)),
  ER 5 (some 146) none (.load false false 1 (.t 145)),
  E0 6 (some 147) none (.i (.mv (.t 0))),
  E0 7 (some 148) none (.i (.nck (.t 147))),
  ER 8 (some 149) none (.fad 3 (.t 148)),
  ER 9 (some 150) none (.load false false 1 (.t 149)),
  E0 12 (some 153) none (.i (.mv (.t 10))),
  ER 13 (some 154) none (.fad 2 (.t 8)),
  ER 14 (some 155) none (.load false false 1 (.t 154)),
  ER 15 (some 156) none (.iad 1 (.t 153) (.t 155)),
  ER 16 (some 157) none (.load false false 1 (.t 156)),
  ER 17 (some 158) none (.iad 1 (.t 144) (.t 146)),
  EP 18 none none (.i (.store 1 (.t 158) (.t 157))) 0 true,
  EX 10 (some 151) none (.i (.fad 4 (.t 8))) 2 [] [18] false,
  EX 11 (some 152) none (.i (.load false false 1 (.t 151))) 2 [] [18] false,
  E0 19 (some 159) none (.i (.iad 1 (.t 150) (.t 152))),
  E0 20 none none (.i (.store 1 (.t 159) (.k (.dat none (.bool true)))))]
def impl_pMachine_step.r23 : List Ent := [
  E0 0 (some 160) none (.i (.mv (.t 0))),
  E0 1 (some 161) none (.i (.nck (.t 160))),
  ER 2 (some 162) none (.fad 3 (.t 161)),
  ER 3 (some 163) none (.load false false 1 (.t 162)),
  ER 4 (some 164) none (.fad 4 (.t 8)),
  ER 5 (some 165) none (.load false false 1 (.t 164)),
  E0 6 (some 166) none (.i (.iad 1 (.t 163) (.t 165))),
  E0 7 (some 167) none (.i (.load false false 1 (.t 166))),
  E0 8 (some 168) none (.i (.un .not (.t 167)))]
def impl_pMachine_step.r24 : List Ent := [
  E0 0 (some 6) none (.i (.mv (.k (I64 3)))),
  E0 1 (some 7) none (.i (.mv (.k (.dat none (.bool false)))))]
def impl_pMachine_step.r25 : List Ent := [
  E0 0 (some 169) none (.i (.mv (.t 10))),
  ER 1 (some 170) none (.fad 2 (.t 8)),
  ER 2 (some 171) none (.load false false 1 (.t 170)),
  E0 3 (some 172) none (.i (.mv (.t 0))),
  E0 4 (some 173) none (.i (.nck (.t 172))),
  ER 5 (some 174) none (.fad 2 (.t 173)),
  ER 6 (some 175) none (.load false false 1 (.t 174)),
  ER 7 (some 176) none (.fad 4 (.t 8)),
  ER 8 (some 177) none (.load false false 1 (.t 176)),
  ER 9 (some 178) none (.iad 1 (.t 175) (.t 177)),
  ER 10 (some 179) none (.load false false 1 (.t 178)),
  E0 11 (some 180) none (.i (.iad 1 (.t 169) (.t 171))),
  E0 12 none none (.i (.store 1 (.t 180) (.t 179)))]
def impl_pMachine_step.r26 : List Ent := [
  E0 0 (some 182) none (.i (.bin .eql (.t 29) (.k (I64 11)))),
  E0 1 (some 181) none (.i (.mv (.t 182)))]
def impl_pMachine_step.r27 : List Ent := [
  E0 0 (some 6) none (.i (.mv (.k (I64 0)))),
  E0 1 (some 7) none (.i (.mv (.k (.dat none (.bool true)))))]
def impl_pMachine_step.r28 : List Ent := [
  E0 0 (some 184) none (.i (.bin .eql (.t 29) (.k (I64 8)))),
  E0 1 (some 183) none (.i (.mv (.t 184)))]
def impl_pMachine_step.r29 : List Ent := [
  E0 0 (some 185) none (.i (.mv (.t 9))),
  E0 1 (some 186) none (.i (.fad 5 (.t 8))),
  E0 2 (some 187) none (.i (.load false false 1 (.t 186))),
  E0 3 (some 188) none (.i (.bin .add (.t 185) (.t 187))),
  E0 4 (some 9) none (.i (.mv (.t 188)))]
def impl_pMachine_step.r30 : List Ent := [
  E0 0 (some 30) none (.i (.fad 0 (.t 8))),
  E0 1 (some 31) none (.i (.load false false 1 (.t 30))),
  E0 2 (some 32) none (.i (.bin .eql (.t 31) (.k (I64 9)))),
  E0 3 (some 33) none (.i (.mv (.t 32))),
  E0 4 (some 34) (some (33, true)) (.i (.mv (.t 10))),
  ER 5 (some 35) (some (33, true)) (.fad 2 (.t 8)),
  ER 6 (some 36) (some (33, true)) (.load false false 1 (.t 35)),
  ER 7 (some 37) (some (33, true)) (.iad 1 (.t 34) (.t 36)),
  ER 8 (some 38) (some (33, true)) (.load false false 1 (.t 37)),
  E0 9 (some 39) (some (33, true)) (.i (.mv (.t 10))),
  ER 10 (some 40) (some (33, true)) (.fad 3 (.t 8)),
  ER 11 (some 41) (some (33, true)) (.load false false 1 (.t 40)),
  ER 12 (some 42) (some (33, true)) (.iad 1 (.t 39) (.t 41)),
  ER 13 (some 43) (some (33, true)) (.load false false 1 (.t 42)),
  E0 14 (some 44) (some (33, true)) (.i (.bin .eql (.t 38) (.t 43))),
  E0 15 (some 45) none (.i (.pick (.t 33) (.t 44) (.k (.dat none (.bool false))))),
  E0 16 (some 46) none (.i (.mv (.t 45))),
  E0 17 (some 47) (some (46, false)) (.i (.fad 0 (.t 8))),
  E0 18 (some 48) (some (46, false)) (.i (.load false false 1 (.t 47))),
  E0 19 (some 49) (some (46, false)) (.i (.bin .eql (.t 48) (.k (I64 10)))),
  E0 20 (some 50) (some (46, false)) (.i (.mv (.t 49))),
  E0 21 (some 51) (some (50, true)) (.i (.mv (.t 10))),
  ER 22 (some 52) (some (50, true)) (.fad 2 (.t 8)),
  ER 23 (some 53) (some (50, true)) (.load false false 1 (.t 52)),
  ER 24 (some 54) (some (50, true)) (.iad 1 (.t 51) (.t 53)),
  ER 25 (some 55) (some (50, true)) (.load false false 1 (.t 54)),
  E0 26 (some 56) (some (50, true)) (.i (.mv (.t 10))),
  ER 27 (some 57) (some (50, true)) (.fad 3 (.t 8)),
  ER 28 (some 58) (some (50, true)) (.load false false 1 (.t 57)),
  ER 29 (some 59) (some (50, true)) (.iad 1 (.t 56) (.t 58)),
  ER 30 (some 60) (some (50, true)) (.load false false 1 (.t 59)),
  E0 31 (some 61) (some (50, true)) (.i (.bin .lss (.t 55) (.t 60))),
  E0 32 (some 62) (some (46, false)) (.i (.pick (.t 50) (.t 61) (.k (.dat none (.bool false))))),
  E0 33 (some 63) none (.i (.pick (.t 46) (.k (.dat none (.bool true))) (.t 62)))]
def impl_pMachine_step.r31 : List Ent := [
  E0 0 (some 64) none (.i (.mv (.t 9))),
  E0 1 (some 65) none (.i (.fad 5 (.t 8))),
  E0 2 (some 66) none (.i (.load false false 1 (.t 65))),
  E0 3 (some 67) none (.i (.bin .add (.t 64) (.t 66))),
  E0 4 (some 9) none (.i (.mv (.t 67)))]
def impl_pMachine_step.r32 : List Ent := [
  E0 0 (some 189) none (.i (.mv (.t 0))),
  E0 1 (some 190) none (.i (.mv (.t 9))),
  E0 2 (some 191) none (.i (.nck (.t 189))),
  E0 3 (some 192) none (.i (.fad 0 (.t 191))),
  E0 4 none none (.i (.store 1 (.t 192) (.t 190)))]
def impl_pMachine_step.r33 : List Ent := [
  E0 0 (some 6) none (.i (.mv (.k (I64 0)))),
  E0 1 (some 7) none (.i (.mv (.k (.dat none (.bool false)))))]
def impl_pMachine_step.fi : FI := { res := [.t 6, .t 7], code := .seq (.reg 64 2 impl_pMachine_step.r0) (.seq (.reg 192 9 impl_pMachine_step.r1) (.seq (.reg 768 6 impl_pMachine_step.r2) (.seq (.reg 1152 5 impl_pMachine_step.r3) (.seq (.seq (.reg 1472 2 impl_pMachine_step.r4) (.block 0 (.seq (.reg 1600 2 impl_pMachine_step.r5) (.cond (.t 68) (.reg 1728 18 impl_pMachine_step.r6) (.seq (.reg 2880 2 impl_pMachine_step.r7) (.cond (.t 87) (.reg 3008 15 impl_pMachine_step.r8) (.seq (.seq (.reg 3968 2 impl_pMachine_step.r9) (.cond (.t 103) (.skip) (.reg 4096 2 impl_pMachine_step.r10))) (.cond (.t 103) (.reg 4224 7 impl_pMachine_step.r11) (.seq (.reg 4672 2 impl_pMachine_step.r12) (.cond (.t 112) (.seq (.reg 4800 9 impl_pMachine_step.r13) (.seq (.seq (.reg 5376 2 impl_pMachine_step.r14) (.cond (.t 123) (.seq (.reg 5504 2 impl_pMachine_step.r15) (.ret)) (.skip))) (.reg 5632 9 impl_pMachine_step.r16))) (.seq (.seq (.reg 6208 2 impl_pMachine_step.r17) (.cond (.t 132) (.skip) (.reg 6336 2 impl_pMachine_step.r18))) (.cond (.t 132) (.seq (.seq (.reg 6464 3 impl_pMachine_step.r19) (.cond (.t 137) (.seq (.reg 6656 2 impl_pMachine_step.r20) (.ret)) (.skip))) (.seq (.seq (.reg 6784 3 impl_pMachine_step.r21) (.cond (.t 140) (.seq (.reg 6976 21 impl_pMachine_step.r22) (.exit 0)) (.skip))) (.seq (.seq (.reg 8320 9 impl_pMachine_step.r23) (.cond (.t 168) (.seq (.reg 8896 2 impl_pMachine_step.r24) (.ret)) (.skip))) (.reg 9024 13 impl_pMachine_step.r25)))) (.seq (.reg 9856 2 impl_pMachine_step.r26) (.cond (.t 181) (.seq (.reg 9984 2 impl_pMachine_step.r27) (.ret)) (.seq (.reg 10112 2 impl_pMachine_step.r28) (.cond (.t 183) (.reg 10240 5 impl_pMachine_step.r29) (.seq (.reg 10560 34 impl_pMachine_step.r30) (.cond (.t 63) (.reg 12736 5 impl_pMachine_step.r31) (.skip))))))))))))))))))) (.seq (.reg 13056 5 impl_pMachine_step.r32) (.seq (.reg 13376 2 impl_pMachine_step.r33) (.ret))))))) }
attribute [go_sem] impl_pMachine_step.r0 impl_pMachine_step.r1 impl_pMachine_step.r2 impl_pMachine_step.r3 impl_pMachine_step.r4 impl_pMachine_step.r5 impl_pMachine_step.r6 impl_pMachine_step.r7 impl_pMachine_step.r8 impl_pMachine_step.r9 impl_pMachine_step.r10 impl_pMachine_step.r11 impl_pMachine_step.r12 impl_pMachine_step.r13 impl_pMachine_step.r14 impl_pMachine_step.r15 impl_pMachine_step.r16 impl_pMachine_step.r17 impl_pMachine_step.r18 impl_pMachine_step.r19 impl_pMachine_step.r20 impl_pMachine_step.r21 impl_pMachine_step.r22 impl_pMachine_step.r23 impl_pMachine_step.r24 impl_pMachine_step.r25 impl_pMachine_step.r26 impl_pMachine_step.r27 impl_pMachine_step.r28 impl_pMachine_step.r29 impl_pMachine_step.r30 impl_pMachine_step.r31 impl_pMachine_step.r32 impl_pMachine_step.r33
theorem impl_pMachine_step.ok : chkF prog F_impl_pMachine_step 3 impl_pMachine_step.fi = true := by kernel_rfl

/-! impl_DoStep -/
def impl_DoStep.r0 : List Ent := [
  E0 0 (some 5) none (.i (.box (.t 2))),
  E0 1 (some 6) none (.i (.box (.k (.agg [.dat none (.int .i64 0), .nil 1, .nil 1, .nil 1])))),
  E0 2 (some 7) none (.i (.mv (.k (I64 0)))),
  E0 3 (some 8) none (.i (.mv (.k (.dat none (.bool false))))),
  E0 4 (some 9) none (.i (.mv (.k (.dat none (.bool false)))))]
def impl_DoStep.r1 : List Ent := [
  E0 0 (some 13) none (.i (.mv (.t 0))),
  E0 1 (some 14) none (.call F_impl_GoodProgram false (roA [.t 13])),
  E0 2 (some 15) none (.i (.un .not (.t 14))),
  E0 3 (some 16) none (.i (.mv (.t 15))),
  E0 4 (some 17) (some (16, false)) (.i (.mv (.t 1))),
  E0 5 (some 18) (some (16, false)) (.call F_impl_isContext false (roA [.t 17])),
  E0 6 (some 19) (some (16, false)) (.i (.un .not (.t 18))),
  E0 7 (some 20) none (.i (.pick (.t 16) (.k (.dat none (.bool true))) (.t 19))),
  E0 8 (some 21) none (.i (.mv (.t 20))),
  E0 9 (some 22) (some (21, false)) (.i (.load false true 4 (.t 5))),
  E0 10 (some 23) (some (21, false)) (.call F_impl_GoodMachine false (roA [.t 22])),
  E0 11 (some 24) (some (21, false)) (.i (.un .not (.t 23))),
  E0 12 (some 25) none (.i (.pick (.t 21) (.k (.dat none (.bool true))) (.t 24))),
  E0 13 (some 26) none (.i (.mv (.t 25))),
  E0 14 (some 27) (some (26, false)) (.i (.fad 0 (.t 5))),
  E0 15 (some 28) (some (26, false)) (.i (.load false false 1 (.t 27))),
  E0 16 (some 29) (some (26, false)) (.i (.mv (.t 0))),
  E0 17 (some 30) (some (26, false)) (.i (.len (.t 29))),
  E0 18 (some 31) (some (26, false)) (.i (.bin .geq (.t 28) (.t 30))),
  E0 19 (some 32) none (.i (.pick (.t 26) (.k (.dat none (.bool true))) (.t 31)))]
def impl_DoStep.r2 : List Ent := [
  E0 0 (some 33) none (.i (.bld [.k (.dat none (.int .i64 0)), .k (.nil 1), .k (.nil 1), .k (.nil 1)])),
  E0 1 none none (.i (.store 4 (.t 6) (.t 33))),
  E0 2 (some 7) none (.i (.mv (.k (I64 0)))),
  E0 3 (some 8) none (.i (.mv (.k (.dat none (.bool false))))),
  E0 4 (some 9) none (.i (.mv (.k (.dat none (.bool false)))))]
def impl_DoStep.r3 : List Ent := [
  E0 0 (some 34) none (.i (.load false true 4 (.t 5))),
  E0 1 (some 35) none (.call F_impl_Machine_own false (roA [.t 34])),
  E0 2 (some 10) none (.i (.box (.k (.agg [.dat none (.int .i64 0), .nil 1, .nil 1, .nil 1])))),
  E0 3 none none (.i (.store 4 (.t 10) (.t 35)))]
def impl_DoStep.r4 : List Ent := [
  E0 0 (some 37) none (.i (.mv (.t 0))),
  E0 1 (some 38) none (.i (.mv (.t 1))),
  E0 2 (some 39) none (.call F_impl_pMachine_step false [(.io, .t 10), (.ro, .t 37), (.ro, .t 38)]),
  E0 3 (some 36) none (.i (.mv (.t 39))),
  E0 4 (some 40) none (.i (.ext 0 (.t 36))),
  E0 5 (some 41) none (.i (.ext 1 (.t 36))),
  E0 6 (some 11) none (.i (.mv (.t 40))),
  E0 7 (some 12) none (.i (.mv (.t 41)))]
def impl_DoStep.r5 : List Ent := [
  E0 0 (some 42) none (.i (.mv (.t 11))),
  E0 1 (some 43) none (.i (.bin .neq (.t 42) (.k (I64 0))))]
def impl_DoStep.r6 : List Ent := [
  E0 0 (some 44) none (.i (.bld [.k (.dat none (.int .i64 0)), .k (.nil 1), .k (.nil 1), .k (.nil 1)])),
  E0 1 (some 45) none (.i (.mv (.t 11))),
  E0 2 none none (.i (.store 4 (.t 6) (.t 44))),
  E0 3 (some 7) none (.i (.mv (.t 45))),
  E0 4 (some 8) none (.i (.mv (.k (.dat none (.bool false))))),
  E0 5 (some 9) none (.i (.mv (.k (.dat none (.bool true)))))]
def impl_DoStep.r7 : List Ent := [
  E0 0 (some 46) none (.i (.load false true 4 (.t 10))),
  E0 1 (some 47) none (.i (.mv (.t 12))),
  E0 2 none none (.i (.store 4 (.t 6) (.t 46))),
  E0 3 (some 7) none (.i (.mv (.k (I64 0)))),
  E0 4 (some 8) none (.i (.mv (.t 47))),
  E0 5 (some 9) none (.i (.mv (.k (.dat none (.bool true)))))]
def impl_DoStep.fi : FI := { res := [.c 6 true 4, .t 7, .t 8, .t 9], code := .seq (.reg 64 5 impl_DoStep.r0) (.seq (.seq (.reg 384 20 impl_DoStep.r1) (.cond (.t 32) (.seq (.reg 1664 5 impl_DoStep.r2) (.ret)) (.skip))) (.seq (.reg 1984 4 impl_DoStep.r3) (.seq (.reg 2240 8 impl_DoStep.r4) (.seq (.seq (.reg 2752 2 impl_DoStep.r5) (.cond (.t 43) (.seq (.reg 2880 6 impl_DoStep.r6) (.ret)) (.skip))) (.seq (.reg 3264 6 impl_DoStep.r7) (.ret)))))) }
attribute [go_sem] impl_DoStep.r0 impl_DoStep.r1 impl_DoStep.r2 impl_DoStep.r3 impl_DoStep.r4 impl_DoStep.r5 impl_DoStep.r6 impl_DoStep.r7
theorem impl_DoStep.ok : chkF prog F_impl_DoStep 3 impl_DoStep.fi = true := by kernel_rfl

/-! spec_pl1Cur_program -/
def spec_pl1Cur_program.r0 : List Ent := [
  E0 0 (some 2) none (.i (.mv (.k (.nil 6))))]
def spec_pl1Cur_program.r1 : List Ent := [
  E0 0 (some 3) none (.i (.mv (.k (.nil 6))))]
def spec_pl1Cur_program.r2 : List Ent := [
  E0 0 (some 6) none (.i (.mv (.t 0))),
  E0 1 (some 7) none (.call F_spec_pl1Cur_pick true [(.io, .t 6), (.ro, .k (I64 12))]),
  E0 2 (some 4) none (.i (.mv (.t 7)))]
def spec_pl1Cur_program.r3 : List Ent := [
  E0 0 (some 8) none (.i (.mv (.t 0))),
  E0 1 (some 9) none (.call F_spec_pl1Cur_one true [(.io, .t 8), (.ro, .k (I64 30))])]
def spec_pl1Cur_program.r4 : List Ent := [
  E0 0 (some 4) none (.i (.mv (.k (I64 19))))]
def spec_pl1Cur_program.r5 : List Ent := [
  E0 0 (some 5) none (.i (.mv (.k (I64 0))))]
def spec_pl1Cur_program.r6 : List Ent := [
  E0 0 (some 10) none (.i (.mv (.t 5))),
  E0 1 (some 11) none (.i (.mv (.t 4))),
  E0 2 (some 12) none (.i (.bin .lss (.t 10) (.t 11)))]
def spec_pl1Cur_program.r7 : List Ent := [
  E0 0 (some 15) none (.i (.mv (.t 3))),
  E0 1 (some 16) none (.i (.mv (.t 0))),
  E0 2 (some 17) none (.i (.mv (.t 4))),
  E0 3 (some 18) none (.i (.mv (.t 5))),
  E0 4 (some 19) none (.i (.bin .sub (.t 17) (.t 18))),
  E0 5 (some 20) none (.call F_spec_pl1Cur_step true [(.io, .t 16), (.ro, .t 19)]),
  E0 6 (some 21) none (.i (.bsl true 6 [.t 20])),
  E0 7 (some 22) none (.i (.app 6 48 (.t 15) (.t 21))),
  E0 8 (some 3) none (.i (.mv (.t 22)))]
def spec_pl1Cur_program.r8 : List Ent := [
  E0 0 (some 13) none (.i (.mv (.t 5))),
  E0 1 (some 14) none (.i (.bin .add (.t 13) (.k (I64 1)))),
  E0 2 (some 5) none (.i (.mv (.t 14)))]
def spec_pl1Cur_program.b0 : KC := .seq (.seq (.reg 640 3 spec_pl1Cur_program.r6) (.cond (.t 12) (.skip) (.exit 0))) (.seq (.block 1 (.reg 832 9 spec_pl1Cur_program.r7)) (.reg 1408 3 spec_pl1Cur_program.r8))
def spec_pl1Cur_program.r9 : List Ent := [
  E0 0 (some 23) none (.i (.mv (.t 3))),
  E0 1 (some 24) none (.i (.bld [.k (I64 11), .k (.dat none (.int .i64 0)), .k (.dat none (.int .i64 0)), .k (.dat none (.int .i64 0)), .k (.dat none (.int .i64 0)), .k (.dat none (.int .i64 0))])),
  E0 2 (some 25) none (.i (.bsl true 6 [.t 24])),
  E0 3 (some 26) none (.i (.app 6 48 (.t 23) (.t 25))),
  E0 4 (some 3) none (.i (.mv (.t 26)))]
def spec_pl1Cur_program.r10 : List Ent := [
  E0 0 (some 27) none (.i (.mv (.t 0))),
  E0 1 (some 28) none (.call F_spec_pl1Cur_one true [(.io, .t 27), (.ro, .k (I64 30))])]
def spec_pl1Cur_program.r11 : List Ent := [
  E0 0 (some 29) none (.i (.mv (.t 3))),
  E0 1 (some 30) none (.i (.mv (.t 0))),
  E0 2 (some 31) none (.i (.mv (.t 3))),
  E0 3 (some 32) none (.i (.len (.t 31))),
  E0 4 (some 33) none (.call F_spec_pl1Cur_pick true [(.io, .t 30), (.ro, .t 32)]),
  E0 5 (some 34) none (.i (.mv (.t 0))),
  E0 6 (some 35) none (.call F_spec_pl1Cur_pick true [(.io, .t 34), (.ro, .k (I64 13))]),
  E0 7 (some 36) none (.i (.mv (.t 0))),
  E0 8 (some 37) none (.call F_spec_pl1Cur_pick true [(.io, .t 36), (.ro, .k (I64 3))]),
  E0 9 (some 38) none (.i (.mv (.t 0))),
  E0 10 (some 39) none (.call F_spec_pl1Cur_pick true [(.io, .t 38), (.ro, .k (I64 8))]),
  E0 11 (some 40) none (.i (.bin .sub (.t 39) (.k (I64 1)))),
  E0 12 (some 41) none (.i (.mv (.t 0))),
  E0 13 (some 42) none (.i (.bsl false 1 [.k (I64 0), .k (I64 255), .k (I64 256), .k (I64 65536)])),
  E0 14 (some 43) none (.call F_spec_pl1Cur_among true [(.io, .t 41), (.co, .t 42)]),
  E0 15 (some 44) none (.i (.mv (.t 0))),
  E0 16 (some 45) none (.call F_spec_pl1Cur_pick true [(.io, .t 44), (.ro, .k (I64 4))]),
  E0 17 (some 46) none (.i (.bld [.t 35, .t 37, .t 40, .k (.dat none (.int .i64 0)), .t 43, .t 45])),
  E0 18 (some 47) none (.i (.iad 6 (.t 29) (.t 33))),
  E0 19 none none (.i (.store 6 (.t 47) (.t 46)))]
def spec_pl1Cur_program.r12 : List Ent := [
  E0 0 (some 48) none (.i (.mv (.t 3))),
  E0 1 (some 2) none (.i (.mv (.t 48)))]
def spec_pl1Cur_program.fi : FI := { res := [.t 2], code := .seq (.reg 64 1 spec_pl1Cur_program.r0) (.seq (.reg 128 1 spec_pl1Cur_program.r1) (.seq (.reg 192 3 spec_pl1Cur_program.r2) (.seq (.seq (.reg 384 2 spec_pl1Cur_program.r3) (.cond (.t 9) (.reg 512 1 spec_pl1Cur_program.r4) (.skip))) (.seq (.seq (.reg 576 1 spec_pl1Cur_program.r5) (.nrm 3 1280 6 (.block 0 (.loop spec_pl1Cur_program.b0)))) (.seq (.reg 1600 5 spec_pl1Cur_program.r9) (.seq (.seq (.reg 1920 2 spec_pl1Cur_program.r10) (.cond (.t 28) (.reg 2048 20 spec_pl1Cur_program.r11) (.skip))) (.seq (.reg 3328 2 spec_pl1Cur_program.r12) (.ret)))))))) }
attribute [go_sem] spec_pl1Cur_program.r0 spec_pl1Cur_program.r1 spec_pl1Cur_program.r2 spec_pl1Cur_program.r3 spec_pl1Cur_program.r4 spec_pl1Cur_program.r5 spec_pl1Cur_program.r6 spec_pl1Cur_program.r7 spec_pl1Cur_program.r8 spec_pl1Cur_program.r9 spec_pl1Cur_program.r10 spec_pl1Cur_program.r11 spec_pl1Cur_program.r12
theorem spec_pl1Cur_program.ok : chkF prog F_spec_pl1Cur_program 1 spec_pl1Cur_program.fi = true := by kernel_rfl

/-! spec_pl1Cur_ctx -/
def spec_pl1Cur_ctx.r0 : List Ent := [
  E0 0 (some 2) none (.i (.mv (.k (.nil 1))))]
def spec_pl1Cur_ctx.r1 : List Ent := [
  E0 0 (some 3) none (.i (.mv (.k (.nil 1))))]
def spec_pl1Cur_ctx.r2 : List Ent := [
  E0 0 (some 4) none (.i (.mv (.k (I64 0))))]
def spec_pl1Cur_ctx.r3 : List Ent := [
  E0 0 (some 5) none (.i (.mv (.t 4))),
  E0 1 (some 6) none (.i (.bin .lss (.t 5) (.k (I64 8))))]
def spec_pl1Cur_ctx.r4 : List Ent := [
  E0 0 (some 9) none (.i (.mv (.t 3))),
  E0 1 (some 10) none (.i (.mv (.t 0))),
  E0 2 (some 11) none (.i (.mv (.t 0))),
  E0 3 (some 12) none (.call F_spec_pl1Cur_pick true [(.io, .t 11), (.ro, .k (I64 256))]),
  E0 4 (some 13) none (.i (.bsl false 1 [.k (I64 0), .k (I64 1), .k (I64 7), .k (I64 8), .k (I64 255), .t 12])),
  E0 5 (some 14) none (.call F_spec_pl1Cur_among true [(.io, .t 10), (.co, .t 13)]),
  E0 6 (some 15) none (.i (.bsl true 1 [.t 14])),
  E0 7 (some 16) none (.i (.app 1 8 (.t 9) (.t 15))),
  E0 8 (some 3) none (.i (.mv (.t 16)))]
def spec_pl1Cur_ctx.r5 : List Ent := [
  E0 0 (some 7) none (.i (.mv (.t 4))),
  E0 1 (some 8) none (.i (.bin .add (.t 7) (.k (I64 1)))),
  E0 2 (some 4) none (.i (.mv (.t 8)))]
def spec_pl1Cur_ctx.b0 : KC := .seq (.seq (.reg 256 2 spec_pl1Cur_ctx.r3) (.cond (.t 6) (.skip) (.exit 0))) (.seq (.block 1 (.reg 384 9 spec_pl1Cur_ctx.r4)) (.reg 960 3 spec_pl1Cur_ctx.r5))
def spec_pl1Cur_ctx.r6 : List Ent := [
  E0 0 (some 17) none (.i (.mv (.t 0))),
  E0 1 (some 18) none (.call F_spec_pl1Cur_one true [(.io, .t 17), (.ro, .k (I64 30))])]
def spec_pl1Cur_ctx.r7 : List Ent := [
  E0 0 (some 19) none (.i (.mv (.t 3))),
  E0 1 (some 20) none (.i (.mv (.t 0))),
  E0 2 (some 21) none (.i (.bsl false 1 [.k (I64 (-1)), .k (I64 256)])),
  E0 3 (some 22) none (.call F_spec_pl1Cur_among true [(.io, .t 20), (.co, .t 21)]),
  E0 4 (some 23) none (.i (.iad 1 (.t 19) (.k (I64 0)))),
  E0 5 none none (.i (.store 1 (.t 23) (.t 22)))]
def spec_pl1Cur_ctx.r8 : List Ent := [
  E0 0 (some 24) none (.i (.mv (.t 3))),
  E0 1 (some 2) none (.i (.mv (.t 24)))]
def spec_pl1Cur_ctx.fi : FI := { res := [.t 2], code := .seq (.reg 64 1 spec_pl1Cur_ctx.r0) (.seq (.reg 128 1 spec_pl1Cur_ctx.r1) (.seq (.seq (.reg 192 1 spec_pl1Cur_ctx.r2) (.nrm 3 832 1 (.block 0 (.loop spec_pl1Cur_ctx.b0)))) (.seq (.seq (.reg 1152 2 spec_pl1Cur_ctx.r6) (.cond (.t 18) (.reg 1280 6 spec_pl1Cur_ctx.r7) (.skip))) (.seq (.reg 1664 2 spec_pl1Cur_ctx.r8) (.ret))))) }
attribute [go_sem] spec_pl1Cur_ctx.r0 spec_pl1Cur_ctx.r1 spec_pl1Cur_ctx.r2 spec_pl1Cur_ctx.r3 spec_pl1Cur_ctx.r4 spec_pl1Cur_ctx.r5 spec_pl1Cur_ctx.r6 spec_pl1Cur_ctx.r7 spec_pl1Cur_ctx.r8
theorem spec_pl1Cur_ctx.ok : chkF prog F_spec_pl1Cur_ctx 1 spec_pl1Cur_ctx.fi = true := by kernel_rfl

/-! spec_NewMachine -/
def spec_NewMachine.r0 : List Ent := [
  E0 0 (some 0) none (.i (.box (.k (.agg [.dat none (.int .i64 0), .nil 1, .nil 1, .nil 1]))))]
def spec_NewMachine.r1 : List Ent := [
  EX 0 (some 1) none (.i (.mks 1 8 (.int .i64 0) (.k (I64 6)) (.k (I64 6)))) 1 [1, 2] [] false,
  EX 1 (some 2) none (.i (.mks 1 8 (.int .i64 0) (.k (I64 16)) (.k (I64 16)))) 1 [0, 2] [] false,
  EX 2 (some 3) none (.i (.mks 1 1 (.bool false) (.k (I64 16)) (.k (I64 16)))) 1 [0, 1] [] false,
  E0 3 (some 4) none (.i (.bld [.k (.dat none (.int .i64 0)), .t 1, .t 2, .t 3])),
  E0 4 none none (.i (.store 4 (.t 0) (.t 4)))]
def spec_NewMachine.fi : FI := { res := [.c 0 true 4], code := .seq (.reg 64 1 spec_NewMachine.r0) (.seq (.reg 128 5 spec_NewMachine.r1) (.ret)) }
attribute [go_sem] spec_NewMachine.r0 spec_NewMachine.r1
theorem spec_NewMachine.ok : chkF prog F_spec_NewMachine 0 spec_NewMachine.fi = true := by kernel_rfl

/-! laws_sameInts -/
def laws_sameInts.r0 : List Ent := [
  E0 0 (some 4) none (.i (.mv (.k (.dat none (.bool false)))))]
def laws_sameInts.r1 : List Ent := [
  E0 0 (some 6) none (.i (.mv (.t 0))),
  E0 1 (some 7) none (.i (.len (.t 6))),
  E0 2 (some 8) none (.i (.mv (.t 1))),
  E0 3 (some 9) none (.i (.len (.t 8))),
  E0 4 (some 10) none (.i (.bin .neq (.t 7) (.t 9)))]
def laws_sameInts.r2 : List Ent := [
  E0 0 (some 4) none (.i (.mv (.k (.dat none (.bool false)))))]
def laws_sameInts.r3 : List Ent := [
  E0 0 (some 11) none (.i (.mv (.t 0))),
  E0 1 (some 12) none (.i (.len (.t 11))),
  E0 2 (some 13) none (.i (.mv (.k (I64 0))))]
def laws_sameInts.r4 : List Ent := [
  E0 0 (some 14) none (.i (.bin .lss (.t 13) (.t 12)))]
def laws_sameInts.r5 : List Ent := [
  E0 0 (some 15) none (.i (.mv (.t 13))),
  E0 1 (some 5) none (.i (.mv (.t 15)))]
def laws_sameInts.r6 : List Ent := [
  E0 0 (some 16) none (.i (.mv (.t 0))),
  E0 1 (some 17) none (.i (.mv (.t 5))),
  ER 2 (some 18) none (.iad 1 (.t 16) (.t 17)),
  ER 3 (some 19) none (.load false false 1 (.t 18)),
  E0 4 (some 20) none (.i (.mv (.t 1))),
  E0 5 (some 21) none (.i (.mv (.t 5))),
  ER 6 (some 22) none (.iad 1 (.t 20) (.t 21)),
  ER 7 (some 23) none (.load false false 1 (.t 22)),
  E0 8 (some 24) none (.i (.bin .neq (.t 19) (.t 23)))]
def laws_sameInts.r7 : List Ent := [
  E0 0 (some 4) none (.i (.mv (.k (.dat none (.bool false)))))]
def laws_sameInts.r8 : List Ent := [
  E0 0 (some 25) none (.i (.bin .add (.t 13) (.k (I64 1)))),
  E0 1 (some 13) none (.i (.mv (.t 25)))]
def laws_sameInts.b0 : KC := .seq (.reg 704 1 laws_sameInts.r4) (.seq (.cond (.t 14) (.skip) (.exit 0)) (.seq (.block 1 (.seq (.reg 768 2 laws_sameInts.r5) (.seq (.reg 896 9 laws_sameInts.r6) (.cond (.t 24) (.seq (.reg 1472 1 laws_sameInts.r7) (.ret)) (.skip))))) (.reg 1536 2 laws_sameInts.r8)))
def laws_sameInts.r9 : List Ent := [
  E0 0 (some 4) none (.i (.mv (.k (.dat none (.bool true)))))]
def laws_sameInts.fi : FI := { res := [.t 4], code := .seq (.reg 64 1 laws_sameInts.r0) (.seq (.seq (.reg 128 5 laws_sameInts.r1) (.cond (.t 10) (.seq (.reg 448 1 laws_sameInts.r2) (.ret)) (.skip))) (.seq (.seq (.reg 512 3 laws_sameInts.r3) (.block 0 (.loop laws_sameInts.b0))) (.seq (.reg 1664 1 laws_sameInts.r9) (.ret)))) }
attribute [go_sem] laws_sameInts.r0 laws_sameInts.r1 laws_sameInts.r2 laws_sameInts.r3 laws_sameInts.r4 laws_sameInts.r5 laws_sameInts.r6 laws_sameInts.r7 laws_sameInts.r8 laws_sameInts.r9
theorem laws_sameInts.ok : chkF prog F_laws_sameInts 2 laws_sameInts.fi = true := by kernel_rfl

/-! spec_DrawTraceOf -/
def spec_DrawTraceOf.r0 : List Ent := [
  E0 0 (some 2) none (.i (.mv (.k (.nil 6)))),
  E0 1 (some 3) none (.i (.mv (.k (.nil 1))))]
def spec_DrawTraceOf.r1 : List Ent := [
  E0 0 (some 5) none (.i (.mv (.t 0))),
  E0 1 (some 6) none (.i (.bld [.t 5, .k (.dat none (.int .i64 0)), .k (.dat none (.int .u64 0))])),
  E0 2 (some 7) none (.i (.box (.t 6))),
  E0 3 (some 4) none (.i (.mv (.t 7)))]
def spec_DrawTraceOf.r2 : List Ent := [
  E0 0 (some 8) none (.i (.mv (.t 4))),
  E0 1 (some 9) none (.call F_spec_pl1Cur_program true [(.io, .t 8)]),
  E0 2 (some 10) none (.i (.mv (.t 4))),
  E0 3 (some 11) none (.call F_spec_pl1Cur_ctx true [(.io, .t 10)]),
  E0 4 (some 2) none (.i (.mv (.t 9))),
  E0 5 (some 3) none (.i (.mv (.t 11)))]
def spec_DrawTraceOf.fi : FI := { res := [.t 2, .t 3], code := .seq (.reg 64 2 spec_DrawTraceOf.r0) (.seq (.reg 192 4 spec_DrawTraceOf.r1) (.seq (.reg 448 6 spec_DrawTraceOf.r2) (.ret))) }
attribute [go_sem] spec_DrawTraceOf.r0 spec_DrawTraceOf.r1 spec_DrawTraceOf.r2
theorem spec_DrawTraceOf.ok : chkF prog F_spec_DrawTraceOf 1 spec_DrawTraceOf.fi = true := by kernel_rfl

/-! impl_NewMachine -/
def impl_NewMachine.r0 : List Ent := [
  E0 0 (some 0) none (.i (.box (.k (.agg [.dat none (.int .i64 0), .nil 1, .nil 1, .nil 1]))))]
def impl_NewMachine.r1 : List Ent := [
  EX 0 (some 1) none (.i (.mks 1 8 (.int .i64 0) (.k (I64 6)) (.k (I64 6)))) 1 [1, 2] [] false,
  EX 1 (some 2) none (.i (.mks 1 8 (.int .i64 0) (.k (I64 16)) (.k (I64 16)))) 1 [0, 2] [] false,
  EX 2 (some 3) none (.i (.mks 1 1 (.bool false) (.k (I64 16)) (.k (I64 16)))) 1 [0, 1] [] false,
  E0 3 (some 4) none (.i (.bld [.k (.dat none (.int .i64 0)), .t 1, .t 2, .t 3])),
  E0 4 none none (.i (.store 4 (.t 0) (.t 4)))]
def impl_NewMachine.fi : FI := { res := [.c 0 true 4], code := .seq (.reg 64 1 impl_NewMachine.r0) (.seq (.reg 128 5 impl_NewMachine.r1) (.ret)) }
attribute [go_sem] impl_NewMachine.r0 impl_NewMachine.r1
theorem impl_NewMachine.ok : chkF prog F_impl_NewMachine 0 impl_NewMachine.fi = true := by kernel_rfl

/-! impl_run -/
def impl_run.r0 : List Ent := [
  E0 0 (some 6) none (.i (.mv (.k (I64 0)))),
  E0 1 (some 7) none (.i (.mv (.k (I64 0)))),
  E0 2 (some 8) none (.i (.mv (.k (I64 0)))),
  E0 3 (some 9) none (.i (.mv (.k (.nil 1))))]
def impl_run.r1 : List Ent := [
  E0 0 (some 15) none (.call F_impl_NewMachine false (roA [])),
  E0 1 (some 10) none (.i (.box (.k (.agg [.dat none (.int .i64 0), .nil 1, .nil 1, .nil 1])))),
  E0 2 none none (.i (.store 4 (.t 10) (.t 15)))]
def impl_run.r2 : List Ent := [
  E0 0 (some 11) none (.i (.mv (.k (.nil 1))))]
def impl_run.r3 : List Ent := [
  E0 0 (some 16) none (.i (.fad 0 (.t 10))),
  E0 1 (some 17) none (.i (.load false false 1 (.t 16))),
  E0 2 (some 12) none (.i (.mv (.t 17)))]
def impl_run.r4 : List Ent := [
  E0 0 (some 18) none (.i (.mv (.t 11))),
  E0 1 (some 19) none (.i (.len (.t 18))),
  E0 2 (some 20) none (.i (.mv (.t 2))),
  E0 3 (some 21) none (.i (.bin .eql (.t 19) (.t 20)))]
def impl_run.r5 : List Ent := [
  E0 0 (some 22) none (.i (.mv (.t 12))),
  E0 1 (some 23) none (.i (.mv (.t 11))),
  E0 2 (some 6) none (.i (.mv (.k (I64 0)))),
  E0 3 (some 7) none (.i (.mv (.k (I64 4)))),
  E0 4 (some 8) none (.i (.mv (.t 22))),
  E0 5 (some 9) none (.i (.mv (.t 23)))]
def impl_run.r6 : List Ent := [
  E0 0 (some 24) none (.i (.mv (.t 11))),
  E0 1 (some 25) none (.i (.mv (.t 12))),
  E0 2 (some 26) none (.i (.bsl true 1 [.t 25])),
  E0 3 (some 27) none (.i (.app 1 8 (.t 24) (.t 26))),
  E0 4 (some 11) none (.i (.mv (.t 27)))]
def impl_run.r7 : List Ent := [
  E0 0 (some 29) none (.i (.mv (.t 0))),
  E0 1 (some 30) none (.i (.mv (.t 1))),
  E0 2 (some 31) none (.call F_impl_pMachine_step false [(.io, .t 10), (.ro, .t 29), (.ro, .t 30)]),
  E0 3 (some 28) none (.i (.mv (.t 31))),
  E0 4 (some 32) none (.i (.ext 0 (.t 28))),
  E0 5 (some 33) none (.i (.ext 1 (.t 28))),
  E0 6 (some 13) none (.i (.mv (.t 32))),
  E0 7 (some 14) none (.i (.mv (.t 33)))]
def impl_run.r8 : List Ent := [
  E0 0 (some 34) none (.i (.mv (.t 13))),
  E0 1 (some 35) none (.i (.bin .neq (.t 34) (.k (I64 0))))]
def impl_run.r9 : List Ent := [
  E0 0 (some 36) none (.i (.mv (.t 13))),
  E0 1 (some 37) none (.i (.mv (.t 12))),
  E0 2 (some 38) none (.i (.mv (.t 11))),
  E0 3 (some 6) none (.i (.mv (.k (I64 0)))),
  E0 4 (some 7) none (.i (.mv (.t 36))),
  E0 5 (some 8) none (.i (.mv (.t 37))),
  E0 6 (some 9) none (.i (.mv (.t 38)))]
def impl_run.r10 : List Ent := [
  E0 0 (some 39) none (.i (.mv (.t 14)))]
def impl_run.r11 : List Ent := [
  E0 0 (some 40) none (.i (.fad 1 (.t 10))),
  E0 1 (some 41) none (.i (.load false false 1 (.t 40))),
  E0 2 (some 42) none (.i (.iad 1 (.t 41) (.k (I64 0)))),
  E0 3 (some 43) none (.i (.load false false 1 (.t 42))),
  E0 4 (some 44) none (.i (.mv (.t 11))),
  E0 5 (some 6) none (.i (.mv (.t 43))),
  E0 6 (some 7) none (.i (.mv (.k (I64 0)))),
  E0 7 (some 8) none (.i (.mv (.k (I64 0)))),
  E0 8 (some 9) none (.i (.mv (.t 44)))]
def impl_run.b0 : KC := .block 1 (.seq (.reg 576 3 impl_run.r3) (.seq (.seq (.reg 768 4 impl_run.r4) (.cond (.t 21) (.seq (.reg 1024 6 impl_run.r5) (.ret)) (.skip))) (.seq (.reg 1408 5 impl_run.r6) (.seq (.reg 1728 8 impl_run.r7) (.seq (.seq (.reg 2240 2 impl_run.r8) (.cond (.t 35) (.seq (.reg 2368 7 impl_run.r9) (.ret)) (.skip))) (.seq (.reg 2816 1 impl_run.r10) (.cond (.t 39) (.seq (.reg 2880 9 impl_run.r11) (.ret)) (.skip))))))))
def impl_run.fi : FI := { res := [.t 6, .t 7, .t 8, .t 9], code := .seq (.reg 64 4 impl_run.r0) (.seq (.reg 320 3 impl_run.r1) (.seq (.reg 512 1 impl_run.r2) (.nrm 11 1600 1 (.block 0 (.loop impl_run.b0))))) }
attribute [go_sem] impl_run.r0 impl_run.r1 impl_run.r2 impl_run.r3 impl_run.r4 impl_run.r5 impl_run.r6 impl_run.r7 impl_run.r8 impl_run.r9 impl_run.r10 impl_run.r11
theorem impl_run.ok : chkF prog F_impl_run 3 impl_run.fi = true := by kernel_rfl

/-! impl_TraceOf -/
def impl_TraceOf.r0 : List Ent := [
  E0 0 (some 4) none (.i (.mv (.k (.nil 1)))),
  E0 1 (some 5) none (.i (.mv (.k (I64 0)))),
  E0 2 (some 6) none (.i (.mv (.k (.dat none (.bool false)))))]
def impl_TraceOf.r1 : List Ent := [
  E0 0 (some 11) none (.i (.mv (.t 0))),
  E0 1 (some 12) none (.call F_impl_GoodProgram false (roA [.t 11])),
  E0 2 (some 13) none (.i (.un .not (.t 12))),
  E0 3 (some 14) none (.i (.mv (.t 13))),
  E0 4 (some 15) (some (14, false)) (.i (.mv (.t 1))),
  E0 5 (some 16) (some (14, false)) (.call F_impl_isContext false (roA [.t 15])),
  E0 6 (some 17) (some (14, false)) (.i (.un .not (.t 16))),
  E0 7 (some 18) none (.i (.pick (.t 14) (.k (.dat none (.bool true))) (.t 17)))]
def impl_TraceOf.r2 : List Ent := [
  E0 0 (some 4) none (.i (.mv (.k (.nil 1)))),
  E0 1 (some 5) none (.i (.mv (.k (I64 0)))),
  E0 2 (some 6) none (.i (.mv (.k (.dat none (.bool false)))))]
def impl_TraceOf.r3 : List Ent := [
  E0 0 (some 20) none (.i (.mv (.t 0))),
  E0 1 (some 21) none (.i (.mv (.t 1))),
  E0 2 (some 22) none (.call F_impl_run false (roA [.t 20, .t 21, .k (I64 100)])),
  E0 3 (some 19) none (.i (.mv (.t 22))),
  E0 4 (some 23) none (.i (.ext 0 (.t 19))),
  E0 5 (some 24) none (.i (.ext 1 (.t 19))),
  E0 6 (some 25) none (.i (.ext 2 (.t 19))),
  E0 7 (some 26) none (.i (.ext 3 (.t 19))),
  E0 8 (some 7) none (.i (.mv (.t 23))),
  E0 9 (some 8) none (.i (.mv (.t 24))),
  E0 10 (some 9) none (.i (.mv (.t 25))),
  E0 11 (some 10) none (.i (.mv (.t 26)))]
def impl_TraceOf.r4 : List Ent := [
  E0 0 (some 27) none (.i (.mv (.t 10))),
  E0 1 (some 28) none (.i (.mv (.t 8))),
  E0 2 (some 4) none (.i (.mv (.t 27))),
  E0 3 (some 5) none (.i (.mv (.t 28))),
  E0 4 (some 6) none (.i (.mv (.k (.dat none (.bool true)))))]
def impl_TraceOf.fi : FI := { res := [.t 4, .t 5, .t 6], code := .seq (.reg 64 3 impl_TraceOf.r0) (.seq (.seq (.reg 256 8 impl_TraceOf.r1) (.cond (.t 18) (.seq (.reg 768 3 impl_TraceOf.r2) (.ret)) (.skip))) (.seq (.reg 960 12 impl_TraceOf.r3) (.seq (.reg 1728 5 impl_TraceOf.r4) (.ret)))) }
attribute [go_sem] impl_TraceOf.r0 impl_TraceOf.r1 impl_TraceOf.r2 impl_TraceOf.r3 impl_TraceOf.r4
theorem impl_TraceOf.ok : chkF prog F_impl_TraceOf 2 impl_TraceOf.fi = true := by kernel_rfl

/-! impl_FaultFree -/
def impl_FaultFree.r0 : List Ent := [
  E0 0 (some 4) none (.i (.mv (.k (.dat none (.bool false))))),
  E0 1 (some 5) none (.i (.mv (.k (.dat none (.bool false)))))]
def impl_FaultFree.r1 : List Ent := [
  E0 0 (some 10) none (.i (.mv (.t 0))),
  E0 1 (some 11) none (.i (.mv (.t 1))),
  E0 2 (some 12) none (.call F_impl_TraceOf false (roA [.t 10, .t 11])),
  E0 3 (some 9) none (.i (.mv (.t 12))),
  E0 4 (some 13) none (.i (.ext 0 (.t 9))),
  E0 5 (some 14) none (.i (.ext 1 (.t 9))),
  E0 6 (some 15) none (.i (.ext 2 (.t 9))),
  E0 7 (some 6) none (.i (.mv (.t 13))),
  E0 8 (some 7) none (.i (.mv (.t 14))),
  E0 9 (some 8) none (.i (.mv (.t 15)))]
def impl_FaultFree.r2 : List Ent := [
  E0 0 (some 16) none (.i (.mv (.t 8))),
  E0 1 (some 17) none (.i (.mv (.t 16))),
  E0 2 (some 18) (some (17, true)) (.i (.mv (.t 7))),
  E0 3 (some 19) (some (17, true)) (.i (.bin .eql (.t 18) (.k (I64 0)))),
  E0 4 (some 20) none (.i (.pick (.t 17) (.t 19) (.k (.dat none (.bool false))))),
  E0 5 (some 21) none (.i (.mv (.t 8))),
  E0 6 (some 4) none (.i (.mv (.t 20))),
  E0 7 (some 5) none (.i (.mv (.t 21)))]
def impl_FaultFree.fi : FI := { res := [.t 4, .t 5], code := .seq (.reg 64 2 impl_FaultFree.r0) (.seq (.reg 192 10 impl_FaultFree.r1) (.seq (.reg 832 8 impl_FaultFree.r2) (.ret))) }
attribute [go_sem] impl_FaultFree.r0 impl_FaultFree.r1 impl_FaultFree.r2
theorem impl_FaultFree.ok : chkF prog F_impl_FaultFree 2 impl_FaultFree.fi = true := by kernel_rfl

/-! spec_l3Run -/
def spec_l3Run.r0 : List Ent := [
  E0 0 (some 6) none (.i (.mv (.k (I64 0)))),
  E0 1 (some 7) none (.i (.mv (.k (I64 0)))),
  E0 2 (some 8) none (.i (.mv (.k (I64 0)))),
  E0 3 (some 9) none (.i (.mv (.k (.nil 1))))]
def spec_l3Run.r1 : List Ent := [
  E0 0 (some 15) none (.call F_spec_NewMachine false (roA [])),
  E0 1 (some 10) none (.i (.box (.k (.agg [.dat none (.int .i64 0), .nil 1, .nil 1, .nil 1])))),
  E0 2 none none (.i (.store 4 (.t 10) (.t 15)))]
def spec_l3Run.r2 : List Ent := [
  E0 0 (some 11) none (.i (.mv (.k (.nil 1))))]
def spec_l3Run.r3 : List Ent := [
  E0 0 (some 16) none (.i (.mv (.t 2))),
  E0 1 (some 17) none (.i (.bin .gtr (.t 16) (.k (I64 0))))]
def spec_l3Run.r4 : List Ent := [
  E0 0 (some 20) none (.i (.mv (.t 11))),
  E0 1 (some 21) none (.i (.fad 0 (.t 10))),
  E0 2 (some 22) none (.i (.load false false 1 (.t 21))),
  E0 3 (some 23) none (.i (.bsl true 1 [.t 22])),
  E0 4 (some 24) none (.i (.app 1 8 (.t 20) (.t 23))),
  E0 5 (some 11) none (.i (.mv (.t 24)))]
def spec_l3Run.r5 : List Ent := [
  E0 0 (some 26) none (.i (.mv (.t 0))),
  E0 1 (some 27) none (.i (.mv (.t 1))),
  E0 2 (some 28) none (.i (.load false true 4 (.t 10))),
  E0 3 (some 29) none (.call F_spec_l3Do false [(.ro, .t 26), (.ro, .t 27), (.co, .t 28)]),
  E0 4 (some 25) none (.i (.mv (.t 29))),
  E0 5 (some 30) none (.i (.ext 0 (.t 25))),
  E0 6 (some 31) none (.i (.ext 1 (.t 25))),
  E0 7 (some 32) none (.i (.ext 2 (.t 25))),
  E0 8 (some 12) none (.i (.box (.k (.agg [.dat none (.int .i64 0), .nil 1, .nil 1, .nil 1])))),
  E0 9 none none (.i (.store 4 (.t 12) (.t 30))),
  E0 10 (some 13) none (.i (.mv (.t 31))),
  E0 11 (some 14) none (.i (.mv (.t 32)))]
def spec_l3Run.r6 : List Ent := [
  E0 0 (some 33) none (.i (.mv (.t 13))),
  E0 1 (some 34) none (.i (.bin .gtr (.t 33) (.k (I64 0))))]
def spec_l3Run.r7 : List Ent := [
  E0 0 (some 35) none (.i (.mv (.t 13))),
  E0 1 (some 36) none (.i (.fad 0 (.t 10))),
  E0 2 (some 37) none (.i (.load false false 1 (.t 36))),
  E0 3 (some 38) none (.i (.mv (.t 11))),
  E0 4 (some 6) none (.i (.mv (.k (I64 0)))),
  E0 5 (some 7) none (.i (.mv (.t 35))),
  E0 6 (some 8) none (.i (.mv (.t 37))),
  E0 7 (some 9) none (.i (.mv (.t 38)))]
def spec_l3Run.r8 : List Ent := [
  E0 0 (some 39) none (.i (.mv (.t 14)))]
def spec_l3Run.r9 : List Ent := [
  E0 0 (some 40) none (.i (.fad 1 (.t 12))),
  E0 1 (some 41) none (.i (.load false false 1 (.t 40))),
  E0 2 (some 42) none (.i (.iad 1 (.t 41) (.k (I64 0)))),
  E0 3 (some 43) none (.i (.load false false 1 (.t 42))),
  E0 4 (some 44) none (.i (.mv (.t 11))),
  E0 5 (some 6) none (.i (.mv (.t 43))),
  E0 6 (some 7) none (.i (.mv (.k (I64 0)))),
  E0 7 (some 8) none (.i (.mv (.k (I64 0)))),
  E0 8 (some 9) none (.i (.mv (.t 44)))]
def spec_l3Run.r10 : List Ent := [
  E0 0 (some 45) none (.i (.load false true 4 (.t 12))),
  E0 1 none none (.i (.store 4 (.t 10) (.t 45)))]
def spec_l3Run.r11 : List Ent := [
  E0 0 (some 18) none (.i (.mv (.t 2))),
  E0 1 (some 19) none (.i (.bin .sub (.t 18) (.k (I64 1)))),
  E0 2 (some 2) none (.i (.mv (.t 19)))]
def spec_l3Run.b0 : KC := .seq (.seq (.reg 576 2 spec_l3Run.r3) (.cond (.t 17) (.skip) (.exit 0))) (.seq (.block 1 (.seq (.reg 704 6 spec_l3Run.r4) (.seq (.reg 1088 12 spec_l3Run.r5) (.seq (.seq (.reg 1856 2 spec_l3Run.r6) (.cond (.t 34) (.seq (.reg 1984 8 spec_l3Run.r7) (.ret)) (.skip))) (.seq (.seq (.reg 2496 1 spec_l3Run.r8) (.cond (.t 39) (.seq (.reg 2560 9 spec_l3Run.r9) (.ret)) (.skip))) (.reg 3136 2 spec_l3Run.r10)))))) (.reg 3264 3 spec_l3Run.r11))
def spec_l3Run.r12 : List Ent := [
  E0 0 (some 46) none (.i (.fad 0 (.t 10))),
  E0 1 (some 47) none (.i (.load false false 1 (.t 46))),
  E0 2 (some 48) none (.i (.mv (.t 11))),
  E0 3 (some 6) none (.i (.mv (.k (I64 0)))),
  E0 4 (some 7) none (.i (.mv (.k (I64 4)))),
  E0 5 (some 8) none (.i (.mv (.t 47))),
  E0 6 (some 9) none (.i (.mv (.t 48)))]
def spec_l3Run.fi : FI := { res := [.t 6, .t 7, .t 8, .t 9], code := .seq (.reg 64 4 spec_l3Run.r0) (.seq (.reg 320 3 spec_l3Run.r1) (.seq (.reg 512 1 spec_l3Run.r2) (.seq (.nrm 11 960 1 (.block 0 (.loop spec_l3Run.b0))) (.seq (.reg 3456 7 spec_l3Run.r12) (.ret))))) }
attribute [go_sem] spec_l3Run.r0 spec_l3Run.r1 spec_l3Run.r2 spec_l3Run.r3 spec_l3Run.r4 spec_l3Run.r5 spec_l3Run.r6 spec_l3Run.r7 spec_l3Run.r8 spec_l3Run.r9 spec_l3Run.r10 spec_l3Run.r11 spec_l3Run.r12
theorem spec_l3Run.ok : chkF prog F_spec_l3Run 3 spec_l3Run.fi = true := by kernel_rfl

/-! spec_RunProgram -/
def spec_RunProgram.r0 : List Ent := [
  E0 0 (some 6) none (.i (.mv (.k (I64 0)))),
  E0 1 (some 7) none (.i (.mv (.k (I64 0)))),
  E0 2 (some 8) none (.i (.mv (.k (I64 0)))),
  E0 3 (some 9) none (.i (.mv (.k (.dat none (.bool false)))))]
def spec_RunProgram.r1 : List Ent := [
  E0 0 (some 14) none (.i (.mv (.t 0))),
  E0 1 (some 15) none (.call F_spec_GoodProgram false (roA [.t 14])),
  E0 2 (some 16) none (.i (.un .not (.t 15))),
  E0 3 (some 17) none (.i (.mv (.t 16))),
  E0 4 (some 18) (some (17, false)) (.i (.mv (.t 1))),
  E0 5 (some 19) (some (17, false)) (.call F_spec_l3Ctx false (roA [.t 18])),
  E0 6 (some 20) (some (17, false)) (.i (.un .not (.t 19))),
  E0 7 (some 21) none (.i (.pick (.t 17) (.k (.dat none (.bool true))) (.t 20))),
  E0 8 (some 22) none (.i (.mv (.t 21))),
  E0 9 (some 23) (some (22, false)) (.i (.mv (.t 2))),
  E0 10 (some 24) (some (22, false)) (.call F_spec_l1In false (roA [.t 23, .k (I64 0), .k (I64 100)])),
  E0 11 (some 25) (some (22, false)) (.i (.un .not (.t 24))),
  E0 12 (some 26) none (.i (.pick (.t 22) (.k (.dat none (.bool true))) (.t 25)))]
def spec_RunProgram.r2 : List Ent := [
  E0 0 (some 6) none (.i (.mv (.k (I64 0)))),
  E0 1 (some 7) none (.i (.mv (.k (I64 0)))),
  E0 2 (some 8) none (.i (.mv (.k (I64 0)))),
  E0 3 (some 9) none (.i (.mv (.k (.dat none (.bool false)))))]
def spec_RunProgram.r3 : List Ent := [
  E0 0 (some 28) none (.i (.mv (.t 0))),
  E0 1 (some 29) none (.i (.mv (.t 1))),
  E0 2 (some 30) none (.i (.mv (.t 2))),
  E0 3 (some 31) none (.call F_spec_l3Run false (roA [.t 28, .t 29, .t 30])),
  E0 4 (some 27) none (.i (.mv (.t 31))),
  E0 5 (some 32) none (.i (.ext 0 (.t 27))),
  E0 6 (some 33) none (.i (.ext 1 (.t 27))),
  E0 7 (some 34) none (.i (.ext 2 (.t 27))),
  E0 8 (some 35) none (.i (.ext 3 (.t 27))),
  E0 9 (some 10) none (.i (.mv (.t 32))),
  E0 10 (some 11) none (.i (.mv (.t 33))),
  E0 11 (some 12) none (.i (.mv (.t 34))),
  E0 12 (some 13) none (.i (.mv (.t 35)))]
def spec_RunProgram.r4 : List Ent := [
  E0 0 (some 36) none (.i (.mv (.t 10))),
  E0 1 (some 37) none (.i (.mv (.t 11))),
  E0 2 (some 38) none (.i (.mv (.t 12))),
  E0 3 (some 6) none (.i (.mv (.t 36))),
  E0 4 (some 7) none (.i (.mv (.t 37))),
  E0 5 (some 8) none (.i (.mv (.t 38))),
  E0 6 (some 9) none (.i (.mv (.k (.dat none (.bool true)))))]
def spec_RunProgram.fi : FI := { res := [.t 6, .t 7, .t 8, .t 9], code := .seq (.reg 64 4 spec_RunProgram.r0) (.seq (.seq (.reg 320 13 spec_RunProgram.r1) (.cond (.t 26) (.seq (.reg 1152 4 spec_RunProgram.r2) (.ret)) (.skip))) (.seq (.reg 1408 13 spec_RunProgram.r3) (.seq (.reg 2240 7 spec_RunProgram.r4) (.ret)))) }
attribute [go_sem] spec_RunProgram.r0 spec_RunProgram.r1 spec_RunProgram.r2 spec_RunProgram.r3 spec_RunProgram.r4
theorem spec_RunProgram.ok : chkF prog F_spec_RunProgram 3 spec_RunProgram.fi = true := by kernel_rfl

/-! spec_TraceOf -/
def spec_TraceOf.r0 : List Ent := [
  E0 0 (some 4) none (.i (.mv (.k (.nil 1)))),
  E0 1 (some 5) none (.i (.mv (.k (I64 0)))),
  E0 2 (some 6) none (.i (.mv (.k (.dat none (.bool false)))))]
def spec_TraceOf.r1 : List Ent := [
  E0 0 (some 11) none (.i (.mv (.t 0))),
  E0 1 (some 12) none (.call F_spec_GoodProgram false (roA [.t 11])),
  E0 2 (some 13) none (.i (.un .not (.t 12))),
  E0 3 (some 14) none (.i (.mv (.t 13))),
  E0 4 (some 15) (some (14, false)) (.i (.mv (.t 1))),
  E0 5 (some 16) (some (14, false)) (.call F_spec_l3Ctx false (roA [.t 15])),
  E0 6 (some 17) (some (14, false)) (.i (.un .not (.t 16))),
  E0 7 (some 18) none (.i (.pick (.t 14) (.k (.dat none (.bool true))) (.t 17)))]
def spec_TraceOf.r2 : List Ent := [
  E0 0 (some 4) none (.i (.mv (.k (.nil 1)))),
  E0 1 (some 5) none (.i (.mv (.k (I64 0)))),
  E0 2 (some 6) none (.i (.mv (.k (.dat none (.bool false)))))]
def spec_TraceOf.r3 : List Ent := [
  E0 0 (some 20) none (.i (.mv (.t 0))),
  E0 1 (some 21) none (.i (.mv (.t 1))),
  E0 2 (some 22) none (.call F_spec_l3Run false (roA [.t 20, .t 21, .k (I64 100)])),
  E0 3 (some 19) none (.i (.mv (.t 22))),
  E0 4 (some 23) none (.i (.ext 0 (.t 19))),
  E0 5 (some 24) none (.i (.ext 1 (.t 19))),
  E0 6 (some 25) none (.i (.ext 2 (.t 19))),
  E0 7 (some 26) none (.i (.ext 3 (.t 19))),
  E0 8 (some 7) none (.i (.mv (.t 23))),
  E0 9 (some 8) none (.i (.mv (.t 24))),
  E0 10 (some 9) none (.i (.mv (.t 25))),
  E0 11 (some 10) none (.i (.mv (.t 26)))]
def spec_TraceOf.r4 : List Ent := [
  E0 0 (some 27) none (.i (.mv (.t 10))),
  E0 1 (some 28) none (.i (.mv (.t 8))),
  E0 2 (some 4) none (.i (.mv (.t 27))),
  E0 3 (some 5) none (.i (.mv (.t 28))),
  E0 4 (some 6) none (.i (.mv (.k (.dat none (.bool true)))))]
def spec_TraceOf.fi : FI := { res := [.t 4, .t 5, .t 6], code := .seq (.reg 64 3 spec_TraceOf.r0) (.seq (.seq (.reg 256 8 spec_TraceOf.r1) (.cond (.t 18) (.seq (.reg 768 3 spec_TraceOf.r2) (.ret)) (.skip))) (.seq (.reg 960 12 spec_TraceOf.r3) (.seq (.reg 1728 5 spec_TraceOf.r4) (.ret)))) }
attribute [go_sem] spec_TraceOf.r0 spec_TraceOf.r1 spec_TraceOf.r2 spec_TraceOf.r3 spec_TraceOf.r4
theorem spec_TraceOf.ok : chkF prog F_spec_TraceOf 2 spec_TraceOf.fi = true := by kernel_rfl

/-! impl_RunProgram -/
def impl_RunProgram.r0 : List Ent := [
  E0 0 (some 6) none (.i (.mv (.k (I64 0)))),
  E0 1 (some 7) none (.i (.mv (.k (I64 0)))),
  E0 2 (some 8) none (.i (.mv (.k (I64 0)))),
  E0 3 (some 9) none (.i (.mv (.k (.dat none (.bool false)))))]
def impl_RunProgram.r1 : List Ent := [
  E0 0 (some 14) none (.i (.mv (.t 0))),
  E0 1 (some 15) none (.call F_impl_GoodProgram false (roA [.t 14])),
  E0 2 (some 16) none (.i (.un .not (.t 15))),
  E0 3 (some 17) none (.i (.mv (.t 16))),
  E0 4 (some 18) (some (17, false)) (.i (.mv (.t 1))),
  E0 5 (some 19) (some (17, false)) (.call F_impl_isContext false (roA [.t 18])),
  E0 6 (some 20) (some (17, false)) (.i (.un .not (.t 19))),
  E0 7 (some 21) none (.i (.pick (.t 17) (.k (.dat none (.bool true))) (.t 20))),
  E0 8 (some 22) none (.i (.mv (.t 21))),
  E0 9 (some 23) (some (22, false)) (.i (.mv (.t 2))),
  E0 10 (some 24) (some (22, false)) (.call F_impl_in false (roA [.t 23, .k (I64 0), .k (I64 100)])),
  E0 11 (some 25) (some (22, false)) (.i (.un .not (.t 24))),
  E0 12 (some 26) none (.i (.pick (.t 22) (.k (.dat none (.bool true))) (.t 25)))]
def impl_RunProgram.r2 : List Ent := [
  E0 0 (some 6) none (.i (.mv (.k (I64 0)))),
  E0 1 (some 7) none (.i (.mv (.k (I64 0)))),
  E0 2 (some 8) none (.i (.mv (.k (I64 0)))),
  E0 3 (some 9) none (.i (.mv (.k (.dat none (.bool false)))))]
def impl_RunProgram.r3 : List Ent := [
  E0 0 (some 28) none (.i (.mv (.t 0))),
  E0 1 (some 29) none (.i (.mv (.t 1))),
  E0 2 (some 30) none (.i (.mv (.t 2))),
  E0 3 (some 31) none (.call F_impl_run false (roA [.t 28, .t 29, .t 30])),
  E0 4 (some 27) none (.i (.mv (.t 31))),
  E0 5 (some 32) none (.i (.ext 0 (.t 27))),
  E0 6 (some 33) none (.i (.ext 1 (.t 27))),
  E0 7 (some 34) none (.i (.ext 2 (.t 27))),
  E0 8 (some 35) none (.i (.ext 3 (.t 27))),
  E0 9 (some 10) none (.i (.mv (.t 32))),
  E0 10 (some 11) none (.i (.mv (.t 33))),
  E0 11 (some 12) none (.i (.mv (.t 34))),
  E0 12 (some 13) none (.i (.mv (.t 35)))]
def impl_RunProgram.r4 : List Ent := [
  E0 0 (some 36) none (.i (.mv (.t 10))),
  E0 1 (some 37) none (.i (.mv (.t 11))),
  E0 2 (some 38) none (.i (.mv (.t 12))),
  E0 3 (some 6) none (.i (.mv (.t 36))),
  E0 4 (some 7) none (.i (.mv (.t 37))),
  E0 5 (some 8) none (.i (.mv (.t 38))),
  E0 6 (some 9) none (.i (.mv (.k (.dat none (.bool true)))))]
def impl_RunProgram.fi : FI := { res := [.t 6, .t 7, .t 8, .t 9], code := .seq (.reg 64 4 impl_RunProgram.r0) (.seq (.seq (.reg 320 13 impl_RunProgram.r1) (.cond (.t 26) (.seq (.reg 1152 4 impl_RunProgram.r2) (.ret)) (.skip))) (.seq (.reg 1408 13 impl_RunProgram.r3) (.seq (.reg 2240 7 impl_RunProgram.r4) (.ret)))) }
attribute [go_sem] impl_RunProgram.r0 impl_RunProgram.r1 impl_RunProgram.r2 impl_RunProgram.r3 impl_RunProgram.r4
theorem impl_RunProgram.ok : chkF prog F_impl_RunProgram 3 impl_RunProgram.fi = true := by kernel_rfl

/-! spec_DrawRunProgram -/
def spec_DrawRunProgram.r0 : List Ent := [
  E0 0 (some 2) none (.i (.mv (.k (.nil 6)))),
  E0 1 (some 3) none (.i (.mv (.k (.nil 1)))),
  E0 2 (some 4) none (.i (.mv (.k (I64 0))))]
def spec_DrawRunProgram.r1 : List Ent := [
  E0 0 (some 6) none (.i (.mv (.t 0))),
  E0 1 (some 7) none (.i (.bld [.t 6, .k (.dat none (.int .i64 0)), .k (.dat none (.int .u64 0))])),
  E0 2 (some 8) none (.i (.box (.t 7))),
  E0 3 (some 5) none (.i (.mv (.t 8)))]
def spec_DrawRunProgram.r2 : List Ent := [
  E0 0 (some 9) none (.i (.mv (.t 5))),
  E0 1 (some 10) none (.call F_spec_pl1Cur_program true [(.io, .t 9)]),
  E0 2 (some 11) none (.i (.mv (.t 5))),
  E0 3 (some 12) none (.call F_spec_pl1Cur_ctx true [(.io, .t 11)]),
  E0 4 (some 13) none (.i (.mv (.t 5))),
  E0 5 (some 14) none (.i (.bsl false 1 [.k (I64 (-1)), .k (I64 0), .k (I64 1), .k (I64 3), .k (I64 20), .k (I64 100), .k (I64 100), .k (I64 101)])),
  E0 6 (some 15) none (.call F_spec_pl1Cur_among true [(.io, .t 13), (.co, .t 14)]),
  E0 7 (some 2) none (.i (.mv (.t 10))),
  E0 8 (some 3) none (.i (.mv (.t 12))),
  E0 9 (some 4) none (.i (.mv (.t 15)))]
def spec_DrawRunProgram.fi : FI := { res := [.t 2, .t 3, .t 4], code := .seq (.reg 64 3 spec_DrawRunProgram.r0) (.seq (.reg 256 4 spec_DrawRunProgram.r1) (.seq (.reg 512 10 spec_DrawRunProgram.r2) (.ret))) }
attribute [go_sem] spec_DrawRunProgram.r0 spec_DrawRunProgram.r1 spec_DrawRunProgram.r2
theorem spec_DrawRunProgram.ok : chkF prog F_spec_DrawRunProgram 1 spec_DrawRunProgram.fi = true := by kernel_rfl

/-! laws_FnMachine -/
def laws_FnMachine.r0 : List Ent := [
  E0 0 (some 4) none (.i (.mv (.k (.dat none (.bool false)))))]
def laws_FnMachine.r1 : List Ent := [
  E0 0 (some 38) none (.i (.mv (.t 0))),
  E0 1 (some 39) none (.i (.len (.t 38))),
  E0 2 (some 40) none (.i (.mv (.t 1))),
  E0 3 (some 41) none (.i (.len (.t 40))),
  E0 4 (some 42) none (.i (.bin .add (.t 39) (.t 41))),
  E0 5 (some 43) none (.i (.bin .gtr (.t 42) (.k (I64 1048576))))]
def laws_FnMachine.r2 : List Ent := [
  E0 0 (some 4) none (.i (.mv (.k (.dat none (.bool true)))))]
def laws_FnMachine.r3 : List Ent := [
  E0 0 (some 45) none (.i (.mv (.t 0))),
  E0 1 (some 46) none (.call F_spec_DrawTraceOf false (roA [.t 45])),
  E0 2 (some 44) none (.i (.mv (.t 46))),
  E0 3 (some 47) none (.i (.ext 0 (.t 44))),
  E0 4 (some 48) none (.i (.ext 1 (.t 44))),
  E0 5 (some 5) none (.i (.mv (.t 47))),
  E0 6 (some 6) none (.i (.mv (.t 48)))]
def laws_FnMachine.r4 : List Ent := [
  E0 0 (some 50) none (.i (.mv (.t 5))),
  E0 1 (some 51) none (.i (.mv (.t 6))),
  E0 2 (some 52) none (.call F_impl_TraceOf false (roA [.t 50, .t 51])),
  E0 3 (some 49) none (.i (.mv (.t 52))),
  E0 4 (some 53) none (.i (.ext 0 (.t 49))),
  E0 5 (some 54) none (.i (.ext 1 (.t 49))),
  E0 6 (some 55) none (.i (.ext 2 (.t 49))),
  E0 7 (some 7) none (.i (.mv (.t 53))),
  E0 8 (some 8) none (.i (.mv (.t 54))),
  E0 9 (some 9) none (.i (.mv (.t 55)))]
def laws_FnMachine.r5 : List Ent := [
  E0 0 (some 57) none (.i (.mv (.t 5))),
  E0 1 (some 58) none (.i (.mv (.t 6))),
  E0 2 (some 59) none (.call F_spec_TraceOf false (roA [.t 57, .t 58])),
  E0 3 (some 56) none (.i (.mv (.t 59))),
  E0 4 (some 60) none (.i (.ext 0 (.t 56))),
  E0 5 (some 61) none (.i (.ext 1 (.t 56))),
  E0 6 (some 62) none (.i (.ext 2 (.t 56))),
  E0 7 (some 10) none (.i (.mv (.t 60))),
  E0 8 (some 11) none (.i (.mv (.t 61))),
  E0 9 (some 12) none (.i (.mv (.t 62)))]
def laws_FnMachine.r6 : List Ent := [
  E0 0 (some 63) none (.i (.mv (.t 9))),
  E0 1 (some 64) none (.i (.mv (.t 12))),
  E0 2 (some 65) none (.i (.eqb true (.t 63) (.t 64))),
  E0 3 (some 66) none (.i (.mv (.t 65))),
  E0 4 (some 67) (some (66, false)) (.i (.mv (.t 8))),
  E0 5 (some 68) (some (66, false)) (.i (.mv (.t 11))),
  E0 6 (some 69) (some (66, false)) (.i (.bin .neq (.t 67) (.t 68))),
  E0 7 (some 70) none (.i (.pick (.t 66) (.k (.dat none (.bool true))) (.t 69))),
  E0 8 (some 71) none (.i (.mv (.t 70))),
  E0 9 (some 72) (some (71, false)) (.i (.mv (.t 7))),
  E0 10 (some 73) (some (71, false)) (.i (.mv (.t 10))),
  E0 11 (some 74) (some (71, false)) (.call F_laws_sameInts false (roA [.t 72, .t 73])),
  E0 12 (some 75) (some (71, false)) (.i (.un .not (.t 74))),
  E0 13 (some 76) none (.i (.pick (.t 71) (.k (.dat none (.bool true))) (.t 75)))]
def laws_FnMachine.r7 : List Ent := [
  E0 0 (some 4) none (.i (.mv (.k (.dat none (.bool false)))))]
def laws_FnMachine.r8 : List Ent := [
  E0 0 (some 77) none (.i (.mv (.t 9)))]
def laws_FnMachine.r9 : List Ent := [
  E0 0 (some 78) none (.call F_impl_NewMachine false (roA [])),
  E0 1 (some 13) none (.i (.box (.k (.agg [.dat none (.int .i64 0), .nil 1, .nil 1, .nil 1])))),
  E0 2 none none (.i (.store 4 (.t 13) (.t 78)))]
def laws_FnMachine.r10 : List Ent := [
  E0 0 (some 80) none (.i (.mv (.t 5))),
  E0 1 (some 81) none (.i (.mv (.t 6))),
  E0 2 (some 82) none (.call F_impl_RunProgram false (roA [.t 80, .t 81, .k (I64 100)])),
  E0 3 (some 79) none (.i (.mv (.t 82))),
  E0 4 (some 83) none (.i (.ext 0 (.t 79))),
  E0 5 (some 84) none (.i (.ext 1 (.t 79))),
  E0 6 (some 85) none (.i (.ext 2 (.t 79))),
  E0 7 (some 86) none (.i (.ext 3 (.t 79))),
  E0 8 (some 14) none (.i (.mv (.t 83))),
  E0 9 (some 15) none (.i (.mv (.t 84))),
  E0 10 (some 16) none (.i (.mv (.t 85))),
  E0 11 (some 17) none (.i (.mv (.t 86)))]
def laws_FnMachine.r11 : List Ent := [
  E0 0 (some 88) none (.i (.mv (.t 5))),
  E0 1 (some 89) none (.i (.mv (.t 6))),
  E0 2 (some 90) none (.call F_impl_FaultFree false (roA [.t 88, .t 89])),
  E0 3 (some 87) none (.i (.mv (.t 90))),
  E0 4 (some 91) none (.i (.ext 0 (.t 87))),
  E0 5 (some 92) none (.i (.ext 1 (.t 87))),
  E0 6 (some 18) none (.i (.mv (.t 91))),
  E0 7 (some 19) none (.i (.mv (.t 92)))]
def laws_FnMachine.r12 : List Ent := [
  E0 0 (some 93) none (.i (.mv (.t 17))),
  E0 1 (some 94) none (.i (.un .not (.t 93))),
  E0 2 (some 95) none (.i (.mv (.t 94))),
  E0 3 (some 96) (some (95, false)) (.i (.mv (.t 15))),
  E0 4 (some 97) (some (95, false)) (.i (.mv (.t 8))),
  E0 5 (some 98) (some (95, false)) (.i (.bin .neq (.t 96) (.t 97))),
  E0 6 (some 99) none (.i (.pick (.t 95) (.k (.dat none (.bool true))) (.t 98))),
  E0 7 (some 100) none (.i (.mv (.t 99))),
  E0 8 (some 101) (some (100, false)) (.i (.mv (.t 19))),
  E0 9 (some 102) (some (100, false)) (.i (.un .not (.t 101))),
  E0 10 (some 103) none (.i (.pick (.t 100) (.k (.dat none (.bool true))) (.t 102))),
  E0 11 (some 104) none (.i (.mv (.t 103))),
  E0 12 (some 105) (some (104, false)) (.i (.mv (.t 18))),
  E0 13 (some 106) (some (104, false)) (.i (.mv (.t 15))),
  E0 14 (some 107) (some (104, false)) (.i (.bin .eql (.t 106) (.k (I64 0)))),
  E0 15 (some 108) (some (104, false)) (.i (.eqb true (.t 105) (.t 107))),
  E0 16 (some 109) none (.i (.pick (.t 104) (.k (.dat none (.bool true))) (.t 108))),
  E0 17 (some 110) none (.i (.mv (.t 109))),
  E0 18 (some 111) (some (110, false)) (.i (.mv (.t 7))),
  E0 19 (some 112) (some (110, false)) (.i (.len (.t 111))),
  E0 20 (some 113) (some (110, false)) (.i (.mv (.t 5))),
  E0 21 (some 114) (some (110, false)) (.i (.len (.t 113))),
  E0 22 (some 115) (some (110, false)) (.i (.bin .gtr (.t 112) (.t 114))),
  E0 23 (some 116) none (.i (.pick (.t 110) (.k (.dat none (.bool true))) (.t 115))),
  E0 24 (some 117) none (.i (.mv (.t 116))),
  E0 25 (some 118) (some (117, false)) (.i (.mv (.t 15))),
  E0 26 (some 119) (some (117, false)) (.i (.bin .eql (.t 118) (.k (I64 4)))),
  E0 27 (some 120) none (.i (.pick (.t 117) (.k (.dat none (.bool true))) (.t 119)))]
def laws_FnMachine.r13 : List Ent := [
  E0 0 (some 4) none (.i (.mv (.k (.dat none (.bool false)))))]
def laws_FnMachine.r14 : List Ent := [
  E0 0 (some 121) none (.i (.mv (.t 7))),
  E0 1 (some 122) none (.i (.len (.t 121))),
  E0 2 (some 123) none (.i (.mv (.k (I64 0))))]
def laws_FnMachine.r15 : List Ent := [
  E0 0 (some 124) none (.i (.bin .lss (.t 123) (.t 122)))]
def laws_FnMachine.r16 : List Ent := [
  E0 0 (some 125) none (.i (.mv (.t 123))),
  E0 1 (some 126) none (.i (.iad 1 (.t 121) (.t 123))),
  E0 2 (some 127) none (.i (.load false false 1 (.t 126))),
  E0 3 (some 20) none (.i (.mv (.t 125))),
  E0 4 (some 21) none (.i (.mv (.t 127)))]
def laws_FnMachine.r17 : List Ent := [
  E0 0 (some 129) none (.i (.mv (.t 5))),
  E0 1 (some 130) none (.i (.mv (.t 6))),
  E0 2 (some 131) none (.i (.load false true 4 (.t 13))),
  E0 3 (some 132) none (.call F_impl_DoStep false (roA [.t 129, .t 130, .t 131])),
  E0 4 (some 128) none (.i (.mv (.t 132))),
  E0 5 (some 133) none (.i (.ext 0 (.t 128))),
  E0 6 (some 134) none (.i (.ext 1 (.t 128))),
  E0 7 (some 135) none (.i (.ext 2 (.t 128))),
  E0 8 (some 136) none (.i (.ext 3 (.t 128))),
  E0 9 (some 22) none (.i (.box (.k (.agg [.dat none (.int .i64 0), .nil 1, .nil 1, .nil 1])))),
  E0 10 none none (.i (.store 4 (.t 22) (.t 133))),
  E0 11 (some 23) none (.i (.mv (.t 134))),
  E0 12 (some 24) none (.i (.mv (.t 135))),
  E0 13 (some 25) none (.i (.mv (.t 136)))]
def laws_FnMachine.r18 : List Ent := [
  E0 0 (some 137) none (.i (.mv (.t 20))),
  E0 1 (some 138) none (.i (.mv (.t 7))),
  E0 2 (some 139) none (.i (.len (.t 138))),
  E0 3 (some 140) none (.i (.bin .sub (.t 139) (.k (I64 1)))),
  E0 4 (some 141) none (.i (.bin .eql (.t 137) (.t 140))),
  E0 5 (some 26) none (.i (.mv (.t 141)))]
def laws_FnMachine.r19 : List Ent := [
  E0 0 (some 142) none (.i (.mv (.t 25))),
  E0 1 (some 143) none (.i (.un .not (.t 142))),
  E0 2 (some 144) none (.i (.mv (.t 143))),
  E0 3 (some 145) (some (144, false)) (.i (.fad 0 (.t 13))),
  E0 4 (some 146) (some (144, false)) (.i (.load false false 1 (.t 145))),
  E0 5 (some 147) (some (144, false)) (.i (.mv (.t 21))),
  E0 6 (some 148) (some (144, false)) (.i (.bin .neq (.t 146) (.t 147))),
  E0 7 (some 149) none (.i (.pick (.t 144) (.k (.dat none (.bool true))) (.t 148))),
  E0 8 (some 150) none (.i (.mv (.t 149))),
  E0 9 (some 151) (some (150, false)) (.i (.mv (.t 24))),
  E0 10 (some 152) (some (150, false)) (.i (.mv (.t 26))),
  E0 11 (some 153) (some (150, false)) (.i (.mv (.t 152))),
  E0 12 (some 154) (some (153, true)) (.i (.mv (.t 15))),
  E0 13 (some 155) (some (153, true)) (.i (.bin .eql (.t 154) (.k (I64 0)))),
  E0 14 (some 156) (some (150, false)) (.i (.pick (.t 153) (.t 155) (.k (.dat none (.bool false))))),
  E0 15 (some 157) (some (150, false)) (.i (.eqb true (.t 151) (.t 156))),
  E0 16 (some 158) none (.i (.pick (.t 150) (.k (.dat none (.bool true))) (.t 157))),
  E0 17 (some 159) none (.i (.mv (.t 158))),
  E0 18 (some 160) (some (159, false)) (.i (.mv (.t 23))),
  E0 19 (some 161) (some (159, false)) (.i (.bin .gtr (.t 160) (.k (I64 0)))),
  E0 20 (some 162) (some (159, false)) (.i (.mv (.t 26))),
  E0 21 (some 163) (some (159, false)) (.i (.mv (.t 162))),
  E0 22 (some 164) (some (163, true)) (.i (.mv (.t 15))),
  E0 23 (some 165) (some (163, true)) (.i (.bin .gtr (.t 164) (.k (I64 0)))),
  E0 24 (some 166) (some (159, false)) (.i (.pick (.t 163) (.t 165) (.k (.dat none (.bool false))))),
  E0 25 (some 167) (some (159, false)) (.i (.eqb true (.t 161) (.t 166))),
  E0 26 (some 168) none (.i (.pick (.t 159) (.k (.dat none (.bool true))) (.t 167))),
  E0 27 (some 169) none (.i (.mv (.t 168))),
  E0 28 (some 170) (some (169, false)) (.i (.mv (.t 23))),
  E0 29 (some 171) (some (169, false)) (.i (.bin .gtr (.t 170) (.k (I64 0)))),
  E0 30 (some 172) (some (169, false)) (.i (.mv (.t 171))),
  E0 31 (some 173) (some (172, true)) (.i (.mv (.t 23))),
  E0 32 (some 174) (some (172, true)) (.i (.mv (.t 15))),
  E0 33 (some 175) (some (172, true)) (.i (.bin .neq (.t 173) (.t 174))),
  E0 34 (some 176) (some (172, true)) (.i (.mv (.t 175))),
  E0 35 (some 177) (some (176, false)) (.i (.mv (.t 16))),
  E0 36 (some 178) (some (176, false)) (.i (.mv (.t 21))),
  E0 37 (some 179) (some (176, false)) (.i (.bin .neq (.t 177) (.t 178))),
  E0 38 (some 180) (some (172, true)) (.i (.pick (.t 176) (.k (.dat none (.bool true))) (.t 179))),
  E0 39 (some 181) (some (169, false)) (.i (.pick (.t 172) (.t 180) (.k (.dat none (.bool false))))),
  E0 40 (some 182) none (.i (.pick (.t 169) (.k (.dat none (.bool true))) (.t 181)))]
def laws_FnMachine.r20 : List Ent := [
  E0 0 (some 4) none (.i (.mv (.k (.dat none (.bool false)))))]
def laws_FnMachine.r21 : List Ent := [
  E0 0 (some 183) none (.i (.mv (.t 24))),
  E0 1 (some 184) none (.i (.mv (.t 183))),
  E0 2 (some 185) (some (184, true)) (.i (.fad 1 (.t 22))),
  E0 3 (some 186) (some (184, true)) (.i (.load false false 1 (.t 185))),
  E0 4 (some 187) (some (184, true)) (.i (.len (.t 186))),
  E0 5 (some 188) (some (184, true)) (.i (.bin .eql (.t 187) (.k (I64 0)))),
  E0 6 (some 189) (some (184, true)) (.i (.mv (.t 188))),
  E0 7 (some 190) (some (189, false)) (.i (.fad 1 (.t 22))),
  E0 8 (some 191) (some (189, false)) (.i (.load false false 1 (.t 190))),
  E0 9 (some 192) (some (189, false)) (.i (.iad 1 (.t 191) (.k (I64 0)))),
  E0 10 (some 193) (some (189, false)) (.i (.load false false 1 (.t 192))),
  E0 11 (some 194) (some (189, false)) (.i (.mv (.t 14))),
  E0 12 (some 195) (some (189, false)) (.i (.bin .neq (.t 193) (.t 194))),
  E0 13 (some 196) (some (184, true)) (.i (.pick (.t 189) (.k (.dat none (.bool true))) (.t 195))),
  E0 14 (some 197) none (.i (.pick (.t 184) (.t 196) (.k (.dat none (.bool false)))))]
def laws_FnMachine.r22 : List Ent := [
  E0 0 (some 4) none (.i (.mv (.k (.dat none (.bool false)))))]
def laws_FnMachine.r23 : List Ent := [
  E0 0 (some 198) none (.i (.load false true 4 (.t 22))),
  E0 1 none none (.i (.store 4 (.t 13) (.t 198)))]
def laws_FnMachine.r24 : List Ent := [
  E0 0 (some 199) none (.i (.bin .add (.t 123) (.k (I64 1)))),
  E0 1 (some 123) none (.i (.mv (.t 199)))]
def laws_FnMachine.b0 : KC := .seq (.reg 6848 1 laws_FnMachine.r15) (.seq (.cond (.t 124) (.skip) (.exit 0)) (.seq (.block 1 (.seq (.reg 6912 5 laws_FnMachine.r16) (.seq (.reg 7232 14 laws_FnMachine.r17) (.seq (.reg 8128 6 laws_FnMachine.r18) (.seq (.seq (.reg 8512 41 laws_FnMachine.r19) (.cond (.t 182) (.seq (.reg 11136 1 laws_FnMachine.r20) (.ret)) (.skip))) (.seq (.seq (.reg 11200 15 laws_FnMachine.r21) (.cond (.t 197) (.seq (.reg 12160 1 laws_FnMachine.r22) (.ret)) (.skip))) (.reg 12224 2 laws_FnMachine.r23))))))) (.reg 12352 2 laws_FnMachine.r24)))
def laws_FnMachine.r25 : List Ent := [
  E0 0 (some 201) none (.i (.mv (.t 1))),
  E0 1 (some 202) none (.call F_spec_DrawRunProgram false (roA [.t 201])),
  E0 2 (some 200) none (.i (.mv (.t 202))),
  E0 3 (some 203) none (.i (.ext 0 (.t 200))),
  E0 4 (some 204) none (.i (.ext 1 (.t 200))),
  E0 5 (some 205) none (.i (.ext 2 (.t 200))),
  E0 6 (some 27) none (.i (.mv (.t 203))),
  E0 7 (some 28) none (.i (.mv (.t 204))),
  E0 8 (some 29) none (.i (.mv (.t 205)))]
def laws_FnMachine.r26 : List Ent := [
  E0 0 (some 207) none (.i (.mv (.t 27))),
  E0 1 (some 208) none (.i (.mv (.t 28))),
  E0 2 (some 209) none (.i (.mv (.t 29))),
  E0 3 (some 210) none (.call F_impl_RunProgram false (roA [.t 207, .t 208, .t 209])),
  E0 4 (some 206) none (.i (.mv (.t 210))),
  E0 5 (some 211) none (.i (.ext 0 (.t 206))),
  E0 6 (some 212) none (.i (.ext 1 (.t 206))),
  E0 7 (some 213) none (.i (.ext 2 (.t 206))),
  E0 8 (some 214) none (.i (.ext 3 (.t 206))),
  E0 9 (some 30) none (.i (.mv (.t 211))),
  E0 10 (some 31) none (.i (.mv (.t 212))),
  E0 11 (some 32) none (.i (.mv (.t 213))),
  E0 12 (some 33) none (.i (.mv (.t 214)))]
def laws_FnMachine.r27 : List Ent := [
  E0 0 (some 216) none (.i (.mv (.t 27))),
  E0 1 (some 217) none (.i (.mv (.t 28))),
  E0 2 (some 218) none (.i (.mv (.t 29))),
  E0 3 (some 219) none (.call F_spec_RunProgram false (roA [.t 216, .t 217, .t 218])),
  E0 4 (some 215) none (.i (.mv (.t 219))),
  E0 5 (some 220) none (.i (.ext 0 (.t 215))),
  E0 6 (some 221) none (.i (.ext 1 (.t 215))),
  E0 7 (some 222) none (.i (.ext 2 (.t 215))),
  E0 8 (some 223) none (.i (.ext 3 (.t 215))),
  E0 9 (some 34) none (.i (.mv (.t 220))),
  E0 10 (some 35) none (.i (.mv (.t 221))),
  E0 11 (some 36) none (.i (.mv (.t 222))),
  E0 12 (some 37) none (.i (.mv (.t 223)))]
def laws_FnMachine.r28 : List Ent := [
  E0 0 (some 224) none (.i (.mv (.t 33))),
  E0 1 (some 225) none (.i (.mv (.t 37))),
  E0 2 (some 226) none (.i (.eqb false (.t 224) (.t 225))),
  E0 3 (some 227) none (.i (.mv (.t 226))),
  E0 4 (some 228) (some (227, true)) (.i (.mv (.t 30))),
  E0 5 (some 229) (some (227, true)) (.i (.mv (.t 34))),
  E0 6 (some 230) (some (227, true)) (.i (.bin .eql (.t 228) (.t 229))),
  E0 7 (some 231) none (.i (.pick (.t 227) (.t 230) (.k (.dat none (.bool false))))),
  E0 8 (some 232) none (.i (.mv (.t 231))),
  E0 9 (some 233) (some (232, true)) (.i (.mv (.t 31))),
  E0 10 (some 234) (some (232, true)) (.i (.mv (.t 35))),
  E0 11 (some 235) (some (232, true)) (.i (.bin .eql (.t 233) (.t 234))),
  E0 12 (some 236) none (.i (.pick (.t 232) (.t 235) (.k (.dat none (.bool false))))),
  E0 13 (some 237) none (.i (.mv (.t 236))),
  E0 14 (some 238) (some (237, true)) (.i (.mv (.t 32))),
  E0 15 (some 239) (some (237, true)) (.i (.mv (.t 36))),
  E0 16 (some 240) (some (237, true)) (.i (.bin .eql (.t 238) (.t 239))),
  E0 17 (some 241) none (.i (.pick (.t 237) (.t 240) (.k (.dat none (.bool false))))),
  E0 18 (some 4) none (.i (.mv (.t 241)))]
def laws_FnMachine.fi : FI := { res := [.t 4], code := .seq (.reg 64 1 laws_FnMachine.r0) (.seq (.seq (.reg 128 6 laws_FnMachine.r1) (.cond (.t 43) (.seq (.reg 512 1 laws_FnMachine.r2) (.ret)) (.skip))) (.seq (.reg 576 7 laws_FnMachine.r3) (.seq (.fz 6 (.fz 5 (.reg 1024 10 laws_FnMachine.r4))) (.seq (.reg 1664 10 laws_FnMachine.r5) (.seq (.seq (.reg 2304 14 laws_FnMachine.r6) (.cond (.t 76) (.seq (.reg 3200 1 laws_FnMachine.r7) (.ret)) (.skip))) (.seq (.seq (.reg 3264 1 laws_FnMachine.r8) (.cond (.t 77) (.seq (.fz 7 (.reg 3328 3 laws_FnMachine.r9)) (.seq (.reg 3520 12 laws_FnMachine.r10) (.seq (.reg 4288 8 laws_FnMachine.r11) (.seq (.seq (.reg 4800 28 laws_FnMachine.r12) (.cond (.t 120) (.seq (.reg 6592 1 laws_FnMachine.r13) (.ret)) (.skip))) (.seq (.reg 6656 3 laws_FnMachine.r14) (.block 0 (.loop laws_FnMachine.b0))))))) (.skip))) (.seq (.reg 12480 9 laws_FnMachine.r25) (.seq (.reg 13056 13 laws_FnMachine.r26) (.seq (.reg 13888 13 laws_FnMachine.r27) (.seq (.reg 14720 19 laws_FnMachine.r28) (.ret))))))))))) }
attribute [go_sem] laws_FnMachine.r0 laws_FnMachine.r1 laws_FnMachine.r2 laws_FnMachine.r3 laws_FnMachine.r4 laws_FnMachine.r5 laws_FnMachine.r6 laws_FnMachine.r7 laws_FnMachine.r8 laws_FnMachine.r9 laws_FnMachine.r10 laws_FnMachine.r11 laws_FnMachine.r12 laws_FnMachine.r13 laws_FnMachine.r14 laws_FnMachine.r15 laws_FnMachine.r16 laws_FnMachine.r17 laws_FnMachine.r18 laws_FnMachine.r19 laws_FnMachine.r20 laws_FnMachine.r21 laws_FnMachine.r22 laws_FnMachine.r23 laws_FnMachine.r24 laws_FnMachine.r25 laws_FnMachine.r26 laws_FnMachine.r27 laws_FnMachine.r28
theorem laws_FnMachine.ok : chkF prog F_laws_FnMachine 2 laws_FnMachine.fi = true := by kernel_rfl
end Go.Vm.Ytmicgdfekpoajaa
