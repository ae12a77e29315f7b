/- The functions that the law reaches, in the text of the interpreter, and that this text fits them (no condition). -/
import Derived.Test.YtmicgdfekpoajaaVmc
import Derived.Test.YtmicgdfekpoajaaProg
import Derived.KernelRfl
/- PRINTED BY irgen.py, a program of this claim's author: the functions that the claim reaches, in the text of the interpreter, and that they fit. -/
namespace Go.Vm.Ytmicgdfekpoajaa
open Go Go.Vm
set_option linter.unusedVariables false
set_option maxRecDepth 100000
noncomputable abbrev prog : Program := Go.Proofs.Try.prog
abbrev F_laws_FnExactGoodMay : FuncId := 3
abbrev F_laws_FnExactStartMay : FuncId := 4
abbrev F_laws_FnExactInMay : FuncId := 5
abbrev F_laws_FnExactJoinMay : FuncId := 6
abbrev F_laws_FnExactHeedJump : FuncId := 7
abbrev F_laws_FnExactStepMay : FuncId := 8
abbrev F_laws_FnHeeded : FuncId := 9
abbrev F_laws_FnExactDoStep : FuncId := 10
abbrev F_laws_FnSteps : FuncId := 11
abbrev F_laws_FnMachine : FuncId := 12
abbrev F_laws_FnExactTriesFor : FuncId := 13
abbrev F_laws_szMay : FuncId := 14
abbrev F_spec_GoodMay : FuncId := 15
abbrev F_laws_toMay : FuncId := 16
abbrev F_impl_GoodMay : FuncId := 17
abbrev F_laws_eqMay : FuncId := 18
abbrev F_spec_StartMay : FuncId := 19
abbrev F_impl_StartMay : FuncId := 20
abbrev F_laws_markMay : FuncId := 21
abbrev F_laws_heldMay : FuncId := 22
abbrev F_laws_szMachine : FuncId := 23
abbrev F_spec_InMay : FuncId := 24
abbrev F_laws_toMachine : FuncId := 25
abbrev F_impl_InMay : FuncId := 26
abbrev F_laws_eqMachine : FuncId := 27
abbrev F_spec_JoinMay : FuncId := 28
abbrev F_impl_JoinMay : FuncId := 29
abbrev F_spec_HeedJump : FuncId := 30
abbrev F_laws_toStep : FuncId := 31
abbrev F_impl_HeedJump : FuncId := 32
abbrev F_spec_StepMay : FuncId := 33
abbrev F_impl_StepMay : FuncId := 34
abbrev F_spec_DrawReduceBoth : FuncId := 35
abbrev F_impl_ReduceBoth : FuncId := 36
abbrev F_spec_ReduceBoth : FuncId := 37
abbrev F_impl_GoodStretch : FuncId := 38
abbrev F_impl_GoodKnown : FuncId := 39
abbrev F_impl_WordOf : FuncId := 40
abbrev F_laws_numberOf : FuncId := 41
abbrev F_impl_InStretch : FuncId := 42
abbrev F_impl_MayBe : FuncId := 43
abbrev F_spec_DrawHeedJump : FuncId := 44
abbrev F_spec_DrawStepMay : FuncId := 45
abbrev F_laws_sameMay : FuncId := 46
abbrev F_laws_szStepS : FuncId := 47
abbrev F_spec_DoStep : FuncId := 48
abbrev F_laws_toStepS : FuncId := 49
abbrev F_laws_toIntS : FuncId := 50
abbrev F_impl_DoStep : FuncId := 51
abbrev F_laws_eqStepS : FuncId := 52
abbrev F_laws_eqIntS : FuncId := 53
abbrev F_laws_markStepS : FuncId := 54
abbrev F_laws_markIntS : FuncId := 55
abbrev F_laws_markMachine : FuncId := 56
abbrev F_laws_heldMachine : FuncId := 57
abbrev F_spec_DrawDoStep : FuncId := 58
abbrev F_laws_sameMachine : FuncId := 59
abbrev F_impl_GoodMachine : FuncId := 60
abbrev F_spec_GoodMachine : FuncId := 61
abbrev F_impl_NextsOf : FuncId := 62
abbrev F_laws_has : FuncId := 63
abbrev F_spec_DrawFaultFree : FuncId := 64
abbrev F_impl_FaultFree : FuncId := 65
abbrev F_spec_FaultFree : FuncId := 66
abbrev F_impl_NewMachine : FuncId := 67
abbrev F_spec_NewMachine : FuncId := 68
abbrev F_spec_DrawTraceOf : FuncId := 69
abbrev F_impl_TraceOf : FuncId := 70
abbrev F_spec_TraceOf : FuncId := 71
abbrev F_laws_sameInts : FuncId := 72
abbrev F_impl_RunProgram : FuncId := 73
abbrev F_spec_DrawRunProgram : FuncId := 74
abbrev F_spec_RunProgram : FuncId := 75
abbrev F_spec_TriesFor : FuncId := 76
abbrev F_impl_TriesFor : FuncId := 77
abbrev F_laws_eqIntSS : FuncId := 78
abbrev F_laws_markIntSS : FuncId := 79
abbrev F_laws_heldIntSS : FuncId := 80
abbrev F_laws_szStretchS : FuncId := 81
abbrev F_laws_szKnownS : FuncId := 82
abbrev F_laws_szBoolS : FuncId := 83
abbrev F_spec_GoodStretch : FuncId := 84
abbrev F_spec_GoodKnown : FuncId := 85
abbrev F_laws_toStretchS : FuncId := 86
abbrev F_laws_toKnownS : FuncId := 87
abbrev F_laws_toBoolS : FuncId := 88
abbrev F_impl_GoodMay_c1 : FuncId := 89
abbrev F_slices_ContainsFunc__sStretch_Stretch : FuncId := 90
abbrev F_slices_ContainsFunc__sKnown_Known : FuncId := 91
abbrev F_impl_GoodMay_c2 : FuncId := 92
abbrev F_laws_eqStretchS : FuncId := 93
abbrev F_laws_eqKnownS : FuncId := 94
abbrev F_laws_eqBoolS : FuncId := 95
abbrev F_spec_l13Const : FuncId := 96
abbrev F_spec_l9All : FuncId := 97
abbrev F_slices_Repeat__sStretch_Stretch : FuncId := 98
abbrev F_impl_allWords : FuncId := 99
abbrev F_laws_markStretchS : FuncId := 100
abbrev F_laws_markKnownS : FuncId := 101
abbrev F_laws_markBoolS : FuncId := 102
abbrev F_laws_heldStretchS : FuncId := 103
abbrev F_laws_heldKnownS : FuncId := 104
abbrev F_laws_heldBoolS : FuncId := 105
abbrev F_laws_szIntS : FuncId := 106
abbrev F_spec_l1In : FuncId := 107
abbrev F_spec_l10May : FuncId := 108
abbrev F_impl_in : FuncId := 109
abbrev F_impl_Known_matches : FuncId := 110
abbrev F_spec_l13Join : FuncId := 111
abbrev F_impl_joined : FuncId := 112
abbrev F_spec_l2Step : FuncId := 113
abbrev F_spec_l13Heed : FuncId := 114
abbrev F_spec_l13Own : FuncId := 115
abbrev F_impl_Step_valid : FuncId := 116
abbrev F_impl_heedJump : FuncId := 117
abbrev F_spec_l13Step : FuncId := 118
abbrev F_impl_stepMay : FuncId := 119
abbrev F_spec_pl1Cur_stretch : FuncId := 120
abbrev F_spec_pl1Cur_known : FuncId := 121
abbrev F_impl_reduceBoth : FuncId := 122
abbrev F_spec_l13Reduce : FuncId := 123
abbrev F_impl_isWord : FuncId := 124
abbrev F_spec_pl1Cur_among : FuncId := 125
abbrev F_spec_pl1Cur_pick : FuncId := 126
abbrev F_spec_pl1Cur_may : FuncId := 127
abbrev F_spec_pl1Cur_one : FuncId := 128
abbrev F_spec_pl1Cur_step : FuncId := 129
abbrev F_laws_sameBools : FuncId := 130
abbrev F_spec_GoodProgram : FuncId := 131
abbrev F_spec_l3Ctx : FuncId := 132
abbrev F_spec_l3Do : FuncId := 133
abbrev F_spec_l3Own : FuncId := 134
abbrev F_impl_GoodProgram : FuncId := 135
abbrev F_impl_isContext : FuncId := 136
abbrev F_impl_Machine_own : FuncId := 137
abbrev F_impl_pMachine_step : FuncId := 138
abbrev F_laws_eqStep : FuncId := 139
abbrev F_laws_heldIntS : FuncId := 140
abbrev F_spec_pl1Cur_program : FuncId := 141
abbrev F_spec_pl1Cur_ctx : FuncId := 142
abbrev F_spec_pl1Cur_machine : FuncId := 143
abbrev F_impl_areWords : FuncId := 144
abbrev F_spec_l1All : FuncId := 145
abbrev F_impl_nexts : FuncId := 146
abbrev F_impl_run : FuncId := 147
abbrev F_spec_l3Run : FuncId := 148
abbrev F_spec_l17Tries : FuncId := 149
abbrev F_impl_tries : FuncId := 150
abbrev F_spec_l1Word : FuncId := 151
abbrev F_laws_toStretch : FuncId := 152
abbrev F_laws_toKnown : FuncId := 153
abbrev F_slices_IndexFunc__sStretch_Stretch : FuncId := 154
abbrev F_slices_IndexFunc__sKnown_Known : FuncId := 155
abbrev F_laws_eqStretch : FuncId := 156
abbrev F_laws_eqKnown : FuncId := 157
abbrev F_bits_Mul : FuncId := 158
abbrev F_spec_l9Join : FuncId := 159
abbrev F_spec_l10Join : FuncId := 160
abbrev F_impl_May_own : FuncId := 161
abbrev F_impl_joinStretch : FuncId := 162
abbrev F_impl_joinKnown : FuncId := 163
abbrev F_spec_l2Reg : FuncId := 164
abbrev F_spec_l2Zero : FuncId := 165
abbrev F_spec_l9Meet : FuncId := 166
abbrev F_spec_l10Meet : FuncId := 167
abbrev F_spec_l9Less : FuncId := 168
abbrev F_spec_l1Most : FuncId := 169
abbrev F_spec_l1Least : FuncId := 170
abbrev F_impl_fields : FuncId := 171
abbrev F_impl_Step_ranges : FuncId := 172
abbrev F_impl_pStep_field : FuncId := 173
abbrev F_impl_meetStretch : FuncId := 174
abbrev F_impl_meetKnown : FuncId := 175
abbrev F_impl_splitLess : FuncId := 176
abbrev F_spec_l13Set : FuncId := 177
abbrev F_spec_l9Do : FuncId := 178
abbrev F_spec_l10Do : FuncId := 179
abbrev F_impl_pMay_put : FuncId := 180
abbrev F_impl_stretched : FuncId := 181
abbrev F_impl_doKnown : FuncId := 182
abbrev F_impl_exact : FuncId := 183
abbrev F_impl_unknown : FuncId := 184
abbrev F_spec_pl1Cur_word : FuncId := 185
abbrev F_spec_pl1Cur_rawWord : FuncId := 186
abbrev F_spec_l10Not : FuncId := 187
abbrev F_spec_pl1Cur_next : FuncId := 188
abbrev F_spec_l1Do : FuncId := 189
abbrev F_impl_Step_jumps : FuncId := 190
abbrev F_slices_ContainsFunc__sint_int : FuncId := 191
abbrev F_impl_isContext_c1 : FuncId := 192
abbrev F_slices_Clone__sint_int : FuncId := 193
abbrev F_slices_Clone__sbool_bool : FuncId := 194
abbrev F_impl_do : FuncId := 195
abbrev F_impl_areWords_c1 : FuncId := 196
abbrev F_spec_l17Full : FuncId := 197
abbrev F_spec_l1Has : FuncId := 198
abbrev F_impl_alone : FuncId := 199
abbrev F_slices_Contains__sint_int : FuncId := 200
abbrev F_bits_Mul32 : FuncId := 201
abbrev F_bits_Mul64 : FuncId := 202
abbrev F_slices_Clone__sStretch_Stretch : FuncId := 203
abbrev F_slices_Clone__sKnown_Known : FuncId := 204
abbrev F_impl_known : FuncId := 205
abbrev F_spec_l9Ends : FuncId := 206
abbrev F_spec_l9Mod : FuncId := 207
abbrev F_spec_l9Ones : FuncId := 208
abbrev F_spec_l9Shift : FuncId := 209
abbrev F_spec_l10Bits : FuncId := 210
abbrev F_spec_l1Wrap : FuncId := 211
abbrev F_impl_wrap : FuncId := 212
abbrev F_impl_ones : FuncId := 213
abbrev F_impl_bitwise : FuncId := 214
abbrev F_slices_IndexFunc__sint_int : FuncId := 215
abbrev F_slices_Repeat__sint_int : FuncId := 216
abbrev F_slices_Index__sint_int : FuncId := 217
abbrev F_spec_l9Floor : FuncId := 218
abbrev F_impl_Known_may : FuncId := 219
abbrev F_runtime_boundsError_Error : FuncId := 220
abbrev F_runtime_boundsError_RuntimeError : FuncId := 221
abbrev F_runtime_errorString_Error : FuncId := 222
abbrev F_runtime_errorString_RuntimeError : FuncId := 223
abbrev F_runtime_plainError_Error : FuncId := 224
abbrev F_runtime_plainError_RuntimeError : FuncId := 225
abbrev F_runtime_errorAddressString_Error : FuncId := 226
abbrev F_runtime_errorAddressString_RuntimeError : FuncId := 227
abbrev F_runtime_pTypeAssertionError_Error : FuncId := 228
abbrev F_runtime_pTypeAssertionError_RuntimeError : FuncId := 229
abbrev F_runtime_pPanicNilError_Error : FuncId := 230
abbrev F_runtime_pPanicNilError_RuntimeError : FuncId := 231
abbrev F_abi_pType_Align : FuncId := 232
abbrev F_maps_unhashableTypeError_Error : FuncId := 233
abbrev F_maps_unhashableTypeError_RuntimeError : FuncId := 234
abbrev F_impl_Step_branches : FuncId := 235
abbrev F_abi_Kind_String : FuncId := 236

/-! laws_szStretchS -/
def laws_szStretchS.r0 : List Ent := [
  E0 0 (some 4) none (.i (.mv (.k (I64 0))))]
def laws_szStretchS.r1 : List Ent := [
  E0 0 (some 5) none (.i (.mv (.t 1))),
  E0 1 (some 6) none (.i (.mv (.t 0))),
  E0 2 (some 7) none (.i (.len (.t 6))),
  E0 3 (some 8) none (.i (.bin .sub (.t 5) (.t 7))),
  E0 4 (some 1) none (.i (.mv (.t 8)))]
def laws_szStretchS.r2 : List Ent := [
  E0 0 (some 9) none (.i (.mv (.t 1))),
  E0 1 (some 10) none (.i (.bin .lss (.t 9) (.k (I64 0))))]
def laws_szStretchS.r3 : List Ent := [
  E0 0 (some 4) none (.i (.mv (.k (I64 (-1)))))]
def laws_szStretchS.r4 : List Ent := [
  E0 0 (some 11) none (.i (.mv (.t 1))),
  E0 1 (some 4) none (.i (.mv (.t 11)))]
def laws_szStretchS.fi : FI := { res := [.t 4], code := .seq (.reg 64 1 laws_szStretchS.r0) (.seq (.reg 128 5 laws_szStretchS.r1) (.seq (.seq (.reg 448 2 laws_szStretchS.r2) (.cond (.t 10) (.seq (.reg 576 1 laws_szStretchS.r3) (.ret)) (.skip))) (.seq (.reg 640 2 laws_szStretchS.r4) (.ret)))) }
attribute [go_sem] laws_szStretchS.r0 laws_szStretchS.r1 laws_szStretchS.r2 laws_szStretchS.r3 laws_szStretchS.r4
theorem laws_szStretchS.ok : chkF prog F_laws_szStretchS 2 laws_szStretchS.fi = true := by kernel_rfl

/-! laws_szKnownS -/
def laws_szKnownS.r0 : List Ent := [
  E0 0 (some 4) none (.i (.mv (.k (I64 0))))]
def laws_szKnownS.r1 : List Ent := [
  E0 0 (some 5) none (.i (.mv (.t 1))),
  E0 1 (some 6) none (.i (.mv (.t 0))),
  E0 2 (some 7) none (.i (.len (.t 6))),
  E0 3 (some 8) none (.i (.bin .sub (.t 5) (.t 7))),
  E0 4 (some 1) none (.i (.mv (.t 8)))]
def laws_szKnownS.r2 : List Ent := [
  E0 0 (some 9) none (.i (.mv (.t 1))),
  E0 1 (some 10) none (.i (.bin .lss (.t 9) (.k (I64 0))))]
def laws_szKnownS.r3 : List Ent := [
  E0 0 (some 4) none (.i (.mv (.k (I64 (-1)))))]
def laws_szKnownS.r4 : List Ent := [
  E0 0 (some 11) none (.i (.mv (.t 1))),
  E0 1 (some 4) none (.i (.mv (.t 11)))]
def laws_szKnownS.fi : FI := { res := [.t 4], code := .seq (.reg 64 1 laws_szKnownS.r0) (.seq (.reg 128 5 laws_szKnownS.r1) (.seq (.seq (.reg 448 2 laws_szKnownS.r2) (.cond (.t 10) (.seq (.reg 576 1 laws_szKnownS.r3) (.ret)) (.skip))) (.seq (.reg 640 2 laws_szKnownS.r4) (.ret)))) }
attribute [go_sem] laws_szKnownS.r0 laws_szKnownS.r1 laws_szKnownS.r2 laws_szKnownS.r3 laws_szKnownS.r4
theorem laws_szKnownS.ok : chkF prog F_laws_szKnownS 2 laws_szKnownS.fi = true := by kernel_rfl

/-! laws_szBoolS -/
def laws_szBoolS.r0 : List Ent := [
  E0 0 (some 4) none (.i (.mv (.k (I64 0))))]
def laws_szBoolS.r1 : List Ent := [
  E0 0 (some 5) none (.i (.mv (.t 1))),
  E0 1 (some 6) none (.i (.mv (.t 0))),
  E0 2 (some 7) none (.i (.len (.t 6))),
  E0 3 (some 8) none (.i (.bin .sub (.t 5) (.t 7))),
  E0 4 (some 1) none (.i (.mv (.t 8)))]
def laws_szBoolS.r2 : List Ent := [
  E0 0 (some 9) none (.i (.mv (.t 1))),
  E0 1 (some 10) none (.i (.bin .lss (.t 9) (.k (I64 0))))]
def laws_szBoolS.r3 : List Ent := [
  E0 0 (some 4) none (.i (.mv (.k (I64 (-1)))))]
def laws_szBoolS.r4 : List Ent := [
  E0 0 (some 11) none (.i (.mv (.t 1))),
  E0 1 (some 4) none (.i (.mv (.t 11)))]
def laws_szBoolS.fi : FI := { res := [.t 4], code := .seq (.reg 64 1 laws_szBoolS.r0) (.seq (.reg 128 5 laws_szBoolS.r1) (.seq (.seq (.reg 448 2 laws_szBoolS.r2) (.cond (.t 10) (.seq (.reg 576 1 laws_szBoolS.r3) (.ret)) (.skip))) (.seq (.reg 640 2 laws_szBoolS.r4) (.ret)))) }
attribute [go_sem] laws_szBoolS.r0 laws_szBoolS.r1 laws_szBoolS.r2 laws_szBoolS.r3 laws_szBoolS.r4
theorem laws_szBoolS.ok : chkF prog F_laws_szBoolS 2 laws_szBoolS.fi = true := by kernel_rfl

/-! laws_szMay -/
def laws_szMay.r0 : List Ent := [
  E0 0 (some 2) none (.i (.box (.t 0))),
  E0 1 (some 4) none (.i (.mv (.k (I64 0))))]
def laws_szMay.r1 : List Ent := [
  E0 0 (some 5) none (.i (.fad 0 (.t 2))),
  E0 1 (some 6) none (.i (.load false false 1 (.t 5))),
  E0 2 (some 7) none (.i (.mv (.t 1))),
  E0 3 (some 8) none (.call F_laws_szStretchS false (roA [.t 6, .t 7])),
  E0 4 (some 1) none (.i (.mv (.t 8)))]
def laws_szMay.r2 : List Ent := [
  E0 0 (some 9) none (.i (.mv (.t 1))),
  E0 1 (some 10) none (.i (.bin .lss (.t 9) (.k (I64 0))))]
def laws_szMay.r3 : List Ent := [
  E0 0 (some 4) none (.i (.mv (.k (I64 (-1)))))]
def laws_szMay.r4 : List Ent := [
  E0 0 (some 11) none (.i (.fad 1 (.t 2))),
  E0 1 (some 12) none (.i (.load false false 1 (.t 11))),
  E0 2 (some 13) none (.i (.mv (.t 1))),
  E0 3 (some 14) none (.call F_laws_szKnownS false (roA [.t 12, .t 13])),
  E0 4 (some 1) none (.i (.mv (.t 14)))]
def laws_szMay.r5 : List Ent := [
  E0 0 (some 15) none (.i (.mv (.t 1))),
  E0 1 (some 16) none (.i (.bin .lss (.t 15) (.k (I64 0))))]
def laws_szMay.r6 : List Ent := [
  E0 0 (some 4) none (.i (.mv (.k (I64 (-1)))))]
def laws_szMay.r7 : List Ent := [
  E0 0 (some 17) none (.i (.fad 2 (.t 2))),
  E0 1 (some 18) none (.i (.load false false 1 (.t 17))),
  E0 2 (some 19) none (.i (.mv (.t 1))),
  E0 3 (some 20) none (.call F_laws_szStretchS false (roA [.t 18, .t 19])),
  E0 4 (some 1) none (.i (.mv (.t 20)))]
def laws_szMay.r8 : List Ent := [
  E0 0 (some 21) none (.i (.mv (.t 1))),
  E0 1 (some 22) none (.i (.bin .lss (.t 21) (.k (I64 0))))]
def laws_szMay.r9 : List Ent := [
  E0 0 (some 4) none (.i (.mv (.k (I64 (-1)))))]
def laws_szMay.r10 : List Ent := [
  E0 0 (some 23) none (.i (.fad 3 (.t 2))),
  E0 1 (some 24) none (.i (.load false false 1 (.t 23))),
  E0 2 (some 25) none (.i (.mv (.t 1))),
  E0 3 (some 26) none (.call F_laws_szBoolS false (roA [.t 24, .t 25])),
  E0 4 (some 1) none (.i (.mv (.t 26)))]
def laws_szMay.r11 : List Ent := [
  E0 0 (some 27) none (.i (.mv (.t 1))),
  E0 1 (some 28) none (.i (.bin .lss (.t 27) (.k (I64 0))))]
def laws_szMay.r12 : List Ent := [
  E0 0 (some 4) none (.i (.mv (.k (I64 (-1)))))]
def laws_szMay.r13 : List Ent := [
  E0 0 (some 29) none (.i (.mv (.t 1))),
  E0 1 (some 4) none (.i (.mv (.t 29)))]
def laws_szMay.fi : FI := { res := [.t 4], code := .seq (.reg 64 2 laws_szMay.r0) (.seq (.reg 192 5 laws_szMay.r1) (.seq (.seq (.reg 512 2 laws_szMay.r2) (.cond (.t 10) (.seq (.reg 640 1 laws_szMay.r3) (.ret)) (.skip))) (.seq (.reg 704 5 laws_szMay.r4) (.seq (.seq (.reg 1024 2 laws_szMay.r5) (.cond (.t 16) (.seq (.reg 1152 1 laws_szMay.r6) (.ret)) (.skip))) (.seq (.reg 1216 5 laws_szMay.r7) (.seq (.seq (.reg 1536 2 laws_szMay.r8) (.cond (.t 22) (.seq (.reg 1664 1 laws_szMay.r9) (.ret)) (.skip))) (.seq (.reg 1728 5 laws_szMay.r10) (.seq (.seq (.reg 2048 2 laws_szMay.r11) (.cond (.t 28) (.seq (.reg 2176 1 laws_szMay.r12) (.ret)) (.skip))) (.seq (.reg 2240 2 laws_szMay.r13) (.ret)))))))))) }
attribute [go_sem] laws_szMay.r0 laws_szMay.r1 laws_szMay.r2 laws_szMay.r3 laws_szMay.r4 laws_szMay.r5 laws_szMay.r6 laws_szMay.r7 laws_szMay.r8 laws_szMay.r9 laws_szMay.r10 laws_szMay.r11 laws_szMay.r12 laws_szMay.r13
theorem laws_szMay.ok : chkF prog F_laws_szMay 2 laws_szMay.fi = true := by kernel_rfl

/-! spec_l1In -/
def spec_l1In.r0 : List Ent := [
  E0 0 (some 6) none (.i (.mv (.k (.dat none (.bool false)))))]
def spec_l1In.r1 : List Ent := [
  E0 0 (some 7) none (.i (.mv (.t 0))),
  E0 1 (some 8) none (.i (.mv (.t 1))),
  E0 2 (some 9) none (.i (.bin .geq (.t 7) (.t 8))),
  E0 3 (some 10) none (.i (.mv (.t 9))),
  E0 4 (some 11) (some (10, true)) (.i (.mv (.t 0))),
  E0 5 (some 12) (some (10, true)) (.i (.mv (.t 2))),
  E0 6 (some 13) (some (10, true)) (.i (.bin .leq (.t 11) (.t 12))),
  E0 7 (some 14) none (.i (.pick (.t 10) (.t 13) (.k (.dat none (.bool false))))),
  E0 8 (some 6) none (.i (.mv (.t 14)))]
def spec_l1In.fi : FI := { res := [.t 6], code := .seq (.reg 64 1 spec_l1In.r0) (.seq (.reg 128 9 spec_l1In.r1) (.ret)) }
attribute [go_sem] spec_l1In.r0 spec_l1In.r1
theorem spec_l1In.ok : chkF prog F_spec_l1In 3 spec_l1In.fi = true := by kernel_rfl

/-! spec_l1Word -/
def spec_l1Word.r0 : List Ent := [
  E0 0 (some 2) none (.i (.mv (.k (.dat none (.bool false)))))]
def spec_l1Word.r1 : List Ent := [
  E0 0 (some 3) none (.i (.mv (.t 0))),
  E0 1 (some 4) none (.call F_spec_l1In false (roA [.t 3, .k (I64 0), .k (I64 65535)])),
  E0 2 (some 2) none (.i (.mv (.t 4)))]
def spec_l1Word.fi : FI := { res := [.t 2], code := .seq (.reg 64 1 spec_l1Word.r0) (.seq (.reg 128 3 spec_l1Word.r1) (.ret)) }
attribute [go_sem] spec_l1Word.r0 spec_l1Word.r1
theorem spec_l1Word.ok : chkF prog F_spec_l1Word 1 spec_l1Word.fi = true := by kernel_rfl

/-! spec_GoodStretch -/
def spec_GoodStretch.r0 : List Ent := [
  E0 0 (some 1) none (.i (.box (.t 0))),
  E0 1 (some 2) none (.i (.mv (.k (.dat none (.bool false)))))]
def spec_GoodStretch.r1 : List Ent := [
  E0 0 (some 3) none (.i (.fad 0 (.t 1))),
  E0 1 (some 4) none (.i (.load false false 1 (.t 3))),
  E0 2 (some 5) none (.call F_spec_l1Word false (roA [.t 4])),
  E0 3 (some 6) none (.i (.mv (.t 5))),
  E0 4 (some 7) (some (6, true)) (.i (.fad 1 (.t 1))),
  E0 5 (some 8) (some (6, true)) (.i (.load false false 1 (.t 7))),
  E0 6 (some 9) (some (6, true)) (.call F_spec_l1Word false (roA [.t 8])),
  E0 7 (some 10) none (.i (.pick (.t 6) (.t 9) (.k (.dat none (.bool false))))),
  E0 8 (some 11) none (.i (.mv (.t 10))),
  E0 9 (some 12) (some (11, true)) (.i (.fad 0 (.t 1))),
  E0 10 (some 13) (some (11, true)) (.i (.load false false 1 (.t 12))),
  E0 11 (some 14) (some (11, true)) (.i (.fad 1 (.t 1))),
  E0 12 (some 15) (some (11, true)) (.i (.load false false 1 (.t 14))),
  E0 13 (some 16) (some (11, true)) (.i (.bin .leq (.t 13) (.t 15))),
  E0 14 (some 17) none (.i (.pick (.t 11) (.t 16) (.k (.dat none (.bool false))))),
  E0 15 (some 2) none (.i (.mv (.t 17)))]
def spec_GoodStretch.fi : FI := { res := [.t 2], code := .seq (.reg 64 2 spec_GoodStretch.r0) (.seq (.reg 192 16 spec_GoodStretch.r1) (.ret)) }
attribute [go_sem] spec_GoodStretch.r0 spec_GoodStretch.r1
theorem spec_GoodStretch.ok : chkF prog F_spec_GoodStretch 1 spec_GoodStretch.fi = true := by kernel_rfl

/-! spec_GoodKnown -/
def spec_GoodKnown.r0 : List Ent := [
  E0 0 (some 1) none (.i (.box (.t 0))),
  E0 1 (some 2) none (.i (.mv (.k (.dat none (.bool false)))))]
def spec_GoodKnown.r1 : List Ent := [
  E0 0 (some 3) none (.i (.fad 0 (.t 1))),
  E0 1 (some 4) none (.i (.load false false 1 (.t 3))),
  E0 2 (some 5) none (.call F_spec_l1Word false (roA [.t 4])),
  E0 3 (some 6) none (.i (.mv (.t 5))),
  E0 4 (some 7) (some (6, true)) (.i (.fad 1 (.t 1))),
  E0 5 (some 8) (some (6, true)) (.i (.load false false 1 (.t 7))),
  E0 6 (some 9) (some (6, true)) (.call F_spec_l1Word false (roA [.t 8])),
  E0 7 (some 10) none (.i (.pick (.t 6) (.t 9) (.k (.dat none (.bool false))))),
  E0 8 (some 11) none (.i (.mv (.t 10))),
  E0 9 (some 12) (some (11, true)) (.i (.fad 0 (.t 1))),
  E0 10 (some 13) (some (11, true)) (.i (.load false false 1 (.t 12))),
  E0 11 (some 14) (some (11, true)) (.i (.fad 1 (.t 1))),
  E0 12 (some 15) (some (11, true)) (.i (.load false false 1 (.t 14))),
  E0 13 (some 16) (some (11, true)) (.i (.bin .and (.t 13) (.t 15))),
  E0 14 (some 17) (some (11, true)) (.i (.bin .eql (.t 16) (.k (I64 0)))),
  E0 15 (some 18) none (.i (.pick (.t 11) (.t 17) (.k (.dat none (.bool false))))),
  E0 16 (some 2) none (.i (.mv (.t 18)))]
def spec_GoodKnown.fi : FI := { res := [.t 2], code := .seq (.reg 64 2 spec_GoodKnown.r0) (.seq (.reg 192 17 spec_GoodKnown.r1) (.ret)) }
attribute [go_sem] spec_GoodKnown.r0 spec_GoodKnown.r1
theorem spec_GoodKnown.ok : chkF prog F_spec_GoodKnown 1 spec_GoodKnown.fi = true := by kernel_rfl

/-! spec_GoodMay -/
def spec_GoodMay.r0 : List Ent := [
  E0 0 (some 1) none (.i (.box (.t 0))),
  E0 1 (some 2) none (.i (.mv (.k (.dat none (.bool false)))))]
def spec_GoodMay.r1 : List Ent := [
  E0 0 (some 9) none (.i (.fad 0 (.t 1))),
  E0 1 (some 10) none (.i (.load false false 1 (.t 9))),
  E0 2 (some 11) none (.i (.len (.t 10))),
  E0 3 (some 12) none (.i (.mv (.k (I64 0))))]
def spec_GoodMay.r2 : List Ent := [
  E0 0 (some 13) none (.i (.bin .lss (.t 12) (.t 11)))]
def spec_GoodMay.r3 : List Ent := [
  E0 0 (some 14) none (.i (.iad 2 (.t 10) (.t 12))),
  E0 1 (some 15) none (.i (.load false true 2 (.t 14))),
  E0 2 (some 4) none (.i (.box (.k (.agg [.dat none (.int .i64 0), .dat none (.int .i64 0)])))),
  E0 3 none none (.i (.store 2 (.t 4) (.t 15)))]
def spec_GoodMay.r4 : List Ent := [
  E0 0 (some 16) none (.i (.load false true 2 (.t 4))),
  E0 1 (some 17) none (.call F_spec_GoodStretch false (roA [.t 16])),
  E0 2 (some 18) none (.i (.un .not (.t 17)))]
def spec_GoodMay.r5 : List Ent := [
  E0 0 (some 2) none (.i (.mv (.k (.dat none (.bool false)))))]
def spec_GoodMay.r6 : List Ent := [
  E0 0 (some 19) none (.i (.bin .add (.t 12) (.k (I64 1)))),
  E0 1 (some 12) none (.i (.mv (.t 19)))]
def spec_GoodMay.b0 : KC := .seq (.reg 448 1 spec_GoodMay.r2) (.seq (.cond (.t 13) (.skip) (.exit 0)) (.seq (.block 1 (.seq (.reg 512 4 spec_GoodMay.r3) (.seq (.reg 768 3 spec_GoodMay.r4) (.cond (.t 18) (.seq (.reg 960 1 spec_GoodMay.r5) (.ret)) (.skip))))) (.reg 1024 2 spec_GoodMay.r6)))
def spec_GoodMay.r7 : List Ent := [
  E0 0 (some 20) none (.i (.fad 1 (.t 1))),
  E0 1 (some 21) none (.i (.load false false 1 (.t 20))),
  E0 2 (some 22) none (.i (.len (.t 21))),
  E0 3 (some 23) none (.i (.mv (.k (I64 0))))]
def spec_GoodMay.r8 : List Ent := [
  E0 0 (some 24) none (.i (.bin .lss (.t 23) (.t 22)))]
def spec_GoodMay.r9 : List Ent := [
  E0 0 (some 25) none (.i (.iad 2 (.t 21) (.t 23))),
  E0 1 (some 26) none (.i (.load false true 2 (.t 25))),
  E0 2 (some 6) none (.i (.box (.k (.agg [.dat none (.int .i64 0), .dat none (.int .i64 0)])))),
  E0 3 none none (.i (.store 2 (.t 6) (.t 26)))]
def spec_GoodMay.r10 : List Ent := [
  E0 0 (some 27) none (.i (.load false true 2 (.t 6))),
  E0 1 (some 28) none (.call F_spec_GoodKnown false (roA [.t 27])),
  E0 2 (some 29) none (.i (.un .not (.t 28)))]
def spec_GoodMay.r11 : List Ent := [
  E0 0 (some 2) none (.i (.mv (.k (.dat none (.bool false)))))]
def spec_GoodMay.r12 : List Ent := [
  E0 0 (some 30) none (.i (.bin .add (.t 23) (.k (I64 1)))),
  E0 1 (some 23) none (.i (.mv (.t 30)))]
def spec_GoodMay.b1 : KC := .seq (.reg 1408 1 spec_GoodMay.r8) (.seq (.cond (.t 24) (.skip) (.exit 2)) (.seq (.block 3 (.seq (.reg 1472 4 spec_GoodMay.r9) (.seq (.reg 1728 3 spec_GoodMay.r10) (.cond (.t 29) (.seq (.reg 1920 1 spec_GoodMay.r11) (.ret)) (.skip))))) (.reg 1984 2 spec_GoodMay.r12)))
def spec_GoodMay.r13 : List Ent := [
  E0 0 (some 31) none (.i (.fad 2 (.t 1))),
  E0 1 (some 32) none (.i (.load false false 1 (.t 31))),
  E0 2 (some 33) none (.i (.len (.t 32))),
  E0 3 (some 34) none (.i (.mv (.k (I64 0))))]
def spec_GoodMay.r14 : List Ent := [
  E0 0 (some 35) none (.i (.bin .lss (.t 34) (.t 33)))]
def spec_GoodMay.r15 : List Ent := [
  E0 0 (some 36) none (.i (.iad 2 (.t 32) (.t 34))),
  E0 1 (some 37) none (.i (.load false true 2 (.t 36))),
  E0 2 (some 8) none (.i (.box (.k (.agg [.dat none (.int .i64 0), .dat none (.int .i64 0)])))),
  E0 3 none none (.i (.store 2 (.t 8) (.t 37)))]
def spec_GoodMay.r16 : List Ent := [
  E0 0 (some 38) none (.i (.load false true 2 (.t 8))),
  E0 1 (some 39) none (.call F_spec_GoodStretch false (roA [.t 38])),
  E0 2 (some 40) none (.i (.un .not (.t 39)))]
def spec_GoodMay.r17 : List Ent := [
  E0 0 (some 2) none (.i (.mv (.k (.dat none (.bool false)))))]
def spec_GoodMay.r18 : List Ent := [
  E0 0 (some 41) none (.i (.bin .add (.t 34) (.k (I64 1)))),
  E0 1 (some 34) none (.i (.mv (.t 41)))]
def spec_GoodMay.b2 : KC := .seq (.reg 2368 1 spec_GoodMay.r14) (.seq (.cond (.t 35) (.skip) (.exit 4)) (.seq (.block 5 (.seq (.reg 2432 4 spec_GoodMay.r15) (.seq (.reg 2688 3 spec_GoodMay.r16) (.cond (.t 40) (.seq (.reg 2880 1 spec_GoodMay.r17) (.ret)) (.skip))))) (.reg 2944 2 spec_GoodMay.r18)))
def spec_GoodMay.r19 : List Ent := [
  E0 0 (some 42) none (.i (.fad 0 (.t 1))),
  E0 1 (some 43) none (.i (.load false false 1 (.t 42))),
  E0 2 (some 44) none (.i (.len (.t 43))),
  E0 3 (some 45) none (.i (.bin .eql (.t 44) (.k (I64 6)))),
  E0 4 (some 46) none (.i (.mv (.t 45))),
  E0 5 (some 47) (some (46, true)) (.i (.fad 1 (.t 1))),
  E0 6 (some 48) (some (46, true)) (.i (.load false false 1 (.t 47))),
  E0 7 (some 49) (some (46, true)) (.i (.len (.t 48))),
  E0 8 (some 50) (some (46, true)) (.i (.bin .eql (.t 49) (.k (I64 6)))),
  E0 9 (some 51) none (.i (.pick (.t 46) (.t 50) (.k (.dat none (.bool false))))),
  E0 10 (some 52) none (.i (.mv (.t 51))),
  E0 11 (some 53) (some (52, true)) (.i (.fad 2 (.t 1))),
  E0 12 (some 54) (some (52, true)) (.i (.load false false 1 (.t 53))),
  E0 13 (some 55) (some (52, true)) (.i (.len (.t 54))),
  E0 14 (some 56) (some (52, true)) (.i (.bin .eql (.t 55) (.k (I64 16)))),
  E0 15 (some 57) none (.i (.pick (.t 52) (.t 56) (.k (.dat none (.bool false))))),
  E0 16 (some 58) none (.i (.mv (.t 57))),
  E0 17 (some 59) (some (58, true)) (.i (.fad 3 (.t 1))),
  E0 18 (some 60) (some (58, true)) (.i (.load false false 1 (.t 59))),
  E0 19 (some 61) (some (58, true)) (.i (.len (.t 60))),
  E0 20 (some 62) (some (58, true)) (.i (.bin .eql (.t 61) (.k (I64 16)))),
  E0 21 (some 63) none (.i (.pick (.t 58) (.t 62) (.k (.dat none (.bool false))))),
  E0 22 (some 2) none (.i (.mv (.t 63)))]
def spec_GoodMay.fi : FI := { res := [.t 2], code := .seq (.reg 64 2 spec_GoodMay.r0) (.seq (.seq (.reg 192 4 spec_GoodMay.r1) (.block 0 (.loop spec_GoodMay.b0))) (.seq (.seq (.reg 1152 4 spec_GoodMay.r7) (.block 2 (.loop spec_GoodMay.b1))) (.seq (.seq (.reg 2112 4 spec_GoodMay.r13) (.block 4 (.loop spec_GoodMay.b2))) (.seq (.reg 3072 23 spec_GoodMay.r19) (.ret))))) }
attribute [go_sem] spec_GoodMay.r0 spec_GoodMay.r1 spec_GoodMay.r2 spec_GoodMay.r3 spec_GoodMay.r4 spec_GoodMay.r5 spec_GoodMay.r6 spec_GoodMay.r7 spec_GoodMay.r8 spec_GoodMay.r9 spec_GoodMay.r10 spec_GoodMay.r11 spec_GoodMay.r12 spec_GoodMay.r13 spec_GoodMay.r14 spec_GoodMay.r15 spec_GoodMay.r16 spec_GoodMay.r17 spec_GoodMay.r18 spec_GoodMay.r19
theorem spec_GoodMay.ok : chkF prog F_spec_GoodMay 1 spec_GoodMay.fi = true := by kernel_rfl

/-! laws_toStretch -/
def laws_toStretch.r0 : List Ent := [
  E0 0 (some 1) none (.i (.box (.t 0))),
  E0 1 (some 2) none (.i (.box (.k (.agg [.dat none (.int .i64 0), .dat none (.int .i64 0)]))))]
def laws_toStretch.r1 : List Ent := [
  E0 0 (some 3) none (.i (.box (.k (.agg [.dat none (.int .i64 0), .dat none (.int .i64 0)]))))]
def laws_toStretch.r2 : List Ent := [
  E0 0 (some 4) none (.i (.fad 0 (.t 1))),
  E0 1 (some 5) none (.i (.load false false 1 (.t 4))),
  E0 2 (some 6) none (.i (.fad 0 (.t 3))),
  E0 3 none none (.i (.store 1 (.t 6) (.t 5)))]
def laws_toStretch.r3 : List Ent := [
  E0 0 (some 7) none (.i (.fad 1 (.t 1))),
  E0 1 (some 8) none (.i (.load false false 1 (.t 7))),
  E0 2 (some 9) none (.i (.fad 1 (.t 3))),
  E0 3 none none (.i (.store 1 (.t 9) (.t 8)))]
def laws_toStretch.r4 : List Ent := [
  E0 0 (some 10) none (.i (.load false true 2 (.t 3))),
  E0 1 none none (.i (.store 2 (.t 2) (.t 10)))]
def laws_toStretch.fi : FI := { res := [.c 2 true 2], code := .seq (.reg 64 2 laws_toStretch.r0) (.seq (.reg 192 1 laws_toStretch.r1) (.seq (.reg 256 4 laws_toStretch.r2) (.seq (.reg 512 4 laws_toStretch.r3) (.seq (.reg 768 2 laws_toStretch.r4) (.ret))))) }
attribute [go_sem] laws_toStretch.r0 laws_toStretch.r1 laws_toStretch.r2 laws_toStretch.r3 laws_toStretch.r4
theorem laws_toStretch.ok : chkF prog F_laws_toStretch 1 laws_toStretch.fi = true := by kernel_rfl

/-! laws_toStretchS -/
def laws_toStretchS.r0 : List Ent := [
  E0 0 (some 2) none (.i (.mv (.k (.nil 2))))]
def laws_toStretchS.r1 : List Ent := [
  E0 0 (some 5) none (.i (.mv (.t 0))),
  E0 1 (some 6) none (.i (.len (.t 5))),
  E0 2 (some 7) none (.i (.mks 2 16 (.agg [.int .i64 0, .int .i64 0]) (.t 6) (.t 6))),
  E0 3 (some 3) none (.i (.mv (.t 7)))]
def laws_toStretchS.r2 : List Ent := [
  E0 0 (some 4) none (.i (.mv (.k (I64 0))))]
def laws_toStretchS.r3 : List Ent := [
  E0 0 (some 8) none (.i (.mv (.t 4))),
  E0 1 (some 9) none (.i (.mv (.t 0))),
  E0 2 (some 10) none (.i (.len (.t 9))),
  E0 3 (some 11) none (.i (.bin .lss (.t 8) (.t 10)))]
def laws_toStretchS.r4 : List Ent := [
  E0 0 (some 14) none (.i (.mv (.t 3))),
  E0 1 (some 15) none (.i (.mv (.t 4))),
  E0 2 (some 16) none (.i (.mv (.t 0))),
  E0 3 (some 17) none (.i (.mv (.t 4))),
  E0 4 (some 18) none (.i (.iad 2 (.t 16) (.t 17))),
  E0 5 (some 19) none (.i (.load false true 2 (.t 18))),
  E0 6 (some 20) none (.call F_laws_toStretch false (roA [.t 19])),
  E0 7 (some 21) none (.i (.iad 2 (.t 14) (.t 15))),
  E0 8 none none (.i (.store 2 (.t 21) (.t 20)))]
def laws_toStretchS.r5 : List Ent := [
  E0 0 (some 12) none (.i (.mv (.t 4))),
  E0 1 (some 13) none (.i (.bin .add (.t 12) (.k (I64 1)))),
  E0 2 (some 4) none (.i (.mv (.t 13)))]
def laws_toStretchS.b0 : KC := .seq (.seq (.reg 448 4 laws_toStretchS.r3) (.cond (.t 11) (.skip) (.exit 0))) (.seq (.block 1 (.reg 704 9 laws_toStretchS.r4)) (.reg 1280 3 laws_toStretchS.r5))
def laws_toStretchS.r6 : List Ent := [
  E0 0 (some 22) none (.i (.mv (.t 3))),
  E0 1 (some 2) none (.i (.mv (.t 22)))]
def laws_toStretchS.fi : FI := { res := [.t 2], code := .seq (.reg 64 1 laws_toStretchS.r0) (.seq (.reg 128 4 laws_toStretchS.r1) (.seq (.seq (.reg 384 1 laws_toStretchS.r2) (.block 0 (.loop laws_toStretchS.b0))) (.seq (.reg 1472 2 laws_toStretchS.r6) (.ret)))) }
attribute [go_sem] laws_toStretchS.r0 laws_toStretchS.r1 laws_toStretchS.r2 laws_toStretchS.r3 laws_toStretchS.r4 laws_toStretchS.r5 laws_toStretchS.r6
theorem laws_toStretchS.ok : chkF prog F_laws_toStretchS 1 laws_toStretchS.fi = true := by kernel_rfl

/-! laws_toKnown -/
def laws_toKnown.r0 : List Ent := [
  E0 0 (some 1) none (.i (.box (.t 0))),
  E0 1 (some 2) none (.i (.box (.k (.agg [.dat none (.int .i64 0), .dat none (.int .i64 0)]))))]
def laws_toKnown.r1 : List Ent := [
  E0 0 (some 3) none (.i (.box (.k (.agg [.dat none (.int .i64 0), .dat none (.int .i64 0)]))))]
def laws_toKnown.r2 : List Ent := [
  E0 0 (some 4) none (.i (.fad 0 (.t 1))),
  E0 1 (some 5) none (.i (.load false false 1 (.t 4))),
  E0 2 (some 6) none (.i (.fad 0 (.t 3))),
  E0 3 none none (.i (.store 1 (.t 6) (.t 5)))]
def laws_toKnown.r3 : List Ent := [
  E0 0 (some 7) none (.i (.fad 1 (.t 1))),
  E0 1 (some 8) none (.i (.load false false 1 (.t 7))),
  E0 2 (some 9) none (.i (.fad 1 (.t 3))),
  E0 3 none none (.i (.store 1 (.t 9) (.t 8)))]
def laws_toKnown.r4 : List Ent := [
  E0 0 (some 10) none (.i (.load false true 2 (.t 3))),
  E0 1 none none (.i (.store 2 (.t 2) (.t 10)))]
def laws_toKnown.fi : FI := { res := [.c 2 true 2], code := .seq (.reg 64 2 laws_toKnown.r0) (.seq (.reg 192 1 laws_toKnown.r1) (.seq (.reg 256 4 laws_toKnown.r2) (.seq (.reg 512 4 laws_toKnown.r3) (.seq (.reg 768 2 laws_toKnown.r4) (.ret))))) }
attribute [go_sem] laws_toKnown.r0 laws_toKnown.r1 laws_toKnown.r2 laws_toKnown.r3 laws_toKnown.r4
theorem laws_toKnown.ok : chkF prog F_laws_toKnown 1 laws_toKnown.fi = true := by kernel_rfl

/-! laws_toKnownS -/
def laws_toKnownS.r0 : List Ent := [
  E0 0 (some 2) none (.i (.mv (.k (.nil 2))))]
def laws_toKnownS.r1 : List Ent := [
  E0 0 (some 5) none (.i (.mv (.t 0))),
  E0 1 (some 6) none (.i (.len (.t 5))),
  E0 2 (some 7) none (.i (.mks 2 16 (.agg [.int .i64 0, .int .i64 0]) (.t 6) (.t 6))),
  E0 3 (some 3) none (.i (.mv (.t 7)))]
def laws_toKnownS.r2 : List Ent := [
  E0 0 (some 4) none (.i (.mv (.k (I64 0))))]
def laws_toKnownS.r3 : List Ent := [
  E0 0 (some 8) none (.i (.mv (.t 4))),
  E0 1 (some 9) none (.i (.mv (.t 0))),
  E0 2 (some 10) none (.i (.len (.t 9))),
  E0 3 (some 11) none (.i (.bin .lss (.t 8) (.t 10)))]
def laws_toKnownS.r4 : List Ent := [
  E0 0 (some 14) none (.i (.mv (.t 3))),
  E0 1 (some 15) none (.i (.mv (.t 4))),
  E0 2 (some 16) none (.i (.mv (.t 0))),
  E0 3 (some 17) none (.i (.mv (.t 4))),
  E0 4 (some 18) none (.i (.iad 2 (.t 16) (.t 17))),
  E0 5 (some 19) none (.i (.load false true 2 (.t 18))),
  E0 6 (some 20) none (.call F_laws_toKnown false (roA [.t 19])),
  E0 7 (some 21) none (.i (.iad 2 (.t 14) (.t 15))),
  E0 8 none none (.i (.store 2 (.t 21) (.t 20)))]
def laws_toKnownS.r5 : List Ent := [
  E0 0 (some 12) none (.i (.mv (.t 4))),
  E0 1 (some 13) none (.i (.bin .add (.t 12) (.k (I64 1)))),
  E0 2 (some 4) none (.i (.mv (.t 13)))]
def laws_toKnownS.b0 : KC := .seq (.seq (.reg 448 4 laws_toKnownS.r3) (.cond (.t 11) (.skip) (.exit 0))) (.seq (.block 1 (.reg 704 9 laws_toKnownS.r4)) (.reg 1280 3 laws_toKnownS.r5))
def laws_toKnownS.r6 : List Ent := [
  E0 0 (some 22) none (.i (.mv (.t 3))),
  E0 1 (some 2) none (.i (.mv (.t 22)))]
def laws_toKnownS.fi : FI := { res := [.t 2], code := .seq (.reg 64 1 laws_toKnownS.r0) (.seq (.reg 128 4 laws_toKnownS.r1) (.seq (.seq (.reg 384 1 laws_toKnownS.r2) (.block 0 (.loop laws_toKnownS.b0))) (.seq (.reg 1472 2 laws_toKnownS.r6) (.ret)))) }
attribute [go_sem] laws_toKnownS.r0 laws_toKnownS.r1 laws_toKnownS.r2 laws_toKnownS.r3 laws_toKnownS.r4 laws_toKnownS.r5 laws_toKnownS.r6
theorem laws_toKnownS.ok : chkF prog F_laws_toKnownS 1 laws_toKnownS.fi = true := by kernel_rfl

/-! laws_toBoolS -/
def laws_toBoolS.r0 : List Ent := [
  E0 0 (some 2) none (.i (.mv (.k (.nil 1))))]
def laws_toBoolS.r1 : List Ent := [
  E0 0 (some 5) none (.i (.mv (.t 0))),
  E0 1 (some 6) none (.i (.len (.t 5))),
  E0 2 (some 7) none (.i (.mks 1 1 (.bool false) (.t 6) (.t 6))),
  E0 3 (some 3) none (.i (.mv (.t 7)))]
def laws_toBoolS.r2 : List Ent := [
  E0 0 (some 4) none (.i (.mv (.k (I64 0))))]
def laws_toBoolS.r3 : List Ent := [
  E0 0 (some 8) none (.i (.mv (.t 4))),
  E0 1 (some 9) none (.i (.mv (.t 0))),
  E0 2 (some 10) none (.i (.len (.t 9))),
  E0 3 (some 11) none (.i (.bin .lss (.t 8) (.t 10)))]
def laws_toBoolS.r4 : List Ent := [
  E0 0 (some 14) none (.i (.mv (.t 3))),
  E0 1 (some 15) none (.i (.mv (.t 4))),
  E0 2 (some 16) none (.i (.mv (.t 0))),
  E0 3 (some 17) none (.i (.mv (.t 4))),
  E0 4 (some 18) none (.i (.iad 1 (.t 16) (.t 17))),
  E0 5 (some 19) none (.i (.load false false 1 (.t 18))),
  E0 6 (some 20) none (.i (.iad 1 (.t 14) (.t 15))),
  E0 7 none none (.i (.store 1 (.t 20) (.t 19)))]
def laws_toBoolS.r5 : List Ent := [
  E0 0 (some 12) none (.i (.mv (.t 4))),
  E0 1 (some 13) none (.i (.bin .add (.t 12) (.k (I64 1)))),
  E0 2 (some 4) none (.i (.mv (.t 13)))]
def laws_toBoolS.b0 : KC := .seq (.seq (.reg 448 4 laws_toBoolS.r3) (.cond (.t 11) (.skip) (.exit 0))) (.seq (.block 1 (.reg 704 8 laws_toBoolS.r4)) (.reg 1216 3 laws_toBoolS.r5))
def laws_toBoolS.r6 : List Ent := [
  E0 0 (some 21) none (.i (.mv (.t 3))),
  E0 1 (some 2) none (.i (.mv (.t 21)))]
def laws_toBoolS.fi : FI := { res := [.t 2], code := .seq (.reg 64 1 laws_toBoolS.r0) (.seq (.reg 128 4 laws_toBoolS.r1) (.seq (.seq (.reg 384 1 laws_toBoolS.r2) (.block 0 (.loop laws_toBoolS.b0))) (.seq (.reg 1408 2 laws_toBoolS.r6) (.ret)))) }
attribute [go_sem] laws_toBoolS.r0 laws_toBoolS.r1 laws_toBoolS.r2 laws_toBoolS.r3 laws_toBoolS.r4 laws_toBoolS.r5 laws_toBoolS.r6
theorem laws_toBoolS.ok : chkF prog F_laws_toBoolS 1 laws_toBoolS.fi = true := by kernel_rfl

/-! laws_toMay -/
def laws_toMay.r0 : List Ent := [
  E0 0 (some 1) none (.i (.box (.t 0))),
  E0 1 (some 2) none (.i (.box (.k (.agg [.nil 2, .nil 2, .nil 2, .nil 1]))))]
def laws_toMay.r1 : List Ent := [
  E0 0 (some 3) none (.i (.box (.k (.agg [.nil 2, .nil 2, .nil 2, .nil 1]))))]
def laws_toMay.r2 : List Ent := [
  E0 0 (some 4) none (.i (.fad 0 (.t 1))),
  E0 1 (some 5) none (.i (.load false false 1 (.t 4))),
  E0 2 (some 6) none (.call F_laws_toStretchS false (roA [.t 5])),
  E0 3 (some 7) none (.i (.fad 0 (.t 3))),
  E0 4 none none (.i (.store 1 (.t 7) (.t 6)))]
def laws_toMay.r3 : List Ent := [
  E0 0 (some 8) none (.i (.fad 1 (.t 1))),
  E0 1 (some 9) none (.i (.load false false 1 (.t 8))),
  E0 2 (some 10) none (.call F_laws_toKnownS false (roA [.t 9])),
  E0 3 (some 11) none (.i (.fad 1 (.t 3))),
  E0 4 none none (.i (.store 1 (.t 11) (.t 10)))]
def laws_toMay.r4 : List Ent := [
  E0 0 (some 12) none (.i (.fad 2 (.t 1))),
  E0 1 (some 13) none (.i (.load false false 1 (.t 12))),
  E0 2 (some 14) none (.call F_laws_toStretchS false (roA [.t 13])),
  E0 3 (some 15) none (.i (.fad 2 (.t 3))),
  E0 4 none none (.i (.store 1 (.t 15) (.t 14)))]
def laws_toMay.r5 : List Ent := [
  E0 0 (some 16) none (.i (.fad 3 (.t 1))),
  E0 1 (some 17) none (.i (.load false false 1 (.t 16))),
  E0 2 (some 18) none (.call F_laws_toBoolS false (roA [.t 17])),
  E0 3 (some 19) none (.i (.fad 3 (.t 3))),
  E0 4 none none (.i (.store 1 (.t 19) (.t 18)))]
def laws_toMay.r6 : List Ent := [
  E0 0 (some 20) none (.i (.load false true 4 (.t 3))),
  E0 1 none none (.i (.store 4 (.t 2) (.t 20)))]
def laws_toMay.fi : FI := { res := [.c 2 true 4], code := .seq (.reg 64 2 laws_toMay.r0) (.seq (.reg 192 1 laws_toMay.r1) (.seq (.reg 256 5 laws_toMay.r2) (.seq (.reg 576 5 laws_toMay.r3) (.seq (.reg 896 5 laws_toMay.r4) (.seq (.reg 1216 5 laws_toMay.r5) (.seq (.reg 1536 2 laws_toMay.r6) (.ret))))))) }
attribute [go_sem] laws_toMay.r0 laws_toMay.r1 laws_toMay.r2 laws_toMay.r3 laws_toMay.r4 laws_toMay.r5 laws_toMay.r6
theorem laws_toMay.ok : chkF prog F_laws_toMay 1 laws_toMay.fi = true := by kernel_rfl

/-! impl_in -/
def impl_in.r0 : List Ent := [
  E0 0 (some 6) none (.i (.mv (.k (.dat none (.bool false)))))]
def impl_in.r1 : List Ent := [
  E0 0 (some 7) none (.i (.mv (.t 0))),
  E0 1 (some 8) none (.i (.mv (.t 1))),
  E0 2 (some 9) none (.i (.bin .geq (.t 7) (.t 8))),
  E0 3 (some 10) none (.i (.mv (.t 9))),
  E0 4 (some 11) (some (10, true)) (.i (.mv (.t 0))),
  E0 5 (some 12) (some (10, true)) (.i (.mv (.t 2))),
  E0 6 (some 13) (some (10, true)) (.i (.bin .leq (.t 11) (.t 12))),
  E0 7 (some 14) none (.i (.pick (.t 10) (.t 13) (.k (.dat none (.bool false))))),
  E0 8 (some 6) none (.i (.mv (.t 14)))]
def impl_in.fi : FI := { res := [.t 6], code := .seq (.reg 64 1 impl_in.r0) (.seq (.reg 128 9 impl_in.r1) (.ret)) }
attribute [go_sem] impl_in.r0 impl_in.r1
theorem impl_in.ok : chkF prog F_impl_in 3 impl_in.fi = true := by kernel_rfl

/-! impl_isWord -/
def impl_isWord.r0 : List Ent := [
  E0 0 (some 2) none (.i (.mv (.k (.dat none (.bool false)))))]
def impl_isWord.r1 : List Ent := [
  E0 0 (some 3) none (.i (.mv (.t 0))),
  E0 1 (some 4) none (.call F_impl_in false (roA [.t 3, .k (I64 0), .k (I64 65535)])),
  E0 2 (some 2) none (.i (.mv (.t 4)))]
def impl_isWord.fi : FI := { res := [.t 2], code := .seq (.reg 64 1 impl_isWord.r0) (.seq (.reg 128 3 impl_isWord.r1) (.ret)) }
attribute [go_sem] impl_isWord.r0 impl_isWord.r1
theorem impl_isWord.ok : chkF prog F_impl_isWord 1 impl_isWord.fi = true := by kernel_rfl

/-! impl_GoodStretch -/
def impl_GoodStretch.r0 : List Ent := [
  E0 0 (some 1) none (.i (.box (.t 0))),
  E0 1 (some 2) none (.i (.mv (.k (.dat none (.bool false)))))]
def impl_GoodStretch.r1 : List Ent := [
  E0 0 (some 3) none (.i (.fad 0 (.t 1))),
  E0 1 (some 4) none (.i (.load false false 1 (.t 3))),
  E0 2 (some 5) none (.call F_impl_isWord false (roA [.t 4])),
  E0 3 (some 6) none (.i (.mv (.t 5))),
  E0 4 (some 7) (some (6, true)) (.i (.fad 1 (.t 1))),
  E0 5 (some 8) (some (6, true)) (.i (.load false false 1 (.t 7))),
  E0 6 (some 9) (some (6, true)) (.call F_impl_isWord false (roA [.t 8])),
  E0 7 (some 10) none (.i (.pick (.t 6) (.t 9) (.k (.dat none (.bool false))))),
  E0 8 (some 11) none (.i (.mv (.t 10))),
  E0 9 (some 12) (some (11, true)) (.i (.fad 0 (.t 1))),
  E0 10 (some 13) (some (11, true)) (.i (.load false false 1 (.t 12))),
  E0 11 (some 14) (some (11, true)) (.i (.fad 1 (.t 1))),
  E0 12 (some 15) (some (11, true)) (.i (.load false false 1 (.t 14))),
  E0 13 (some 16) (some (11, true)) (.i (.bin .leq (.t 13) (.t 15))),
  E0 14 (some 17) none (.i (.pick (.t 11) (.t 16) (.k (.dat none (.bool false))))),
  E0 15 (some 2) none (.i (.mv (.t 17)))]
def impl_GoodStretch.fi : FI := { res := [.t 2], code := .seq (.reg 64 2 impl_GoodStretch.r0) (.seq (.reg 192 16 impl_GoodStretch.r1) (.ret)) }
attribute [go_sem] impl_GoodStretch.r0 impl_GoodStretch.r1
theorem impl_GoodStretch.ok : chkF prog F_impl_GoodStretch 1 impl_GoodStretch.fi = true := by kernel_rfl

/-! impl_GoodMay_c1 -/
def impl_GoodMay_c1.r0 : List Ent := [
  E0 0 (some 1) none (.i (.box (.t 0))),
  E0 1 (some 2) none (.i (.mv (.k (.dat none (.bool false)))))]
def impl_GoodMay_c1.r1 : List Ent := [
  E0 0 (some 3) none (.i (.load false true 2 (.t 1))),
  E0 1 (some 4) none (.call F_impl_GoodStretch false (roA [.t 3])),
  E0 2 (some 5) none (.i (.un .not (.t 4))),
  E0 3 (some 2) none (.i (.mv (.t 5)))]
def impl_GoodMay_c1.fi : FI := { res := [.t 2], code := .seq (.reg 64 2 impl_GoodMay_c1.r0) (.seq (.reg 192 4 impl_GoodMay_c1.r1) (.ret)) }
attribute [go_sem] impl_GoodMay_c1.r0 impl_GoodMay_c1.r1
theorem impl_GoodMay_c1.ok : chkF prog F_impl_GoodMay_c1 1 impl_GoodMay_c1.fi = true := by kernel_rfl

/-! slices_IndexFunc__sStretch_Stretch -/
def slices_IndexFunc__sStretch_Stretch.r0 : List Ent := [
  E0 0 (some 4) none (.i (.mv (.k (I64 0))))]
def slices_IndexFunc__sStretch_Stretch.r1 : List Ent := [
  E0 0 (some 6) none (.i (.mv (.t 0))),
  E0 1 (some 7) none (.i (.len (.t 6))),
  E0 2 (some 8) none (.i (.mv (.k (I64 0))))]
def slices_IndexFunc__sStretch_Stretch.r2 : List Ent := [
  E0 0 (some 9) none (.i (.bin .lss (.t 8) (.t 7)))]
def slices_IndexFunc__sStretch_Stretch.r3 : List Ent := [
  E0 0 (some 10) none (.i (.mv (.t 8))),
  E0 1 (some 5) none (.i (.mv (.t 10)))]
def slices_IndexFunc__sStretch_Stretch.r4 : List Ent := [
  E0 0 (some 11) none (.i (.mv (.t 1))),
  E0 1 (some 12) none (.i (.mv (.t 0))),
  E0 2 (some 13) none (.i (.mv (.t 5))),
  E0 3 (some 14) none (.i (.iad 2 (.t 12) (.t 13))),
  E0 4 (some 15) none (.i (.load false true 2 (.t 14))),
  E0 5 (some 16) none (.ccl (.t 11) false [.t 15])]
def slices_IndexFunc__sStretch_Stretch.r5 : List Ent := [
  E0 0 (some 17) none (.i (.mv (.t 5))),
  E0 1 (some 4) none (.i (.mv (.t 17)))]
def slices_IndexFunc__sStretch_Stretch.r6 : List Ent := [
  E0 0 (some 18) none (.i (.bin .add (.t 8) (.k (I64 1)))),
  E0 1 (some 8) none (.i (.mv (.t 18)))]
def slices_IndexFunc__sStretch_Stretch.b0 : KC := .seq (.reg 320 1 slices_IndexFunc__sStretch_Stretch.r2) (.seq (.cond (.t 9) (.skip) (.exit 0)) (.seq (.block 1 (.seq (.reg 384 2 slices_IndexFunc__sStretch_Stretch.r3) (.seq (.reg 512 6 slices_IndexFunc__sStretch_Stretch.r4) (.cond (.t 16) (.seq (.reg 896 2 slices_IndexFunc__sStretch_Stretch.r5) (.ret)) (.skip))))) (.reg 1024 2 slices_IndexFunc__sStretch_Stretch.r6)))
def slices_IndexFunc__sStretch_Stretch.r7 : List Ent := [
  E0 0 (some 4) none (.i (.mv (.k (I64 (-1)))))]
def slices_IndexFunc__sStretch_Stretch.fi : FI := { res := [.t 4], code := .seq (.reg 64 1 slices_IndexFunc__sStretch_Stretch.r0) (.seq (.seq (.reg 128 3 slices_IndexFunc__sStretch_Stretch.r1) (.block 0 (.loop slices_IndexFunc__sStretch_Stretch.b0))) (.seq (.reg 1152 1 slices_IndexFunc__sStretch_Stretch.r7) (.ret))) }
attribute [go_sem] slices_IndexFunc__sStretch_Stretch.r0 slices_IndexFunc__sStretch_Stretch.r1 slices_IndexFunc__sStretch_Stretch.r2 slices_IndexFunc__sStretch_Stretch.r3 slices_IndexFunc__sStretch_Stretch.r4 slices_IndexFunc__sStretch_Stretch.r5 slices_IndexFunc__sStretch_Stretch.r6 slices_IndexFunc__sStretch_Stretch.r7
theorem slices_IndexFunc__sStretch_Stretch.ok : chkF prog F_slices_IndexFunc__sStretch_Stretch 2 slices_IndexFunc__sStretch_Stretch.fi = true := by kernel_rfl

/-! slices_ContainsFunc__sStretch_Stretch -/
def slices_ContainsFunc__sStretch_Stretch.r0 : List Ent := [
  E0 0 (some 4) none (.i (.mv (.k (.dat none (.bool false)))))]
def slices_ContainsFunc__sStretch_Stretch.r1 : List Ent := [
  E0 0 (some 5) none (.i (.mv (.t 0))),
  E0 1 (some 6) none (.i (.mv (.t 1))),
  E0 2 (some 7) none (.call F_slices_IndexFunc__sStretch_Stretch false (roA [.t 5, .t 6])),
  E0 3 (some 8) none (.i (.bin .geq (.t 7) (.k (I64 0)))),
  E0 4 (some 4) none (.i (.mv (.t 8)))]
def slices_ContainsFunc__sStretch_Stretch.fi : FI := { res := [.t 4], code := .seq (.reg 64 1 slices_ContainsFunc__sStretch_Stretch.r0) (.seq (.reg 128 5 slices_ContainsFunc__sStretch_Stretch.r1) (.ret)) }
attribute [go_sem] slices_ContainsFunc__sStretch_Stretch.r0 slices_ContainsFunc__sStretch_Stretch.r1
theorem slices_ContainsFunc__sStretch_Stretch.ok : chkF prog F_slices_ContainsFunc__sStretch_Stretch 2 slices_ContainsFunc__sStretch_Stretch.fi = true := by kernel_rfl

/-! slices_IndexFunc__sKnown_Known -/
def slices_IndexFunc__sKnown_Known.r0 : List Ent := [
  E0 0 (some 4) none (.i (.mv (.k (I64 0))))]
def slices_IndexFunc__sKnown_Known.r1 : List Ent := [
  E0 0 (some 6) none (.i (.mv (.t 0))),
  E0 1 (some 7) none (.i (.len (.t 6))),
  E0 2 (some 8) none (.i (.mv (.k (I64 0))))]
def slices_IndexFunc__sKnown_Known.r2 : List Ent := [
  E0 0 (some 9) none (.i (.bin .lss (.t 8) (.t 7)))]
def slices_IndexFunc__sKnown_Known.r3 : List Ent := [
  E0 0 (some 10) none (.i (.mv (.t 8))),
  E0 1 (some 5) none (.i (.mv (.t 10)))]
def slices_IndexFunc__sKnown_Known.r4 : List Ent := [
  E0 0 (some 11) none (.i (.mv (.t 1))),
  E0 1 (some 12) none (.i (.mv (.t 0))),
  E0 2 (some 13) none (.i (.mv (.t 5))),
  E0 3 (some 14) none (.i (.iad 2 (.t 12) (.t 13))),
  E0 4 (some 15) none (.i (.load false true 2 (.t 14))),
  E0 5 (some 16) none (.ccl (.t 11) false [.t 15])]
def slices_IndexFunc__sKnown_Known.r5 : List Ent := [
  E0 0 (some 17) none (.i (.mv (.t 5))),
  E0 1 (some 4) none (.i (.mv (.t 17)))]
def slices_IndexFunc__sKnown_Known.r6 : List Ent := [
  E0 0 (some 18) none (.i (.bin .add (.t 8) (.k (I64 1)))),
  E0 1 (some 8) none (.i (.mv (.t 18)))]
def slices_IndexFunc__sKnown_Known.b0 : KC := .seq (.reg 320 1 slices_IndexFunc__sKnown_Known.r2) (.seq (.cond (.t 9) (.skip) (.exit 0)) (.seq (.block 1 (.seq (.reg 384 2 slices_IndexFunc__sKnown_Known.r3) (.seq (.reg 512 6 slices_IndexFunc__sKnown_Known.r4) (.cond (.t 16) (.seq (.reg 896 2 slices_IndexFunc__sKnown_Known.r5) (.ret)) (.skip))))) (.reg 1024 2 slices_IndexFunc__sKnown_Known.r6)))
def slices_IndexFunc__sKnown_Known.r7 : List Ent := [
  E0 0 (some 4) none (.i (.mv (.k (I64 (-1)))))]
def slices_IndexFunc__sKnown_Known.fi : FI := { res := [.t 4], code := .seq (.reg 64 1 slices_IndexFunc__sKnown_Known.r0) (.seq (.seq (.reg 128 3 slices_IndexFunc__sKnown_Known.r1) (.block 0 (.loop slices_IndexFunc__sKnown_Known.b0))) (.seq (.reg 1152 1 slices_IndexFunc__sKnown_Known.r7) (.ret))) }
attribute [go_sem] slices_IndexFunc__sKnown_Known.r0 slices_IndexFunc__sKnown_Known.r1 slices_IndexFunc__sKnown_Known.r2 slices_IndexFunc__sKnown_Known.r3 slices_IndexFunc__sKnown_Known.r4 slices_IndexFunc__sKnown_Known.r5 slices_IndexFunc__sKnown_Known.r6 slices_IndexFunc__sKnown_Known.r7
theorem slices_IndexFunc__sKnown_Known.ok : chkF prog F_slices_IndexFunc__sKnown_Known 2 slices_IndexFunc__sKnown_Known.fi = true := by kernel_rfl

/-! slices_ContainsFunc__sKnown_Known -/
def slices_ContainsFunc__sKnown_Known.r0 : List Ent := [
  E0 0 (some 4) none (.i (.mv (.k (.dat none (.bool false)))))]
def slices_ContainsFunc__sKnown_Known.r1 : List Ent := [
  E0 0 (some 5) none (.i (.mv (.t 0))),
  E0 1 (some 6) none (.i (.mv (.t 1))),
  E0 2 (some 7) none (.call F_slices_IndexFunc__sKnown_Known false (roA [.t 5, .t 6])),
  E0 3 (some 8) none (.i (.bin .geq (.t 7) (.k (I64 0)))),
  E0 4 (some 4) none (.i (.mv (.t 8)))]
def slices_ContainsFunc__sKnown_Known.fi : FI := { res := [.t 4], code := .seq (.reg 64 1 slices_ContainsFunc__sKnown_Known.r0) (.seq (.reg 128 5 slices_ContainsFunc__sKnown_Known.r1) (.ret)) }
attribute [go_sem] slices_ContainsFunc__sKnown_Known.r0 slices_ContainsFunc__sKnown_Known.r1
theorem slices_ContainsFunc__sKnown_Known.ok : chkF prog F_slices_ContainsFunc__sKnown_Known 2 slices_ContainsFunc__sKnown_Known.fi = true := by kernel_rfl

/-! impl_GoodKnown -/
def impl_GoodKnown.r0 : List Ent := [
  E0 0 (some 1) none (.i (.box (.t 0))),
  E0 1 (some 2) none (.i (.mv (.k (.dat none (.bool false)))))]
def impl_GoodKnown.r1 : List Ent := [
  E0 0 (some 3) none (.i (.fad 0 (.t 1))),
  E0 1 (some 4) none (.i (.load false false 1 (.t 3))),
  E0 2 (some 5) none (.call F_impl_isWord false (roA [.t 4])),
  E0 3 (some 6) none (.i (.mv (.t 5))),
  E0 4 (some 7) (some (6, true)) (.i (.fad 1 (.t 1))),
  E0 5 (some 8) (some (6, true)) (.i (.load false false 1 (.t 7))),
  E0 6 (some 9) (some (6, true)) (.call F_impl_isWord false (roA [.t 8])),
  E0 7 (some 10) none (.i (.pick (.t 6) (.t 9) (.k (.dat none (.bool false))))),
  E0 8 (some 11) none (.i (.mv (.t 10))),
  E0 9 (some 12) (some (11, true)) (.i (.fad 0 (.t 1))),
  E0 10 (some 13) (some (11, true)) (.i (.load false false 1 (.t 12))),
  E0 11 (some 14) (some (11, true)) (.i (.fad 1 (.t 1))),
  E0 12 (some 15) (some (11, true)) (.i (.load false false 1 (.t 14))),
  E0 13 (some 16) (some (11, true)) (.i (.bin .and (.t 13) (.t 15))),
  E0 14 (some 17) (some (11, true)) (.i (.bin .eql (.t 16) (.k (I64 0)))),
  E0 15 (some 18) none (.i (.pick (.t 11) (.t 17) (.k (.dat none (.bool false))))),
  E0 16 (some 2) none (.i (.mv (.t 18)))]
def impl_GoodKnown.fi : FI := { res := [.t 2], code := .seq (.reg 64 2 impl_GoodKnown.r0) (.seq (.reg 192 17 impl_GoodKnown.r1) (.ret)) }
attribute [go_sem] impl_GoodKnown.r0 impl_GoodKnown.r1
theorem impl_GoodKnown.ok : chkF prog F_impl_GoodKnown 1 impl_GoodKnown.fi = true := by kernel_rfl

/-! impl_GoodMay_c2 -/
def impl_GoodMay_c2.r0 : List Ent := [
  E0 0 (some 1) none (.i (.box (.t 0))),
  E0 1 (some 2) none (.i (.mv (.k (.dat none (.bool false)))))]
def impl_GoodMay_c2.r1 : List Ent := [
  E0 0 (some 3) none (.i (.load false true 2 (.t 1))),
  E0 1 (some 4) none (.call F_impl_GoodKnown false (roA [.t 3])),
  E0 2 (some 5) none (.i (.un .not (.t 4))),
  E0 3 (some 2) none (.i (.mv (.t 5)))]
def impl_GoodMay_c2.fi : FI := { res := [.t 2], code := .seq (.reg 64 2 impl_GoodMay_c2.r0) (.seq (.reg 192 4 impl_GoodMay_c2.r1) (.ret)) }
attribute [go_sem] impl_GoodMay_c2.r0 impl_GoodMay_c2.r1
theorem impl_GoodMay_c2.ok : chkF prog F_impl_GoodMay_c2 1 impl_GoodMay_c2.fi = true := by kernel_rfl

/-! impl_GoodMay -/
def impl_GoodMay.r0 : List Ent := [
  E0 0 (some 1) none (.i (.box (.t 0))),
  E0 1 (some 2) none (.i (.mv (.k (.dat none (.bool false)))))]
def impl_GoodMay.r1 : List Ent := [
  E0 0 (some 4) none (.i (.fad 0 (.t 1))),
  E0 1 (some 5) none (.i (.load false false 1 (.t 4))),
  E0 2 (some 6) none (.i (.len (.t 5))),
  E0 3 (some 7) none (.i (.bin .neq (.t 6) (.k (I64 6)))),
  E0 4 (some 8) none (.i (.mv (.t 7))),
  E0 5 (some 9) (some (8, false)) (.i (.fad 1 (.t 1))),
  E0 6 (some 10) (some (8, false)) (.i (.load false false 1 (.t 9))),
  E0 7 (some 11) (some (8, false)) (.i (.len (.t 10))),
  E0 8 (some 12) (some (8, false)) (.i (.bin .neq (.t 11) (.k (I64 6)))),
  E0 9 (some 13) none (.i (.pick (.t 8) (.k (.dat none (.bool true))) (.t 12))),
  E0 10 (some 14) none (.i (.mv (.t 13))),
  E0 11 (some 15) (some (14, false)) (.i (.fad 2 (.t 1))),
  E0 12 (some 16) (some (14, false)) (.i (.load false false 1 (.t 15))),
  E0 13 (some 17) (some (14, false)) (.i (.len (.t 16))),
  E0 14 (some 18) (some (14, false)) (.i (.bin .neq (.t 17) (.k (I64 16)))),
  E0 15 (some 19) none (.i (.pick (.t 14) (.k (.dat none (.bool true))) (.t 18))),
  E0 16 (some 20) none (.i (.mv (.t 19))),
  E0 17 (some 21) (some (20, false)) (.i (.fad 3 (.t 1))),
  E0 18 (some 22) (some (20, false)) (.i (.load false false 1 (.t 21))),
  E0 19 (some 23) (some (20, false)) (.i (.len (.t 22))),
  E0 20 (some 24) (some (20, false)) (.i (.bin .neq (.t 23) (.k (I64 16)))),
  E0 21 (some 25) none (.i (.pick (.t 20) (.k (.dat none (.bool true))) (.t 24)))]
def impl_GoodMay.r2 : List Ent := [
  E0 0 (some 2) none (.i (.mv (.k (.dat none (.bool false)))))]
def impl_GoodMay.r3 : List Ent := [
  E0 0 (some 3) none (.i (.mv (.k (.clo F_impl_GoodMay_c1 []))))]
def impl_GoodMay.r4 : List Ent := [
  E0 0 (some 26) none (.i (.fad 0 (.t 1))),
  E0 1 (some 27) none (.i (.load false false 1 (.t 26))),
  E0 2 (some 28) none (.i (.mv (.t 3))),
  E0 3 (some 29) none (.call F_slices_ContainsFunc__sStretch_Stretch false (roA [.t 27, .t 28])),
  E0 4 (some 30) none (.i (.un .not (.t 29))),
  E0 5 (some 31) none (.i (.mv (.t 30))),
  E0 6 (some 32) (some (31, true)) (.i (.fad 2 (.t 1))),
  E0 7 (some 33) (some (31, true)) (.i (.load false false 1 (.t 32))),
  E0 8 (some 34) (some (31, true)) (.i (.mv (.t 3))),
  E0 9 (some 35) (some (31, true)) (.call F_slices_ContainsFunc__sStretch_Stretch false (roA [.t 33, .t 34])),
  E0 10 (some 36) (some (31, true)) (.i (.un .not (.t 35))),
  E0 11 (some 37) none (.i (.pick (.t 31) (.t 36) (.k (.dat none (.bool false))))),
  E0 12 (some 38) none (.i (.mv (.t 37))),
  E0 13 (some 39) (some (38, true)) (.i (.fad 1 (.t 1))),
  E0 14 (some 40) (some (38, true)) (.i (.load false false 1 (.t 39))),
  E0 15 (some 41) (some (38, true)) (.call F_slices_ContainsFunc__sKnown_Known false (roA [.t 40, .k (.clo F_impl_GoodMay_c2 [])])),
  E0 16 (some 42) (some (38, true)) (.i (.un .not (.t 41))),
  E0 17 (some 43) none (.i (.pick (.t 38) (.t 42) (.k (.dat none (.bool false))))),
  E0 18 (some 2) none (.i (.mv (.t 43)))]
def impl_GoodMay.fi : FI := { res := [.t 2], code := .seq (.reg 64 2 impl_GoodMay.r0) (.seq (.seq (.reg 192 22 impl_GoodMay.r1) (.cond (.t 25) (.seq (.reg 1600 1 impl_GoodMay.r2) (.ret)) (.skip))) (.seq (.reg 1664 1 impl_GoodMay.r3) (.seq (.reg 1728 19 impl_GoodMay.r4) (.ret)))) }
attribute [go_sem] impl_GoodMay.r0 impl_GoodMay.r1 impl_GoodMay.r2 impl_GoodMay.r3 impl_GoodMay.r4
theorem impl_GoodMay.ok : chkF prog F_impl_GoodMay 1 impl_GoodMay.fi = true := by kernel_rfl

/-! laws_eqStretch -/
def laws_eqStretch.r0 : List Ent := [
  E0 0 (some 2) none (.i (.box (.t 0))),
  E0 1 (some 3) none (.i (.box (.t 1))),
  E0 2 (some 4) none (.i (.mv (.k (.dat none (.bool false)))))]
def laws_eqStretch.r1 : List Ent := [
  E0 0 (some 5) none (.i (.fad 0 (.t 2))),
  E0 1 (some 6) none (.i (.load false false 1 (.t 5))),
  E0 2 (some 7) none (.i (.fad 0 (.t 3))),
  E0 3 (some 8) none (.i (.load false false 1 (.t 7))),
  E0 4 (some 9) none (.i (.bin .neq (.t 6) (.t 8)))]
def laws_eqStretch.r2 : List Ent := [
  E0 0 (some 4) none (.i (.mv (.k (.dat none (.bool false)))))]
def laws_eqStretch.r3 : List Ent := [
  E0 0 (some 10) none (.i (.fad 1 (.t 2))),
  E0 1 (some 11) none (.i (.load false false 1 (.t 10))),
  E0 2 (some 12) none (.i (.fad 1 (.t 3))),
  E0 3 (some 13) none (.i (.load false false 1 (.t 12))),
  E0 4 (some 14) none (.i (.bin .neq (.t 11) (.t 13)))]
def laws_eqStretch.r4 : List Ent := [
  E0 0 (some 4) none (.i (.mv (.k (.dat none (.bool false)))))]
def laws_eqStretch.r5 : List Ent := [
  E0 0 (some 4) none (.i (.mv (.k (.dat none (.bool true)))))]
def laws_eqStretch.fi : FI := { res := [.t 4], code := .seq (.reg 64 3 laws_eqStretch.r0) (.seq (.seq (.reg 256 5 laws_eqStretch.r1) (.cond (.t 9) (.seq (.reg 576 1 laws_eqStretch.r2) (.ret)) (.skip))) (.seq (.seq (.reg 640 5 laws_eqStretch.r3) (.cond (.t 14) (.seq (.reg 960 1 laws_eqStretch.r4) (.ret)) (.skip))) (.seq (.reg 1024 1 laws_eqStretch.r5) (.ret)))) }
attribute [go_sem] laws_eqStretch.r0 laws_eqStretch.r1 laws_eqStretch.r2 laws_eqStretch.r3 laws_eqStretch.r4 laws_eqStretch.r5
theorem laws_eqStretch.ok : chkF prog F_laws_eqStretch 2 laws_eqStretch.fi = true := by kernel_rfl

/-! laws_eqStretchS -/
def laws_eqStretchS.r0 : List Ent := [
  E0 0 (some 4) none (.i (.mv (.k (.dat none (.bool false)))))]
def laws_eqStretchS.r1 : List Ent := [
  E0 0 (some 6) none (.i (.mv (.t 0))),
  E0 1 (some 7) none (.i (.len (.t 6))),
  E0 2 (some 8) none (.i (.mv (.t 1))),
  E0 3 (some 9) none (.i (.len (.t 8))),
  E0 4 (some 10) none (.i (.bin .neq (.t 7) (.t 9)))]
def laws_eqStretchS.r2 : List Ent := [
  E0 0 (some 4) none (.i (.mv (.k (.dat none (.bool false)))))]
def laws_eqStretchS.r3 : List Ent := [
  E0 0 (some 5) none (.i (.mv (.k (I64 0))))]
def laws_eqStretchS.r4 : List Ent := [
  E0 0 (some 11) none (.i (.mv (.t 5))),
  E0 1 (some 12) none (.i (.mv (.t 0))),
  E0 2 (some 13) none (.i (.len (.t 12))),
  E0 3 (some 14) none (.i (.bin .lss (.t 11) (.t 13)))]
def laws_eqStretchS.r5 : List Ent := [
  E0 0 (some 17) none (.i (.mv (.t 0))),
  E0 1 (some 18) none (.i (.mv (.t 5))),
  ER 2 (some 19) none (.iad 2 (.t 17) (.t 18)),
  ER 3 (some 20) none (.load false true 2 (.t 19)),
  E0 4 (some 21) none (.i (.mv (.t 1))),
  E0 5 (some 22) none (.i (.mv (.t 5))),
  ER 6 (some 23) none (.iad 2 (.t 21) (.t 22)),
  ER 7 (some 24) none (.load false true 2 (.t 23)),
  E0 8 (some 25) none (.call F_laws_eqStretch false (roA [.t 20, .t 24])),
  E0 9 (some 26) none (.i (.un .not (.t 25)))]
def laws_eqStretchS.r6 : List Ent := [
  E0 0 (some 4) none (.i (.mv (.k (.dat none (.bool false)))))]
def laws_eqStretchS.r7 : List Ent := [
  E0 0 (some 15) none (.i (.mv (.t 5))),
  E0 1 (some 16) none (.i (.bin .add (.t 15) (.k (I64 1)))),
  E0 2 (some 5) none (.i (.mv (.t 16)))]
def laws_eqStretchS.b0 : KC := .seq (.seq (.reg 576 4 laws_eqStretchS.r4) (.cond (.t 14) (.skip) (.exit 0))) (.seq (.block 1 (.seq (.reg 832 10 laws_eqStretchS.r5) (.cond (.t 26) (.seq (.reg 1472 1 laws_eqStretchS.r6) (.ret)) (.skip)))) (.reg 1536 3 laws_eqStretchS.r7))
def laws_eqStretchS.r8 : List Ent := [
  E0 0 (some 4) none (.i (.mv (.k (.dat none (.bool true)))))]
def laws_eqStretchS.fi : FI := { res := [.t 4], code := .seq (.reg 64 1 laws_eqStretchS.r0) (.seq (.seq (.reg 128 5 laws_eqStretchS.r1) (.cond (.t 10) (.seq (.reg 448 1 laws_eqStretchS.r2) (.ret)) (.skip))) (.seq (.seq (.reg 512 1 laws_eqStretchS.r3) (.block 0 (.loop laws_eqStretchS.b0))) (.seq (.reg 1728 1 laws_eqStretchS.r8) (.ret)))) }
attribute [go_sem] laws_eqStretchS.r0 laws_eqStretchS.r1 laws_eqStretchS.r2 laws_eqStretchS.r3 laws_eqStretchS.r4 laws_eqStretchS.r5 laws_eqStretchS.r6 laws_eqStretchS.r7 laws_eqStretchS.r8
theorem laws_eqStretchS.ok : chkF prog F_laws_eqStretchS 2 laws_eqStretchS.fi = true := by kernel_rfl

/-! laws_eqKnown -/
def laws_eqKnown.r0 : List Ent := [
  E0 0 (some 2) none (.i (.box (.t 0))),
  E0 1 (some 3) none (.i (.box (.t 1))),
  E0 2 (some 4) none (.i (.mv (.k (.dat none (.bool false)))))]
def laws_eqKnown.r1 : List Ent := [
  E0 0 (some 5) none (.i (.fad 0 (.t 2))),
  E0 1 (some 6) none (.i (.load false false 1 (.t 5))),
  E0 2 (some 7) none (.i (.fad 0 (.t 3))),
  E0 3 (some 8) none (.i (.load false false 1 (.t 7))),
  E0 4 (some 9) none (.i (.bin .neq (.t 6) (.t 8)))]
def laws_eqKnown.r2 : List Ent := [
  E0 0 (some 4) none (.i (.mv (.k (.dat none (.bool false)))))]
def laws_eqKnown.r3 : List Ent := [
  E0 0 (some 10) none (.i (.fad 1 (.t 2))),
  E0 1 (some 11) none (.i (.load false false 1 (.t 10))),
  E0 2 (some 12) none (.i (.fad 1 (.t 3))),
  E0 3 (some 13) none (.i (.load false false 1 (.t 12))),
  E0 4 (some 14) none (.i (.bin .neq (.t 11) (.t 13)))]
def laws_eqKnown.r4 : List Ent := [
  E0 0 (some 4) none (.i (.mv (.k (.dat none (.bool false)))))]
def laws_eqKnown.r5 : List Ent := [
  E0 0 (some 4) none (.i (.mv (.k (.dat none (.bool true)))))]
def laws_eqKnown.fi : FI := { res := [.t 4], code := .seq (.reg 64 3 laws_eqKnown.r0) (.seq (.seq (.reg 256 5 laws_eqKnown.r1) (.cond (.t 9) (.seq (.reg 576 1 laws_eqKnown.r2) (.ret)) (.skip))) (.seq (.seq (.reg 640 5 laws_eqKnown.r3) (.cond (.t 14) (.seq (.reg 960 1 laws_eqKnown.r4) (.ret)) (.skip))) (.seq (.reg 1024 1 laws_eqKnown.r5) (.ret)))) }
attribute [go_sem] laws_eqKnown.r0 laws_eqKnown.r1 laws_eqKnown.r2 laws_eqKnown.r3 laws_eqKnown.r4 laws_eqKnown.r5
theorem laws_eqKnown.ok : chkF prog F_laws_eqKnown 2 laws_eqKnown.fi = true := by kernel_rfl

/-! laws_eqKnownS -/
def laws_eqKnownS.r0 : List Ent := [
  E0 0 (some 4) none (.i (.mv (.k (.dat none (.bool false)))))]
def laws_eqKnownS.r1 : List Ent := [
  E0 0 (some 6) none (.i (.mv (.t 0))),
  E0 1 (some 7) none (.i (.len (.t 6))),
  E0 2 (some 8) none (.i (.mv (.t 1))),
  E0 3 (some 9) none (.i (.len (.t 8))),
  E0 4 (some 10) none (.i (.bin .neq (.t 7) (.t 9)))]
def laws_eqKnownS.r2 : List Ent := [
  E0 0 (some 4) none (.i (.mv (.k (.dat none (.bool false)))))]
def laws_eqKnownS.r3 : List Ent := [
  E0 0 (some 5) none (.i (.mv (.k (I64 0))))]
def laws_eqKnownS.r4 : List Ent := [
  E0 0 (some 11) none (.i (.mv (.t 5))),
  E0 1 (some 12) none (.i (.mv (.t 0))),
  E0 2 (some 13) none (.i (.len (.t 12))),
  E0 3 (some 14) none (.i (.bin .lss (.t 11) (.t 13)))]
def laws_eqKnownS.r5 : List Ent := [
  E0 0 (some 17) none (.i (.mv (.t 0))),
  E0 1 (some 18) none (.i (.mv (.t 5))),
  ER 2 (some 19) none (.iad 2 (.t 17) (.t 18)),
  ER 3 (some 20) none (.load false true 2 (.t 19)),
  E0 4 (some 21) none (.i (.mv (.t 1))),
  E0 5 (some 22) none (.i (.mv (.t 5))),
  ER 6 (some 23) none (.iad 2 (.t 21) (.t 22)),
  ER 7 (some 24) none (.load false true 2 (.t 23)),
  E0 8 (some 25) none (.call F_laws_eqKnown false (roA [.t 20, .t 24])),
  E0 9 (some 26) none (.i (.un .not (.t 25)))]
def laws_eqKnownS.r6 : List Ent := [
  E0 0 (some 4) none (.i (.mv (.k (.dat none (.bool false)))))]
def laws_eqKnownS.r7 : List Ent := [
  E0 0 (some 15) none (.i (.mv (.t 5))),
  E0 1 (some 16) none (.i (.bin .add (.t 15) (.k (I64 1)))),
  E0 2 (some 5) none (.i (.mv (.t 16)))]
def laws_eqKnownS.b0 : KC := .seq (.seq (.reg 576 4 laws_eqKnownS.r4) (.cond (.t 14) (.skip) (.exit 0))) (.seq (.block 1 (.seq (.reg 832 10 laws_eqKnownS.r5) (.cond (.t 26) (.seq (.reg 1472 1 laws_eqKnownS.r6) (.ret)) (.skip)))) (.reg 1536 3 laws_eqKnownS.r7))
def laws_eqKnownS.r8 : List Ent := [
  E0 0 (some 4) none (.i (.mv (.k (.dat none (.bool true)))))]
def laws_eqKnownS.fi : FI := { res := [.t 4], code := .seq (.reg 64 1 laws_eqKnownS.r0) (.seq (.seq (.reg 128 5 laws_eqKnownS.r1) (.cond (.t 10) (.seq (.reg 448 1 laws_eqKnownS.r2) (.ret)) (.skip))) (.seq (.seq (.reg 512 1 laws_eqKnownS.r3) (.block 0 (.loop laws_eqKnownS.b0))) (.seq (.reg 1728 1 laws_eqKnownS.r8) (.ret)))) }
attribute [go_sem] laws_eqKnownS.r0 laws_eqKnownS.r1 laws_eqKnownS.r2 laws_eqKnownS.r3 laws_eqKnownS.r4 laws_eqKnownS.r5 laws_eqKnownS.r6 laws_eqKnownS.r7 laws_eqKnownS.r8
theorem laws_eqKnownS.ok : chkF prog F_laws_eqKnownS 2 laws_eqKnownS.fi = true := by kernel_rfl

/-! laws_eqBoolS -/
def laws_eqBoolS.r0 : List Ent := [
  E0 0 (some 4) none (.i (.mv (.k (.dat none (.bool false)))))]
def laws_eqBoolS.r1 : List Ent := [
  E0 0 (some 6) none (.i (.mv (.t 0))),
  E0 1 (some 7) none (.i (.len (.t 6))),
  E0 2 (some 8) none (.i (.mv (.t 1))),
  E0 3 (some 9) none (.i (.len (.t 8))),
  E0 4 (some 10) none (.i (.bin .neq (.t 7) (.t 9)))]
def laws_eqBoolS.r2 : List Ent := [
  E0 0 (some 4) none (.i (.mv (.k (.dat none (.bool false)))))]
def laws_eqBoolS.r3 : List Ent := [
  E0 0 (some 5) none (.i (.mv (.k (I64 0))))]
def laws_eqBoolS.r4 : List Ent := [
  E0 0 (some 11) none (.i (.mv (.t 5))),
  E0 1 (some 12) none (.i (.mv (.t 0))),
  E0 2 (some 13) none (.i (.len (.t 12))),
  E0 3 (some 14) none (.i (.bin .lss (.t 11) (.t 13)))]
def laws_eqBoolS.r5 : List Ent := [
  E0 0 (some 17) none (.i (.mv (.t 0))),
  E0 1 (some 18) none (.i (.mv (.t 5))),
  ER 2 (some 19) none (.iad 1 (.t 17) (.t 18)),
  ER 3 (some 20) none (.load false false 1 (.t 19)),
  E0 4 (some 21) none (.i (.mv (.t 1))),
  E0 5 (some 22) none (.i (.mv (.t 5))),
  ER 6 (some 23) none (.iad 1 (.t 21) (.t 22)),
  ER 7 (some 24) none (.load false false 1 (.t 23)),
  E0 8 (some 25) none (.i (.eqb true (.t 20) (.t 24)))]
def laws_eqBoolS.r6 : List Ent := [
  E0 0 (some 4) none (.i (.mv (.k (.dat none (.bool false)))))]
def laws_eqBoolS.r7 : List Ent := [
  E0 0 (some 15) none (.i (.mv (.t 5))),
  E0 1 (some 16) none (.i (.bin .add (.t 15) (.k (I64 1)))),
  E0 2 (some 5) none (.i (.mv (.t 16)))]
def laws_eqBoolS.b0 : KC := .seq (.seq (.reg 576 4 laws_eqBoolS.r4) (.cond (.t 14) (.skip) (.exit 0))) (.seq (.block 1 (.seq (.reg 832 9 laws_eqBoolS.r5) (.cond (.t 25) (.seq (.reg 1408 1 laws_eqBoolS.r6) (.ret)) (.skip)))) (.reg 1472 3 laws_eqBoolS.r7))
def laws_eqBoolS.r8 : List Ent := [
  E0 0 (some 4) none (.i (.mv (.k (.dat none (.bool true)))))]
def laws_eqBoolS.fi : FI := { res := [.t 4], code := .seq (.reg 64 1 laws_eqBoolS.r0) (.seq (.seq (.reg 128 5 laws_eqBoolS.r1) (.cond (.t 10) (.seq (.reg 448 1 laws_eqBoolS.r2) (.ret)) (.skip))) (.seq (.seq (.reg 512 1 laws_eqBoolS.r3) (.block 0 (.loop laws_eqBoolS.b0))) (.seq (.reg 1664 1 laws_eqBoolS.r8) (.ret)))) }
attribute [go_sem] laws_eqBoolS.r0 laws_eqBoolS.r1 laws_eqBoolS.r2 laws_eqBoolS.r3 laws_eqBoolS.r4 laws_eqBoolS.r5 laws_eqBoolS.r6 laws_eqBoolS.r7 laws_eqBoolS.r8
theorem laws_eqBoolS.ok : chkF prog F_laws_eqBoolS 2 laws_eqBoolS.fi = true := by kernel_rfl

/-! laws_eqMay -/
def laws_eqMay.r0 : List Ent := [
  E0 0 (some 2) none (.i (.box (.t 0))),
  E0 1 (some 3) none (.i (.box (.t 1))),
  E0 2 (some 4) none (.i (.mv (.k (.dat none (.bool false)))))]
def laws_eqMay.r1 : List Ent := [
  E0 0 (some 5) none (.i (.fad 0 (.t 2))),
  E0 1 (some 6) none (.i (.load false false 1 (.t 5))),
  E0 2 (some 7) none (.i (.fad 0 (.t 3))),
  E0 3 (some 8) none (.i (.load false false 1 (.t 7))),
  E0 4 (some 9) none (.call F_laws_eqStretchS false (roA [.t 6, .t 8])),
  E0 5 (some 10) none (.i (.un .not (.t 9)))]
def laws_eqMay.r2 : List Ent := [
  E0 0 (some 4) none (.i (.mv (.k (.dat none (.bool false)))))]
def laws_eqMay.r3 : List Ent := [
  E0 0 (some 11) none (.i (.fad 1 (.t 2))),
  E0 1 (some 12) none (.i (.load false false 1 (.t 11))),
  E0 2 (some 13) none (.i (.fad 1 (.t 3))),
  E0 3 (some 14) none (.i (.load false false 1 (.t 13))),
  E0 4 (some 15) none (.call F_laws_eqKnownS false (roA [.t 12, .t 14])),
  E0 5 (some 16) none (.i (.un .not (.t 15)))]
def laws_eqMay.r4 : List Ent := [
  E0 0 (some 4) none (.i (.mv (.k (.dat none (.bool false)))))]
def laws_eqMay.r5 : List Ent := [
  E0 0 (some 17) none (.i (.fad 2 (.t 2))),
  E0 1 (some 18) none (.i (.load false false 1 (.t 17))),
  E0 2 (some 19) none (.i (.fad 2 (.t 3))),
  E0 3 (some 20) none (.i (.load false false 1 (.t 19))),
  E0 4 (some 21) none (.call F_laws_eqStretchS false (roA [.t 18, .t 20])),
  E0 5 (some 22) none (.i (.un .not (.t 21)))]
def laws_eqMay.r6 : List Ent := [
  E0 0 (some 4) none (.i (.mv (.k (.dat none (.bool false)))))]
def laws_eqMay.r7 : List Ent := [
  E0 0 (some 23) none (.i (.fad 3 (.t 2))),
  E0 1 (some 24) none (.i (.load false false 1 (.t 23))),
  E0 2 (some 25) none (.i (.fad 3 (.t 3))),
  E0 3 (some 26) none (.i (.load false false 1 (.t 25))),
  E0 4 (some 27) none (.call F_laws_eqBoolS false (roA [.t 24, .t 26])),
  E0 5 (some 28) none (.i (.un .not (.t 27)))]
def laws_eqMay.r8 : List Ent := [
  E0 0 (some 4) none (.i (.mv (.k (.dat none (.bool false)))))]
def laws_eqMay.r9 : List Ent := [
  E0 0 (some 4) none (.i (.mv (.k (.dat none (.bool true)))))]
def laws_eqMay.fi : FI := { res := [.t 4], code := .seq (.reg 64 3 laws_eqMay.r0) (.seq (.seq (.reg 256 6 laws_eqMay.r1) (.cond (.t 10) (.seq (.reg 640 1 laws_eqMay.r2) (.ret)) (.skip))) (.seq (.seq (.reg 704 6 laws_eqMay.r3) (.cond (.t 16) (.seq (.reg 1088 1 laws_eqMay.r4) (.ret)) (.skip))) (.seq (.seq (.reg 1152 6 laws_eqMay.r5) (.cond (.t 22) (.seq (.reg 1536 1 laws_eqMay.r6) (.ret)) (.skip))) (.seq (.seq (.reg 1600 6 laws_eqMay.r7) (.cond (.t 28) (.seq (.reg 1984 1 laws_eqMay.r8) (.ret)) (.skip))) (.seq (.reg 2048 1 laws_eqMay.r9) (.ret)))))) }
attribute [go_sem] laws_eqMay.r0 laws_eqMay.r1 laws_eqMay.r2 laws_eqMay.r3 laws_eqMay.r4 laws_eqMay.r5 laws_eqMay.r6 laws_eqMay.r7 laws_eqMay.r8 laws_eqMay.r9
theorem laws_eqMay.ok : chkF prog F_laws_eqMay 2 laws_eqMay.fi = true := by kernel_rfl

/-! laws_markStretchS -/
def laws_markStretchS.r0 : List Ent := [
  E0 0 (some 4) none (.i (.mv (.k (I64 0))))]
def laws_markStretchS.r1 : List Ent := [
  E0 0 (some 5) none (.i (.mv (.k (I64 0))))]
def laws_markStretchS.r2 : List Ent := [
  E0 0 (some 6) none (.i (.mv (.t 5))),
  E0 1 (some 7) none (.i (.mv (.t 0))),
  E0 2 (some 8) none (.i (.len (.t 7))),
  E0 3 (some 9) none (.i (.bin .lss (.t 6) (.t 8)))]
def laws_markStretchS.r3 : List Ent := [
  E0 0 (some 12) none (.i (.mv (.t 0))),
  E0 1 (some 13) none (.i (.mv (.t 5))),
  E0 2 (some 14) none (.i (.mv (.t 1))),
  E0 3 (some 15) none (.i (.iad 2 (.t 12) (.t 13))),
  E0 4 (some 16) none (.i (.fad 0 (.t 15))),
  E0 5 none none (.i (.store 1 (.t 16) (.t 14)))]
def laws_markStretchS.r4 : List Ent := [
  E0 0 (some 17) none (.i (.mv (.t 1))),
  E0 1 (some 18) none (.i (.bin .add (.t 17) (.k (I64 1)))),
  E0 2 (some 1) none (.i (.mv (.t 18)))]
def laws_markStretchS.r5 : List Ent := [
  E0 0 (some 19) none (.i (.mv (.t 0))),
  E0 1 (some 20) none (.i (.mv (.t 5))),
  E0 2 (some 21) none (.i (.mv (.t 1))),
  E0 3 (some 22) none (.i (.iad 2 (.t 19) (.t 20))),
  E0 4 (some 23) none (.i (.fad 1 (.t 22))),
  E0 5 none none (.i (.store 1 (.t 23) (.t 21)))]
def laws_markStretchS.r6 : List Ent := [
  E0 0 (some 24) none (.i (.mv (.t 1))),
  E0 1 (some 25) none (.i (.bin .add (.t 24) (.k (I64 1)))),
  E0 2 (some 1) none (.i (.mv (.t 25)))]
def laws_markStretchS.r7 : List Ent := [
  E0 0 (some 10) none (.i (.mv (.t 5))),
  E0 1 (some 11) none (.i (.bin .add (.t 10) (.k (I64 1)))),
  E0 2 (some 5) none (.i (.mv (.t 11)))]
def laws_markStretchS.b0 : KC := .seq (.seq (.reg 192 4 laws_markStretchS.r2) (.cond (.t 9) (.skip) (.exit 0))) (.seq (.block 1 (.seq (.reg 448 6 laws_markStretchS.r3) (.seq (.reg 832 3 laws_markStretchS.r4) (.seq (.reg 1024 6 laws_markStretchS.r5) (.reg 1408 3 laws_markStretchS.r6))))) (.reg 1600 3 laws_markStretchS.r7))
def laws_markStretchS.r8 : List Ent := [
  E0 0 (some 26) none (.i (.mv (.t 1))),
  E0 1 (some 4) none (.i (.mv (.t 26)))]
def laws_markStretchS.fi : FI := { res := [.t 4], code := .seq (.reg 64 1 laws_markStretchS.r0) (.seq (.seq (.reg 128 1 laws_markStretchS.r1) (.block 0 (.loop laws_markStretchS.b0))) (.seq (.reg 1792 2 laws_markStretchS.r8) (.ret))) }
attribute [go_sem] laws_markStretchS.r0 laws_markStretchS.r1 laws_markStretchS.r2 laws_markStretchS.r3 laws_markStretchS.r4 laws_markStretchS.r5 laws_markStretchS.r6 laws_markStretchS.r7 laws_markStretchS.r8
theorem laws_markStretchS.ok : chkF prog F_laws_markStretchS 2 laws_markStretchS.fi = true := by kernel_rfl

/-! laws_markKnownS -/
def laws_markKnownS.r0 : List Ent := [
  E0 0 (some 4) none (.i (.mv (.k (I64 0))))]
def laws_markKnownS.r1 : List Ent := [
  E0 0 (some 5) none (.i (.mv (.k (I64 0))))]
def laws_markKnownS.r2 : List Ent := [
  E0 0 (some 6) none (.i (.mv (.t 5))),
  E0 1 (some 7) none (.i (.mv (.t 0))),
  E0 2 (some 8) none (.i (.len (.t 7))),
  E0 3 (some 9) none (.i (.bin .lss (.t 6) (.t 8)))]
def laws_markKnownS.r3 : List Ent := [
  E0 0 (some 12) none (.i (.mv (.t 0))),
  E0 1 (some 13) none (.i (.mv (.t 5))),
  E0 2 (some 14) none (.i (.mv (.t 1))),
  E0 3 (some 15) none (.i (.iad 2 (.t 12) (.t 13))),
  E0 4 (some 16) none (.i (.fad 0 (.t 15))),
  E0 5 none none (.i (.store 1 (.t 16) (.t 14)))]
def laws_markKnownS.r4 : List Ent := [
  E0 0 (some 17) none (.i (.mv (.t 1))),
  E0 1 (some 18) none (.i (.bin .add (.t 17) (.k (I64 1)))),
  E0 2 (some 1) none (.i (.mv (.t 18)))]
def laws_markKnownS.r5 : List Ent := [
  E0 0 (some 19) none (.i (.mv (.t 0))),
  E0 1 (some 20) none (.i (.mv (.t 5))),
  E0 2 (some 21) none (.i (.mv (.t 1))),
  E0 3 (some 22) none (.i (.iad 2 (.t 19) (.t 20))),
  E0 4 (some 23) none (.i (.fad 1 (.t 22))),
  E0 5 none none (.i (.store 1 (.t 23) (.t 21)))]
def laws_markKnownS.r6 : List Ent := [
  E0 0 (some 24) none (.i (.mv (.t 1))),
  E0 1 (some 25) none (.i (.bin .add (.t 24) (.k (I64 1)))),
  E0 2 (some 1) none (.i (.mv (.t 25)))]
def laws_markKnownS.r7 : List Ent := [
  E0 0 (some 10) none (.i (.mv (.t 5))),
  E0 1 (some 11) none (.i (.bin .add (.t 10) (.k (I64 1)))),
  E0 2 (some 5) none (.i (.mv (.t 11)))]
def laws_markKnownS.b0 : KC := .seq (.seq (.reg 192 4 laws_markKnownS.r2) (.cond (.t 9) (.skip) (.exit 0))) (.seq (.block 1 (.seq (.reg 448 6 laws_markKnownS.r3) (.seq (.reg 832 3 laws_markKnownS.r4) (.seq (.reg 1024 6 laws_markKnownS.r5) (.reg 1408 3 laws_markKnownS.r6))))) (.reg 1600 3 laws_markKnownS.r7))
def laws_markKnownS.r8 : List Ent := [
  E0 0 (some 26) none (.i (.mv (.t 1))),
  E0 1 (some 4) none (.i (.mv (.t 26)))]
def laws_markKnownS.fi : FI := { res := [.t 4], code := .seq (.reg 64 1 laws_markKnownS.r0) (.seq (.seq (.reg 128 1 laws_markKnownS.r1) (.block 0 (.loop laws_markKnownS.b0))) (.seq (.reg 1792 2 laws_markKnownS.r8) (.ret))) }
attribute [go_sem] laws_markKnownS.r0 laws_markKnownS.r1 laws_markKnownS.r2 laws_markKnownS.r3 laws_markKnownS.r4 laws_markKnownS.r5 laws_markKnownS.r6 laws_markKnownS.r7 laws_markKnownS.r8
theorem laws_markKnownS.ok : chkF prog F_laws_markKnownS 2 laws_markKnownS.fi = true := by kernel_rfl

/-! laws_markBoolS -/
def laws_markBoolS.r0 : List Ent := [
  E0 0 (some 4) none (.i (.mv (.k (I64 0))))]
def laws_markBoolS.r1 : List Ent := [
  E0 0 (some 5) none (.i (.mv (.k (I64 0))))]
def laws_markBoolS.r2 : List Ent := [
  E0 0 (some 6) none (.i (.mv (.t 5))),
  E0 1 (some 7) none (.i (.mv (.t 0))),
  E0 2 (some 8) none (.i (.len (.t 7))),
  E0 3 (some 9) none (.i (.bin .lss (.t 6) (.t 8)))]
def laws_markBoolS.r3 : List Ent := [
  E0 0 (some 12) none (.i (.mv (.t 0))),
  E0 1 (some 13) none (.i (.mv (.t 5))),
  E0 2 (some 14) none (.i (.mv (.t 1))),
  E0 3 (some 15) none (.i (.bin .rem (.t 14) (.k (I64 3)))),
  E0 4 (some 16) none (.i (.bin .eql (.t 15) (.k (I64 0)))),
  E0 5 (some 17) none (.i (.iad 1 (.t 12) (.t 13))),
  E0 6 none none (.i (.store 1 (.t 17) (.t 16)))]
def laws_markBoolS.r4 : List Ent := [
  E0 0 (some 18) none (.i (.mv (.t 1))),
  E0 1 (some 19) none (.i (.bin .add (.t 18) (.k (I64 1)))),
  E0 2 (some 1) none (.i (.mv (.t 19)))]
def laws_markBoolS.r5 : List Ent := [
  E0 0 (some 10) none (.i (.mv (.t 5))),
  E0 1 (some 11) none (.i (.bin .add (.t 10) (.k (I64 1)))),
  E0 2 (some 5) none (.i (.mv (.t 11)))]
def laws_markBoolS.b0 : KC := .seq (.seq (.reg 192 4 laws_markBoolS.r2) (.cond (.t 9) (.skip) (.exit 0))) (.seq (.block 1 (.seq (.reg 448 7 laws_markBoolS.r3) (.reg 896 3 laws_markBoolS.r4))) (.reg 1088 3 laws_markBoolS.r5))
def laws_markBoolS.r6 : List Ent := [
  E0 0 (some 20) none (.i (.mv (.t 1))),
  E0 1 (some 4) none (.i (.mv (.t 20)))]
def laws_markBoolS.fi : FI := { res := [.t 4], code := .seq (.reg 64 1 laws_markBoolS.r0) (.seq (.seq (.reg 128 1 laws_markBoolS.r1) (.block 0 (.loop laws_markBoolS.b0))) (.seq (.reg 1280 2 laws_markBoolS.r6) (.ret))) }
attribute [go_sem] laws_markBoolS.r0 laws_markBoolS.r1 laws_markBoolS.r2 laws_markBoolS.r3 laws_markBoolS.r4 laws_markBoolS.r5 laws_markBoolS.r6
theorem laws_markBoolS.ok : chkF prog F_laws_markBoolS 2 laws_markBoolS.fi = true := by kernel_rfl

/-! laws_markMay -/
def laws_markMay.r0 : List Ent := [
  E0 0 (some 2) none (.i (.box (.t 0))),
  E0 1 (some 4) none (.i (.mv (.k (I64 0))))]
def laws_markMay.r1 : List Ent := [
  E0 0 (some 5) none (.i (.fad 0 (.t 2))),
  E0 1 (some 6) none (.i (.load false false 1 (.t 5))),
  E0 2 (some 7) none (.i (.mv (.t 1))),
  E0 3 (some 8) none (.call F_laws_markStretchS false [(.io, .t 6), (.ro, .t 7)]),
  E0 4 (some 1) none (.i (.mv (.t 8)))]
def laws_markMay.r2 : List Ent := [
  E0 0 (some 9) none (.i (.fad 1 (.t 2))),
  E0 1 (some 10) none (.i (.load false false 1 (.t 9))),
  E0 2 (some 11) none (.i (.mv (.t 1))),
  E0 3 (some 12) none (.call F_laws_markKnownS false [(.io, .t 10), (.ro, .t 11)]),
  E0 4 (some 1) none (.i (.mv (.t 12)))]
def laws_markMay.r3 : List Ent := [
  E0 0 (some 13) none (.i (.fad 2 (.t 2))),
  E0 1 (some 14) none (.i (.load false false 1 (.t 13))),
  E0 2 (some 15) none (.i (.mv (.t 1))),
  E0 3 (some 16) none (.call F_laws_markStretchS false [(.io, .t 14), (.ro, .t 15)]),
  E0 4 (some 1) none (.i (.mv (.t 16)))]
def laws_markMay.r4 : List Ent := [
  E0 0 (some 17) none (.i (.fad 3 (.t 2))),
  E0 1 (some 18) none (.i (.load false false 1 (.t 17))),
  E0 2 (some 19) none (.i (.mv (.t 1))),
  E0 3 (some 20) none (.call F_laws_markBoolS false [(.io, .t 18), (.ro, .t 19)]),
  E0 4 (some 1) none (.i (.mv (.t 20)))]
def laws_markMay.r5 : List Ent := [
  E0 0 (some 21) none (.i (.mv (.t 1))),
  E0 1 (some 4) none (.i (.mv (.t 21)))]
def laws_markMay.fi : FI := { res := [.t 4], code := .seq (.reg 64 2 laws_markMay.r0) (.seq (.reg 192 5 laws_markMay.r1) (.seq (.reg 512 5 laws_markMay.r2) (.seq (.reg 832 5 laws_markMay.r3) (.seq (.reg 1152 5 laws_markMay.r4) (.seq (.reg 1472 2 laws_markMay.r5) (.ret)))))) }
attribute [go_sem] laws_markMay.r0 laws_markMay.r1 laws_markMay.r2 laws_markMay.r3 laws_markMay.r4 laws_markMay.r5
theorem laws_markMay.ok : chkF prog F_laws_markMay 2 laws_markMay.fi = true := by kernel_rfl

/-! laws_heldStretchS -/
def laws_heldStretchS.r0 : List Ent := [
  E0 0 (some 4) none (.i (.mv (.k (I64 0))))]
def laws_heldStretchS.r1 : List Ent := [
  E0 0 (some 5) none (.i (.mv (.k (I64 0))))]
def laws_heldStretchS.r2 : List Ent := [
  E0 0 (some 6) none (.i (.mv (.t 5))),
  E0 1 (some 7) none (.i (.mv (.t 0))),
  E0 2 (some 8) none (.i (.len (.t 7))),
  E0 3 (some 9) none (.i (.bin .lss (.t 6) (.t 8)))]
def laws_heldStretchS.r3 : List Ent := [
  E0 0 (some 12) none (.i (.mv (.t 0))),
  E0 1 (some 13) none (.i (.mv (.t 5))),
  E0 2 (some 14) none (.i (.iad 2 (.t 12) (.t 13))),
  E0 3 (some 15) none (.i (.fad 0 (.t 14))),
  E0 4 (some 16) none (.i (.load false false 1 (.t 15))),
  E0 5 (some 17) none (.i (.mv (.t 1))),
  E0 6 (some 18) none (.i (.bin .neq (.t 16) (.t 17)))]
def laws_heldStretchS.r4 : List Ent := [
  E0 0 (some 4) none (.i (.mv (.k (I64 (-1)))))]
def laws_heldStretchS.r5 : List Ent := [
  E0 0 (some 19) none (.i (.mv (.t 1))),
  E0 1 (some 20) none (.i (.bin .add (.t 19) (.k (I64 1)))),
  E0 2 (some 1) none (.i (.mv (.t 20)))]
def laws_heldStretchS.r6 : List Ent := [
  E0 0 (some 21) none (.i (.mv (.t 0))),
  E0 1 (some 22) none (.i (.mv (.t 5))),
  E0 2 (some 23) none (.i (.iad 2 (.t 21) (.t 22))),
  E0 3 (some 24) none (.i (.fad 1 (.t 23))),
  E0 4 (some 25) none (.i (.load false false 1 (.t 24))),
  E0 5 (some 26) none (.i (.mv (.t 1))),
  E0 6 (some 27) none (.i (.bin .neq (.t 25) (.t 26)))]
def laws_heldStretchS.r7 : List Ent := [
  E0 0 (some 4) none (.i (.mv (.k (I64 (-1)))))]
def laws_heldStretchS.r8 : List Ent := [
  E0 0 (some 28) none (.i (.mv (.t 1))),
  E0 1 (some 29) none (.i (.bin .add (.t 28) (.k (I64 1)))),
  E0 2 (some 1) none (.i (.mv (.t 29)))]
def laws_heldStretchS.r9 : List Ent := [
  E0 0 (some 10) none (.i (.mv (.t 5))),
  E0 1 (some 11) none (.i (.bin .add (.t 10) (.k (I64 1)))),
  E0 2 (some 5) none (.i (.mv (.t 11)))]
def laws_heldStretchS.b0 : KC := .seq (.seq (.reg 192 4 laws_heldStretchS.r2) (.cond (.t 9) (.skip) (.exit 0))) (.seq (.block 1 (.seq (.seq (.reg 448 7 laws_heldStretchS.r3) (.cond (.t 18) (.seq (.reg 896 1 laws_heldStretchS.r4) (.ret)) (.skip))) (.seq (.reg 960 3 laws_heldStretchS.r5) (.seq (.seq (.reg 1152 7 laws_heldStretchS.r6) (.cond (.t 27) (.seq (.reg 1600 1 laws_heldStretchS.r7) (.ret)) (.skip))) (.reg 1664 3 laws_heldStretchS.r8))))) (.reg 1856 3 laws_heldStretchS.r9))
def laws_heldStretchS.r10 : List Ent := [
  E0 0 (some 30) none (.i (.mv (.t 1))),
  E0 1 (some 4) none (.i (.mv (.t 30)))]
def laws_heldStretchS.fi : FI := { res := [.t 4], code := .seq (.reg 64 1 laws_heldStretchS.r0) (.seq (.seq (.reg 128 1 laws_heldStretchS.r1) (.block 0 (.loop laws_heldStretchS.b0))) (.seq (.reg 2048 2 laws_heldStretchS.r10) (.ret))) }
attribute [go_sem] laws_heldStretchS.r0 laws_heldStretchS.r1 laws_heldStretchS.r2 laws_heldStretchS.r3 laws_heldStretchS.r4 laws_heldStretchS.r5 laws_heldStretchS.r6 laws_heldStretchS.r7 laws_heldStretchS.r8 laws_heldStretchS.r9 laws_heldStretchS.r10
theorem laws_heldStretchS.ok : chkF prog F_laws_heldStretchS 2 laws_heldStretchS.fi = true := by kernel_rfl

/-! laws_heldKnownS -/
def laws_heldKnownS.r0 : List Ent := [
  E0 0 (some 4) none (.i (.mv (.k (I64 0))))]
def laws_heldKnownS.r1 : List Ent := [
  E0 0 (some 5) none (.i (.mv (.k (I64 0))))]
def laws_heldKnownS.r2 : List Ent := [
  E0 0 (some 6) none (.i (.mv (.t 5))),
  E0 1 (some 7) none (.i (.mv (.t 0))),
  E0 2 (some 8) none (.i (.len (.t 7))),
  E0 3 (some 9) none (.i (.bin .lss (.t 6) (.t 8)))]
def laws_heldKnownS.r3 : List Ent := [
  E0 0 (some 12) none (.i (.mv (.t 0))),
  E0 1 (some 13) none (.i (.mv (.t 5))),
  E0 2 (some 14) none (.i (.iad 2 (.t 12) (.t 13))),
  E0 3 (some 15) none (.i (.fad 0 (.t 14))),
  E0 4 (some 16) none (.i (.load false false 1 (.t 15))),
  E0 5 (some 17) none (.i (.mv (.t 1))),
  E0 6 (some 18) none (.i (.bin .neq (.t 16) (.t 17)))]
def laws_heldKnownS.r4 : List Ent := [
  E0 0 (some 4) none (.i (.mv (.k (I64 (-1)))))]
def laws_heldKnownS.r5 : List Ent := [
  E0 0 (some 19) none (.i (.mv (.t 1))),
  E0 1 (some 20) none (.i (.bin .add (.t 19) (.k (I64 1)))),
  E0 2 (some 1) none (.i (.mv (.t 20)))]
def laws_heldKnownS.r6 : List Ent := [
  E0 0 (some 21) none (.i (.mv (.t 0))),
  E0 1 (some 22) none (.i (.mv (.t 5))),
  E0 2 (some 23) none (.i (.iad 2 (.t 21) (.t 22))),
  E0 3 (some 24) none (.i (.fad 1 (.t 23))),
  E0 4 (some 25) none (.i (.load false false 1 (.t 24))),
  E0 5 (some 26) none (.i (.mv (.t 1))),
  E0 6 (some 27) none (.i (.bin .neq (.t 25) (.t 26)))]
def laws_heldKnownS.r7 : List Ent := [
  E0 0 (some 4) none (.i (.mv (.k (I64 (-1)))))]
def laws_heldKnownS.r8 : List Ent := [
  E0 0 (some 28) none (.i (.mv (.t 1))),
  E0 1 (some 29) none (.i (.bin .add (.t 28) (.k (I64 1)))),
  E0 2 (some 1) none (.i (.mv (.t 29)))]
def laws_heldKnownS.r9 : List Ent := [
  E0 0 (some 10) none (.i (.mv (.t 5))),
  E0 1 (some 11) none (.i (.bin .add (.t 10) (.k (I64 1)))),
  E0 2 (some 5) none (.i (.mv (.t 11)))]
def laws_heldKnownS.b0 : KC := .seq (.seq (.reg 192 4 laws_heldKnownS.r2) (.cond (.t 9) (.skip) (.exit 0))) (.seq (.block 1 (.seq (.seq (.reg 448 7 laws_heldKnownS.r3) (.cond (.t 18) (.seq (.reg 896 1 laws_heldKnownS.r4) (.ret)) (.skip))) (.seq (.reg 960 3 laws_heldKnownS.r5) (.seq (.seq (.reg 1152 7 laws_heldKnownS.r6) (.cond (.t 27) (.seq (.reg 1600 1 laws_heldKnownS.r7) (.ret)) (.skip))) (.reg 1664 3 laws_heldKnownS.r8))))) (.reg 1856 3 laws_heldKnownS.r9))
def laws_heldKnownS.r10 : List Ent := [
  E0 0 (some 30) none (.i (.mv (.t 1))),
  E0 1 (some 4) none (.i (.mv (.t 30)))]
def laws_heldKnownS.fi : FI := { res := [.t 4], code := .seq (.reg 64 1 laws_heldKnownS.r0) (.seq (.seq (.reg 128 1 laws_heldKnownS.r1) (.block 0 (.loop laws_heldKnownS.b0))) (.seq (.reg 2048 2 laws_heldKnownS.r10) (.ret))) }
attribute [go_sem] laws_heldKnownS.r0 laws_heldKnownS.r1 laws_heldKnownS.r2 laws_heldKnownS.r3 laws_heldKnownS.r4 laws_heldKnownS.r5 laws_heldKnownS.r6 laws_heldKnownS.r7 laws_heldKnownS.r8 laws_heldKnownS.r9 laws_heldKnownS.r10
theorem laws_heldKnownS.ok : chkF prog F_laws_heldKnownS 2 laws_heldKnownS.fi = true := by kernel_rfl

/-! laws_heldBoolS -/
def laws_heldBoolS.r0 : List Ent := [
  E0 0 (some 4) none (.i (.mv (.k (I64 0))))]
def laws_heldBoolS.r1 : List Ent := [
  E0 0 (some 5) none (.i (.mv (.k (I64 0))))]
def laws_heldBoolS.r2 : List Ent := [
  E0 0 (some 6) none (.i (.mv (.t 5))),
  E0 1 (some 7) none (.i (.mv (.t 0))),
  E0 2 (some 8) none (.i (.len (.t 7))),
  E0 3 (some 9) none (.i (.bin .lss (.t 6) (.t 8)))]
def laws_heldBoolS.r3 : List Ent := [
  E0 0 (some 12) none (.i (.mv (.t 0))),
  E0 1 (some 13) none (.i (.mv (.t 5))),
  E0 2 (some 14) none (.i (.iad 1 (.t 12) (.t 13))),
  E0 3 (some 15) none (.i (.load false false 1 (.t 14))),
  E0 4 (some 16) none (.i (.mv (.t 1))),
  E0 5 (some 17) none (.i (.bin .rem (.t 16) (.k (I64 3)))),
  E0 6 (some 18) none (.i (.bin .eql (.t 17) (.k (I64 0)))),
  E0 7 (some 19) none (.i (.eqb true (.t 15) (.t 18)))]
def laws_heldBoolS.r4 : List Ent := [
  E0 0 (some 4) none (.i (.mv (.k (I64 (-1)))))]
def laws_heldBoolS.r5 : List Ent := [
  E0 0 (some 20) none (.i (.mv (.t 1))),
  E0 1 (some 21) none (.i (.bin .add (.t 20) (.k (I64 1)))),
  E0 2 (some 1) none (.i (.mv (.t 21)))]
def laws_heldBoolS.r6 : List Ent := [
  E0 0 (some 10) none (.i (.mv (.t 5))),
  E0 1 (some 11) none (.i (.bin .add (.t 10) (.k (I64 1)))),
  E0 2 (some 5) none (.i (.mv (.t 11)))]
def laws_heldBoolS.b0 : KC := .seq (.seq (.reg 192 4 laws_heldBoolS.r2) (.cond (.t 9) (.skip) (.exit 0))) (.seq (.block 1 (.seq (.seq (.reg 448 8 laws_heldBoolS.r3) (.cond (.t 19) (.seq (.reg 960 1 laws_heldBoolS.r4) (.ret)) (.skip))) (.reg 1024 3 laws_heldBoolS.r5))) (.reg 1216 3 laws_heldBoolS.r6))
def laws_heldBoolS.r7 : List Ent := [
  E0 0 (some 22) none (.i (.mv (.t 1))),
  E0 1 (some 4) none (.i (.mv (.t 22)))]
def laws_heldBoolS.fi : FI := { res := [.t 4], code := .seq (.reg 64 1 laws_heldBoolS.r0) (.seq (.seq (.reg 128 1 laws_heldBoolS.r1) (.block 0 (.loop laws_heldBoolS.b0))) (.seq (.reg 1408 2 laws_heldBoolS.r7) (.ret))) }
attribute [go_sem] laws_heldBoolS.r0 laws_heldBoolS.r1 laws_heldBoolS.r2 laws_heldBoolS.r3 laws_heldBoolS.r4 laws_heldBoolS.r5 laws_heldBoolS.r6 laws_heldBoolS.r7
theorem laws_heldBoolS.ok : chkF prog F_laws_heldBoolS 2 laws_heldBoolS.fi = true := by kernel_rfl

/-! laws_heldMay -/
def laws_heldMay.r0 : List Ent := [
  E0 0 (some 2) none (.i (.box (.t 0))),
  E0 1 (some 4) none (.i (.mv (.k (I64 0))))]
def laws_heldMay.r1 : List Ent := [
  E0 0 (some 5) none (.i (.fad 0 (.t 2))),
  E0 1 (some 6) none (.i (.load false false 1 (.t 5))),
  E0 2 (some 7) none (.i (.mv (.t 1))),
  E0 3 (some 8) none (.call F_laws_heldStretchS false (roA [.t 6, .t 7])),
  E0 4 (some 1) none (.i (.mv (.t 8)))]
def laws_heldMay.r2 : List Ent := [
  E0 0 (some 9) none (.i (.mv (.t 1))),
  E0 1 (some 10) none (.i (.bin .lss (.t 9) (.k (I64 0))))]
def laws_heldMay.r3 : List Ent := [
  E0 0 (some 4) none (.i (.mv (.k (I64 (-1)))))]
def laws_heldMay.r4 : List Ent := [
  E0 0 (some 11) none (.i (.fad 1 (.t 2))),
  E0 1 (some 12) none (.i (.load false false 1 (.t 11))),
  E0 2 (some 13) none (.i (.mv (.t 1))),
  E0 3 (some 14) none (.call F_laws_heldKnownS false (roA [.t 12, .t 13])),
  E0 4 (some 1) none (.i (.mv (.t 14)))]
def laws_heldMay.r5 : List Ent := [
  E0 0 (some 15) none (.i (.mv (.t 1))),
  E0 1 (some 16) none (.i (.bin .lss (.t 15) (.k (I64 0))))]
def laws_heldMay.r6 : List Ent := [
  E0 0 (some 4) none (.i (.mv (.k (I64 (-1)))))]
def laws_heldMay.r7 : List Ent := [
  E0 0 (some 17) none (.i (.fad 2 (.t 2))),
  E0 1 (some 18) none (.i (.load false false 1 (.t 17))),
  E0 2 (some 19) none (.i (.mv (.t 1))),
  E0 3 (some 20) none (.call F_laws_heldStretchS false (roA [.t 18, .t 19])),
  E0 4 (some 1) none (.i (.mv (.t 20)))]
def laws_heldMay.r8 : List Ent := [
  E0 0 (some 21) none (.i (.mv (.t 1))),
  E0 1 (some 22) none (.i (.bin .lss (.t 21) (.k (I64 0))))]
def laws_heldMay.r9 : List Ent := [
  E0 0 (some 4) none (.i (.mv (.k (I64 (-1)))))]
def laws_heldMay.r10 : List Ent := [
  E0 0 (some 23) none (.i (.fad 3 (.t 2))),
  E0 1 (some 24) none (.i (.load false false 1 (.t 23))),
  E0 2 (some 25) none (.i (.mv (.t 1))),
  E0 3 (some 26) none (.call F_laws_heldBoolS false (roA [.t 24, .t 25])),
  E0 4 (some 1) none (.i (.mv (.t 26)))]
def laws_heldMay.r11 : List Ent := [
  E0 0 (some 27) none (.i (.mv (.t 1))),
  E0 1 (some 28) none (.i (.bin .lss (.t 27) (.k (I64 0))))]
def laws_heldMay.r12 : List Ent := [
  E0 0 (some 4) none (.i (.mv (.k (I64 (-1)))))]
def laws_heldMay.r13 : List Ent := [
  E0 0 (some 29) none (.i (.mv (.t 1))),
  E0 1 (some 4) none (.i (.mv (.t 29)))]
def laws_heldMay.fi : FI := { res := [.t 4], code := .seq (.reg 64 2 laws_heldMay.r0) (.seq (.reg 192 5 laws_heldMay.r1) (.seq (.seq (.reg 512 2 laws_heldMay.r2) (.cond (.t 10) (.seq (.reg 640 1 laws_heldMay.r3) (.ret)) (.skip))) (.seq (.reg 704 5 laws_heldMay.r4) (.seq (.seq (.reg 1024 2 laws_heldMay.r5) (.cond (.t 16) (.seq (.reg 1152 1 laws_heldMay.r6) (.ret)) (.skip))) (.seq (.reg 1216 5 laws_heldMay.r7) (.seq (.seq (.reg 1536 2 laws_heldMay.r8) (.cond (.t 22) (.seq (.reg 1664 1 laws_heldMay.r9) (.ret)) (.skip))) (.seq (.reg 1728 5 laws_heldMay.r10) (.seq (.seq (.reg 2048 2 laws_heldMay.r11) (.cond (.t 28) (.seq (.reg 2176 1 laws_heldMay.r12) (.ret)) (.skip))) (.seq (.reg 2240 2 laws_heldMay.r13) (.ret)))))))))) }
attribute [go_sem] laws_heldMay.r0 laws_heldMay.r1 laws_heldMay.r2 laws_heldMay.r3 laws_heldMay.r4 laws_heldMay.r5 laws_heldMay.r6 laws_heldMay.r7 laws_heldMay.r8 laws_heldMay.r9 laws_heldMay.r10 laws_heldMay.r11 laws_heldMay.r12 laws_heldMay.r13
theorem laws_heldMay.ok : chkF prog F_laws_heldMay 2 laws_heldMay.fi = true := by kernel_rfl

/-! spec_l13Own -/
def spec_l13Own.r0 : List Ent := [
  E0 0 (some 1) none (.i (.box (.t 0))),
  E0 1 (some 2) none (.i (.box (.k (.agg [.nil 2, .nil 2, .nil 2, .nil 1]))))]
def spec_l13Own.r1 : List Ent := [
  EX 0 (some 3) none (.i (.bsl false 2 [])) 1 [4, 8, 12] [] false,
  EX 1 (some 4) none (.i (.fad 0 (.t 1))) 2 [0, 4, 8, 12] [] false,
  EX 2 (some 5) none (.i (.load false false 1 (.t 4))) 2 [0, 4, 8, 12] [] false,
  EX 3 (some 6) none (.i (.app 2 16 (.t 3) (.t 5))) 0 [4, 8, 12] [] true,
  EX 4 (some 7) none (.i (.bsl false 2 [])) 1 [0, 8, 12] [3] false,
  EX 5 (some 8) none (.i (.fad 1 (.t 1))) 2 [0, 4, 8, 12] [3] false,
  EX 6 (some 9) none (.i (.load false false 1 (.t 8))) 2 [0, 4, 8, 12] [3] false,
  EX 7 (some 10) none (.i (.app 2 16 (.t 7) (.t 9))) 0 [8, 12] [] true,
  EX 8 (some 11) none (.i (.bsl false 2 [])) 1 [0, 4, 12] [3, 7] false,
  EX 9 (some 12) none (.i (.fad 2 (.t 1))) 2 [0, 4, 8, 12] [3, 7] false,
  EX 10 (some 13) none (.i (.load false false 1 (.t 12))) 2 [0, 4, 8, 12] [3, 7] false,
  EX 11 (some 14) none (.i (.app 2 16 (.t 11) (.t 13))) 0 [12] [] true,
  EX 12 (some 15) none (.i (.bsl false 1 [])) 1 [0, 4, 8] [3, 7, 11] false,
  EX 13 (some 16) none (.i (.fad 3 (.t 1))) 2 [0, 4, 8, 12] [3, 7, 11] false,
  EX 14 (some 17) none (.i (.load false false 1 (.t 16))) 2 [0, 4, 8, 12] [3, 7, 11] false,
  E0 15 (some 18) none (.i (.app 1 1 (.t 15) (.t 17))),
  E0 16 (some 19) none (.i (.bld [.t 6, .t 10, .t 14, .t 18])),
  E0 17 none none (.i (.store 4 (.t 2) (.t 19)))]
def spec_l13Own.fi : FI := { res := [.c 2 true 4], code := .seq (.reg 64 2 spec_l13Own.r0) (.seq (.reg 192 18 spec_l13Own.r1) (.ret)) }
attribute [go_sem] spec_l13Own.r0 spec_l13Own.r1
theorem spec_l13Own.ok : chkF prog F_spec_l13Own 1 spec_l13Own.fi = true := by kernel_rfl

/-! spec_l1Most -/
def spec_l1Most.r0 : List Ent := [
  E0 0 (some 4) none (.i (.mv (.k (I64 0))))]
def spec_l1Most.r1 : List Ent := [
  E0 0 (some 5) none (.i (.mv (.t 0))),
  E0 1 (some 6) none (.i (.mv (.t 1))),
  E0 2 (some 7) none (.i (.bin .gtr (.t 5) (.t 6)))]
def spec_l1Most.r2 : List Ent := [
  E0 0 (some 8) none (.i (.mv (.t 0))),
  E0 1 (some 4) none (.i (.mv (.t 8)))]
def spec_l1Most.r3 : List Ent := [
  E0 0 (some 9) none (.i (.mv (.t 1))),
  E0 1 (some 4) none (.i (.mv (.t 9)))]
def spec_l1Most.fi : FI := { res := [.t 4], code := .seq (.reg 64 1 spec_l1Most.r0) (.seq (.seq (.reg 128 3 spec_l1Most.r1) (.cond (.t 7) (.seq (.reg 320 2 spec_l1Most.r2) (.ret)) (.skip))) (.seq (.reg 448 2 spec_l1Most.r3) (.ret))) }
attribute [go_sem] spec_l1Most.r0 spec_l1Most.r1 spec_l1Most.r2 spec_l1Most.r3
theorem spec_l1Most.ok : chkF prog F_spec_l1Most 2 spec_l1Most.fi = true := by kernel_rfl

/-! spec_l1Least -/
def spec_l1Least.r0 : List Ent := [
  E0 0 (some 4) none (.i (.mv (.k (I64 0))))]
def spec_l1Least.r1 : List Ent := [
  E0 0 (some 5) none (.i (.mv (.t 0))),
  E0 1 (some 6) none (.i (.mv (.t 1))),
  E0 2 (some 7) none (.i (.bin .lss (.t 5) (.t 6)))]
def spec_l1Least.r2 : List Ent := [
  E0 0 (some 8) none (.i (.mv (.t 0))),
  E0 1 (some 4) none (.i (.mv (.t 8)))]
def spec_l1Least.r3 : List Ent := [
  E0 0 (some 9) none (.i (.mv (.t 1))),
  E0 1 (some 4) none (.i (.mv (.t 9)))]
def spec_l1Least.fi : FI := { res := [.t 4], code := .seq (.reg 64 1 spec_l1Least.r0) (.seq (.seq (.reg 128 3 spec_l1Least.r1) (.cond (.t 7) (.seq (.reg 320 2 spec_l1Least.r2) (.ret)) (.skip))) (.seq (.reg 448 2 spec_l1Least.r3) (.ret))) }
attribute [go_sem] spec_l1Least.r0 spec_l1Least.r1 spec_l1Least.r2 spec_l1Least.r3
theorem spec_l1Least.ok : chkF prog F_spec_l1Least 2 spec_l1Least.fi = true := by kernel_rfl

/-! slices_Clone__sbool_bool -/
def slices_Clone__sbool_bool.r0 : List Ent := [
  E0 0 (some 2) none (.i (.mv (.k (.nil 1))))]
def slices_Clone__sbool_bool.r1 : List Ent := [
  E0 0 (some 3) none (.i (.mv (.t 0))),
  E0 1 (some 4) none (.i (.eqnil false (.t 3)))]
def slices_Clone__sbool_bool.r2 : List Ent := [
  E0 0 (some 2) none (.i (.mv (.k (.nil 1))))]
def slices_Clone__sbool_bool.r3 : List Ent := [
  E0 0 (some 5) none (.i (.bsl false 1 [])),
  E0 1 (some 6) none (.i (.mv (.t 0))),
  E0 2 (some 7) none (.i (.app 1 1 (.t 5) (.t 6))),
  E0 3 (some 2) none (.i (.mv (.t 7)))]
def slices_Clone__sbool_bool.fi : FI := { res := [.t 2], code := .seq (.reg 64 1 slices_Clone__sbool_bool.r0) (.seq (.seq (.reg 128 2 slices_Clone__sbool_bool.r1) (.cond (.t 4) (.seq (.reg 256 1 slices_Clone__sbool_bool.r2) (.ret)) (.skip))) (.seq (.reg 320 4 slices_Clone__sbool_bool.r3) (.ret))) }
attribute [go_sem] slices_Clone__sbool_bool.r0 slices_Clone__sbool_bool.r1 slices_Clone__sbool_bool.r2 slices_Clone__sbool_bool.r3
theorem slices_Clone__sbool_bool.ok : chkF prog F_slices_Clone__sbool_bool 1 slices_Clone__sbool_bool.fi = true := by kernel_rfl

/-! slices_Clone__sStretch_Stretch -/
def slices_Clone__sStretch_Stretch.r0 : List Ent := [
  E0 0 (some 2) none (.i (.mv (.k (.nil 2))))]
def slices_Clone__sStretch_Stretch.r1 : List Ent := [
  E0 0 (some 3) none (.i (.mv (.t 0))),
  E0 1 (some 4) none (.i (.eqnil false (.t 3)))]
def slices_Clone__sStretch_Stretch.r2 : List Ent := [
  E0 0 (some 2) none (.i (.mv (.k (.nil 2))))]
def slices_Clone__sStretch_Stretch.r3 : List Ent := [
  E0 0 (some 5) none (.i (.bsl false 2 [])),
  E0 1 (some 6) none (.i (.mv (.t 0))),
  E0 2 (some 7) none (.i (.app 2 16 (.t 5) (.t 6))),
  E0 3 (some 2) none (.i (.mv (.t 7)))]
def slices_Clone__sStretch_Stretch.fi : FI := { res := [.t 2], code := .seq (.reg 64 1 slices_Clone__sStretch_Stretch.r0) (.seq (.seq (.reg 128 2 slices_Clone__sStretch_Stretch.r1) (.cond (.t 4) (.seq (.reg 256 1 slices_Clone__sStretch_Stretch.r2) (.ret)) (.skip))) (.seq (.reg 320 4 slices_Clone__sStretch_Stretch.r3) (.ret))) }
attribute [go_sem] slices_Clone__sStretch_Stretch.r0 slices_Clone__sStretch_Stretch.r1 slices_Clone__sStretch_Stretch.r2 slices_Clone__sStretch_Stretch.r3
theorem slices_Clone__sStretch_Stretch.ok : chkF prog F_slices_Clone__sStretch_Stretch 1 slices_Clone__sStretch_Stretch.fi = true := by kernel_rfl

/-! slices_Clone__sKnown_Known -/
def slices_Clone__sKnown_Known.r0 : List Ent := [
  E0 0 (some 2) none (.i (.mv (.k (.nil 2))))]
def slices_Clone__sKnown_Known.r1 : List Ent := [
  E0 0 (some 3) none (.i (.mv (.t 0))),
  E0 1 (some 4) none (.i (.eqnil false (.t 3)))]
def slices_Clone__sKnown_Known.r2 : List Ent := [
  E0 0 (some 2) none (.i (.mv (.k (.nil 2))))]
def slices_Clone__sKnown_Known.r3 : List Ent := [
  E0 0 (some 5) none (.i (.bsl false 2 [])),
  E0 1 (some 6) none (.i (.mv (.t 0))),
  E0 2 (some 7) none (.i (.app 2 16 (.t 5) (.t 6))),
  E0 3 (some 2) none (.i (.mv (.t 7)))]
def slices_Clone__sKnown_Known.fi : FI := { res := [.t 2], code := .seq (.reg 64 1 slices_Clone__sKnown_Known.r0) (.seq (.seq (.reg 128 2 slices_Clone__sKnown_Known.r1) (.cond (.t 4) (.seq (.reg 256 1 slices_Clone__sKnown_Known.r2) (.ret)) (.skip))) (.seq (.reg 320 4 slices_Clone__sKnown_Known.r3) (.ret))) }
attribute [go_sem] slices_Clone__sKnown_Known.r0 slices_Clone__sKnown_Known.r1 slices_Clone__sKnown_Known.r2 slices_Clone__sKnown_Known.r3
theorem slices_Clone__sKnown_Known.ok : chkF prog F_slices_Clone__sKnown_Known 1 slices_Clone__sKnown_Known.fi = true := by kernel_rfl

/-! impl_May_own -/
def impl_May_own.r0 : List Ent := [
  E0 0 (some 1) none (.i (.box (.t 0))),
  E0 1 (some 2) none (.i (.box (.k (.agg [.nil 2, .nil 2, .nil 2, .nil 1]))))]
def impl_May_own.r1 : List Ent := [
  ER 0 (some 3) none (.fad 0 (.t 1)),
  ER 1 (some 4) none (.load false false 1 (.t 3)),
  EP 2 (some 5) none (.call F_slices_Clone__sStretch_Stretch false (roA [.t 4])) 1 false,
  EX 3 (some 6) none (.i (.fad 1 (.t 1))) 2 [2] [] false,
  EX 4 (some 7) none (.i (.load false false 1 (.t 6))) 2 [2] [] false,
  EP 5 (some 8) none (.call F_slices_Clone__sKnown_Known false (roA [.t 7])) 1 false,
  EX 6 (some 9) none (.i (.fad 2 (.t 1))) 2 [2, 5] [] false,
  EX 7 (some 10) none (.i (.load false false 1 (.t 9))) 2 [2, 5] [] false,
  EP 8 (some 11) none (.call F_slices_Clone__sStretch_Stretch false (roA [.t 10])) 1 false,
  EX 9 (some 12) none (.i (.fad 3 (.t 1))) 2 [2, 5, 8] [] false,
  EX 10 (some 13) none (.i (.load false false 1 (.t 12))) 2 [2, 5, 8] [] false,
  E0 11 (some 14) none (.call F_slices_Clone__sbool_bool false (roA [.t 13])),
  E0 12 (some 15) none (.i (.bld [.t 5, .t 8, .t 11, .t 14])),
  E0 13 none none (.i (.store 4 (.t 2) (.t 15)))]
def impl_May_own.fi : FI := { res := [.c 2 true 4], code := .seq (.reg 64 2 impl_May_own.r0) (.seq (.reg 192 14 impl_May_own.r1) (.ret)) }
attribute [go_sem] impl_May_own.r0 impl_May_own.r1
theorem impl_May_own.ok : chkF prog F_impl_May_own 1 impl_May_own.fi = true := by kernel_rfl

/-! impl_known -/
def impl_known.r0 : List Ent := [
  E0 0 (some 4) none (.i (.box (.k (.agg [.dat none (.int .i64 0), .dat none (.int .i64 0)]))))]
def impl_known.r1 : List Ent := [
  E0 0 (some 5) none (.i (.mv (.t 0))),
  E0 1 (some 6) none (.i (.mv (.t 1))),
  E0 2 (some 7) none (.i (.bin .andNot (.t 5) (.t 6))),
  E0 3 (some 8) none (.i (.mv (.t 1))),
  E0 4 (some 9) none (.i (.bld [.t 7, .t 8])),
  E0 5 none none (.i (.store 2 (.t 4) (.t 9)))]
def impl_known.fi : FI := { res := [.c 4 true 2], code := .seq (.reg 64 1 impl_known.r0) (.seq (.reg 128 6 impl_known.r1) (.ret)) }
attribute [go_sem] impl_known.r0 impl_known.r1
theorem impl_known.ok : chkF prog F_impl_known 2 impl_known.fi = true := by kernel_rfl

/-! spec_l2Reg -/
def spec_l2Reg.r0 : List Ent := [
  E0 0 (some 2) none (.i (.mv (.k (.dat none (.bool false)))))]
def spec_l2Reg.r1 : List Ent := [
  E0 0 (some 3) none (.i (.mv (.t 0))),
  E0 1 (some 4) none (.call F_spec_l1In false (roA [.t 3, .k (I64 0), .k (I64 5)])),
  E0 2 (some 2) none (.i (.mv (.t 4)))]
def spec_l2Reg.fi : FI := { res := [.t 2], code := .seq (.reg 64 1 spec_l2Reg.r0) (.seq (.reg 128 3 spec_l2Reg.r1) (.ret)) }
attribute [go_sem] spec_l2Reg.r0 spec_l2Reg.r1
theorem spec_l2Reg.ok : chkF prog F_spec_l2Reg 1 spec_l2Reg.fi = true := by kernel_rfl

/-! spec_l2Zero -/
def spec_l2Zero.r0 : List Ent := [
  E0 0 (some 6) none (.i (.box (.t 0))),
  E0 1 (some 12) none (.i (.mv (.k (.dat none (.bool false)))))]
def spec_l2Zero.r1 : List Ent := [
  E0 0 (some 13) none (.i (.mv (.t 1))),
  E0 1 (some 14) none (.i (.mv (.t 13))),
  E0 2 (some 15) (some (14, false)) (.i (.fad 1 (.t 6))),
  E0 3 (some 16) (some (14, false)) (.i (.load false false 1 (.t 15))),
  E0 4 (some 17) (some (14, false)) (.i (.bin .eql (.t 16) (.k (I64 0)))),
  E0 5 (some 18) none (.i (.pick (.t 14) (.k (.dat none (.bool true))) (.t 17))),
  E0 6 (some 19) none (.i (.mv (.t 18))),
  E0 7 (some 20) (some (19, true)) (.i (.mv (.t 2))),
  E0 8 (some 21) (some (19, true)) (.i (.mv (.t 20))),
  E0 9 (some 22) (some (21, false)) (.i (.fad 2 (.t 6))),
  E0 10 (some 23) (some (21, false)) (.i (.load false false 1 (.t 22))),
  E0 11 (some 24) (some (21, false)) (.i (.bin .eql (.t 23) (.k (I64 0)))),
  E0 12 (some 25) (some (19, true)) (.i (.pick (.t 21) (.k (.dat none (.bool true))) (.t 24))),
  E0 13 (some 26) none (.i (.pick (.t 19) (.t 25) (.k (.dat none (.bool false))))),
  E0 14 (some 27) none (.i (.mv (.t 26))),
  E0 15 (some 28) (some (27, true)) (.i (.mv (.t 3))),
  E0 16 (some 29) (some (27, true)) (.i (.mv (.t 28))),
  E0 17 (some 30) (some (29, false)) (.i (.fad 3 (.t 6))),
  E0 18 (some 31) (some (29, false)) (.i (.load false false 1 (.t 30))),
  E0 19 (some 32) (some (29, false)) (.i (.bin .eql (.t 31) (.k (I64 0)))),
  E0 20 (some 33) (some (27, true)) (.i (.pick (.t 29) (.k (.dat none (.bool true))) (.t 32))),
  E0 21 (some 34) none (.i (.pick (.t 27) (.t 33) (.k (.dat none (.bool false))))),
  E0 22 (some 35) none (.i (.mv (.t 34))),
  E0 23 (some 36) (some (35, true)) (.i (.mv (.t 4))),
  E0 24 (some 37) (some (35, true)) (.i (.mv (.t 36))),
  E0 25 (some 38) (some (37, false)) (.i (.fad 4 (.t 6))),
  E0 26 (some 39) (some (37, false)) (.i (.load false false 1 (.t 38))),
  E0 27 (some 40) (some (37, false)) (.i (.bin .eql (.t 39) (.k (I64 0)))),
  E0 28 (some 41) (some (35, true)) (.i (.pick (.t 37) (.k (.dat none (.bool true))) (.t 40))),
  E0 29 (some 42) none (.i (.pick (.t 35) (.t 41) (.k (.dat none (.bool false))))),
  E0 30 (some 43) none (.i (.mv (.t 42))),
  E0 31 (some 44) (some (43, true)) (.i (.mv (.t 5))),
  E0 32 (some 45) (some (43, true)) (.i (.mv (.t 44))),
  E0 33 (some 46) (some (45, false)) (.i (.fad 5 (.t 6))),
  E0 34 (some 47) (some (45, false)) (.i (.load false false 1 (.t 46))),
  E0 35 (some 48) (some (45, false)) (.i (.bin .eql (.t 47) (.k (I64 0)))),
  E0 36 (some 49) (some (43, true)) (.i (.pick (.t 45) (.k (.dat none (.bool true))) (.t 48))),
  E0 37 (some 50) none (.i (.pick (.t 43) (.t 49) (.k (.dat none (.bool false))))),
  E0 38 (some 12) none (.i (.mv (.t 50)))]
def spec_l2Zero.fi : FI := { res := [.t 12], code := .seq (.reg 64 2 spec_l2Zero.r0) (.seq (.reg 192 39 spec_l2Zero.r1) (.ret)) }
attribute [go_sem] spec_l2Zero.r0 spec_l2Zero.r1
theorem spec_l2Zero.ok : chkF prog F_spec_l2Zero 6 spec_l2Zero.fi = true := by kernel_rfl

/-! spec_l2Step -/
def spec_l2Step.r0 : List Ent := [
  E0 0 (some 1) none (.i (.box (.t 0))),
  E0 1 (some 2) none (.i (.mv (.k (.dat none (.bool false)))))]
def spec_l2Step.r1 : List Ent := [
  E0 0 (some 5) none (.i (.fad 1 (.t 1))),
  E0 1 (some 6) none (.i (.load false false 1 (.t 5))),
  E0 2 (some 7) none (.call F_spec_l1In false (roA [.t 6, .k (I64 1), .k (I64 10)])),
  E0 3 (some 3) none (.i (.mv (.t 7)))]
def spec_l2Step.r2 : List Ent := [
  E0 0 (some 8) none (.i (.fad 5 (.t 1))),
  E0 1 (some 9) none (.i (.load false false 1 (.t 8))),
  E0 2 (some 10) none (.call F_spec_l1In false (roA [.t 9, .k (I64 1), .k (I64 19)])),
  E0 3 (some 4) none (.i (.mv (.t 10)))]
def spec_l2Step.r3 : List Ent := [
  E0 0 (some 11) none (.i (.fad 2 (.t 1))),
  E0 1 (some 12) none (.i (.load false false 1 (.t 11))),
  E0 2 (some 13) none (.call F_spec_l2Reg false (roA [.t 12])),
  E0 3 (some 14) none (.i (.un .not (.t 13))),
  E0 4 (some 15) none (.i (.mv (.t 14))),
  E0 5 (some 16) (some (15, false)) (.i (.fad 3 (.t 1))),
  E0 6 (some 17) (some (15, false)) (.i (.load false false 1 (.t 16))),
  E0 7 (some 18) (some (15, false)) (.call F_spec_l2Reg false (roA [.t 17])),
  E0 8 (some 19) (some (15, false)) (.i (.un .not (.t 18))),
  E0 9 (some 20) none (.i (.pick (.t 15) (.k (.dat none (.bool true))) (.t 19)))]
def spec_l2Step.r4 : List Ent := [
  E0 0 (some 2) none (.i (.mv (.k (.dat none (.bool false)))))]
def spec_l2Step.r5 : List Ent := [
  E0 0 (some 21) none (.i (.fad 0 (.t 1))),
  E0 1 (some 22) none (.i (.load false false 1 (.t 21)))]
def spec_l2Step.r6 : List Ent := [
  E0 0 (some 24) none (.i (.bin .eql (.t 22) (.k (I64 1)))),
  E0 1 (some 23) none (.i (.mv (.t 24)))]
def spec_l2Step.r7 : List Ent := [
  E0 0 (some 25) none (.i (.mv (.t 3))),
  E0 1 (some 26) none (.i (.mv (.t 25))),
  E0 2 (some 27) (some (26, true)) (.i (.load false true 6 (.t 1))),
  E0 3 (some 28) (some (26, true)) (.call F_spec_l2Zero false (roA [.t 27, .k (.dat none (.bool true)), .k (.dat none (.bool true)), .k (.dat none (.bool true)), .k (.dat none (.bool false)), .k (.dat none (.bool false))])),
  E0 4 (some 29) none (.i (.pick (.t 26) (.t 28) (.k (.dat none (.bool false))))),
  E0 5 (some 2) none (.i (.mv (.t 29)))]
def spec_l2Step.r8 : List Ent := [
  E0 0 (some 31) none (.i (.bin .eql (.t 22) (.k (I64 2)))),
  E0 1 (some 30) none (.i (.mv (.t 31)))]
def spec_l2Step.r9 : List Ent := [
  E0 0 (some 32) none (.i (.mv (.t 3))),
  E0 1 (some 33) none (.i (.mv (.t 32))),
  E0 2 (some 34) (some (33, true)) (.i (.fad 4 (.t 1))),
  E0 3 (some 35) (some (33, true)) (.i (.load false false 1 (.t 34))),
  E0 4 (some 36) (some (33, true)) (.call F_spec_l1In false (roA [.t 35, .k (I64 0), .k (I64 255)])),
  E0 5 (some 37) none (.i (.pick (.t 33) (.t 36) (.k (.dat none (.bool false))))),
  E0 6 (some 38) none (.i (.mv (.t 37))),
  E0 7 (some 39) (some (38, true)) (.i (.load false true 6 (.t 1))),
  E0 8 (some 40) (some (38, true)) (.call F_spec_l2Zero false (roA [.t 39, .k (.dat none (.bool true)), .k (.dat none (.bool true)), .k (.dat none (.bool false)), .k (.dat none (.bool true)), .k (.dat none (.bool false))])),
  E0 9 (some 41) none (.i (.pick (.t 38) (.t 40) (.k (.dat none (.bool false))))),
  E0 10 (some 2) none (.i (.mv (.t 41)))]
def spec_l2Step.r10 : List Ent := [
  E0 0 (some 43) none (.i (.bin .eql (.t 22) (.k (I64 3)))),
  E0 1 (some 42) none (.i (.mv (.t 43)))]
def spec_l2Step.r11 : List Ent := [
  E0 0 (some 44) none (.i (.fad 4 (.t 1))),
  E0 1 (some 45) none (.i (.load false false 1 (.t 44))),
  E0 2 (some 46) none (.call F_spec_l1In false (roA [.t 45, .k (I64 0), .k (I64 255)])),
  E0 3 (some 47) none (.i (.mv (.t 46))),
  E0 4 (some 48) (some (47, true)) (.i (.load false true 6 (.t 1))),
  E0 5 (some 49) (some (47, true)) (.call F_spec_l2Zero false (roA [.t 48, .k (.dat none (.bool false)), .k (.dat none (.bool true)), .k (.dat none (.bool false)), .k (.dat none (.bool true)), .k (.dat none (.bool false))])),
  E0 6 (some 50) none (.i (.pick (.t 47) (.t 49) (.k (.dat none (.bool false))))),
  E0 7 (some 2) none (.i (.mv (.t 50)))]
def spec_l2Step.r12 : List Ent := [
  E0 0 (some 52) none (.i (.bin .eql (.t 22) (.k (I64 4)))),
  E0 1 (some 51) none (.i (.mv (.t 52)))]
def spec_l2Step.r13 : List Ent := [
  E0 0 (some 53) none (.i (.fad 4 (.t 1))),
  E0 1 (some 54) none (.i (.load false false 1 (.t 53))),
  E0 2 (some 55) none (.call F_spec_l1In false (roA [.t 54, .k (I64 256), .k (I64 65535)])),
  E0 3 (some 56) none (.i (.mv (.t 55))),
  E0 4 (some 57) (some (56, true)) (.i (.load false true 6 (.t 1))),
  E0 5 (some 58) (some (56, true)) (.call F_spec_l2Zero false (roA [.t 57, .k (.dat none (.bool false)), .k (.dat none (.bool true)), .k (.dat none (.bool false)), .k (.dat none (.bool true)), .k (.dat none (.bool false))])),
  E0 6 (some 59) none (.i (.pick (.t 56) (.t 58) (.k (.dat none (.bool false))))),
  E0 7 (some 2) none (.i (.mv (.t 59)))]
def spec_l2Step.r14 : List Ent := [
  E0 0 (some 61) none (.i (.bin .eql (.t 22) (.k (I64 5)))),
  E0 1 (some 60) none (.i (.mv (.t 61)))]
def spec_l2Step.r15 : List Ent := [
  E0 0 (some 62) none (.i (.fad 4 (.t 1))),
  E0 1 (some 63) none (.i (.load false false 1 (.t 62))),
  E0 2 (some 64) none (.call F_spec_l1In false (roA [.t 63, .k (I64 0), .k (I64 7)])),
  E0 3 (some 65) none (.i (.mv (.t 64))),
  E0 4 (some 66) (some (65, true)) (.i (.load false true 6 (.t 1))),
  E0 5 (some 67) (some (65, true)) (.call F_spec_l2Zero false (roA [.t 66, .k (.dat none (.bool false)), .k (.dat none (.bool true)), .k (.dat none (.bool true)), .k (.dat none (.bool true)), .k (.dat none (.bool false))])),
  E0 6 (some 68) none (.i (.pick (.t 65) (.t 67) (.k (.dat none (.bool false))))),
  E0 7 (some 2) none (.i (.mv (.t 68)))]
def spec_l2Step.r16 : List Ent := [
  E0 0 (some 70) none (.i (.bin .eql (.t 22) (.k (I64 6)))),
  E0 1 (some 69) none (.i (.mv (.t 70)))]
def spec_l2Step.r17 : List Ent := [
  E0 0 (some 71) none (.i (.bin .eql (.t 22) (.k (I64 7)))),
  E0 1 (some 69) none (.i (.mv (.t 71)))]
def spec_l2Step.r18 : List Ent := [
  E0 0 (some 72) none (.i (.fad 4 (.t 1))),
  E0 1 (some 73) none (.i (.load false false 1 (.t 72))),
  E0 2 (some 74) none (.call F_spec_l1In false (roA [.t 73, .k (I64 0), .k (I64 255)])),
  E0 3 (some 75) none (.i (.mv (.t 74))),
  E0 4 (some 76) (some (75, true)) (.i (.load false true 6 (.t 1))),
  E0 5 (some 77) (some (75, true)) (.call F_spec_l2Zero false (roA [.t 76, .k (.dat none (.bool false)), .k (.dat none (.bool true)), .k (.dat none (.bool false)), .k (.dat none (.bool true)), .k (.dat none (.bool false))])),
  E0 6 (some 78) none (.i (.pick (.t 75) (.t 77) (.k (.dat none (.bool false))))),
  E0 7 (some 2) none (.i (.mv (.t 78)))]
def spec_l2Step.r19 : List Ent := [
  E0 0 (some 80) none (.i (.bin .eql (.t 22) (.k (I64 8)))),
  E0 1 (some 79) none (.i (.mv (.t 80)))]
def spec_l2Step.r20 : List Ent := [
  E0 0 (some 81) none (.i (.mv (.t 4))),
  E0 1 (some 82) none (.i (.mv (.t 81))),
  E0 2 (some 83) (some (82, true)) (.i (.load false true 6 (.t 1))),
  E0 3 (some 84) (some (82, true)) (.call F_spec_l2Zero false (roA [.t 83, .k (.dat none (.bool false)), .k (.dat none (.bool false)), .k (.dat none (.bool false)), .k (.dat none (.bool false)), .k (.dat none (.bool true))])),
  E0 4 (some 85) none (.i (.pick (.t 82) (.t 84) (.k (.dat none (.bool false))))),
  E0 5 (some 2) none (.i (.mv (.t 85)))]
def spec_l2Step.r21 : List Ent := [
  E0 0 (some 87) none (.i (.bin .eql (.t 22) (.k (I64 9)))),
  E0 1 (some 86) none (.i (.mv (.t 87)))]
def spec_l2Step.r22 : List Ent := [
  E0 0 (some 88) none (.i (.bin .eql (.t 22) (.k (I64 10)))),
  E0 1 (some 86) none (.i (.mv (.t 88)))]
def spec_l2Step.r23 : List Ent := [
  E0 0 (some 89) none (.i (.mv (.t 4))),
  E0 1 (some 90) none (.i (.mv (.t 89))),
  E0 2 (some 91) (some (90, true)) (.i (.load false true 6 (.t 1))),
  E0 3 (some 92) (some (90, true)) (.call F_spec_l2Zero false (roA [.t 91, .k (.dat none (.bool false)), .k (.dat none (.bool true)), .k (.dat none (.bool true)), .k (.dat none (.bool false)), .k (.dat none (.bool true))])),
  E0 4 (some 93) none (.i (.pick (.t 90) (.t 92) (.k (.dat none (.bool false))))),
  E0 5 (some 2) none (.i (.mv (.t 93)))]
def spec_l2Step.r24 : List Ent := [
  E0 0 (some 94) none (.i (.fad 0 (.t 1))),
  E0 1 (some 95) none (.i (.load false false 1 (.t 94))),
  E0 2 (some 96) none (.i (.bin .eql (.t 95) (.k (I64 11)))),
  E0 3 (some 97) none (.i (.mv (.t 96))),
  E0 4 (some 98) (some (97, true)) (.i (.load false true 6 (.t 1))),
  E0 5 (some 99) (some (97, true)) (.call F_spec_l2Zero false (roA [.t 98, .k (.dat none (.bool false)), .k (.dat none (.bool false)), .k (.dat none (.bool false)), .k (.dat none (.bool false)), .k (.dat none (.bool false))])),
  E0 6 (some 100) none (.i (.pick (.t 97) (.t 99) (.k (.dat none (.bool false))))),
  E0 7 (some 2) none (.i (.mv (.t 100)))]
def spec_l2Step.fi : FI := { res := [.t 2], code := .seq (.reg 64 2 spec_l2Step.r0) (.seq (.reg 192 4 spec_l2Step.r1) (.seq (.reg 448 4 spec_l2Step.r2) (.seq (.seq (.reg 704 10 spec_l2Step.r3) (.cond (.t 20) (.seq (.reg 1344 1 spec_l2Step.r4) (.ret)) (.skip))) (.seq (.seq (.reg 1408 2 spec_l2Step.r5) (.block 0 (.seq (.reg 1536 2 spec_l2Step.r6) (.cond (.t 23) (.seq (.reg 1664 6 spec_l2Step.r7) (.ret)) (.seq (.reg 2048 2 spec_l2Step.r8) (.cond (.t 30) (.seq (.reg 2176 11 spec_l2Step.r9) (.ret)) (.seq (.reg 2880 2 spec_l2Step.r10) (.cond (.t 42) (.seq (.reg 3008 8 spec_l2Step.r11) (.ret)) (.seq (.reg 3520 2 spec_l2Step.r12) (.cond (.t 51) (.seq (.reg 3648 8 spec_l2Step.r13) (.ret)) (.seq (.reg 4160 2 spec_l2Step.r14) (.cond (.t 60) (.seq (.reg 4288 8 spec_l2Step.r15) (.ret)) (.seq (.seq (.reg 4800 2 spec_l2Step.r16) (.cond (.t 69) (.skip) (.reg 4928 2 spec_l2Step.r17))) (.cond (.t 69) (.seq (.reg 5056 8 spec_l2Step.r18) (.ret)) (.seq (.reg 5568 2 spec_l2Step.r19) (.cond (.t 79) (.seq (.reg 5696 6 spec_l2Step.r20) (.ret)) (.seq (.seq (.reg 6080 2 spec_l2Step.r21) (.cond (.t 86) (.skip) (.reg 6208 2 spec_l2Step.r22))) (.cond (.t 86) (.seq (.reg 6336 6 spec_l2Step.r23) (.ret)) (.skip))))))))))))))))))) (.seq (.reg 6720 8 spec_l2Step.r24) (.ret)))))) }
attribute [go_sem] spec_l2Step.r0 spec_l2Step.r1 spec_l2Step.r2 spec_l2Step.r3 spec_l2Step.r4 spec_l2Step.r5 spec_l2Step.r6 spec_l2Step.r7 spec_l2Step.r8 spec_l2Step.r9 spec_l2Step.r10 spec_l2Step.r11 spec_l2Step.r12 spec_l2Step.r13 spec_l2Step.r14 spec_l2Step.r15 spec_l2Step.r16 spec_l2Step.r17 spec_l2Step.r18 spec_l2Step.r19 spec_l2Step.r20 spec_l2Step.r21 spec_l2Step.r22 spec_l2Step.r23 spec_l2Step.r24
theorem spec_l2Step.ok : chkF prog F_spec_l2Step 1 spec_l2Step.fi = true := by kernel_rfl

/-! spec_l9Meet -/
def spec_l9Meet.r0 : List Ent := [
  E0 0 (some 2) none (.i (.box (.t 0))),
  E0 1 (some 3) none (.i (.box (.t 1))),
  E0 2 (some 4) none (.i (.box (.k (.agg [.dat none (.int .i64 0), .dat none (.int .i64 0)])))),
  E0 3 (some 5) none (.i (.mv (.k (.dat none (.bool false)))))]
def spec_l9Meet.r1 : List Ent := [
  EX 0 (some 7) none (.i (.fad 0 (.t 2))) 2 [11] [] false,
  EX 1 (some 8) none (.i (.load false false 1 (.t 7))) 2 [11] [] false,
  EX 2 (some 9) none (.i (.fad 0 (.t 3))) 2 [11] [] false,
  EX 3 (some 10) none (.i (.load false false 1 (.t 9))) 2 [11] [] false,
  EX 4 (some 11) none (.call F_spec_l1Most false (roA [.t 8, .t 10])) 2 [11] [] false,
  EX 5 (some 12) none (.i (.fad 1 (.t 2))) 2 [11] [] false,
  EX 6 (some 13) none (.i (.load false false 1 (.t 12))) 2 [11] [] false,
  EX 7 (some 14) none (.i (.fad 1 (.t 3))) 2 [11] [] false,
  EX 8 (some 15) none (.i (.load false false 1 (.t 14))) 2 [11] [] false,
  EX 9 (some 16) none (.call F_spec_l1Least false (roA [.t 13, .t 15])) 2 [11] [] false,
  EX 10 (some 17) none (.i (.bld [.t 11, .t 16])) 2 [11] [] false,
  EP 11 (some 6) none (.i (.box (.k (.agg [.dat none (.int .i64 0), .dat none (.int .i64 0)])))) 1 false,
  E0 12 none none (.i (.store 2 (.t 6) (.t 17)))]
def spec_l9Meet.r2 : List Ent := [
  E0 0 (some 18) none (.i (.fad 0 (.t 6))),
  E0 1 (some 19) none (.i (.load false false 1 (.t 18))),
  E0 2 (some 20) none (.i (.fad 1 (.t 6))),
  E0 3 (some 21) none (.i (.load false false 1 (.t 20))),
  E0 4 (some 22) none (.i (.bin .gtr (.t 19) (.t 21)))]
def spec_l9Meet.r3 : List Ent := [
  E0 0 (some 23) none (.i (.bld [.k (.dat none (.int .i64 0)), .k (.dat none (.int .i64 0))])),
  E0 1 none none (.i (.store 2 (.t 4) (.t 23))),
  E0 2 (some 5) none (.i (.mv (.k (.dat none (.bool false)))))]
def spec_l9Meet.r4 : List Ent := [
  E0 0 (some 24) none (.i (.load false true 2 (.t 6))),
  E0 1 none none (.i (.store 2 (.t 4) (.t 24))),
  E0 2 (some 5) none (.i (.mv (.k (.dat none (.bool true)))))]
def spec_l9Meet.fi : FI := { res := [.c 4 true 2, .t 5], code := .seq (.reg 64 4 spec_l9Meet.r0) (.seq (.reg 320 13 spec_l9Meet.r1) (.seq (.seq (.reg 1152 5 spec_l9Meet.r2) (.cond (.t 22) (.seq (.reg 1472 3 spec_l9Meet.r3) (.ret)) (.skip))) (.seq (.reg 1664 3 spec_l9Meet.r4) (.ret)))) }
attribute [go_sem] spec_l9Meet.r0 spec_l9Meet.r1 spec_l9Meet.r2 spec_l9Meet.r3 spec_l9Meet.r4
theorem spec_l9Meet.ok : chkF prog F_spec_l9Meet 2 spec_l9Meet.fi = true := by kernel_rfl

/-! spec_l10Meet -/
def spec_l10Meet.r0 : List Ent := [
  E0 0 (some 2) none (.i (.box (.t 0))),
  E0 1 (some 3) none (.i (.box (.t 1))),
  E0 2 (some 4) none (.i (.box (.k (.agg [.dat none (.int .i64 0), .dat none (.int .i64 0)])))),
  E0 3 (some 5) none (.i (.mv (.k (.dat none (.bool false)))))]
def spec_l10Meet.r1 : List Ent := [
  E0 0 (some 6) none (.i (.fad 0 (.t 2))),
  E0 1 (some 7) none (.i (.load false false 1 (.t 6))),
  E0 2 (some 8) none (.i (.fad 0 (.t 3))),
  E0 3 (some 9) none (.i (.load false false 1 (.t 8))),
  E0 4 (some 10) none (.i (.bin .xor (.t 7) (.t 9))),
  E0 5 (some 11) none (.i (.fad 1 (.t 2))),
  E0 6 (some 12) none (.i (.load false false 1 (.t 11))),
  E0 7 (some 13) none (.i (.fad 1 (.t 3))),
  E0 8 (some 14) none (.i (.load false false 1 (.t 13))),
  E0 9 (some 15) none (.i (.bin .or (.t 12) (.t 14))),
  E0 10 (some 16) none (.i (.bin .andNot (.t 10) (.t 15))),
  E0 11 (some 17) none (.i (.bin .neq (.t 16) (.k (I64 0))))]
def spec_l10Meet.r2 : List Ent := [
  E0 0 (some 18) none (.i (.bld [.k (.dat none (.int .i64 0)), .k (.dat none (.int .i64 0))])),
  E0 1 none none (.i (.store 2 (.t 4) (.t 18))),
  E0 2 (some 5) none (.i (.mv (.k (.dat none (.bool false)))))]
def spec_l10Meet.r3 : List Ent := [
  E0 0 (some 19) none (.i (.fad 0 (.t 2))),
  E0 1 (some 20) none (.i (.load false false 1 (.t 19))),
  E0 2 (some 21) none (.i (.fad 0 (.t 3))),
  E0 3 (some 22) none (.i (.load false false 1 (.t 21))),
  E0 4 (some 23) none (.i (.bin .or (.t 20) (.t 22))),
  E0 5 (some 24) none (.i (.fad 1 (.t 2))),
  E0 6 (some 25) none (.i (.load false false 1 (.t 24))),
  E0 7 (some 26) none (.i (.fad 1 (.t 3))),
  E0 8 (some 27) none (.i (.load false false 1 (.t 26))),
  E0 9 (some 28) none (.i (.bin .and (.t 25) (.t 27))),
  E0 10 (some 29) none (.i (.bld [.t 23, .t 28])),
  E0 11 none none (.i (.store 2 (.t 4) (.t 29))),
  E0 12 (some 5) none (.i (.mv (.k (.dat none (.bool true)))))]
def spec_l10Meet.fi : FI := { res := [.c 4 true 2, .t 5], code := .seq (.reg 64 4 spec_l10Meet.r0) (.seq (.seq (.reg 320 12 spec_l10Meet.r1) (.cond (.t 17) (.seq (.reg 1088 3 spec_l10Meet.r2) (.ret)) (.skip))) (.seq (.reg 1280 13 spec_l10Meet.r3) (.ret))) }
attribute [go_sem] spec_l10Meet.r0 spec_l10Meet.r1 spec_l10Meet.r2 spec_l10Meet.r3
theorem spec_l10Meet.ok : chkF prog F_spec_l10Meet 2 spec_l10Meet.fi = true := by kernel_rfl

/-! spec_l9Less -/
def spec_l9Less.r0 : List Ent := [
  E0 0 (some 2) none (.i (.box (.t 0))),
  E0 1 (some 3) none (.i (.box (.t 1))),
  E0 2 (some 4) none (.i (.box (.k (.agg [.dat none (.int .i64 0), .dat none (.int .i64 0)])))),
  E0 3 (some 5) none (.i (.box (.k (.agg [.dat none (.int .i64 0), .dat none (.int .i64 0)])))),
  E0 4 (some 6) none (.i (.mv (.k (.dat none (.bool false)))))]
def spec_l9Less.r1 : List Ent := [
  E0 0 (some 7) none (.i (.fad 0 (.t 2))),
  E0 1 (some 8) none (.i (.load false false 1 (.t 7))),
  E0 2 (some 9) none (.i (.fad 1 (.t 3))),
  E0 3 (some 10) none (.i (.load false false 1 (.t 9))),
  E0 4 (some 11) none (.i (.bin .geq (.t 8) (.t 10)))]
def spec_l9Less.r2 : List Ent := [
  E0 0 (some 12) none (.i (.bld [.k (.dat none (.int .i64 0)), .k (.dat none (.int .i64 0))])),
  E0 1 (some 13) none (.i (.bld [.k (.dat none (.int .i64 0)), .k (.dat none (.int .i64 0))])),
  E0 2 none none (.i (.store 2 (.t 4) (.t 12))),
  E0 3 none none (.i (.store 2 (.t 5) (.t 13))),
  E0 4 (some 6) none (.i (.mv (.k (.dat none (.bool false)))))]
def spec_l9Less.r3 : List Ent := [
  ER 0 (some 14) none (.fad 0 (.t 2)),
  ER 1 (some 15) none (.load false false 1 (.t 14)),
  ER 2 (some 16) none (.fad 1 (.t 2)),
  ER 3 (some 17) none (.load false false 1 (.t 16)),
  ER 4 (some 18) none (.fad 1 (.t 3)),
  ER 5 (some 19) none (.load false false 1 (.t 18)),
  E0 6 (some 20) none (.i (.bin .sub (.t 19) (.k (I64 1)))),
  E2 7 (some 21) none (.call F_spec_l1Least false (roA [.t 17, .t 20])),
  ER 8 (some 22) none (.bld [.t 15, .t 21]),
  ER 9 (some 23) none (.fad 0 (.t 3)),
  ER 10 (some 24) none (.load false false 1 (.t 23)),
  ER 11 (some 25) none (.fad 0 (.t 2)),
  ER 12 (some 26) none (.load false false 1 (.t 25)),
  E0 13 (some 27) none (.i (.bin .add (.t 26) (.k (I64 1)))),
  E2 14 (some 28) none (.call F_spec_l1Most false (roA [.t 24, .t 27])),
  EP 18 none none (.i (.store 2 (.t 4) (.t 22))) 0 true,
  EX 15 (some 29) none (.i (.fad 1 (.t 3))) 2 [] [18] false,
  EX 16 (some 30) none (.i (.load false false 1 (.t 29))) 2 [] [18] false,
  EX 17 (some 31) none (.i (.bld [.t 28, .t 30])) 2 [] [18] false,
  E0 19 none none (.i (.store 2 (.t 5) (.t 31))),
  E0 20 (some 6) none (.i (.mv (.k (.dat none (.bool true)))))]
def spec_l9Less.fi : FI := { res := [.c 4 true 2, .c 5 true 2, .t 6], code := .seq (.reg 64 5 spec_l9Less.r0) (.seq (.seq (.reg 384 5 spec_l9Less.r1) (.cond (.t 11) (.seq (.reg 704 5 spec_l9Less.r2) (.ret)) (.skip))) (.seq (.reg 1024 21 spec_l9Less.r3) (.ret))) }
attribute [go_sem] spec_l9Less.r0 spec_l9Less.r1 spec_l9Less.r2 spec_l9Less.r3
theorem spec_l9Less.ok : chkF prog F_spec_l9Less 2 spec_l9Less.fi = true := by kernel_rfl

/-! spec_l13Heed -/
def spec_l13Heed.r0 : List Ent := [
  E0 0 (some 3) none (.i (.box (.t 0))),
  E0 1 (some 4) none (.i (.box (.t 1))),
  E0 2 (some 6) none (.i (.box (.k (.agg [.nil 2, .nil 2, .nil 2, .nil 1])))),
  E0 3 (some 7) none (.i (.mv (.k (.dat none (.bool false)))))]
def spec_l13Heed.r1 : List Ent := [
  E0 0 (some 17) none (.i (.fad 0 (.t 4))),
  E0 1 (some 18) none (.i (.load false false 1 (.t 17))),
  E0 2 (some 19) none (.i (.fad 2 (.t 3))),
  E0 3 (some 20) none (.i (.load false false 1 (.t 19))),
  E0 4 (some 21) none (.i (.iad 2 (.t 18) (.t 20))),
  E0 5 (some 22) none (.i (.load false true 2 (.t 21))),
  E0 6 (some 8) none (.i (.box (.k (.agg [.dat none (.int .i64 0), .dat none (.int .i64 0)])))),
  E0 7 none none (.i (.store 2 (.t 8) (.t 22)))]
def spec_l13Heed.r2 : List Ent := [
  E0 0 (some 23) none (.i (.fad 0 (.t 4))),
  E0 1 (some 24) none (.i (.load false false 1 (.t 23))),
  E0 2 (some 25) none (.i (.fad 3 (.t 3))),
  E0 3 (some 26) none (.i (.load false false 1 (.t 25))),
  E0 4 (some 27) none (.i (.iad 2 (.t 24) (.t 26))),
  E0 5 (some 28) none (.i (.load false true 2 (.t 27))),
  E0 6 (some 9) none (.i (.box (.k (.agg [.dat none (.int .i64 0), .dat none (.int .i64 0)])))),
  E0 7 none none (.i (.store 2 (.t 9) (.t 28)))]
def spec_l13Heed.r3 : List Ent := [
  E0 0 (some 29) none (.i (.load false true 2 (.t 8))),
  E0 1 (some 10) none (.i (.box (.k (.agg [.dat none (.int .i64 0), .dat none (.int .i64 0)])))),
  E0 2 none none (.i (.store 2 (.t 10) (.t 29)))]
def spec_l13Heed.r4 : List Ent := [
  E0 0 (some 30) none (.i (.load false true 2 (.t 9))),
  E0 1 (some 11) none (.i (.box (.k (.agg [.dat none (.int .i64 0), .dat none (.int .i64 0)])))),
  E0 2 none none (.i (.store 2 (.t 11) (.t 30)))]
def spec_l13Heed.r5 : List Ent := [
  E0 0 (some 12) none (.i (.mv (.k (.dat none (.bool true)))))]
def spec_l13Heed.r6 : List Ent := [
  E0 0 (some 32) none (.i (.fad 0 (.t 3))),
  E0 1 (some 33) none (.i (.load false false 1 (.t 32))),
  E0 2 (some 34) none (.i (.bin .eql (.t 33) (.k (I64 9)))),
  E0 3 (some 35) none (.i (.mv (.t 34))),
  E0 4 (some 36) (some (35, true)) (.i (.mv (.t 2))),
  E0 5 (some 37) none (.i (.pick (.t 35) (.t 36) (.k (.dat none (.bool false))))),
  E0 6 (some 31) none (.i (.mv (.t 37)))]
def spec_l13Heed.r7 : List Ent := [
  E0 0 (some 39) none (.i (.load false true 2 (.t 8))),
  E0 1 (some 40) none (.i (.load false true 2 (.t 9))),
  E0 2 (some 41) none (.call F_spec_l9Meet false (roA [.t 39, .t 40])),
  E0 3 (some 38) none (.i (.mv (.t 41))),
  E0 4 (some 42) none (.i (.ext 0 (.t 38))),
  E0 5 (some 43) none (.i (.ext 1 (.t 38))),
  E0 6 (some 13) none (.i (.box (.k (.agg [.dat none (.int .i64 0), .dat none (.int .i64 0)])))),
  E0 7 none none (.i (.store 2 (.t 13) (.t 42))),
  E0 8 (some 14) none (.i (.mv (.t 43)))]
def spec_l13Heed.r8 : List Ent := [
  EX 0 (some 45) none (.i (.fad 1 (.t 4))) 2 [16] [] false,
  EX 1 (some 46) none (.i (.load false false 1 (.t 45))) 2 [16] [] false,
  EX 2 (some 47) none (.i (.fad 2 (.t 3))) 2 [16] [] false,
  EX 3 (some 48) none (.i (.load false false 1 (.t 47))) 2 [16] [] false,
  EX 4 (some 49) none (.i (.iad 2 (.t 46) (.t 48))) 2 [16] [] false,
  EX 5 (some 50) none (.i (.load false true 2 (.t 49))) 2 [16] [] false,
  EX 6 (some 51) none (.i (.fad 1 (.t 4))) 2 [16] [] false,
  EX 7 (some 52) none (.i (.load false false 1 (.t 51))) 2 [16] [] false,
  EX 8 (some 53) none (.i (.fad 3 (.t 3))) 2 [16] [] false,
  EX 9 (some 54) none (.i (.load false false 1 (.t 53))) 2 [16] [] false,
  EX 10 (some 55) none (.i (.iad 2 (.t 52) (.t 54))) 2 [16] [] false,
  EX 11 (some 56) none (.i (.load false true 2 (.t 55))) 2 [16] [] false,
  EX 12 (some 57) none (.call F_spec_l10Meet false (roA [.t 50, .t 56])) 2 [16] [] false,
  E0 13 (some 44) none (.i (.mv (.t 57))),
  EX 14 (some 58) none (.i (.ext 0 (.t 44))) 2 [16] [] false,
  EP 16 (some 15) none (.i (.box (.k (.agg [.dat none (.int .i64 0), .dat none (.int .i64 0)])))) 1 false,
  EP 17 none none (.i (.store 2 (.t 15) (.t 58))) 0 true,
  EX 15 (some 59) none (.i (.ext 1 (.t 44))) 2 [16] [17] false,
  E0 18 (some 16) none (.i (.mv (.t 59)))]
def spec_l13Heed.r9 : List Ent := [
  E0 0 (some 60) none (.i (.mv (.t 14))),
  E0 1 (some 61) none (.i (.un .not (.t 60))),
  E0 2 (some 62) none (.i (.mv (.t 61))),
  E0 3 (some 63) (some (62, false)) (.i (.mv (.t 16))),
  E0 4 (some 64) (some (62, false)) (.i (.un .not (.t 63))),
  E0 5 (some 65) none (.i (.pick (.t 62) (.k (.dat none (.bool true))) (.t 64)))]
def spec_l13Heed.r10 : List Ent := [
  E0 0 (some 66) none (.i (.bld [.k (.nil 2), .k (.nil 2), .k (.nil 2), .k (.nil 1)])),
  E0 1 none none (.i (.store 4 (.t 6) (.t 66))),
  E0 2 (some 7) none (.i (.mv (.k (.dat none (.bool false)))))]
def spec_l13Heed.r11 : List Ent := [
  E0 0 (some 67) none (.i (.fad 1 (.t 4))),
  E0 1 (some 68) none (.i (.load false false 1 (.t 67))),
  E0 2 (some 69) none (.i (.fad 2 (.t 3))),
  E0 3 (some 70) none (.i (.load false false 1 (.t 69))),
  E0 4 (some 71) none (.i (.load false true 2 (.t 15))),
  E0 5 (some 72) none (.i (.iad 2 (.t 68) (.t 70))),
  E0 6 none none (.i (.store 2 (.t 72) (.t 71)))]
def spec_l13Heed.r12 : List Ent := [
  E0 0 (some 73) none (.i (.fad 1 (.t 4))),
  E0 1 (some 74) none (.i (.load false false 1 (.t 73))),
  E0 2 (some 75) none (.i (.fad 3 (.t 3))),
  E0 3 (some 76) none (.i (.load false false 1 (.t 75))),
  E0 4 (some 77) none (.i (.load false true 2 (.t 15))),
  E0 5 (some 78) none (.i (.iad 2 (.t 74) (.t 76))),
  E0 6 none none (.i (.store 2 (.t 78) (.t 77)))]
def spec_l13Heed.r13 : List Ent := [
  E0 0 (some 79) none (.i (.load false true 2 (.t 13))),
  E0 1 none none (.i (.store 2 (.t 10) (.t 79)))]
def spec_l13Heed.r14 : List Ent := [
  E0 0 (some 80) none (.i (.load false true 2 (.t 13))),
  E0 1 none none (.i (.store 2 (.t 11) (.t 80)))]
def spec_l13Heed.r15 : List Ent := [
  E0 0 (some 82) none (.i (.fad 0 (.t 3))),
  E0 1 (some 83) none (.i (.load false false 1 (.t 82))),
  E0 2 (some 84) none (.i (.bin .eql (.t 83) (.k (I64 10)))),
  E0 3 (some 85) none (.i (.mv (.t 84))),
  E0 4 (some 86) (some (85, true)) (.i (.mv (.t 2))),
  E0 5 (some 87) none (.i (.pick (.t 85) (.t 86) (.k (.dat none (.bool false))))),
  E0 6 (some 81) none (.i (.mv (.t 87)))]
def spec_l13Heed.r16 : List Ent := [
  E0 0 (some 89) none (.i (.load false true 2 (.t 8))),
  E0 1 (some 90) none (.i (.load false true 2 (.t 9))),
  E0 2 (some 91) none (.call F_spec_l9Less false (roA [.t 89, .t 90])),
  E0 3 (some 88) none (.i (.mv (.t 91))),
  E0 4 (some 92) none (.i (.ext 0 (.t 88))),
  E0 5 (some 93) none (.i (.ext 1 (.t 88))),
  E0 6 (some 94) none (.i (.ext 2 (.t 88))),
  E0 7 none none (.i (.store 2 (.t 10) (.t 92))),
  E0 8 none none (.i (.store 2 (.t 11) (.t 93))),
  E0 9 (some 12) none (.i (.mv (.t 94)))]
def spec_l13Heed.r17 : List Ent := [
  E0 0 (some 96) none (.i (.fad 0 (.t 3))),
  E0 1 (some 97) none (.i (.load false false 1 (.t 96))),
  E0 2 (some 98) none (.i (.bin .eql (.t 97) (.k (I64 10)))),
  E0 3 (some 95) none (.i (.mv (.t 98)))]
def spec_l13Heed.r18 : List Ent := [
  E0 0 (some 99) none (.i (.fad 1 (.t 8))),
  E0 1 (some 100) none (.i (.load false false 1 (.t 99))),
  E0 2 (some 101) none (.i (.fad 0 (.t 9))),
  E0 3 (some 102) none (.i (.load false false 1 (.t 101))),
  E0 4 (some 103) none (.i (.bin .geq (.t 100) (.t 102))),
  E0 5 (some 12) none (.i (.mv (.t 103)))]
def spec_l13Heed.r19 : List Ent := [
  ER 0 (some 104) none (.fad 0 (.t 8)),
  ER 1 (some 105) none (.load false false 1 (.t 104)),
  ER 2 (some 106) none (.fad 0 (.t 9)),
  ER 3 (some 107) none (.load false false 1 (.t 106)),
  E2 4 (some 108) none (.call F_spec_l1Most false (roA [.t 105, .t 107])),
  ER 5 (some 109) none (.fad 1 (.t 8)),
  ER 6 (some 110) none (.load false false 1 (.t 109)),
  E0 7 (some 111) none (.i (.bld [.t 108, .t 110])),
  E0 8 none none (.i (.store 2 (.t 10) (.t 111)))]
def spec_l13Heed.r20 : List Ent := [
  ER 0 (some 112) none (.fad 0 (.t 9)),
  ER 1 (some 113) none (.load false false 1 (.t 112)),
  ER 2 (some 114) none (.fad 1 (.t 8)),
  ER 3 (some 115) none (.load false false 1 (.t 114)),
  ER 4 (some 116) none (.fad 1 (.t 9)),
  ER 5 (some 117) none (.load false false 1 (.t 116)),
  E2 6 (some 118) none (.call F_spec_l1Least false (roA [.t 115, .t 117])),
  E0 7 (some 119) none (.i (.bld [.t 113, .t 118])),
  E0 8 none none (.i (.store 2 (.t 11) (.t 119)))]
def spec_l13Heed.r21 : List Ent := [
  E0 0 (some 120) none (.i (.mv (.t 12))),
  E0 1 (some 121) none (.i (.un .not (.t 120))),
  E0 2 (some 122) none (.i (.mv (.t 121))),
  E0 3 (some 123) (some (122, false)) (.i (.fad 2 (.t 3))),
  E0 4 (some 124) (some (122, false)) (.i (.load false false 1 (.t 123))),
  E0 5 (some 125) (some (122, false)) (.i (.fad 3 (.t 3))),
  E0 6 (some 126) (some (122, false)) (.i (.load false false 1 (.t 125))),
  E0 7 (some 127) (some (122, false)) (.i (.bin .eql (.t 124) (.t 126))),
  E0 8 (some 128) (some (122, false)) (.i (.mv (.t 127))),
  E0 9 (some 129) (some (128, true)) (.i (.fad 0 (.t 3))),
  E0 10 (some 130) (some (128, true)) (.i (.load false false 1 (.t 129))),
  E0 11 (some 131) (some (128, true)) (.i (.bin .eql (.t 130) (.k (I64 10)))),
  E0 12 (some 132) (some (122, false)) (.i (.pick (.t 128) (.t 131) (.k (.dat none (.bool false))))),
  E0 13 (some 133) (some (122, false)) (.i (.mv (.t 132))),
  E0 14 (some 134) (some (133, true)) (.i (.mv (.t 2))),
  E0 15 (some 135) (some (122, false)) (.i (.pick (.t 133) (.t 134) (.k (.dat none (.bool false))))),
  E0 16 (some 136) none (.i (.pick (.t 122) (.k (.dat none (.bool true))) (.t 135)))]
def spec_l13Heed.r22 : List Ent := [
  E0 0 (some 137) none (.i (.bld [.k (.nil 2), .k (.nil 2), .k (.nil 2), .k (.nil 1)])),
  E0 1 none none (.i (.store 4 (.t 6) (.t 137))),
  E0 2 (some 7) none (.i (.mv (.k (.dat none (.bool false)))))]
def spec_l13Heed.r23 : List Ent := [
  E0 0 (some 138) none (.i (.fad 2 (.t 3))),
  E0 1 (some 139) none (.i (.load false false 1 (.t 138))),
  E0 2 (some 140) none (.i (.fad 3 (.t 3))),
  E0 3 (some 141) none (.i (.load false false 1 (.t 140))),
  E0 4 (some 142) none (.i (.bin .neq (.t 139) (.t 141)))]
def spec_l13Heed.r24 : List Ent := [
  E0 0 (some 143) none (.i (.fad 0 (.t 4))),
  E0 1 (some 144) none (.i (.load false false 1 (.t 143))),
  E0 2 (some 145) none (.i (.fad 2 (.t 3))),
  E0 3 (some 146) none (.i (.load false false 1 (.t 145))),
  E0 4 (some 147) none (.i (.load false true 2 (.t 10))),
  E0 5 (some 148) none (.i (.iad 2 (.t 144) (.t 146))),
  E0 6 none none (.i (.store 2 (.t 148) (.t 147)))]
def spec_l13Heed.r25 : List Ent := [
  E0 0 (some 149) none (.i (.fad 0 (.t 4))),
  E0 1 (some 150) none (.i (.load false false 1 (.t 149))),
  E0 2 (some 151) none (.i (.fad 3 (.t 3))),
  E0 3 (some 152) none (.i (.load false false 1 (.t 151))),
  E0 4 (some 153) none (.i (.load false true 2 (.t 11))),
  E0 5 (some 154) none (.i (.iad 2 (.t 150) (.t 152))),
  E0 6 none none (.i (.store 2 (.t 154) (.t 153)))]
def spec_l13Heed.r26 : List Ent := [
  E0 0 (some 155) none (.i (.load false true 4 (.t 4))),
  E0 1 none none (.i (.store 4 (.t 6) (.t 155))),
  E0 2 (some 7) none (.i (.mv (.k (.dat none (.bool true)))))]
def spec_l13Heed.fi : FI := { res := [.c 6 true 4, .t 7], code := .seq (.reg 64 4 spec_l13Heed.r0) (.seq (.reg 320 8 spec_l13Heed.r1) (.seq (.reg 832 8 spec_l13Heed.r2) (.seq (.reg 1344 3 spec_l13Heed.r3) (.seq (.reg 1536 3 spec_l13Heed.r4) (.seq (.reg 1728 1 spec_l13Heed.r5) (.seq (.block 0 (.seq (.reg 1792 7 spec_l13Heed.r6) (.cond (.t 31) (.seq (.reg 2240 9 spec_l13Heed.r7) (.seq (.reg 2816 19 spec_l13Heed.r8) (.seq (.seq (.reg 4032 6 spec_l13Heed.r9) (.cond (.t 65) (.seq (.reg 4416 3 spec_l13Heed.r10) (.ret)) (.skip))) (.seq (.reg 4608 7 spec_l13Heed.r11) (.seq (.reg 5056 7 spec_l13Heed.r12) (.seq (.reg 5504 2 spec_l13Heed.r13) (.reg 5632 2 spec_l13Heed.r14))))))) (.seq (.reg 5760 7 spec_l13Heed.r15) (.cond (.t 81) (.reg 6208 10 spec_l13Heed.r16) (.seq (.reg 6848 4 spec_l13Heed.r17) (.cond (.t 95) (.seq (.reg 7104 6 spec_l13Heed.r18) (.seq (.reg 7488 9 spec_l13Heed.r19) (.reg 8064 9 spec_l13Heed.r20))) (.skip)))))))) (.seq (.seq (.reg 8640 17 spec_l13Heed.r21) (.cond (.t 136) (.seq (.reg 9728 3 spec_l13Heed.r22) (.ret)) (.skip))) (.seq (.seq (.reg 9920 5 spec_l13Heed.r23) (.cond (.t 142) (.seq (.reg 10240 7 spec_l13Heed.r24) (.reg 10688 7 spec_l13Heed.r25)) (.skip))) (.seq (.reg 11136 3 spec_l13Heed.r26) (.ret)))))))))) }
attribute [go_sem] spec_l13Heed.r0 spec_l13Heed.r1 spec_l13Heed.r2 spec_l13Heed.r3 spec_l13Heed.r4 spec_l13Heed.r5 spec_l13Heed.r6 spec_l13Heed.r7 spec_l13Heed.r8 spec_l13Heed.r9 spec_l13Heed.r10 spec_l13Heed.r11 spec_l13Heed.r12 spec_l13Heed.r13 spec_l13Heed.r14 spec_l13Heed.r15 spec_l13Heed.r16 spec_l13Heed.r17 spec_l13Heed.r18 spec_l13Heed.r19 spec_l13Heed.r20 spec_l13Heed.r21 spec_l13Heed.r22 spec_l13Heed.r23 spec_l13Heed.r24 spec_l13Heed.r25 spec_l13Heed.r26
theorem spec_l13Heed.ok : chkF prog F_spec_l13Heed 3 spec_l13Heed.fi = true := by kernel_rfl

/-! spec_HeedJump -/
def spec_HeedJump.r0 : List Ent := [
  E0 0 (some 3) none (.i (.box (.t 0))),
  E0 1 (some 4) none (.i (.box (.t 1))),
  E0 2 (some 6) none (.i (.box (.k (.agg [.nil 2, .nil 2, .nil 2, .nil 1])))),
  E0 3 (some 7) none (.i (.mv (.k (.dat none (.bool false))))),
  E0 4 (some 8) none (.i (.mv (.k (.dat none (.bool false)))))]
def spec_HeedJump.r1 : List Ent := [
  E0 0 (some 11) none (.i (.load false true 6 (.t 3))),
  E0 1 (some 12) none (.call F_spec_l2Step false (roA [.t 11])),
  E0 2 (some 13) none (.i (.un .not (.t 12))),
  E0 3 (some 14) none (.i (.mv (.t 13))),
  E0 4 (some 15) (some (14, false)) (.i (.fad 0 (.t 3))),
  E0 5 (some 16) (some (14, false)) (.i (.load false false 1 (.t 15))),
  E0 6 (some 17) (some (14, false)) (.i (.bin .neq (.t 16) (.k (I64 9)))),
  E0 7 (some 18) (some (14, false)) (.i (.mv (.t 17))),
  E0 8 (some 19) (some (18, true)) (.i (.fad 0 (.t 3))),
  E0 9 (some 20) (some (18, true)) (.i (.load false false 1 (.t 19))),
  E0 10 (some 21) (some (18, true)) (.i (.bin .neq (.t 20) (.k (I64 10)))),
  E0 11 (some 22) (some (14, false)) (.i (.pick (.t 18) (.t 21) (.k (.dat none (.bool false))))),
  E0 12 (some 23) none (.i (.pick (.t 14) (.k (.dat none (.bool true))) (.t 22))),
  E0 13 (some 24) none (.i (.mv (.t 23))),
  E0 14 (some 25) (some (24, false)) (.i (.load false true 4 (.t 4))),
  E0 15 (some 26) (some (24, false)) (.call F_spec_GoodMay false (roA [.t 25])),
  E0 16 (some 27) (some (24, false)) (.i (.un .not (.t 26))),
  E0 17 (some 28) none (.i (.pick (.t 24) (.k (.dat none (.bool true))) (.t 27)))]
def spec_HeedJump.r2 : List Ent := [
  E0 0 (some 29) none (.i (.bld [.k (.nil 2), .k (.nil 2), .k (.nil 2), .k (.nil 1)])),
  E0 1 none none (.i (.store 4 (.t 6) (.t 29))),
  E0 2 (some 7) none (.i (.mv (.k (.dat none (.bool false))))),
  E0 3 (some 8) none (.i (.mv (.k (.dat none (.bool false)))))]
def spec_HeedJump.r3 : List Ent := [
  EX 0 (some 31) none (.i (.load false true 6 (.t 3))) 2 [2, 8] [] false,
  EX 1 (some 32) none (.i (.load false true 4 (.t 4))) 2 [8] [] false,
  EX 2 (some 33) none (.call F_spec_l13Own false (roA [.t 32])) 1 [8] [] false,
  E0 3 (some 34) none (.i (.mv (.t 2))),
  EX 8 (some 9) none (.i (.box (.k (.agg [.nil 2, .nil 2, .nil 2, .nil 1])))) 1 [2] [] false,
  EX 4 (some 35) none (.call F_spec_l13Heed false [(.ro, .t 31), (.co, .t 33), (.ro, .t 34)]) 0 [8] [] false,
  E0 5 (some 30) none (.i (.mv (.t 35))),
  EX 6 (some 36) none (.i (.ext 0 (.t 30))) 2 [8] [] false,
  EP 9 none none (.i (.store 4 (.t 9) (.t 36))) 0 true,
  EX 7 (some 37) none (.i (.ext 1 (.t 30))) 2 [8] [9] false,
  E0 10 (some 10) none (.i (.mv (.t 37)))]
def spec_HeedJump.r4 : List Ent := [
  E0 0 (some 38) none (.i (.load false true 4 (.t 9))),
  E0 1 (some 39) none (.i (.mv (.t 10))),
  E0 2 none none (.i (.store 4 (.t 6) (.t 38))),
  E0 3 (some 7) none (.i (.mv (.t 39))),
  E0 4 (some 8) none (.i (.mv (.k (.dat none (.bool true)))))]
def spec_HeedJump.fi : FI := { res := [.c 6 true 4, .t 7, .t 8], code := .seq (.reg 64 5 spec_HeedJump.r0) (.seq (.seq (.reg 384 18 spec_HeedJump.r1) (.cond (.t 28) (.seq (.reg 1536 4 spec_HeedJump.r2) (.ret)) (.skip))) (.seq (.reg 1792 11 spec_HeedJump.r3) (.seq (.reg 2496 5 spec_HeedJump.r4) (.ret)))) }
attribute [go_sem] spec_HeedJump.r0 spec_HeedJump.r1 spec_HeedJump.r2 spec_HeedJump.r3 spec_HeedJump.r4
theorem spec_HeedJump.ok : chkF prog F_spec_HeedJump 3 spec_HeedJump.fi = true := by kernel_rfl

/-! laws_toStep -/
def laws_toStep.r0 : List Ent := [
  E0 0 (some 1) none (.i (.box (.t 0))),
  E0 1 (some 2) none (.i (.box (.k (.agg [.dat none (.int .i64 0), .dat none (.int .i64 0), .dat none (.int .i64 0), .dat none (.int .i64 0), .dat none (.int .i64 0), .dat none (.int .i64 0)]))))]
def laws_toStep.r1 : List Ent := [
  E0 0 (some 3) none (.i (.box (.k (.agg [.dat none (.int .i64 0), .dat none (.int .i64 0), .dat none (.int .i64 0), .dat none (.int .i64 0), .dat none (.int .i64 0), .dat none (.int .i64 0)]))))]
def laws_toStep.r2 : List Ent := [
  E0 0 (some 4) none (.i (.fad 0 (.t 1))),
  E0 1 (some 5) none (.i (.load false false 1 (.t 4))),
  E0 2 (some 6) none (.i (.fad 0 (.t 3))),
  E0 3 none none (.i (.store 1 (.t 6) (.t 5)))]
def laws_toStep.r3 : List Ent := [
  E0 0 (some 7) none (.i (.fad 1 (.t 1))),
  E0 1 (some 8) none (.i (.load false false 1 (.t 7))),
  E0 2 (some 9) none (.i (.fad 1 (.t 3))),
  E0 3 none none (.i (.store 1 (.t 9) (.t 8)))]
def laws_toStep.r4 : List Ent := [
  E0 0 (some 10) none (.i (.fad 2 (.t 1))),
  E0 1 (some 11) none (.i (.load false false 1 (.t 10))),
  E0 2 (some 12) none (.i (.fad 2 (.t 3))),
  E0 3 none none (.i (.store 1 (.t 12) (.t 11)))]
def laws_toStep.r5 : List Ent := [
  E0 0 (some 13) none (.i (.fad 3 (.t 1))),
  E0 1 (some 14) none (.i (.load false false 1 (.t 13))),
  E0 2 (some 15) none (.i (.fad 3 (.t 3))),
  E0 3 none none (.i (.store 1 (.t 15) (.t 14)))]
def laws_toStep.r6 : List Ent := [
  E0 0 (some 16) none (.i (.fad 4 (.t 1))),
  E0 1 (some 17) none (.i (.load false false 1 (.t 16))),
  E0 2 (some 18) none (.i (.fad 4 (.t 3))),
  E0 3 none none (.i (.store 1 (.t 18) (.t 17)))]
def laws_toStep.r7 : List Ent := [
  E0 0 (some 19) none (.i (.fad 5 (.t 1))),
  E0 1 (some 20) none (.i (.load false false 1 (.t 19))),
  E0 2 (some 21) none (.i (.fad 5 (.t 3))),
  E0 3 none none (.i (.store 1 (.t 21) (.t 20)))]
def laws_toStep.r8 : List Ent := [
  E0 0 (some 22) none (.i (.load false true 6 (.t 3))),
  E0 1 none none (.i (.store 6 (.t 2) (.t 22)))]
def laws_toStep.fi : FI := { res := [.c 2 true 6], code := .seq (.reg 64 2 laws_toStep.r0) (.seq (.reg 192 1 laws_toStep.r1) (.seq (.reg 256 4 laws_toStep.r2) (.seq (.reg 512 4 laws_toStep.r3) (.seq (.reg 768 4 laws_toStep.r4) (.seq (.reg 1024 4 laws_toStep.r5) (.seq (.reg 1280 4 laws_toStep.r6) (.seq (.reg 1536 4 laws_toStep.r7) (.seq (.reg 1792 2 laws_toStep.r8) (.ret))))))))) }
attribute [go_sem] laws_toStep.r0 laws_toStep.r1 laws_toStep.r2 laws_toStep.r3 laws_toStep.r4 laws_toStep.r5 laws_toStep.r6 laws_toStep.r7 laws_toStep.r8
theorem laws_toStep.ok : chkF prog F_laws_toStep 1 laws_toStep.fi = true := by kernel_rfl

/-! impl_fields -/
def impl_fields.r0 : List Ent := [
  E0 0 (some 2) none (.i (.mv (.k (.dat none (.str ⟨#[]⟩)))))]
def impl_fields.r1 : List Ent := [
  E0 0 (some 3) none (.i (.mv (.t 0)))]
def impl_fields.r2 : List Ent := [
  E0 0 (some 5) none (.i (.bin .eql (.t 3) (.k (I64 1)))),
  E0 1 (some 4) none (.i (.mv (.t 5)))]
def impl_fields.r3 : List Ent := [
  E0 0 (some 2) none (.i (.mv (.k (.dat none (.str ⟨#[111, 100, 115]⟩)))))]
def impl_fields.r4 : List Ent := [
  E0 0 (some 7) none (.i (.bin .eql (.t 3) (.k (I64 2)))),
  E0 1 (some 6) none (.i (.mv (.t 7)))]
def impl_fields.r5 : List Ent := [
  E0 0 (some 2) none (.i (.mv (.k (.dat none (.str ⟨#[111, 100, 105]⟩)))))]
def impl_fields.r6 : List Ent := [
  E0 0 (some 9) none (.i (.bin .eql (.t 3) (.k (I64 3)))),
  E0 1 (some 8) none (.i (.mv (.t 9)))]
def impl_fields.r7 : List Ent := [
  E0 0 (some 10) none (.i (.bin .eql (.t 3) (.k (I64 4)))),
  E0 1 (some 8) none (.i (.mv (.t 10)))]
def impl_fields.r8 : List Ent := [
  E0 0 (some 11) none (.i (.bin .eql (.t 3) (.k (I64 6)))),
  E0 1 (some 8) none (.i (.mv (.t 11)))]
def impl_fields.r9 : List Ent := [
  E0 0 (some 12) none (.i (.bin .eql (.t 3) (.k (I64 7)))),
  E0 1 (some 8) none (.i (.mv (.t 12)))]
def impl_fields.r10 : List Ent := [
  E0 0 (some 2) none (.i (.mv (.k (.dat none (.str ⟨#[100, 105]⟩)))))]
def impl_fields.r11 : List Ent := [
  E0 0 (some 14) none (.i (.bin .eql (.t 3) (.k (I64 5)))),
  E0 1 (some 13) none (.i (.mv (.t 14)))]
def impl_fields.r12 : List Ent := [
  E0 0 (some 2) none (.i (.mv (.k (.dat none (.str ⟨#[100, 115, 105]⟩)))))]
def impl_fields.r13 : List Ent := [
  E0 0 (some 16) none (.i (.bin .eql (.t 3) (.k (I64 8)))),
  E0 1 (some 15) none (.i (.mv (.t 16)))]
def impl_fields.r14 : List Ent := [
  E0 0 (some 2) none (.i (.mv (.k (.dat none (.str ⟨#[116]⟩)))))]
def impl_fields.r15 : List Ent := [
  E0 0 (some 18) none (.i (.bin .eql (.t 3) (.k (I64 9)))),
  E0 1 (some 17) none (.i (.mv (.t 18)))]
def impl_fields.r16 : List Ent := [
  E0 0 (some 19) none (.i (.bin .eql (.t 3) (.k (I64 10)))),
  E0 1 (some 17) none (.i (.mv (.t 19)))]
def impl_fields.r17 : List Ent := [
  E0 0 (some 2) none (.i (.mv (.k (.dat none (.str ⟨#[100, 115, 116]⟩)))))]
def impl_fields.r18 : List Ent := [
  E0 0 (some 2) none (.i (.mv (.k (.dat none (.str ⟨#[]⟩)))))]
def impl_fields.fi : FI := { res := [.t 2], code := .seq (.reg 64 1 impl_fields.r0) (.seq (.seq (.reg 128 1 impl_fields.r1) (.block 0 (.seq (.reg 192 2 impl_fields.r2) (.cond (.t 4) (.seq (.reg 320 1 impl_fields.r3) (.ret)) (.seq (.reg 384 2 impl_fields.r4) (.cond (.t 6) (.seq (.reg 512 1 impl_fields.r5) (.ret)) (.seq (.seq (.reg 576 2 impl_fields.r6) (.cond (.t 8) (.skip) (.seq (.reg 704 2 impl_fields.r7) (.cond (.t 8) (.skip) (.seq (.reg 832 2 impl_fields.r8) (.cond (.t 8) (.skip) (.reg 960 2 impl_fields.r9))))))) (.cond (.t 8) (.seq (.reg 1088 1 impl_fields.r10) (.ret)) (.seq (.reg 1152 2 impl_fields.r11) (.cond (.t 13) (.seq (.reg 1280 1 impl_fields.r12) (.ret)) (.seq (.reg 1344 2 impl_fields.r13) (.cond (.t 15) (.seq (.reg 1472 1 impl_fields.r14) (.ret)) (.seq (.seq (.reg 1536 2 impl_fields.r15) (.cond (.t 17) (.skip) (.reg 1664 2 impl_fields.r16))) (.cond (.t 17) (.seq (.reg 1792 1 impl_fields.r17) (.ret)) (.skip))))))))))))))) (.seq (.reg 1856 1 impl_fields.r18) (.ret))) }
attribute [go_sem] impl_fields.r0 impl_fields.r1 impl_fields.r2 impl_fields.r3 impl_fields.r4 impl_fields.r5 impl_fields.r6 impl_fields.r7 impl_fields.r8 impl_fields.r9 impl_fields.r10 impl_fields.r11 impl_fields.r12 impl_fields.r13 impl_fields.r14 impl_fields.r15 impl_fields.r16 impl_fields.r17 impl_fields.r18
theorem impl_fields.ok : chkF prog F_impl_fields 1 impl_fields.fi = true := by kernel_rfl

/-! impl_Step_ranges -/
def impl_Step_ranges.r0 : List Ent := [
  E0 0 (some 2) none (.i (.box (.t 0))),
  E0 1 (some 4) none (.i (.mv (.k (I64 0)))),
  E0 2 (some 5) none (.i (.mv (.k (I64 0))))]
def impl_Step_ranges.r1 : List Ent := [
  E0 0 (some 7) none (.i (.mv (.t 1))),
  E0 1 (some 8) none (.i (.bin .eql (.t 7) (.k (.dat none (.int .u8 111))))),
  E0 2 (some 6) none (.i (.mv (.t 8)))]
def impl_Step_ranges.r2 : List Ent := [
  E0 0 (some 4) none (.i (.mv (.k (I64 1)))),
  E0 1 (some 5) none (.i (.mv (.k (I64 10))))]
def impl_Step_ranges.r3 : List Ent := [
  E0 0 (some 10) none (.i (.mv (.t 1))),
  E0 1 (some 11) none (.i (.bin .eql (.t 10) (.k (.dat none (.int .u8 100))))),
  E0 2 (some 12) none (.i (.mv (.t 11))),
  E0 3 (some 13) (some (12, false)) (.i (.mv (.t 1))),
  E0 4 (some 14) (some (12, false)) (.i (.bin .eql (.t 13) (.k (.dat none (.int .u8 115))))),
  E0 5 (some 15) none (.i (.pick (.t 12) (.k (.dat none (.bool true))) (.t 14))),
  E0 6 (some 9) none (.i (.mv (.t 15)))]
def impl_Step_ranges.r4 : List Ent := [
  E0 0 (some 4) none (.i (.mv (.k (I64 0)))),
  E0 1 (some 5) none (.i (.mv (.k (I64 5))))]
def impl_Step_ranges.r5 : List Ent := [
  E0 0 (some 17) none (.i (.mv (.t 1))),
  E0 1 (some 18) none (.i (.bin .eql (.t 17) (.k (.dat none (.int .u8 116))))),
  E0 2 (some 16) none (.i (.mv (.t 18)))]
def impl_Step_ranges.r6 : List Ent := [
  E0 0 (some 4) none (.i (.mv (.k (I64 1)))),
  E0 1 (some 5) none (.i (.mv (.k (I64 19))))]
def impl_Step_ranges.r7 : List Ent := [
  E0 0 (some 20) none (.i (.fad 0 (.t 2))),
  E0 1 (some 21) none (.i (.load false false 1 (.t 20))),
  E0 2 (some 22) none (.i (.bin .eql (.t 21) (.k (I64 4)))),
  E0 3 (some 19) none (.i (.mv (.t 22)))]
def impl_Step_ranges.r8 : List Ent := [
  E0 0 (some 4) none (.i (.mv (.k (I64 256)))),
  E0 1 (some 5) none (.i (.mv (.k (I64 65535))))]
def impl_Step_ranges.r9 : List Ent := [
  E0 0 (some 24) none (.i (.fad 0 (.t 2))),
  E0 1 (some 25) none (.i (.load false false 1 (.t 24))),
  E0 2 (some 26) none (.i (.bin .eql (.t 25) (.k (I64 5)))),
  E0 3 (some 23) none (.i (.mv (.t 26)))]
def impl_Step_ranges.r10 : List Ent := [
  E0 0 (some 4) none (.i (.mv (.k (I64 0)))),
  E0 1 (some 5) none (.i (.mv (.k (I64 7))))]
def impl_Step_ranges.r11 : List Ent := [
  E0 0 (some 4) none (.i (.mv (.k (I64 0)))),
  E0 1 (some 5) none (.i (.mv (.k (I64 255))))]
def impl_Step_ranges.fi : FI := { res := [.t 4, .t 5], code := .seq (.reg 64 3 impl_Step_ranges.r0) (.seq (.block 0 (.seq (.reg 256 3 impl_Step_ranges.r1) (.cond (.t 6) (.seq (.reg 448 2 impl_Step_ranges.r2) (.ret)) (.seq (.reg 576 7 impl_Step_ranges.r3) (.cond (.t 9) (.seq (.reg 1024 2 impl_Step_ranges.r4) (.ret)) (.seq (.reg 1152 3 impl_Step_ranges.r5) (.cond (.t 16) (.seq (.reg 1344 2 impl_Step_ranges.r6) (.ret)) (.seq (.reg 1472 4 impl_Step_ranges.r7) (.cond (.t 19) (.seq (.reg 1728 2 impl_Step_ranges.r8) (.ret)) (.seq (.reg 1856 4 impl_Step_ranges.r9) (.cond (.t 23) (.seq (.reg 2112 2 impl_Step_ranges.r10) (.ret)) (.skip)))))))))))) (.seq (.reg 2240 2 impl_Step_ranges.r11) (.ret))) }
attribute [go_sem] impl_Step_ranges.r0 impl_Step_ranges.r1 impl_Step_ranges.r2 impl_Step_ranges.r3 impl_Step_ranges.r4 impl_Step_ranges.r5 impl_Step_ranges.r6 impl_Step_ranges.r7 impl_Step_ranges.r8 impl_Step_ranges.r9 impl_Step_ranges.r10 impl_Step_ranges.r11
theorem impl_Step_ranges.ok : chkF prog F_impl_Step_ranges 2 impl_Step_ranges.fi = true := by kernel_rfl

/-! impl_Step_valid -/
def impl_Step_valid.r0 : List Ent := [
  E0 0 (some 1) none (.i (.box (.t 0))),
  E0 1 (some 2) none (.i (.mv (.k (.dat none (.bool false)))))]
def impl_Step_valid.r1 : List Ent := [
  E0 0 (some 8) none (.i (.load false true 6 (.t 1))),
  E0 1 (some 3) none (.i (.box (.k (.agg [.dat none (.int .i64 0), .dat none (.int .i64 0), .dat none (.int .i64 0), .dat none (.int .i64 0), .dat none (.int .i64 0), .dat none (.int .i64 0)])))),
  E0 2 none none (.i (.store 6 (.t 3) (.t 8)))]
def impl_Step_valid.r2 : List Ent := [
  E0 0 (some 9) none (.i (.fad 0 (.t 3))),
  E0 1 none none (.i (.store 1 (.t 9) (.k (I64 0))))]
def impl_Step_valid.r3 : List Ent := [
  E0 0 (some 10) none (.i (.fad 0 (.t 1))),
  E0 1 (some 11) none (.i (.load false false 1 (.t 10))),
  E0 2 (some 12) none (.call F_impl_fields false (roA [.t 11])),
  E0 3 (some 13) none (.i (.lens (.t 12))),
  E0 4 (some 14) none (.i (.mv (.k (I64 0))))]
def impl_Step_valid.r4 : List Ent := [
  E0 0 (some 15) none (.i (.bin .lss (.t 14) (.t 13)))]
def impl_Step_valid.r5 : List Ent := [
  E0 0 (some 16) none (.i (.mv (.t 14))),
  E0 1 (some 4) none (.i (.mv (.t 16)))]
def impl_Step_valid.r6 : List Ent := [
  E0 0 (some 17) none (.i (.fad 0 (.t 1))),
  E0 1 (some 18) none (.i (.load false false 1 (.t 17))),
  E0 2 (some 19) none (.call F_impl_fields false (roA [.t 18])),
  E0 3 (some 20) none (.i (.mv (.t 4))),
  E0 4 (some 21) none (.i (.ids (.t 19) (.t 20))),
  E0 5 (some 5) none (.i (.mv (.t 21)))]
def impl_Step_valid.r7 : List Ent := [
  E0 0 (some 23) none (.i (.load false true 6 (.t 1))),
  E0 1 (some 24) none (.i (.mv (.t 5))),
  E0 2 (some 25) none (.call F_impl_Step_ranges false (roA [.t 23, .t 24])),
  E0 3 (some 22) none (.i (.mv (.t 25))),
  E0 4 (some 26) none (.i (.ext 0 (.t 22))),
  E0 5 (some 27) none (.i (.ext 1 (.t 22))),
  E0 6 (some 6) none (.i (.mv (.t 26))),
  E0 7 (some 7) none (.i (.mv (.t 27)))]
def impl_Step_valid.r8 : List Ent := [
  E0 0 (some 28) none (.i (.mv (.t 5))),
  E0 1 (some 29) none (.fcl F_impl_pStep_field (.t 1) (.t 28)),
  E0 2 (some 30) none (.i (.nck (.t 29))),
  E0 3 (some 31) none (.i (.load false false 1 (.t 30))),
  E0 4 (some 32) none (.i (.mv (.t 6))),
  E0 5 (some 33) none (.i (.mv (.t 7))),
  E0 6 (some 34) none (.call F_impl_in false (roA [.t 31, .t 32, .t 33])),
  E0 7 (some 35) none (.i (.un .not (.t 34)))]
def impl_Step_valid.r9 : List Ent := [
  E0 0 (some 2) none (.i (.mv (.k (.dat none (.bool false)))))]
def impl_Step_valid.r10 : List Ent := [
  E0 0 (some 36) none (.i (.mv (.t 5))),
  E0 1 (some 37) none (.fcl F_impl_pStep_field (.t 3) (.t 36)),
  E0 2 (some 38) none (.i (.nck (.t 37))),
  E0 3 none none (.i (.store 1 (.t 38) (.k (I64 0))))]
def impl_Step_valid.r11 : List Ent := [
  E0 0 (some 39) none (.i (.bin .add (.t 14) (.k (I64 1)))),
  E0 1 (some 14) none (.i (.mv (.t 39)))]
def impl_Step_valid.b0 : KC := .seq (.reg 832 1 impl_Step_valid.r4) (.seq (.cond (.t 15) (.skip) (.exit 0)) (.seq (.block 1 (.seq (.reg 896 2 impl_Step_valid.r5) (.seq (.reg 1024 6 impl_Step_valid.r6) (.seq (.reg 1408 8 impl_Step_valid.r7) (.seq (.seq (.reg 1920 8 impl_Step_valid.r8) (.cond (.t 35) (.seq (.reg 2432 1 impl_Step_valid.r9) (.ret)) (.skip))) (.reg 2496 4 impl_Step_valid.r10)))))) (.reg 2752 2 impl_Step_valid.r11)))
def impl_Step_valid.r12 : List Ent := [
  E0 0 (some 40) none (.i (.fad 0 (.t 1))),
  E0 1 (some 41) none (.i (.load false false 1 (.t 40))),
  E0 2 (some 42) none (.call F_impl_in false (roA [.t 41, .k (I64 1), .k (I64 11)])),
  E0 3 (some 43) none (.i (.mv (.t 42))),
  E0 4 (some 44) (some (43, true)) (.i (.load false true 6 (.t 3))),
  E0 5 (some 45) (some (43, true)) (.i (.bld [.k (.dat none (.int .i64 0)), .k (.dat none (.int .i64 0)), .k (.dat none (.int .i64 0)), .k (.dat none (.int .i64 0)), .k (.dat none (.int .i64 0)), .k (.dat none (.int .i64 0))])),
  E0 6 (some 46) (some (43, true)) (.i (.eqag 6 false (.t 44) (.t 45))),
  E0 7 (some 47) none (.i (.pick (.t 43) (.t 46) (.k (.dat none (.bool false))))),
  E0 8 (some 2) none (.i (.mv (.t 47)))]
def impl_Step_valid.fi : FI := { res := [.t 2], code := .seq (.reg 64 2 impl_Step_valid.r0) (.seq (.reg 192 3 impl_Step_valid.r1) (.seq (.reg 384 2 impl_Step_valid.r2) (.seq (.seq (.reg 512 5 impl_Step_valid.r3) (.block 0 (.loop impl_Step_valid.b0))) (.seq (.reg 2880 9 impl_Step_valid.r12) (.ret))))) }
attribute [go_sem] impl_Step_valid.r0 impl_Step_valid.r1 impl_Step_valid.r2 impl_Step_valid.r3 impl_Step_valid.r4 impl_Step_valid.r5 impl_Step_valid.r6 impl_Step_valid.r7 impl_Step_valid.r8 impl_Step_valid.r9 impl_Step_valid.r10 impl_Step_valid.r11 impl_Step_valid.r12
theorem impl_Step_valid.ok : chkF prog F_impl_Step_valid 1 impl_Step_valid.fi = true := by kernel_rfl

/-! impl_meetStretch -/
def impl_meetStretch.r0 : List Ent := [
  E0 0 (some 2) none (.i (.box (.t 0))),
  E0 1 (some 3) none (.i (.box (.t 1))),
  E0 2 (some 4) none (.i (.box (.k (.agg [.dat none (.int .i64 0), .dat none (.int .i64 0)])))),
  E0 3 (some 5) none (.i (.mv (.k (.dat none (.bool false)))))]
def impl_meetStretch.r1 : List Ent := [
  E0 0 (some 7) none (.i (.fad 0 (.t 2))),
  E0 1 (some 8) none (.i (.load false false 1 (.t 7))),
  E0 2 (some 9) none (.i (.fad 0 (.t 3))),
  E0 3 (some 10) none (.i (.load false false 1 (.t 9))),
  E0 4 (some 11) none (.i (.mnx true (.t 8) (.t 10))),
  E0 5 (some 12) none (.i (.fad 1 (.t 2))),
  E0 6 (some 13) none (.i (.load false false 1 (.t 12))),
  E0 7 (some 14) none (.i (.fad 1 (.t 3))),
  E0 8 (some 15) none (.i (.load false false 1 (.t 14))),
  E0 9 (some 16) none (.i (.mnx false (.t 13) (.t 15))),
  E0 10 (some 17) none (.i (.bld [.t 11, .t 16])),
  E0 11 (some 6) none (.i (.box (.k (.agg [.dat none (.int .i64 0), .dat none (.int .i64 0)])))),
  E0 12 none none (.i (.store 2 (.t 6) (.t 17)))]
def impl_meetStretch.r2 : List Ent := [
  E0 0 (some 18) none (.i (.fad 0 (.t 6))),
  E0 1 (some 19) none (.i (.load false false 1 (.t 18))),
  E0 2 (some 20) none (.i (.fad 1 (.t 6))),
  E0 3 (some 21) none (.i (.load false false 1 (.t 20))),
  E0 4 (some 22) none (.i (.bin .gtr (.t 19) (.t 21)))]
def impl_meetStretch.r3 : List Ent := [
  E0 0 (some 23) none (.i (.bld [.k (.dat none (.int .i64 0)), .k (.dat none (.int .i64 0))])),
  E0 1 none none (.i (.store 2 (.t 4) (.t 23))),
  E0 2 (some 5) none (.i (.mv (.k (.dat none (.bool false)))))]
def impl_meetStretch.r4 : List Ent := [
  E0 0 (some 24) none (.i (.load false true 2 (.t 6))),
  E0 1 none none (.i (.store 2 (.t 4) (.t 24))),
  E0 2 (some 5) none (.i (.mv (.k (.dat none (.bool true)))))]
def impl_meetStretch.fi : FI := { res := [.c 4 true 2, .t 5], code := .seq (.reg 64 4 impl_meetStretch.r0) (.seq (.reg 320 13 impl_meetStretch.r1) (.seq (.seq (.reg 1152 5 impl_meetStretch.r2) (.cond (.t 22) (.seq (.reg 1472 3 impl_meetStretch.r3) (.ret)) (.skip))) (.seq (.reg 1664 3 impl_meetStretch.r4) (.ret)))) }
attribute [go_sem] impl_meetStretch.r0 impl_meetStretch.r1 impl_meetStretch.r2 impl_meetStretch.r3 impl_meetStretch.r4
theorem impl_meetStretch.ok : chkF prog F_impl_meetStretch 2 impl_meetStretch.fi = true := by kernel_rfl

/-! impl_meetKnown -/
def impl_meetKnown.r0 : List Ent := [
  E0 0 (some 2) none (.i (.box (.t 0))),
  E0 1 (some 3) none (.i (.box (.t 1))),
  E0 2 (some 4) none (.i (.box (.k (.agg [.dat none (.int .i64 0), .dat none (.int .i64 0)])))),
  E0 3 (some 5) none (.i (.mv (.k (.dat none (.bool false)))))]
def impl_meetKnown.r1 : List Ent := [
  E0 0 (some 6) none (.i (.fad 0 (.t 2))),
  E0 1 (some 7) none (.i (.load false false 1 (.t 6))),
  E0 2 (some 8) none (.i (.fad 0 (.t 3))),
  E0 3 (some 9) none (.i (.load false false 1 (.t 8))),
  E0 4 (some 10) none (.i (.bin .xor (.t 7) (.t 9))),
  E0 5 (some 11) none (.i (.fad 1 (.t 2))),
  E0 6 (some 12) none (.i (.load false false 1 (.t 11))),
  E0 7 (some 13) none (.i (.bin .andNot (.t 10) (.t 12))),
  E0 8 (some 14) none (.i (.fad 1 (.t 3))),
  E0 9 (some 15) none (.i (.load false false 1 (.t 14))),
  E0 10 (some 16) none (.i (.bin .andNot (.t 13) (.t 15))),
  E0 11 (some 17) none (.i (.bin .neq (.t 16) (.k (I64 0))))]
def impl_meetKnown.r2 : List Ent := [
  E0 0 (some 18) none (.i (.bld [.k (.dat none (.int .i64 0)), .k (.dat none (.int .i64 0))])),
  E0 1 none none (.i (.store 2 (.t 4) (.t 18))),
  E0 2 (some 5) none (.i (.mv (.k (.dat none (.bool false)))))]
def impl_meetKnown.r3 : List Ent := [
  E0 0 (some 19) none (.i (.fad 0 (.t 2))),
  E0 1 (some 20) none (.i (.load false false 1 (.t 19))),
  E0 2 (some 21) none (.i (.fad 0 (.t 3))),
  E0 3 (some 22) none (.i (.load false false 1 (.t 21))),
  E0 4 (some 23) none (.i (.bin .or (.t 20) (.t 22))),
  E0 5 (some 24) none (.i (.fad 1 (.t 2))),
  E0 6 (some 25) none (.i (.load false false 1 (.t 24))),
  E0 7 (some 26) none (.i (.fad 1 (.t 3))),
  E0 8 (some 27) none (.i (.load false false 1 (.t 26))),
  E0 9 (some 28) none (.i (.bin .and (.t 25) (.t 27))),
  E0 10 (some 29) none (.call F_impl_known false (roA [.t 23, .t 28])),
  E0 11 none none (.i (.store 2 (.t 4) (.t 29))),
  E0 12 (some 5) none (.i (.mv (.k (.dat none (.bool true)))))]
def impl_meetKnown.fi : FI := { res := [.c 4 true 2, .t 5], code := .seq (.reg 64 4 impl_meetKnown.r0) (.seq (.seq (.reg 320 12 impl_meetKnown.r1) (.cond (.t 17) (.seq (.reg 1088 3 impl_meetKnown.r2) (.ret)) (.skip))) (.seq (.reg 1280 13 impl_meetKnown.r3) (.ret))) }
attribute [go_sem] impl_meetKnown.r0 impl_meetKnown.r1 impl_meetKnown.r2 impl_meetKnown.r3
theorem impl_meetKnown.ok : chkF prog F_impl_meetKnown 2 impl_meetKnown.fi = true := by kernel_rfl

/-! impl_splitLess -/
def impl_splitLess.r0 : List Ent := [
  E0 0 (some 2) none (.i (.box (.t 0))),
  E0 1 (some 3) none (.i (.box (.t 1))),
  E0 2 (some 4) none (.i (.box (.k (.agg [.dat none (.int .i64 0), .dat none (.int .i64 0)])))),
  E0 3 (some 5) none (.i (.box (.k (.agg [.dat none (.int .i64 0), .dat none (.int .i64 0)])))),
  E0 4 (some 6) none (.i (.mv (.k (.dat none (.bool false)))))]
def impl_splitLess.r1 : List Ent := [
  E0 0 (some 7) none (.i (.fad 0 (.t 2))),
  E0 1 (some 8) none (.i (.load false false 1 (.t 7))),
  E0 2 (some 9) none (.i (.fad 1 (.t 3))),
  E0 3 (some 10) none (.i (.load false false 1 (.t 9))),
  E0 4 (some 11) none (.i (.bin .geq (.t 8) (.t 10)))]
def impl_splitLess.r2 : List Ent := [
  E0 0 (some 12) none (.i (.bld [.k (.dat none (.int .i64 0)), .k (.dat none (.int .i64 0))])),
  E0 1 (some 13) none (.i (.bld [.k (.dat none (.int .i64 0)), .k (.dat none (.int .i64 0))])),
  E0 2 none none (.i (.store 2 (.t 4) (.t 12))),
  E0 3 none none (.i (.store 2 (.t 5) (.t 13))),
  E0 4 (some 6) none (.i (.mv (.k (.dat none (.bool false)))))]
def impl_splitLess.r3 : List Ent := [
  ER 0 (some 14) none (.fad 0 (.t 2)),
  ER 1 (some 15) none (.load false false 1 (.t 14)),
  ER 2 (some 16) none (.fad 1 (.t 2)),
  ER 3 (some 17) none (.load false false 1 (.t 16)),
  ER 4 (some 18) none (.fad 1 (.t 3)),
  ER 5 (some 19) none (.load false false 1 (.t 18)),
  E0 6 (some 20) none (.i (.bin .sub (.t 19) (.k (I64 1)))),
  E0 7 (some 21) none (.i (.mnx false (.t 17) (.t 20))),
  ER 8 (some 22) none (.bld [.t 15, .t 21]),
  EP 18 none none (.i (.store 2 (.t 4) (.t 22))) 0 true,
  EX 9 (some 23) none (.i (.fad 0 (.t 3))) 2 [] [18] false,
  EX 10 (some 24) none (.i (.load false false 1 (.t 23))) 2 [] [18] false,
  EX 11 (some 25) none (.i (.fad 0 (.t 2))) 2 [] [18] false,
  EX 12 (some 26) none (.i (.load false false 1 (.t 25))) 2 [] [18] false,
  E0 13 (some 27) none (.i (.bin .add (.t 26) (.k (I64 1)))),
  E0 14 (some 28) none (.i (.mnx true (.t 24) (.t 27))),
  EX 15 (some 29) none (.i (.fad 1 (.t 3))) 2 [] [18] false,
  EX 16 (some 30) none (.i (.load false false 1 (.t 29))) 2 [] [18] false,
  EX 17 (some 31) none (.i (.bld [.t 28, .t 30])) 2 [] [18] false,
  E0 19 none none (.i (.store 2 (.t 5) (.t 31))),
  E0 20 (some 6) none (.i (.mv (.k (.dat none (.bool true)))))]
def impl_splitLess.fi : FI := { res := [.c 4 true 2, .c 5 true 2, .t 6], code := .seq (.reg 64 5 impl_splitLess.r0) (.seq (.seq (.reg 384 5 impl_splitLess.r1) (.cond (.t 11) (.seq (.reg 704 5 impl_splitLess.r2) (.ret)) (.skip))) (.seq (.reg 1024 21 impl_splitLess.r3) (.ret))) }
attribute [go_sem] impl_splitLess.r0 impl_splitLess.r1 impl_splitLess.r2 impl_splitLess.r3
theorem impl_splitLess.ok : chkF prog F_impl_splitLess 2 impl_splitLess.fi = true := by kernel_rfl

/-! impl_heedJump -/
def impl_heedJump.r0 : List Ent := [
  E0 0 (some 3) none (.i (.box (.t 0))),
  E0 1 (some 4) none (.i (.box (.t 1))),
  E0 2 (some 6) none (.i (.box (.k (.agg [.nil 2, .nil 2, .nil 2, .nil 1])))),
  E0 3 (some 7) none (.i (.mv (.k (.dat none (.bool false)))))]
def impl_heedJump.r1 : List Ent := [
  E0 0 (some 19) none (.i (.load false true 4 (.t 4))),
  E0 1 (some 20) none (.call F_impl_May_own false (roA [.t 19])),
  E0 2 (some 8) none (.i (.box (.k (.agg [.nil 2, .nil 2, .nil 2, .nil 1])))),
  E0 3 none none (.i (.store 4 (.t 8) (.t 20)))]
def impl_heedJump.r2 : List Ent := [
  EX 0 (some 21) none (.i (.fad 0 (.t 4))) 2 [12, 13] [] false,
  EX 1 (some 22) none (.i (.load false false 1 (.t 21))) 2 [12, 13] [] false,
  EX 2 (some 23) none (.i (.fad 2 (.t 3))) 2 [12, 13] [] false,
  EX 3 (some 24) none (.i (.load false false 1 (.t 23))) 2 [12, 13] [] false,
  EX 4 (some 25) none (.i (.iad 2 (.t 22) (.t 24))) 2 [12, 13] [] false,
  EX 5 (some 26) none (.i (.load false true 2 (.t 25))) 2 [12, 13] [] false,
  EX 12 (some 9) none (.i (.box (.k (.agg [.dat none (.int .i64 0), .dat none (.int .i64 0)])))) 1 [13] [] false,
  EX 13 (some 10) none (.i (.box (.k (.agg [.dat none (.int .i64 0), .dat none (.int .i64 0)])))) 1 [12] [] false,
  EP 14 none none (.i (.store 2 (.t 9) (.t 26))) 0 true,
  EX 6 (some 27) none (.i (.fad 0 (.t 4))) 2 [12, 13] [14] false,
  EX 7 (some 28) none (.i (.load false false 1 (.t 27))) 2 [12, 13] [14] false,
  EX 8 (some 29) none (.i (.fad 3 (.t 3))) 2 [12, 13] [14] false,
  EX 9 (some 30) none (.i (.load false false 1 (.t 29))) 2 [12, 13] [14] false,
  EX 10 (some 31) none (.i (.iad 2 (.t 28) (.t 30))) 2 [12, 13] [14] false,
  EX 11 (some 32) none (.i (.load false true 2 (.t 31))) 2 [12, 13] [14] false,
  E0 15 none none (.i (.store 2 (.t 10) (.t 32)))]
def impl_heedJump.r3 : List Ent := [
  E0 0 (some 11) none (.i (.mv (.k (.dat none (.bool true)))))]
def impl_heedJump.r4 : List Ent := [
  E0 0 (some 34) none (.i (.fad 0 (.t 3))),
  E0 1 (some 35) none (.i (.load false false 1 (.t 34))),
  E0 2 (some 36) none (.i (.bin .eql (.t 35) (.k (I64 9)))),
  E0 3 (some 37) none (.i (.mv (.t 36))),
  E0 4 (some 38) (some (37, true)) (.i (.mv (.t 2))),
  E0 5 (some 39) none (.i (.pick (.t 37) (.t 38) (.k (.dat none (.bool false))))),
  E0 6 (some 33) none (.i (.mv (.t 39)))]
def impl_heedJump.r5 : List Ent := [
  E0 0 (some 41) none (.i (.load false true 2 (.t 9))),
  E0 1 (some 42) none (.i (.load false true 2 (.t 10))),
  E0 2 (some 43) none (.call F_impl_meetStretch false (roA [.t 41, .t 42])),
  E0 3 (some 40) none (.i (.mv (.t 43))),
  E0 4 (some 44) none (.i (.ext 0 (.t 40))),
  E0 5 (some 45) none (.i (.ext 1 (.t 40))),
  E0 6 (some 12) none (.i (.box (.k (.agg [.dat none (.int .i64 0), .dat none (.int .i64 0)])))),
  E0 7 none none (.i (.store 2 (.t 12) (.t 44))),
  E0 8 (some 13) none (.i (.mv (.t 45)))]
def impl_heedJump.r6 : List Ent := [
  EX 0 (some 47) none (.i (.fad 1 (.t 4))) 2 [16] [] false,
  EX 1 (some 48) none (.i (.load false false 1 (.t 47))) 2 [16] [] false,
  EX 2 (some 49) none (.i (.fad 2 (.t 3))) 2 [16] [] false,
  EX 3 (some 50) none (.i (.load false false 1 (.t 49))) 2 [16] [] false,
  EX 4 (some 51) none (.i (.iad 2 (.t 48) (.t 50))) 2 [16] [] false,
  EX 5 (some 52) none (.i (.load false true 2 (.t 51))) 2 [16] [] false,
  EX 6 (some 53) none (.i (.fad 1 (.t 4))) 2 [16] [] false,
  EX 7 (some 54) none (.i (.load false false 1 (.t 53))) 2 [16] [] false,
  EX 8 (some 55) none (.i (.fad 3 (.t 3))) 2 [16] [] false,
  EX 9 (some 56) none (.i (.load false false 1 (.t 55))) 2 [16] [] false,
  EX 10 (some 57) none (.i (.iad 2 (.t 54) (.t 56))) 2 [16] [] false,
  EX 11 (some 58) none (.i (.load false true 2 (.t 57))) 2 [16] [] false,
  EX 12 (some 59) none (.call F_impl_meetKnown false (roA [.t 52, .t 58])) 2 [16] [] false,
  E0 13 (some 46) none (.i (.mv (.t 59))),
  EX 14 (some 60) none (.i (.ext 0 (.t 46))) 2 [16] [] false,
  EP 16 (some 14) none (.i (.box (.k (.agg [.dat none (.int .i64 0), .dat none (.int .i64 0)])))) 1 false,
  EP 17 none none (.i (.store 2 (.t 14) (.t 60))) 0 true,
  EX 15 (some 61) none (.i (.ext 1 (.t 46))) 2 [16] [17] false,
  E0 18 (some 15) none (.i (.mv (.t 61)))]
def impl_heedJump.r7 : List Ent := [
  E0 0 (some 62) none (.i (.mv (.t 13))),
  E0 1 (some 63) none (.i (.mv (.t 62))),
  E0 2 (some 64) (some (63, true)) (.i (.mv (.t 15))),
  E0 3 (some 65) none (.i (.pick (.t 63) (.t 64) (.k (.dat none (.bool false))))),
  E0 4 (some 11) none (.i (.mv (.t 65)))]
def impl_heedJump.r8 : List Ent := [
  ER 0 (some 66) none (.fad 0 (.t 8)),
  ER 1 (some 67) none (.load false false 1 (.t 66)),
  ER 2 (some 68) none (.fad 2 (.t 3)),
  ER 3 (some 69) none (.load false false 1 (.t 68)),
  ER 8 (some 74) none (.load false true 2 (.t 12)),
  ER 10 (some 76) none (.iad 2 (.t 67) (.t 69)),
  EP 11 none none (.i (.store 2 (.t 76) (.t 74))) 0 true,
  EX 4 (some 70) none (.i (.fad 0 (.t 8))) 2 [] [11] false,
  EX 5 (some 71) none (.i (.load false false 1 (.t 70))) 2 [] [11] false,
  EX 6 (some 72) none (.i (.fad 3 (.t 3))) 2 [] [11] false,
  EX 7 (some 73) none (.i (.load false false 1 (.t 72))) 2 [] [11] false,
  EX 9 (some 75) none (.i (.load false true 2 (.t 12))) 2 [] [11] false,
  E0 12 (some 77) none (.i (.iad 2 (.t 71) (.t 73))),
  E0 13 none none (.i (.store 2 (.t 77) (.t 75)))]
def impl_heedJump.r9 : List Ent := [
  ER 0 (some 78) none (.fad 1 (.t 8)),
  ER 1 (some 79) none (.load false false 1 (.t 78)),
  ER 2 (some 80) none (.fad 2 (.t 3)),
  ER 3 (some 81) none (.load false false 1 (.t 80)),
  ER 8 (some 86) none (.load false true 2 (.t 14)),
  ER 10 (some 88) none (.iad 2 (.t 79) (.t 81)),
  EP 11 none none (.i (.store 2 (.t 88) (.t 86))) 0 true,
  EX 4 (some 82) none (.i (.fad 1 (.t 8))) 2 [] [11] false,
  EX 5 (some 83) none (.i (.load false false 1 (.t 82))) 2 [] [11] false,
  EX 6 (some 84) none (.i (.fad 3 (.t 3))) 2 [] [11] false,
  EX 7 (some 85) none (.i (.load false false 1 (.t 84))) 2 [] [11] false,
  EX 9 (some 87) none (.i (.load false true 2 (.t 14))) 2 [] [11] false,
  E0 12 (some 89) none (.i (.iad 2 (.t 83) (.t 85))),
  E0 13 none none (.i (.store 2 (.t 89) (.t 87)))]
def impl_heedJump.r10 : List Ent := [
  E0 0 (some 91) none (.i (.fad 0 (.t 3))),
  E0 1 (some 92) none (.i (.load false false 1 (.t 91))),
  E0 2 (some 93) none (.i (.bin .eql (.t 92) (.k (I64 10)))),
  E0 3 (some 94) none (.i (.mv (.t 93))),
  E0 4 (some 95) (some (94, true)) (.i (.mv (.t 2))),
  E0 5 (some 96) none (.i (.pick (.t 94) (.t 95) (.k (.dat none (.bool false))))),
  E0 6 (some 90) none (.i (.mv (.t 96)))]
def impl_heedJump.r11 : List Ent := [
  E0 0 (some 98) none (.i (.load false true 2 (.t 9))),
  E0 1 (some 99) none (.i (.load false true 2 (.t 10))),
  E0 2 (some 100) none (.call F_impl_splitLess false (roA [.t 98, .t 99])),
  E0 3 (some 97) none (.i (.mv (.t 100))),
  E0 4 (some 101) none (.i (.ext 0 (.t 97))),
  E0 5 (some 102) none (.i (.ext 1 (.t 97))),
  E0 6 (some 103) none (.i (.ext 2 (.t 97))),
  E0 7 (some 16) none (.i (.box (.k (.agg [.dat none (.int .i64 0), .dat none (.int .i64 0)])))),
  E0 8 (some 17) none (.i (.box (.k (.agg [.dat none (.int .i64 0), .dat none (.int .i64 0)])))),
  E0 9 none none (.i (.store 2 (.t 16) (.t 101))),
  E0 10 none none (.i (.store 2 (.t 17) (.t 102))),
  E0 11 (some 18) none (.i (.mv (.t 103)))]
def impl_heedJump.r12 : List Ent := [
  E0 0 (some 104) none (.i (.mv (.t 18))),
  E0 1 (some 105) none (.i (.mv (.t 104))),
  E0 2 (some 106) (some (105, true)) (.i (.fad 2 (.t 3))),
  E0 3 (some 107) (some (105, true)) (.i (.load false false 1 (.t 106))),
  E0 4 (some 108) (some (105, true)) (.i (.fad 3 (.t 3))),
  E0 5 (some 109) (some (105, true)) (.i (.load false false 1 (.t 108))),
  E0 6 (some 110) (some (105, true)) (.i (.bin .neq (.t 107) (.t 109))),
  E0 7 (some 111) none (.i (.pick (.t 105) (.t 110) (.k (.dat none (.bool false))))),
  E0 8 (some 11) none (.i (.mv (.t 111)))]
def impl_heedJump.r13 : List Ent := [
  ER 0 (some 112) none (.fad 0 (.t 8)),
  ER 1 (some 113) none (.load false false 1 (.t 112)),
  ER 2 (some 114) none (.fad 2 (.t 3)),
  ER 3 (some 115) none (.load false false 1 (.t 114)),
  ER 8 (some 120) none (.load false true 2 (.t 16)),
  ER 10 (some 122) none (.iad 2 (.t 113) (.t 115)),
  EP 11 none none (.i (.store 2 (.t 122) (.t 120))) 0 true,
  EX 4 (some 116) none (.i (.fad 0 (.t 8))) 2 [] [11] false,
  EX 5 (some 117) none (.i (.load false false 1 (.t 116))) 2 [] [11] false,
  EX 6 (some 118) none (.i (.fad 3 (.t 3))) 2 [] [11] false,
  EX 7 (some 119) none (.i (.load false false 1 (.t 118))) 2 [] [11] false,
  EX 9 (some 121) none (.i (.load false true 2 (.t 17))) 2 [] [11] false,
  E0 12 (some 123) none (.i (.iad 2 (.t 117) (.t 119))),
  E0 13 none none (.i (.store 2 (.t 123) (.t 121)))]
def impl_heedJump.r14 : List Ent := [
  E0 0 (some 125) none (.i (.fad 0 (.t 3))),
  E0 1 (some 126) none (.i (.load false false 1 (.t 125))),
  E0 2 (some 127) none (.i (.bin .eql (.t 126) (.k (I64 10)))),
  E0 3 (some 128) none (.i (.mv (.t 127))),
  E0 4 (some 129) (some (128, true)) (.i (.fad 2 (.t 3))),
  E0 5 (some 130) (some (128, true)) (.i (.load false false 1 (.t 129))),
  E0 6 (some 131) (some (128, true)) (.i (.fad 3 (.t 3))),
  E0 7 (some 132) (some (128, true)) (.i (.load false false 1 (.t 131))),
  E0 8 (some 133) (some (128, true)) (.i (.bin .neq (.t 130) (.t 132))),
  E0 9 (some 134) none (.i (.pick (.t 128) (.t 133) (.k (.dat none (.bool false))))),
  E0 10 (some 124) none (.i (.mv (.t 134)))]
def impl_heedJump.r15 : List Ent := [
  E0 0 (some 135) none (.i (.fad 1 (.t 9))),
  E0 1 (some 136) none (.i (.load false false 1 (.t 135))),
  E0 2 (some 137) none (.i (.fad 0 (.t 10))),
  E0 3 (some 138) none (.i (.load false false 1 (.t 137))),
  E0 4 (some 139) none (.i (.bin .geq (.t 136) (.t 138))),
  E0 5 (some 11) none (.i (.mv (.t 139)))]
def impl_heedJump.r16 : List Ent := [
  E0 0 (some 140) none (.i (.fad 0 (.t 8))),
  E0 1 (some 141) none (.i (.load false false 1 (.t 140))),
  E0 2 (some 142) none (.i (.fad 2 (.t 3))),
  E0 3 (some 143) none (.i (.load false false 1 (.t 142))),
  E0 4 (some 144) none (.i (.fad 0 (.t 9))),
  E0 5 (some 145) none (.i (.load false false 1 (.t 144))),
  E0 6 (some 146) none (.i (.fad 0 (.t 10))),
  E0 7 (some 147) none (.i (.load false false 1 (.t 146))),
  E0 8 (some 148) none (.i (.mnx true (.t 145) (.t 147))),
  E0 9 (some 149) none (.i (.fad 1 (.t 9))),
  E0 10 (some 150) none (.i (.load false false 1 (.t 149))),
  E0 11 (some 151) none (.i (.bld [.t 148, .t 150])),
  E0 12 (some 152) none (.i (.iad 2 (.t 141) (.t 143))),
  E0 13 none none (.i (.store 2 (.t 152) (.t 151)))]
def impl_heedJump.r17 : List Ent := [
  E0 0 (some 153) none (.i (.fad 0 (.t 8))),
  E0 1 (some 154) none (.i (.load false false 1 (.t 153))),
  E0 2 (some 155) none (.i (.fad 3 (.t 3))),
  E0 3 (some 156) none (.i (.load false false 1 (.t 155))),
  E0 4 (some 157) none (.i (.fad 0 (.t 10))),
  E0 5 (some 158) none (.i (.load false false 1 (.t 157))),
  E0 6 (some 159) none (.i (.fad 1 (.t 10))),
  E0 7 (some 160) none (.i (.load false false 1 (.t 159))),
  E0 8 (some 161) none (.i (.fad 1 (.t 9))),
  E0 9 (some 162) none (.i (.load false false 1 (.t 161))),
  E0 10 (some 163) none (.i (.mnx false (.t 160) (.t 162))),
  E0 11 (some 164) none (.i (.bld [.t 158, .t 163])),
  E0 12 (some 165) none (.i (.iad 2 (.t 154) (.t 156))),
  E0 13 none none (.i (.store 2 (.t 165) (.t 164)))]
def impl_heedJump.r18 : List Ent := [
  E0 0 (some 166) none (.i (.mv (.t 11))),
  E0 1 (some 167) none (.i (.un .not (.t 166)))]
def impl_heedJump.r19 : List Ent := [
  E0 0 (some 168) none (.i (.bld [.k (.nil 2), .k (.nil 2), .k (.nil 2), .k (.nil 1)])),
  E0 1 none none (.i (.store 4 (.t 6) (.t 168))),
  E0 2 (some 7) none (.i (.mv (.k (.dat none (.bool false)))))]
def impl_heedJump.r20 : List Ent := [
  E0 0 (some 169) none (.i (.load false true 4 (.t 8))),
  E0 1 none none (.i (.store 4 (.t 6) (.t 169))),
  E0 2 (some 7) none (.i (.mv (.k (.dat none (.bool true)))))]
def impl_heedJump.fi : FI := { res := [.c 6 true 4, .t 7], code := .seq (.reg 64 4 impl_heedJump.r0) (.seq (.reg 320 4 impl_heedJump.r1) (.seq (.reg 576 16 impl_heedJump.r2) (.seq (.reg 1600 1 impl_heedJump.r3) (.seq (.block 0 (.seq (.reg 1664 7 impl_heedJump.r4) (.cond (.t 33) (.seq (.reg 2112 9 impl_heedJump.r5) (.seq (.reg 2688 19 impl_heedJump.r6) (.seq (.reg 3904 5 impl_heedJump.r7) (.seq (.reg 4224 14 impl_heedJump.r8) (.reg 5120 14 impl_heedJump.r9))))) (.seq (.reg 6016 7 impl_heedJump.r10) (.cond (.t 90) (.seq (.reg 6464 12 impl_heedJump.r11) (.seq (.reg 7232 9 impl_heedJump.r12) (.reg 7808 14 impl_heedJump.r13))) (.seq (.reg 8704 11 impl_heedJump.r14) (.cond (.t 124) (.seq (.reg 9408 6 impl_heedJump.r15) (.seq (.reg 9792 14 impl_heedJump.r16) (.reg 10688 14 impl_heedJump.r17))) (.skip)))))))) (.seq (.seq (.reg 11584 2 impl_heedJump.r18) (.cond (.t 167) (.seq (.reg 11712 3 impl_heedJump.r19) (.ret)) (.skip))) (.seq (.reg 11904 3 impl_heedJump.r20) (.ret))))))) }
attribute [go_sem] impl_heedJump.r0 impl_heedJump.r1 impl_heedJump.r2 impl_heedJump.r3 impl_heedJump.r4 impl_heedJump.r5 impl_heedJump.r6 impl_heedJump.r7 impl_heedJump.r8 impl_heedJump.r9 impl_heedJump.r10 impl_heedJump.r11 impl_heedJump.r12 impl_heedJump.r13 impl_heedJump.r14 impl_heedJump.r15 impl_heedJump.r16 impl_heedJump.r17 impl_heedJump.r18 impl_heedJump.r19 impl_heedJump.r20
theorem impl_heedJump.ok : chkF prog F_impl_heedJump 3 impl_heedJump.fi = true := by kernel_rfl

/-! impl_HeedJump -/
def impl_HeedJump.r0 : List Ent := [
  E0 0 (some 3) none (.i (.box (.t 0))),
  E0 1 (some 4) none (.i (.box (.t 1))),
  E0 2 (some 6) none (.i (.box (.k (.agg [.nil 2, .nil 2, .nil 2, .nil 1])))),
  E0 3 (some 7) none (.i (.mv (.k (.dat none (.bool false))))),
  E0 4 (some 8) none (.i (.mv (.k (.dat none (.bool false)))))]
def impl_HeedJump.r1 : List Ent := [
  E0 0 (some 11) none (.i (.load false true 6 (.t 3))),
  E0 1 (some 12) none (.call F_impl_Step_valid false (roA [.t 11])),
  E0 2 (some 13) none (.i (.un .not (.t 12))),
  E0 3 (some 14) none (.i (.mv (.t 13))),
  E0 4 (some 15) (some (14, false)) (.i (.fad 0 (.t 3))),
  E0 5 (some 16) (some (14, false)) (.i (.load false false 1 (.t 15))),
  E0 6 (some 17) (some (14, false)) (.i (.bin .neq (.t 16) (.k (I64 9)))),
  E0 7 (some 18) (some (14, false)) (.i (.mv (.t 17))),
  E0 8 (some 19) (some (18, true)) (.i (.fad 0 (.t 3))),
  E0 9 (some 20) (some (18, true)) (.i (.load false false 1 (.t 19))),
  E0 10 (some 21) (some (18, true)) (.i (.bin .neq (.t 20) (.k (I64 10)))),
  E0 11 (some 22) (some (14, false)) (.i (.pick (.t 18) (.t 21) (.k (.dat none (.bool false))))),
  E0 12 (some 23) none (.i (.pick (.t 14) (.k (.dat none (.bool true))) (.t 22))),
  E0 13 (some 24) none (.i (.mv (.t 23))),
  E0 14 (some 25) (some (24, false)) (.i (.load false true 4 (.t 4))),
  E0 15 (some 26) (some (24, false)) (.call F_impl_GoodMay false (roA [.t 25])),
  E0 16 (some 27) (some (24, false)) (.i (.un .not (.t 26))),
  E0 17 (some 28) none (.i (.pick (.t 24) (.k (.dat none (.bool true))) (.t 27)))]
def impl_HeedJump.r2 : List Ent := [
  E0 0 (some 29) none (.i (.bld [.k (.nil 2), .k (.nil 2), .k (.nil 2), .k (.nil 1)])),
  E0 1 none none (.i (.store 4 (.t 6) (.t 29))),
  E0 2 (some 7) none (.i (.mv (.k (.dat none (.bool false))))),
  E0 3 (some 8) none (.i (.mv (.k (.dat none (.bool false)))))]
def impl_HeedJump.r3 : List Ent := [
  E0 0 (some 31) none (.i (.load false true 6 (.t 3))),
  E0 1 (some 32) none (.i (.load false true 4 (.t 4))),
  E0 2 (some 33) none (.i (.mv (.t 2))),
  E0 3 (some 34) none (.call F_impl_heedJump false (roA [.t 31, .t 32, .t 33])),
  E0 4 (some 30) none (.i (.mv (.t 34))),
  E0 5 (some 35) none (.i (.ext 0 (.t 30))),
  E0 6 (some 36) none (.i (.ext 1 (.t 30))),
  E0 7 (some 9) none (.i (.box (.k (.agg [.nil 2, .nil 2, .nil 2, .nil 1])))),
  E0 8 none none (.i (.store 4 (.t 9) (.t 35))),
  E0 9 (some 10) none (.i (.mv (.t 36)))]
def impl_HeedJump.r4 : List Ent := [
  E0 0 (some 37) none (.i (.load false true 4 (.t 9))),
  E0 1 (some 38) none (.i (.mv (.t 10))),
  E0 2 none none (.i (.store 4 (.t 6) (.t 37))),
  E0 3 (some 7) none (.i (.mv (.t 38))),
  E0 4 (some 8) none (.i (.mv (.k (.dat none (.bool true)))))]
def impl_HeedJump.fi : FI := { res := [.c 6 true 4, .t 7, .t 8], code := .seq (.reg 64 5 impl_HeedJump.r0) (.seq (.seq (.reg 384 18 impl_HeedJump.r1) (.cond (.t 28) (.seq (.reg 1536 4 impl_HeedJump.r2) (.ret)) (.skip))) (.seq (.reg 1792 10 impl_HeedJump.r3) (.seq (.reg 2432 5 impl_HeedJump.r4) (.ret)))) }
attribute [go_sem] impl_HeedJump.r0 impl_HeedJump.r1 impl_HeedJump.r2 impl_HeedJump.r3 impl_HeedJump.r4
theorem impl_HeedJump.ok : chkF prog F_impl_HeedJump 3 impl_HeedJump.fi = true := by kernel_rfl

/-! laws_FnExactHeedJump -/
def laws_FnExactHeedJump.r0 : List Ent := [
  E0 0 (some 3) none (.i (.box (.t 0))),
  E0 1 (some 4) none (.i (.box (.t 1))),
  E0 2 (some 6) none (.i (.mv (.k (.dat none (.bool false)))))]
def laws_FnExactHeedJump.r1 : List Ent := [
  E0 0 (some 7) none (.i (.mv (.k (I64 1048576))))]
def laws_FnExactHeedJump.r2 : List Ent := [
  E0 0 (some 21) none (.i (.load false true 4 (.t 4))),
  E0 1 (some 22) none (.i (.mv (.t 7))),
  E0 2 (some 23) none (.call F_laws_szMay false (roA [.t 21, .t 22])),
  E0 3 (some 7) none (.i (.mv (.t 23)))]
def laws_FnExactHeedJump.r3 : List Ent := [
  E0 0 (some 24) none (.i (.mv (.t 7))),
  E0 1 (some 25) none (.i (.bin .lss (.t 24) (.k (I64 0))))]
def laws_FnExactHeedJump.r4 : List Ent := [
  E0 0 (some 6) none (.i (.mv (.k (.dat none (.bool true)))))]
def laws_FnExactHeedJump.r5 : List Ent := [
  EX 0 (some 27) none (.i (.load false true 6 (.t 3))) 2 [10] [] false,
  EX 1 (some 28) none (.call F_laws_toStep false (roA [.t 27])) 2 [10] [] false,
  EX 2 (some 29) none (.i (.load false true 4 (.t 4))) 2 [10] [] false,
  EX 3 (some 30) none (.call F_laws_toMay false (roA [.t 29])) 1 [10] [] false,
  E0 4 (some 31) none (.i (.mv (.t 2))),
  EX 5 (some 32) none (.call F_spec_HeedJump false (roA [.t 28, .t 30, .t 31])) 1 [10] [] false,
  E0 6 (some 26) none (.i (.mv (.t 32))),
  EX 7 (some 33) none (.i (.ext 0 (.t 26))) 2 [10] [] false,
  EX 10 (some 8) none (.i (.box (.k (.agg [.nil 2, .nil 2, .nil 2, .nil 1])))) 1 [3, 5] [] false,
  EP 11 none none (.i (.store 4 (.t 8) (.t 33))) 0 true,
  EX 8 (some 34) none (.i (.ext 1 (.t 26))) 2 [10] [11] false,
  EX 9 (some 35) none (.i (.ext 2 (.t 26))) 2 [10] [11] false,
  E0 12 (some 9) none (.i (.mv (.t 34))),
  E0 13 (some 10) none (.i (.mv (.t 35)))]
def laws_FnExactHeedJump.r6 : List Ent := [
  E0 0 (some 36) none (.i (.load false true 4 (.t 4))),
  E0 1 (some 37) none (.call F_laws_toMay false (roA [.t 36])),
  E0 2 (some 11) none (.i (.box (.k (.agg [.nil 2, .nil 2, .nil 2, .nil 1])))),
  E0 3 none none (.i (.store 4 (.t 11) (.t 37)))]
def laws_FnExactHeedJump.r7 : List Ent := [
  EX 0 (some 39) none (.i (.load false true 6 (.t 3))) 2 [9] [] false,
  EX 1 (some 40) none (.call F_laws_toStep false (roA [.t 39])) 2 [9] [] false,
  EX 2 (some 41) none (.i (.load false true 4 (.t 11))) 2 [9] [] false,
  E0 3 (some 42) none (.i (.mv (.t 2))),
  EX 4 (some 43) none (.call F_impl_HeedJump false (roA [.t 40, .t 41, .t 42])) 1 [9] [] false,
  E0 5 (some 38) none (.i (.mv (.t 43))),
  EX 6 (some 44) none (.i (.ext 0 (.t 38))) 2 [9] [] false,
  EX 9 (some 12) none (.i (.box (.k (.agg [.nil 2, .nil 2, .nil 2, .nil 1])))) 1 [4] [] false,
  EP 10 none none (.i (.store 4 (.t 12) (.t 44))) 0 true,
  EX 7 (some 45) none (.i (.ext 1 (.t 38))) 2 [9] [10] false,
  EX 8 (some 46) none (.i (.ext 2 (.t 38))) 2 [9] [10] false,
  E0 11 (some 13) none (.i (.mv (.t 45))),
  E0 12 (some 14) none (.i (.mv (.t 46)))]
def laws_FnExactHeedJump.r8 : List Ent := [
  E0 0 (some 47) none (.i (.load false true 4 (.t 12))),
  E0 1 (some 48) none (.i (.load false true 4 (.t 8))),
  E0 2 (some 49) none (.call F_laws_eqMay false (roA [.t 47, .t 48])),
  E0 3 (some 50) none (.i (.un .not (.t 49))),
  E0 4 (some 51) none (.i (.mv (.t 50))),
  E0 5 (some 52) (some (51, false)) (.i (.mv (.t 13))),
  E0 6 (some 53) (some (51, false)) (.i (.mv (.t 9))),
  E0 7 (some 54) (some (51, false)) (.i (.eqb true (.t 52) (.t 53))),
  E0 8 (some 55) none (.i (.pick (.t 51) (.k (.dat none (.bool true))) (.t 54))),
  E0 9 (some 56) none (.i (.mv (.t 55))),
  E0 10 (some 57) (some (56, false)) (.i (.mv (.t 14))),
  E0 11 (some 58) (some (56, false)) (.i (.mv (.t 10))),
  E0 12 (some 59) (some (56, false)) (.i (.eqb true (.t 57) (.t 58))),
  E0 13 (some 60) none (.i (.pick (.t 56) (.k (.dat none (.bool true))) (.t 59)))]
def laws_FnExactHeedJump.r9 : List Ent := [
  E0 0 (some 6) none (.i (.mv (.k (.dat none (.bool false)))))]
def laws_FnExactHeedJump.r10 : List Ent := [
  EX 0 (some 61) none (.i (.load false true 4 (.t 11))) 2 [2] [] false,
  ER 1 (some 62) none (.load false true 4 (.t 4)),
  EP 2 (some 63) none (.call F_laws_toMay false (roA [.t 62])) 1 false,
  E0 3 (some 64) none (.call F_laws_eqMay false (roA [.t 61, .t 63])),
  E0 4 (some 65) none (.i (.un .not (.t 64)))]
def laws_FnExactHeedJump.r11 : List Ent := [
  E0 0 (some 6) none (.i (.mv (.k (.dat none (.bool false)))))]
def laws_FnExactHeedJump.r12 : List Ent := [
  E0 0 (some 15) none (.i (.mv (.k (I64 1))))]
def laws_FnExactHeedJump.r13 : List Ent := [
  E0 0 (some 66) none (.i (.load false true 4 (.t 11))),
  E0 1 (some 67) none (.i (.mv (.t 15))),
  E0 2 (some 68) none (.call F_laws_markMay false [(.io, .t 66), (.ro, .t 67)]),
  E0 3 (some 15) none (.i (.mv (.t 68)))]
def laws_FnExactHeedJump.r14 : List Ent := [
  E0 0 (some 69) none (.i (.mv (.t 15))),
  E0 1 (some 70) none (.i (.bin .lss (.t 69) (.k (I64 0)))),
  E0 2 (some 71) none (.i (.mv (.t 70))),
  E0 3 (some 72) (some (71, false)) (.i (.load false true 4 (.t 12))),
  E0 4 (some 73) (some (71, false)) (.i (.load false true 4 (.t 8))),
  E0 5 (some 74) (some (71, false)) (.call F_laws_eqMay false (roA [.t 72, .t 73])),
  E0 6 (some 75) (some (71, false)) (.i (.un .not (.t 74))),
  E0 7 (some 76) none (.i (.pick (.t 71) (.k (.dat none (.bool true))) (.t 75))),
  E0 8 (some 77) none (.i (.mv (.t 76))),
  E0 9 (some 78) (some (77, false)) (.i (.mv (.t 13))),
  E0 10 (some 79) (some (77, false)) (.i (.mv (.t 9))),
  E0 11 (some 80) (some (77, false)) (.i (.eqb true (.t 78) (.t 79))),
  E0 12 (some 81) none (.i (.pick (.t 77) (.k (.dat none (.bool true))) (.t 80))),
  E0 13 (some 82) none (.i (.mv (.t 81))),
  E0 14 (some 83) (some (82, false)) (.i (.mv (.t 14))),
  E0 15 (some 84) (some (82, false)) (.i (.mv (.t 10))),
  E0 16 (some 85) (some (82, false)) (.i (.eqb true (.t 83) (.t 84))),
  E0 17 (some 86) none (.i (.pick (.t 82) (.k (.dat none (.bool true))) (.t 85)))]
def laws_FnExactHeedJump.r15 : List Ent := [
  E0 0 (some 6) none (.i (.mv (.k (.dat none (.bool false)))))]
def laws_FnExactHeedJump.r16 : List Ent := [
  E0 0 (some 16) none (.i (.mv (.k (I64 1))))]
def laws_FnExactHeedJump.r17 : List Ent := [
  E0 0 (some 87) none (.i (.load false true 4 (.t 12))),
  E0 1 (some 88) none (.i (.mv (.t 16))),
  E0 2 (some 89) none (.call F_laws_markMay false [(.io, .t 87), (.ro, .t 88)]),
  E0 3 (some 16) none (.i (.mv (.t 89)))]
def laws_FnExactHeedJump.r18 : List Ent := [
  E0 0 (some 17) none (.i (.mv (.k (I64 1))))]
def laws_FnExactHeedJump.r19 : List Ent := [
  E0 0 (some 90) none (.i (.load false true 4 (.t 12))),
  E0 1 (some 91) none (.i (.mv (.t 17))),
  E0 2 (some 92) none (.call F_laws_heldMay false (roA [.t 90, .t 91])),
  E0 3 (some 17) none (.i (.mv (.t 92)))]
def laws_FnExactHeedJump.r20 : List Ent := [
  E0 0 (some 93) none (.i (.mv (.t 17))),
  E0 1 (some 94) none (.i (.bin .lss (.t 93) (.k (I64 0))))]
def laws_FnExactHeedJump.r21 : List Ent := [
  E0 0 (some 6) none (.i (.mv (.k (.dat none (.bool false)))))]
def laws_FnExactHeedJump.r22 : List Ent := [
  E0 0 (some 95) none (.i (.mv (.t 17))),
  E0 1 (some 96) none (.i (.mv (.t 16))),
  E0 2 (some 97) none (.i (.bin .neq (.t 95) (.t 96)))]
def laws_FnExactHeedJump.r23 : List Ent := [
  E0 0 (some 6) none (.i (.mv (.k (.dat none (.bool false)))))]
def laws_FnExactHeedJump.r24 : List Ent := [
  EX 0 (some 99) none (.i (.load false true 6 (.t 3))) 2 [10] [] false,
  EX 1 (some 100) none (.call F_laws_toStep false (roA [.t 99])) 2 [10] [] false,
  EX 2 (some 101) none (.i (.load false true 4 (.t 4))) 2 [10] [] false,
  EX 3 (some 102) none (.call F_laws_toMay false (roA [.t 101])) 1 [10] [] false,
  E0 4 (some 103) none (.i (.mv (.t 2))),
  EX 5 (some 104) none (.call F_impl_HeedJump false (roA [.t 100, .t 102, .t 103])) 1 [10] [] false,
  E0 6 (some 98) none (.i (.mv (.t 104))),
  EX 7 (some 105) none (.i (.ext 0 (.t 98))) 2 [10] [] false,
  EX 10 (some 18) none (.i (.box (.k (.agg [.nil 2, .nil 2, .nil 2, .nil 1])))) 1 [3, 5] [] false,
  EP 11 none none (.i (.store 4 (.t 18) (.t 105))) 0 true,
  EX 8 (some 106) none (.i (.ext 1 (.t 98))) 2 [10] [11] false,
  EX 9 (some 107) none (.i (.ext 2 (.t 98))) 2 [10] [11] false,
  E0 12 (some 19) none (.i (.mv (.t 106))),
  E0 13 (some 20) none (.i (.mv (.t 107)))]
def laws_FnExactHeedJump.r25 : List Ent := [
  E0 0 (some 108) none (.i (.load false true 4 (.t 18))),
  E0 1 (some 109) none (.i (.load false true 4 (.t 8))),
  E0 2 (some 110) none (.call F_laws_eqMay false (roA [.t 108, .t 109])),
  E0 3 (some 111) none (.i (.un .not (.t 110))),
  E0 4 (some 112) none (.i (.mv (.t 111))),
  E0 5 (some 113) (some (112, false)) (.i (.mv (.t 19))),
  E0 6 (some 114) (some (112, false)) (.i (.mv (.t 9))),
  E0 7 (some 115) (some (112, false)) (.i (.eqb true (.t 113) (.t 114))),
  E0 8 (some 116) none (.i (.pick (.t 112) (.k (.dat none (.bool true))) (.t 115))),
  E0 9 (some 117) none (.i (.mv (.t 116))),
  E0 10 (some 118) (some (117, false)) (.i (.mv (.t 20))),
  E0 11 (some 119) (some (117, false)) (.i (.mv (.t 10))),
  E0 12 (some 120) (some (117, false)) (.i (.eqb true (.t 118) (.t 119))),
  E0 13 (some 121) none (.i (.pick (.t 117) (.k (.dat none (.bool true))) (.t 120)))]
def laws_FnExactHeedJump.r26 : List Ent := [
  E0 0 (some 6) none (.i (.mv (.k (.dat none (.bool false)))))]
def laws_FnExactHeedJump.r27 : List Ent := [
  E0 0 (some 17) none (.i (.mv (.k (I64 1))))]
def laws_FnExactHeedJump.r28 : List Ent := [
  E0 0 (some 122) none (.i (.load false true 4 (.t 12))),
  E0 1 (some 123) none (.i (.mv (.t 17))),
  E0 2 (some 124) none (.call F_laws_heldMay false (roA [.t 122, .t 123])),
  E0 3 (some 17) none (.i (.mv (.t 124)))]
def laws_FnExactHeedJump.r29 : List Ent := [
  E0 0 (some 125) none (.i (.mv (.t 17))),
  E0 1 (some 126) none (.i (.bin .lss (.t 125) (.k (I64 0))))]
def laws_FnExactHeedJump.r30 : List Ent := [
  E0 0 (some 6) none (.i (.mv (.k (.dat none (.bool false)))))]
def laws_FnExactHeedJump.r31 : List Ent := [
  E0 0 (some 127) none (.i (.mv (.t 17))),
  E0 1 (some 128) none (.i (.mv (.t 16))),
  E0 2 (some 129) none (.i (.bin .neq (.t 127) (.t 128)))]
def laws_FnExactHeedJump.r32 : List Ent := [
  E0 0 (some 6) none (.i (.mv (.k (.dat none (.bool false)))))]
def laws_FnExactHeedJump.r33 : List Ent := [
  E0 0 (some 6) none (.i (.mv (.k (.dat none (.bool true)))))]
def laws_FnExactHeedJump.fi : FI := { res := [.t 6], code := .seq (.reg 64 3 laws_FnExactHeedJump.r0) (.seq (.reg 256 1 laws_FnExactHeedJump.r1) (.seq (.reg 320 4 laws_FnExactHeedJump.r2) (.seq (.seq (.reg 576 2 laws_FnExactHeedJump.r3) (.cond (.t 25) (.seq (.reg 704 1 laws_FnExactHeedJump.r4) (.ret)) (.skip))) (.seq (.reg 768 14 laws_FnExactHeedJump.r5) (.seq (.reg 1664 4 laws_FnExactHeedJump.r6) (.seq (.reg 1920 13 laws_FnExactHeedJump.r7) (.seq (.seq (.reg 2752 14 laws_FnExactHeedJump.r8) (.cond (.t 60) (.seq (.reg 3648 1 laws_FnExactHeedJump.r9) (.ret)) (.skip))) (.seq (.seq (.reg 3712 5 laws_FnExactHeedJump.r10) (.cond (.t 65) (.seq (.reg 4032 1 laws_FnExactHeedJump.r11) (.ret)) (.skip))) (.seq (.reg 4096 1 laws_FnExactHeedJump.r12) (.seq (.reg 4160 4 laws_FnExactHeedJump.r13) (.seq (.seq (.reg 4416 18 laws_FnExactHeedJump.r14) (.cond (.t 86) (.seq (.reg 5568 1 laws_FnExactHeedJump.r15) (.ret)) (.skip))) (.seq (.reg 5632 1 laws_FnExactHeedJump.r16) (.seq (.reg 5696 4 laws_FnExactHeedJump.r17) (.seq (.reg 5952 1 laws_FnExactHeedJump.r18) (.seq (.reg 6016 4 laws_FnExactHeedJump.r19) (.seq (.seq (.reg 6272 2 laws_FnExactHeedJump.r20) (.cond (.t 94) (.seq (.reg 6400 1 laws_FnExactHeedJump.r21) (.ret)) (.skip))) (.seq (.seq (.reg 6464 3 laws_FnExactHeedJump.r22) (.cond (.t 97) (.seq (.reg 6656 1 laws_FnExactHeedJump.r23) (.ret)) (.skip))) (.seq (.reg 6720 14 laws_FnExactHeedJump.r24) (.seq (.seq (.reg 7616 14 laws_FnExactHeedJump.r25) (.cond (.t 121) (.seq (.reg 8512 1 laws_FnExactHeedJump.r26) (.ret)) (.skip))) (.seq (.reg 8576 1 laws_FnExactHeedJump.r27) (.seq (.reg 8640 4 laws_FnExactHeedJump.r28) (.seq (.seq (.reg 8896 2 laws_FnExactHeedJump.r29) (.cond (.t 126) (.seq (.reg 9024 1 laws_FnExactHeedJump.r30) (.ret)) (.skip))) (.seq (.seq (.reg 9088 3 laws_FnExactHeedJump.r31) (.cond (.t 129) (.seq (.reg 9280 1 laws_FnExactHeedJump.r32) (.ret)) (.skip))) (.seq (.reg 9344 1 laws_FnExactHeedJump.r33) (.ret))))))))))))))))))))))))) }
attribute [go_sem] laws_FnExactHeedJump.r0 laws_FnExactHeedJump.r1 laws_FnExactHeedJump.r2 laws_FnExactHeedJump.r3 laws_FnExactHeedJump.r4 laws_FnExactHeedJump.r5 laws_FnExactHeedJump.r6 laws_FnExactHeedJump.r7 laws_FnExactHeedJump.r8 laws_FnExactHeedJump.r9 laws_FnExactHeedJump.r10 laws_FnExactHeedJump.r11 laws_FnExactHeedJump.r12 laws_FnExactHeedJump.r13 laws_FnExactHeedJump.r14 laws_FnExactHeedJump.r15 laws_FnExactHeedJump.r16 laws_FnExactHeedJump.r17 laws_FnExactHeedJump.r18 laws_FnExactHeedJump.r19 laws_FnExactHeedJump.r20 laws_FnExactHeedJump.r21 laws_FnExactHeedJump.r22 laws_FnExactHeedJump.r23 laws_FnExactHeedJump.r24 laws_FnExactHeedJump.r25 laws_FnExactHeedJump.r26 laws_FnExactHeedJump.r27 laws_FnExactHeedJump.r28 laws_FnExactHeedJump.r29 laws_FnExactHeedJump.r30 laws_FnExactHeedJump.r31 laws_FnExactHeedJump.r32 laws_FnExactHeedJump.r33
theorem laws_FnExactHeedJump.ok : chkF prog F_laws_FnExactHeedJump 3 laws_FnExactHeedJump.fi = true := by kernel_rfl
end Go.Vm.Ytmicgdfekpoajaa
