/- The functions that the law reaches, in the text of the interpreter, and that this text fits them (no condition). -/
import Derived.Test.YtmicgdfekpoajaaVmc
import Derived.Test.YtmicgdfekpoajaaProg
import Derived.KernelRfl
/- PRINTED BY irgen.py, a program of this claim's author: the functions that the claim reaches, in the text of the interpreter, and that they fit. -/
namespace Go.Vm.Ytmicgdfekpoajaa
open Go Go.Vm
set_option linter.unusedVariables false
set_option maxRecDepth 100000
noncomputable abbrev prog : Program := Go.Proofs.Try.prog
abbrev F_laws_FnExactGoodMay : FuncId := 3
abbrev F_laws_FnExactStartMay : FuncId := 4
abbrev F_laws_FnExactInMay : FuncId := 5
abbrev F_laws_FnExactJoinMay : FuncId := 6
abbrev F_laws_FnExactHeedJump : FuncId := 7
abbrev F_laws_FnExactStepMay : FuncId := 8
abbrev F_laws_FnHeeded : FuncId := 9
abbrev F_laws_FnExactDoStep : FuncId := 10
abbrev F_laws_FnSteps : FuncId := 11
abbrev F_laws_FnMachine : FuncId := 12
abbrev F_laws_FnExactTriesFor : FuncId := 13
abbrev F_laws_szMay : FuncId := 14
abbrev F_spec_GoodMay : FuncId := 15
abbrev F_laws_toMay : FuncId := 16
abbrev F_impl_GoodMay : FuncId := 17
abbrev F_laws_eqMay : FuncId := 18
abbrev F_spec_StartMay : FuncId := 19
abbrev F_impl_StartMay : FuncId := 20
abbrev F_laws_markMay : FuncId := 21
abbrev F_laws_heldMay : FuncId := 22
abbrev F_laws_szMachine : FuncId := 23
abbrev F_spec_InMay : FuncId := 24
abbrev F_laws_toMachine : FuncId := 25
abbrev F_impl_InMay : FuncId := 26
abbrev F_laws_eqMachine : FuncId := 27
abbrev F_spec_JoinMay : FuncId := 28
abbrev F_impl_JoinMay : FuncId := 29
abbrev F_spec_HeedJump : FuncId := 30
abbrev F_laws_toStep : FuncId := 31
abbrev F_impl_HeedJump : FuncId := 32
abbrev F_spec_StepMay : FuncId := 33
abbrev F_impl_StepMay : FuncId := 34
abbrev F_spec_DrawReduceBoth : FuncId := 35
abbrev F_impl_ReduceBoth : FuncId := 36
abbrev F_spec_ReduceBoth : FuncId := 37
abbrev F_impl_GoodStretch : FuncId := 38
abbrev F_impl_GoodKnown : FuncId := 39
abbrev F_impl_WordOf : FuncId := 40
abbrev F_laws_numberOf : FuncId := 41
abbrev F_impl_InStretch : FuncId := 42
abbrev F_impl_MayBe : FuncId := 43
abbrev F_spec_DrawHeedJump : FuncId := 44
abbrev F_spec_DrawStepMay : FuncId := 45
abbrev F_laws_sameMay : FuncId := 46
abbrev F_laws_szStepS : FuncId := 47
abbrev F_spec_DoStep : FuncId := 48
abbrev F_laws_toStepS : FuncId := 49
abbrev F_laws_toIntS : FuncId := 50
abbrev F_impl_DoStep : FuncId := 51
abbrev F_laws_eqStepS : FuncId := 52
abbrev F_laws_eqIntS : FuncId := 53
abbrev F_laws_markStepS : FuncId := 54
abbrev F_laws_markIntS : FuncId := 55
abbrev F_laws_markMachine : FuncId := 56
abbrev F_laws_heldMachine : FuncId := 57
abbrev F_spec_DrawDoStep : FuncId := 58
abbrev F_laws_sameMachine : FuncId := 59
abbrev F_impl_GoodMachine : FuncId := 60
abbrev F_spec_GoodMachine : FuncId := 61
abbrev F_impl_NextsOf : FuncId := 62
abbrev F_laws_has : FuncId := 63
abbrev F_spec_DrawFaultFree : FuncId := 64
abbrev F_impl_FaultFree : FuncId := 65
abbrev F_spec_FaultFree : FuncId := 66
abbrev F_impl_NewMachine : FuncId := 67
abbrev F_spec_NewMachine : FuncId := 68
abbrev F_spec_DrawTraceOf : FuncId := 69
abbrev F_impl_TraceOf : FuncId := 70
abbrev F_spec_TraceOf : FuncId := 71
abbrev F_laws_sameInts : FuncId := 72
abbrev F_impl_RunProgram : FuncId := 73
abbrev F_spec_DrawRunProgram : FuncId := 74
abbrev F_spec_RunProgram : FuncId := 75
abbrev F_spec_TriesFor : FuncId := 76
abbrev F_impl_TriesFor : FuncId := 77
abbrev F_laws_eqIntSS : FuncId := 78
abbrev F_laws_markIntSS : FuncId := 79
abbrev F_laws_heldIntSS : FuncId := 80
abbrev F_laws_szStretchS : FuncId := 81
abbrev F_laws_szKnownS : FuncId := 82
abbrev F_laws_szBoolS : FuncId := 83
abbrev F_spec_GoodStretch : FuncId := 84
abbrev F_spec_GoodKnown : FuncId := 85
abbrev F_laws_toStretchS : FuncId := 86
abbrev F_laws_toKnownS : FuncId := 87
abbrev F_laws_toBoolS : FuncId := 88
abbrev F_impl_GoodMay_c1 : FuncId := 89
abbrev F_slices_ContainsFunc__sStretch_Stretch : FuncId := 90
abbrev F_slices_ContainsFunc__sKnown_Known : FuncId := 91
abbrev F_impl_GoodMay_c2 : FuncId := 92
abbrev F_laws_eqStretchS : FuncId := 93
abbrev F_laws_eqKnownS : FuncId := 94
abbrev F_laws_eqBoolS : FuncId := 95
abbrev F_spec_l13Const : FuncId := 96
abbrev F_spec_l9All : FuncId := 97
abbrev F_slices_Repeat__sStretch_Stretch : FuncId := 98
abbrev F_impl_allWords : FuncId := 99
abbrev F_laws_markStretchS : FuncId := 100
abbrev F_laws_markKnownS : FuncId := 101
abbrev F_laws_markBoolS : FuncId := 102
abbrev F_laws_heldStretchS : FuncId := 103
abbrev F_laws_heldKnownS : FuncId := 104
abbrev F_laws_heldBoolS : FuncId := 105
abbrev F_laws_szIntS : FuncId := 106
abbrev F_spec_l1In : FuncId := 107
abbrev F_spec_l10May : FuncId := 108
abbrev F_impl_in : FuncId := 109
abbrev F_impl_Known_matches : FuncId := 110
abbrev F_spec_l13Join : FuncId := 111
abbrev F_impl_joined : FuncId := 112
abbrev F_spec_l2Step : FuncId := 113
abbrev F_spec_l13Heed : FuncId := 114
abbrev F_spec_l13Own : FuncId := 115
abbrev F_impl_Step_valid : FuncId := 116
abbrev F_impl_heedJump : FuncId := 117
abbrev F_spec_l13Step : FuncId := 118
abbrev F_impl_stepMay : FuncId := 119
abbrev F_spec_pl1Cur_stretch : FuncId := 120
abbrev F_spec_pl1Cur_known : FuncId := 121
abbrev F_impl_reduceBoth : FuncId := 122
abbrev F_spec_l13Reduce : FuncId := 123
abbrev F_impl_isWord : FuncId := 124
abbrev F_spec_pl1Cur_among : FuncId := 125
abbrev F_spec_pl1Cur_pick : FuncId := 126
abbrev F_spec_pl1Cur_may : FuncId := 127
abbrev F_spec_pl1Cur_one : FuncId := 128
abbrev F_spec_pl1Cur_step : FuncId := 129
abbrev F_laws_sameBools : FuncId := 130
abbrev F_spec_GoodProgram : FuncId := 131
abbrev F_spec_l3Ctx : FuncId := 132
abbrev F_spec_l3Do : FuncId := 133
abbrev F_spec_l3Own : FuncId := 134
abbrev F_impl_GoodProgram : FuncId := 135
abbrev F_impl_isContext : FuncId := 136
abbrev F_impl_Machine_own : FuncId := 137
abbrev F_impl_pMachine_step : FuncId := 138
abbrev F_laws_eqStep : FuncId := 139
abbrev F_laws_heldIntS : FuncId := 140
abbrev F_spec_pl1Cur_program : FuncId := 141
abbrev F_spec_pl1Cur_ctx : FuncId := 142
abbrev F_spec_pl1Cur_machine : FuncId := 143
abbrev F_impl_areWords : FuncId := 144
abbrev F_spec_l1All : FuncId := 145
abbrev F_impl_nexts : FuncId := 146
abbrev F_impl_run : FuncId := 147
abbrev F_spec_l3Run : FuncId := 148
abbrev F_spec_l17Tries : FuncId := 149
abbrev F_impl_tries : FuncId := 150
abbrev F_spec_l1Word : FuncId := 151
abbrev F_laws_toStretch : FuncId := 152
abbrev F_laws_toKnown : FuncId := 153
abbrev F_slices_IndexFunc__sStretch_Stretch : FuncId := 154
abbrev F_slices_IndexFunc__sKnown_Known : FuncId := 155
abbrev F_laws_eqStretch : FuncId := 156
abbrev F_laws_eqKnown : FuncId := 157
abbrev F_bits_Mul : FuncId := 158
abbrev F_spec_l9Join : FuncId := 159
abbrev F_spec_l10Join : FuncId := 160
abbrev F_impl_May_own : FuncId := 161
abbrev F_impl_joinStretch : FuncId := 162
abbrev F_impl_joinKnown : FuncId := 163
abbrev F_spec_l2Reg : FuncId := 164
abbrev F_spec_l2Zero : FuncId := 165
abbrev F_spec_l9Meet : FuncId := 166
abbrev F_spec_l10Meet : FuncId := 167
abbrev F_spec_l9Less : FuncId := 168
abbrev F_spec_l1Most : FuncId := 169
abbrev F_spec_l1Least : FuncId := 170
abbrev F_impl_fields : FuncId := 171
abbrev F_impl_Step_ranges : FuncId := 172
abbrev F_impl_pStep_field : FuncId := 173
abbrev F_impl_meetStretch : FuncId := 174
abbrev F_impl_meetKnown : FuncId := 175
abbrev F_impl_splitLess : FuncId := 176
abbrev F_spec_l13Set : FuncId := 177
abbrev F_spec_l9Do : FuncId := 178
abbrev F_spec_l10Do : FuncId := 179
abbrev F_impl_pMay_put : FuncId := 180
abbrev F_impl_stretched : FuncId := 181
abbrev F_impl_doKnown : FuncId := 182
abbrev F_impl_exact : FuncId := 183
abbrev F_impl_unknown : FuncId := 184
abbrev F_spec_pl1Cur_word : FuncId := 185
abbrev F_spec_pl1Cur_rawWord : FuncId := 186
abbrev F_spec_l10Not : FuncId := 187
abbrev F_spec_pl1Cur_next : FuncId := 188
abbrev F_spec_l1Do : FuncId := 189
abbrev F_impl_Step_jumps : FuncId := 190
abbrev F_slices_ContainsFunc__sint_int : FuncId := 191
abbrev F_impl_isContext_c1 : FuncId := 192
abbrev F_slices_Clone__sint_int : FuncId := 193
abbrev F_slices_Clone__sbool_bool : FuncId := 194
abbrev F_impl_do : FuncId := 195
abbrev F_impl_areWords_c1 : FuncId := 196
abbrev F_spec_l17Full : FuncId := 197
abbrev F_spec_l1Has : FuncId := 198
abbrev F_impl_alone : FuncId := 199
abbrev F_slices_Contains__sint_int : FuncId := 200
abbrev F_bits_Mul32 : FuncId := 201
abbrev F_bits_Mul64 : FuncId := 202
abbrev F_slices_Clone__sStretch_Stretch : FuncId := 203
abbrev F_slices_Clone__sKnown_Known : FuncId := 204
abbrev F_impl_known : FuncId := 205
abbrev F_spec_l9Ends : FuncId := 206
abbrev F_spec_l9Mod : FuncId := 207
abbrev F_spec_l9Ones : FuncId := 208
abbrev F_spec_l9Shift : FuncId := 209
abbrev F_spec_l10Bits : FuncId := 210
abbrev F_spec_l1Wrap : FuncId := 211
abbrev F_impl_wrap : FuncId := 212
abbrev F_impl_ones : FuncId := 213
abbrev F_impl_bitwise : FuncId := 214
abbrev F_slices_IndexFunc__sint_int : FuncId := 215
abbrev F_slices_Repeat__sint_int : FuncId := 216
abbrev F_slices_Index__sint_int : FuncId := 217
abbrev F_spec_l9Floor : FuncId := 218
abbrev F_impl_Known_may : FuncId := 219
abbrev F_runtime_boundsError_Error : FuncId := 220
abbrev F_runtime_boundsError_RuntimeError : FuncId := 221
abbrev F_runtime_errorString_Error : FuncId := 222
abbrev F_runtime_errorString_RuntimeError : FuncId := 223
abbrev F_runtime_plainError_Error : FuncId := 224
abbrev F_runtime_plainError_RuntimeError : FuncId := 225
abbrev F_runtime_errorAddressString_Error : FuncId := 226
abbrev F_runtime_errorAddressString_RuntimeError : FuncId := 227
abbrev F_runtime_pTypeAssertionError_Error : FuncId := 228
abbrev F_runtime_pTypeAssertionError_RuntimeError : FuncId := 229
abbrev F_runtime_pPanicNilError_Error : FuncId := 230
abbrev F_runtime_pPanicNilError_RuntimeError : FuncId := 231
abbrev F_abi_pType_Align : FuncId := 232
abbrev F_maps_unhashableTypeError_Error : FuncId := 233
abbrev F_maps_unhashableTypeError_RuntimeError : FuncId := 234
abbrev F_impl_Step_branches : FuncId := 235
abbrev F_abi_Kind_String : FuncId := 236

/-! laws_szStretchS -/
def laws_szStretchS.r0 : List Ent := [
  E0 0 (some 4) none (.i (.mv (.k (I64 0))))]
def laws_szStretchS.r1 : List Ent := [
  E0 0 (some 5) none (.i (.mv (.t 1))),
  E0 1 (some 6) none (.i (.mv (.t 0))),
  E0 2 (some 7) none (.i (.len (.t 6))),
  E0 3 (some 8) none (.i (.bin .sub (.t 5) (.t 7))),
  E0 4 (some 1) none (.i (.mv (.t 8)))]
def laws_szStretchS.r2 : List Ent := [
  E0 0 (some 9) none (.i (.mv (.t 1))),
  E0 1 (some 10) none (.i (.bin .lss (.t 9) (.k (I64 0))))]
def laws_szStretchS.r3 : List Ent := [
  E0 0 (some 4) none (.i (.mv (.k (I64 (-1)))))]
def laws_szStretchS.r4 : List Ent := [
  E0 0 (some 11) none (.i (.mv (.t 1))),
  E0 1 (some 4) none (.i (.mv (.t 11)))]
def laws_szStretchS.fi : FI := { res := [.t 4], code := .seq (.reg 64 1 laws_szStretchS.r0) (.seq (.reg 128 5 laws_szStretchS.r1) (.seq (.seq (.reg 448 2 laws_szStretchS.r2) (.cond (.t 10) (.seq (.reg 576 1 laws_szStretchS.r3) (.ret)) (.skip))) (.seq (.reg 640 2 laws_szStretchS.r4) (.ret)))) }
attribute [go_sem] laws_szStretchS.r0 laws_szStretchS.r1 laws_szStretchS.r2 laws_szStretchS.r3 laws_szStretchS.r4
theorem laws_szStretchS.ok : chkF prog F_laws_szStretchS 2 laws_szStretchS.fi = true := by kernel_rfl

/-! laws_szKnownS -/
def laws_szKnownS.r0 : List Ent := [
  E0 0 (some 4) none (.i (.mv (.k (I64 0))))]
def laws_szKnownS.r1 : List Ent := [
  E0 0 (some 5) none (.i (.mv (.t 1))),
  E0 1 (some 6) none (.i (.mv (.t 0))),
  E0 2 (some 7) none (.i (.len (.t 6))),
  E0 3 (some 8) none (.i (.bin .sub (.t 5) (.t 7))),
  E0 4 (some 1) none (.i (.mv (.t 8)))]
def laws_szKnownS.r2 : List Ent := [
  E0 0 (some 9) none (.i (.mv (.t 1))),
  E0 1 (some 10) none (.i (.bin .lss (.t 9) (.k (I64 0))))]
def laws_szKnownS.r3 : List Ent := [
  E0 0 (some 4) none (.i (.mv (.k (I64 (-1)))))]
def laws_szKnownS.r4 : List Ent := [
  E0 0 (some 11) none (.i (.mv (.t 1))),
  E0 1 (some 4) none (.i (.mv (.t 11)))]
def laws_szKnownS.fi : FI := { res := [.t 4], code := .seq (.reg 64 1 laws_szKnownS.r0) (.seq (.reg 128 5 laws_szKnownS.r1) (.seq (.seq (.reg 448 2 laws_szKnownS.r2) (.cond (.t 10) (.seq (.reg 576 1 laws_szKnownS.r3) (.ret)) (.skip))) (.seq (.reg 640 2 laws_szKnownS.r4) (.ret)))) }
attribute [go_sem] laws_szKnownS.r0 laws_szKnownS.r1 laws_szKnownS.r2 laws_szKnownS.r3 laws_szKnownS.r4
theorem laws_szKnownS.ok : chkF prog F_laws_szKnownS 2 laws_szKnownS.fi = true := by kernel_rfl

/-! laws_szBoolS -/
def laws_szBoolS.r0 : List Ent := [
  E0 0 (some 4) none (.i (.mv (.k (I64 0))))]
def laws_szBoolS.r1 : List Ent := [
  E0 0 (some 5) none (.i (.mv (.t 1))),
  E0 1 (some 6) none (.i (.mv (.t 0))),
  E0 2 (some 7) none (.i (.len (.t 6))),
  E0 3 (some 8) none (.i (.bin .sub (.t 5) (.t 7))),
  E0 4 (some 1) none (.i (.mv (.t 8)))]
def laws_szBoolS.r2 : List Ent := [
  E0 0 (some 9) none (.i (.mv (.t 1))),
  E0 1 (some 10) none (.i (.bin .lss (.t 9) (.k (I64 0))))]
def laws_szBoolS.r3 : List Ent := [
  E0 0 (some 4) none (.i (.mv (.k (I64 (-1)))))]
def laws_szBoolS.r4 : List Ent := [
  E0 0 (some 11) none (.i (.mv (.t 1))),
  E0 1 (some 4) none (.i (.mv (.t 11)))]
def laws_szBoolS.fi : FI := { res := [.t 4], code := .seq (.reg 64 1 laws_szBoolS.r0) (.seq (.reg 128 5 laws_szBoolS.r1) (.seq (.seq (.reg 448 2 laws_szBoolS.r2) (.cond (.t 10) (.seq (.reg 576 1 laws_szBoolS.r3) (.ret)) (.skip))) (.seq (.reg 640 2 laws_szBoolS.r4) (.ret)))) }
attribute [go_sem] laws_szBoolS.r0 laws_szBoolS.r1 laws_szBoolS.r2 laws_szBoolS.r3 laws_szBoolS.r4
theorem laws_szBoolS.ok : chkF prog F_laws_szBoolS 2 laws_szBoolS.fi = true := by kernel_rfl

/-! laws_szMay -/
def laws_szMay.r0 : List Ent := [
  E0 0 (some 2) none (.i (.box (.t 0))),
  E0 1 (some 4) none (.i (.mv (.k (I64 0))))]
def laws_szMay.r1 : List Ent := [
  E0 0 (some 5) none (.i (.fad 0 (.t 2))),
  E0 1 (some 6) none (.i (.load false false 1 (.t 5))),
  E0 2 (some 7) none (.i (.mv (.t 1))),
  E0 3 (some 8) none (.call F_laws_szStretchS false (roA [.t 6, .t 7])),
  E0 4 (some 1) none (.i (.mv (.t 8)))]
def laws_szMay.r2 : List Ent := [
  E0 0 (some 9) none (.i (.mv (.t 1))),
  E0 1 (some 10) none (.i (.bin .lss (.t 9) (.k (I64 0))))]
def laws_szMay.r3 : List Ent := [
  E0 0 (some 4) none (.i (.mv (.k (I64 (-1)))))]
def laws_szMay.r4 : List Ent := [
  E0 0 (some 11) none (.i (.fad 1 (.t 2))),
  E0 1 (some 12) none (.i (.load false false 1 (.t 11))),
  E0 2 (some 13) none (.i (.mv (.t 1))),
  E0 3 (some 14) none (.call F_laws_szKnownS false (roA [.t 12, .t 13])),
  E0 4 (some 1) none (.i (.mv (.t 14)))]
def laws_szMay.r5 : List Ent := [
  E0 0 (some 15) none (.i (.mv (.t 1))),
  E0 1 (some 16) none (.i (.bin .lss (.t 15) (.k (I64 0))))]
def laws_szMay.r6 : List Ent := [
  E0 0 (some 4) none (.i (.mv (.k (I64 (-1)))))]
def laws_szMay.r7 : List Ent := [
  E0 0 (some 17) none (.i (.fad 2 (.t 2))),
  E0 1 (some 18) none (.i (.load false false 1 (.t 17))),
  E0 2 (some 19) none (.i (.mv (.t 1))),
  E0 3 (some 20) none (.call F_laws_szStretchS false (roA [.t 18, .t 19])),
  E0 4 (some 1) none (.i (.mv (.t 20)))]
def laws_szMay.r8 : List Ent := [
  E0 0 (some 21) none (.i (.mv (.t 1))),
  E0 1 (some 22) none (.i (.bin .lss (.t 21) (.k (I64 0))))]
def laws_szMay.r9 : List Ent := [
  E0 0 (some 4) none (.i (.mv (.k (I64 (-1)))))]
def laws_szMay.r10 : List Ent := [
  E0 0 (some 23) none (.i (.fad 3 (.t 2))),
  E0 1 (some 24) none (.i (.load false false 1 (.t 23))),
  E0 2 (some 25) none (.i (.mv (.t 1))),
  E0 3 (some 26) none (.call F_laws_szBoolS false (roA [.t 24, .t 25])),
  E0 4 (some 1) none (.i (.mv (.t 26)))]
def laws_szMay.r11 : List Ent := [
  E0 0 (some 27) none (.i (.mv (.t 1))),
  E0 1 (some 28) none (.i (.bin .lss (.t 27) (.k (I64 0))))]
def laws_szMay.r12 : List Ent := [
  E0 0 (some 4) none (.i (.mv (.k (I64 (-1)))))]
def laws_szMay.r13 : List Ent := [
  E0 0 (some 29) none (.i (.mv (.t 1))),
  E0 1 (some 4) none (.i (.mv (.t 29)))]
def laws_szMay.fi : FI := { res := [.t 4], code := .seq (.reg 64 2 laws_szMay.r0) (.seq (.reg 192 5 laws_szMay.r1) (.seq (.seq (.reg 512 2 laws_szMay.r2) (.cond (.t 10) (.seq (.reg 640 1 laws_szMay.r3) (.ret)) (.skip))) (.seq (.reg 704 5 laws_szMay.r4) (.seq (.seq (.reg 1024 2 laws_szMay.r5) (.cond (.t 16) (.seq (.reg 1152 1 laws_szMay.r6) (.ret)) (.skip))) (.seq (.reg 1216 5 laws_szMay.r7) (.seq (.seq (.reg 1536 2 laws_szMay.r8) (.cond (.t 22) (.seq (.reg 1664 1 laws_szMay.r9) (.ret)) (.skip))) (.seq (.reg 1728 5 laws_szMay.r10) (.seq (.seq (.reg 2048 2 laws_szMay.r11) (.cond (.t 28) (.seq (.reg 2176 1 laws_szMay.r12) (.ret)) (.skip))) (.seq (.reg 2240 2 laws_szMay.r13) (.ret)))))))))) }
attribute [go_sem] laws_szMay.r0 laws_szMay.r1 laws_szMay.r2 laws_szMay.r3 laws_szMay.r4 laws_szMay.r5 laws_szMay.r6 laws_szMay.r7 laws_szMay.r8 laws_szMay.r9 laws_szMay.r10 laws_szMay.r11 laws_szMay.r12 laws_szMay.r13
theorem laws_szMay.ok : chkF prog F_laws_szMay 2 laws_szMay.fi = true := by kernel_rfl

/-! spec_l1In -/
def spec_l1In.r0 : List Ent := [
  E0 0 (some 6) none (.i (.mv (.k (.dat none (.bool false)))))]
def spec_l1In.r1 : List Ent := [
  E0 0 (some 7) none (.i (.mv (.t 0))),
  E0 1 (some 8) none (.i (.mv (.t 1))),
  E0 2 (some 9) none (.i (.bin .geq (.t 7) (.t 8))),
  E0 3 (some 10) none (.i (.mv (.t 9))),
  E0 4 (some 11) (some (10, true)) (.i (.mv (.t 0))),
  E0 5 (some 12) (some (10, true)) (.i (.mv (.t 2))),
  E0 6 (some 13) (some (10, true)) (.i (.bin .leq (.t 11) (.t 12))),
  E0 7 (some 14) none (.i (.pick (.t 10) (.t 13) (.k (.dat none (.bool false))))),
  E0 8 (some 6) none (.i (.mv (.t 14)))]
def spec_l1In.fi : FI := { res := [.t 6], code := .seq (.reg 64 1 spec_l1In.r0) (.seq (.reg 128 9 spec_l1In.r1) (.ret)) }
attribute [go_sem] spec_l1In.r0 spec_l1In.r1
theorem spec_l1In.ok : chkF prog F_spec_l1In 3 spec_l1In.fi = true := by kernel_rfl

/-! spec_l1Word -/
def spec_l1Word.r0 : List Ent := [
  E0 0 (some 2) none (.i (.mv (.k (.dat none (.bool false)))))]
def spec_l1Word.r1 : List Ent := [
  E0 0 (some 3) none (.i (.mv (.t 0))),
  E0 1 (some 4) none (.call F_spec_l1In false (roA [.t 3, .k (I64 0), .k (I64 65535)])),
  E0 2 (some 2) none (.i (.mv (.t 4)))]
def spec_l1Word.fi : FI := { res := [.t 2], code := .seq (.reg 64 1 spec_l1Word.r0) (.seq (.reg 128 3 spec_l1Word.r1) (.ret)) }
attribute [go_sem] spec_l1Word.r0 spec_l1Word.r1
theorem spec_l1Word.ok : chkF prog F_spec_l1Word 1 spec_l1Word.fi = true := by kernel_rfl

/-! spec_GoodStretch -/
def spec_GoodStretch.r0 : List Ent := [
  E0 0 (some 1) none (.i (.box (.t 0))),
  E0 1 (some 2) none (.i (.mv (.k (.dat none (.bool false)))))]
def spec_GoodStretch.r1 : List Ent := [
  E0 0 (some 3) none (.i (.fad 0 (.t 1))),
  E0 1 (some 4) none (.i (.load false false 1 (.t 3))),
  E0 2 (some 5) none (.call F_spec_l1Word false (roA [.t 4])),
  E0 3 (some 6) none (.i (.mv (.t 5))),
  E0 4 (some 7) (some (6, true)) (.i (.fad 1 (.t 1))),
  E0 5 (some 8) (some (6, true)) (.i (.load false false 1 (.t 7))),
  E0 6 (some 9) (some (6, true)) (.call F_spec_l1Word false (roA [.t 8])),
  E0 7 (some 10) none (.i (.pick (.t 6) (.t 9) (.k (.dat none (.bool false))))),
  E0 8 (some 11) none (.i (.mv (.t 10))),
  E0 9 (some 12) (some (11, true)) (.i (.fad 0 (.t 1))),
  E0 10 (some 13) (some (11, true)) (.i (.load false false 1 (.t 12))),
  E0 11 (some 14) (some (11, true)) (.i (.fad 1 (.t 1))),
  E0 12 (some 15) (some (11, true)) (.i (.load false false 1 (.t 14))),
  E0 13 (some 16) (some (11, true)) (.i (.bin .leq (.t 13) (.t 15))),
  E0 14 (some 17) none (.i (.pick (.t 11) (.t 16) (.k (.dat none (.bool false))))),
  E0 15 (some 2) none (.i (.mv (.t 17)))]
def spec_GoodStretch.fi : FI := { res := [.t 2], code := .seq (.reg 64 2 spec_GoodStretch.r0) (.seq (.reg 192 16 spec_GoodStretch.r1) (.ret)) }
attribute [go_sem] spec_GoodStretch.r0 spec_GoodStretch.r1
theorem spec_GoodStretch.ok : chkF prog F_spec_GoodStretch 1 spec_GoodStretch.fi = true := by kernel_rfl

/-! spec_GoodKnown -/
def spec_GoodKnown.r0 : List Ent := [
  E0 0 (some 1) none (.i (.box (.t 0))),
  E0 1 (some 2) none (.i (.mv (.k (.dat none (.bool false)))))]
def spec_GoodKnown.r1 : List Ent := [
  E0 0 (some 3) none (.i (.fad 0 (.t 1))),
  E0 1 (some 4) none (.i (.load false false 1 (.t 3))),
  E0 2 (some 5) none (.call F_spec_l1Word false (roA [.t 4])),
  E0 3 (some 6) none (.i (.mv (.t 5))),
  E0 4 (some 7) (some (6, true)) (.i (.fad 1 (.t 1))),
  E0 5 (some 8) (some (6, true)) (.i (.load false false 1 (.t 7))),
  E0 6 (some 9) (some (6, true)) (.call F_spec_l1Word false (roA [.t 8])),
  E0 7 (some 10) none (.i (.pick (.t 6) (.t 9) (.k (.dat none (.bool false))))),
  E0 8 (some 11) none (.i (.mv (.t 10))),
  E0 9 (some 12) (some (11, true)) (.i (.fad 0 (.t 1))),
  E0 10 (some 13) (some (11, true)) (.i (.load false false 1 (.t 12))),
  E0 11 (some 14) (some (11, true)) (.i (.fad 1 (.t 1))),
  E0 12 (some 15) (some (11, true)) (.i (.load false false 1 (.t 14))),
  E0 13 (some 16) (some (11, true)) (.i (.bin .and (.t 13) (.t 15))),
  E0 14 (some 17) (some (11, true)) (.i (.bin .eql (.t 16) (.k (I64 0)))),
  E0 15 (some 18) none (.i (.pick (.t 11) (.t 17) (.k (.dat none (.bool false))))),
  E0 16 (some 2) none (.i (.mv (.t 18)))]
def spec_GoodKnown.fi : FI := { res := [.t 2], code := .seq (.reg 64 2 spec_GoodKnown.r0) (.seq (.reg 192 17 spec_GoodKnown.r1) (.ret)) }
attribute [go_sem] spec_GoodKnown.r0 spec_GoodKnown.r1
theorem spec_GoodKnown.ok : chkF prog F_spec_GoodKnown 1 spec_GoodKnown.fi = true := by kernel_rfl

/-! spec_GoodMay -/
def spec_GoodMay.r0 : List Ent := [
  E0 0 (some 1) none (.i (.box (.t 0))),
  E0 1 (some 2) none (.i (.mv (.k (.dat none (.bool false)))))]
def spec_GoodMay.r1 : List Ent := [
  E0 0 (some 9) none (.i (.fad 0 (.t 1))),
  E0 1 (some 10) none (.i (.load false false 1 (.t 9))),
  E0 2 (some 11) none (.i (.len (.t 10))),
  E0 3 (some 12) none (.i (.mv (.k (I64 0))))]
def spec_GoodMay.r2 : List Ent := [
  E0 0 (some 13) none (.i (.bin .lss (.t 12) (.t 11)))]
def spec_GoodMay.r3 : List Ent := [
  E0 0 (some 14) none (.i (.iad 2 (.t 10) (.t 12))),
  E0 1 (some 15) none (.i (.load false true 2 (.t 14))),
  E0 2 (some 4) none (.i (.box (.k (.agg [.dat none (.int .i64 0), .dat none (.int .i64 0)])))),
  E0 3 none none (.i (.store 2 (.t 4) (.t 15)))]
def spec_GoodMay.r4 : List Ent := [
  E0 0 (some 16) none (.i (.load false true 2 (.t 4))),
  E0 1 (some 17) none (.call F_spec_GoodStretch false (roA [.t 16])),
  E0 2 (some 18) none (.i (.un .not (.t 17)))]
def spec_GoodMay.r5 : List Ent := [
  E0 0 (some 2) none (.i (.mv (.k (.dat none (.bool false)))))]
def spec_GoodMay.r6 : List Ent := [
  E0 0 (some 19) none (.i (.bin .add (.t 12) (.k (I64 1)))),
  E0 1 (some 12) none (.i (.mv (.t 19)))]
def spec_GoodMay.b0 : KC := .seq (.reg 448 1 spec_GoodMay.r2) (.seq (.cond (.t 13) (.skip) (.exit 0)) (.seq (.block 1 (.seq (.reg 512 4 spec_GoodMay.r3) (.seq (.reg 768 3 spec_GoodMay.r4) (.cond (.t 18) (.seq (.reg 960 1 spec_GoodMay.r5) (.ret)) (.skip))))) (.reg 1024 2 spec_GoodMay.r6)))
def spec_GoodMay.r7 : List Ent := [
  E0 0 (some 20) none (.i (.fad 1 (.t 1))),
  E0 1 (some 21) none (.i (.load false false 1 (.t 20))),
  E0 2 (some 22) none (.i (.len (.t 21))),
  E0 3 (some 23) none (.i (.mv (.k (I64 0))))]
def spec_GoodMay.r8 : List Ent := [
  E0 0 (some 24) none (.i (.bin .lss (.t 23) (.t 22)))]
def spec_GoodMay.r9 : List Ent := [
  E0 0 (some 25) none (.i (.iad 2 (.t 21) (.t 23))),
  E0 1 (some 26) none (.i (.load false true 2 (.t 25))),
  E0 2 (some 6) none (.i (.box (.k (.agg [.dat none (.int .i64 0), .dat none (.int .i64 0)])))),
  E0 3 none none (.i (.store 2 (.t 6) (.t 26)))]
def spec_GoodMay.r10 : List Ent := [
  E0 0 (some 27) none (.i (.load false true 2 (.t 6))),
  E0 1 (some 28) none (.call F_spec_GoodKnown false (roA [.t 27])),
  E0 2 (some 29) none (.i (.un .not (.t 28)))]
def spec_GoodMay.r11 : List Ent := [
  E0 0 (some 2) none (.i (.mv (.k (.dat none (.bool false)))))]
def spec_GoodMay.r12 : List Ent := [
  E0 0 (some 30) none (.i (.bin .add (.t 23) (.k (I64 1)))),
  E0 1 (some 23) none (.i (.mv (.t 30)))]
def spec_GoodMay.b1 : KC := .seq (.reg 1408 1 spec_GoodMay.r8) (.seq (.cond (.t 24) (.skip) (.exit 2)) (.seq (.block 3 (.seq (.reg 1472 4 spec_GoodMay.r9) (.seq (.reg 1728 3 spec_GoodMay.r10) (.cond (.t 29) (.seq (.reg 1920 1 spec_GoodMay.r11) (.ret)) (.skip))))) (.reg 1984 2 spec_GoodMay.r12)))
def spec_GoodMay.r13 : List Ent := [
  E0 0 (some 31) none (.i (.fad 2 (.t 1))),
  E0 1 (some 32) none (.i (.load false false 1 (.t 31))),
  E0 2 (some 33) none (.i (.len (.t 32))),
  E0 3 (some 34) none (.i (.mv (.k (I64 0))))]
def spec_GoodMay.r14 : List Ent := [
  E0 0 (some 35) none (.i (.bin .lss (.t 34) (.t 33)))]
def spec_GoodMay.r15 : List Ent := [
  E0 0 (some 36) none (.i (.iad 2 (.t 32) (.t 34))),
  E0 1 (some 37) none (.i (.load false true 2 (.t 36))),
  E0 2 (some 8) none (.i (.box (.k (.agg [.dat none (.int .i64 0), .dat none (.int .i64 0)])))),
  E0 3 none none (.i (.store 2 (.t 8) (.t 37)))]
def spec_GoodMay.r16 : List Ent := [
  E0 0 (some 38) none (.i (.load false true 2 (.t 8))),
  E0 1 (some 39) none (.call F_spec_GoodStretch false (roA [.t 38])),
  E0 2 (some 40) none (.i (.un .not (.t 39)))]
def spec_GoodMay.r17 : List Ent := [
  E0 0 (some 2) none (.i (.mv (.k (.dat none (.bool false)))))]
def spec_GoodMay.r18 : List Ent := [
  E0 0 (some 41) none (.i (.bin .add (.t 34) (.k (I64 1)))),
  E0 1 (some 34) none (.i (.mv (.t 41)))]
def spec_GoodMay.b2 : KC := .seq (.reg 2368 1 spec_GoodMay.r14) (.seq (.cond (.t 35) (.skip) (.exit 4)) (.seq (.block 5 (.seq (.reg 2432 4 spec_GoodMay.r15) (.seq (.reg 2688 3 spec_GoodMay.r16) (.cond (.t 40) (.seq (.reg 2880 1 spec_GoodMay.r17) (.ret)) (.skip))))) (.reg 2944 2 spec_GoodMay.r18)))
def spec_GoodMay.r19 : List Ent := [
  E0 0 (some 42) none (.i (.fad 0 (.t 1))),
  E0 1 (some 43) none (.i (.load false false 1 (.t 42))),
  E0 2 (some 44) none (.i (.len (.t 43))),
  E0 3 (some 45) none (.i (.bin .eql (.t 44) (.k (I64 6)))),
  E0 4 (some 46) none (.i (.mv (.t 45))),
  E0 5 (some 47) (some (46, true)) (.i (.fad 1 (.t 1))),
  E0 6 (some 48) (some (46, true)) (.i (.load false false 1 (.t 47))),
  E0 7 (some 49) (some (46, true)) (.i (.len (.t 48))),
  E0 8 (some 50) (some (46, true)) (.i (.bin .eql (.t 49) (.k (I64 6)))),
  E0 9 (some 51) none (.i (.pick (.t 46) (.t 50) (.k (.dat none (.bool false))))),
  E0 10 (some 52) none (.i (.mv (.t 51))),
  E0 11 (some 53) (some (52, true)) (.i (.fad 2 (.t 1))),
  E0 12 (some 54) (some (52, true)) (.i (.load false false 1 (.t 53))),
  E0 13 (some 55) (some (52, true)) (.i (.len (.t 54))),
  E0 14 (some 56) (some (52, true)) (.i (.bin .eql (.t 55) (.k (I64 16)))),
  E0 15 (some 57) none (.i (.pick (.t 52) (.t 56) (.k (.dat none (.bool false))))),
  E0 16 (some 58) none (.i (.mv (.t 57))),
  E0 17 (some 59) (some (58, true)) (.i (.fad 3 (.t 1))),
  E0 18 (some 60) (some (58, true)) (.i (.load false false 1 (.t 59))),
  E0 19 (some 61) (some (58, true)) (.i (.len (.t 60))),
  E0 20 (some 62) (some (58, true)) (.i (.bin .eql (.t 61) (.k (I64 16)))),
  E0 21 (some 63) none (.i (.pick (.t 58) (.t 62) (.k (.dat none (.bool false))))),
  E0 22 (some 2) none (.i (.mv (.t 63)))]
def spec_GoodMay.fi : FI := { res := [.t 2], code := .seq (.reg 64 2 spec_GoodMay.r0) (.seq (.seq (.reg 192 4 spec_GoodMay.r1) (.block 0 (.loop spec_GoodMay.b0))) (.seq (.seq (.reg 1152 4 spec_GoodMay.r7) (.block 2 (.loop spec_GoodMay.b1))) (.seq (.seq (.reg 2112 4 spec_GoodMay.r13) (.block 4 (.loop spec_GoodMay.b2))) (.seq (.reg 3072 23 spec_GoodMay.r19) (.ret))))) }
attribute [go_sem] spec_GoodMay.r0 spec_GoodMay.r1 spec_GoodMay.r2 spec_GoodMay.r3 spec_GoodMay.r4 spec_GoodMay.r5 spec_GoodMay.r6 spec_GoodMay.r7 spec_GoodMay.r8 spec_GoodMay.r9 spec_GoodMay.r10 spec_GoodMay.r11 spec_GoodMay.r12 spec_GoodMay.r13 spec_GoodMay.r14 spec_GoodMay.r15 spec_GoodMay.r16 spec_GoodMay.r17 spec_GoodMay.r18 spec_GoodMay.r19
theorem spec_GoodMay.ok : chkF prog F_spec_GoodMay 1 spec_GoodMay.fi = true := by kernel_rfl

/-! laws_toStretch -/
def laws_toStretch.r0 : List Ent := [
  E0 0 (some 1) none (.i (.box (.t 0))),
  E0 1 (some 2) none (.i (.box (.k (.agg [.dat none (.int .i64 0), .dat none (.int .i64 0)]))))]
def laws_toStretch.r1 : List Ent := [
  E0 0 (some 3) none (.i (.box (.k (.agg [.dat none (.int .i64 0), .dat none (.int .i64 0)]))))]
def laws_toStretch.r2 : List Ent := [
  E0 0 (some 4) none (.i (.fad 0 (.t 1))),
  E0 1 (some 5) none (.i (.load false false 1 (.t 4))),
  E0 2 (some 6) none (.i (.fad 0 (.t 3))),
  E0 3 none none (.i (.store 1 (.t 6) (.t 5)))]
def laws_toStretch.r3 : List Ent := [
  E0 0 (some 7) none (.i (.fad 1 (.t 1))),
  E0 1 (some 8) none (.i (.load false false 1 (.t 7))),
  E0 2 (some 9) none (.i (.fad 1 (.t 3))),
  E0 3 none none (.i (.store 1 (.t 9) (.t 8)))]
def laws_toStretch.r4 : List Ent := [
  E0 0 (some 10) none (.i (.load false true 2 (.t 3))),
  E0 1 none none (.i (.store 2 (.t 2) (.t 10)))]
def laws_toStretch.fi : FI := { res := [.c 2 true 2], code := .seq (.reg 64 2 laws_toStretch.r0) (.seq (.reg 192 1 laws_toStretch.r1) (.seq (.reg 256 4 laws_toStretch.r2) (.seq (.reg 512 4 laws_toStretch.r3) (.seq (.reg 768 2 laws_toStretch.r4) (.ret))))) }
attribute [go_sem] laws_toStretch.r0 laws_toStretch.r1 laws_toStretch.r2 laws_toStretch.r3 laws_toStretch.r4
theorem laws_toStretch.ok : chkF prog F_laws_toStretch 1 laws_toStretch.fi = true := by kernel_rfl

/-! laws_toStretchS -/
def laws_toStretchS.r0 : List Ent := [
  E0 0 (some 2) none (.i (.mv (.k (.nil 2))))]
def laws_toStretchS.r1 : List Ent := [
  E0 0 (some 5) none (.i (.mv (.t 0))),
  E0 1 (some 6) none (.i (.len (.t 5))),
  E0 2 (some 7) none (.i (.mks 2 16 (.agg [.int .i64 0, .int .i64 0]) (.t 6) (.t 6))),
  E0 3 (some 3) none (.i (.mv (.t 7)))]
def laws_toStretchS.r2 : List Ent := [
  E0 0 (some 4) none (.i (.mv (.k (I64 0))))]
def laws_toStretchS.r3 : List Ent := [
  E0 0 (some 8) none (.i (.mv (.t 4))),
  E0 1 (some 9) none (.i (.mv (.t 0))),
  E0 2 (some 10) none (.i (.len (.t 9))),
  E0 3 (some 11) none (.i (.bin .lss (.t 8) (.t 10)))]
def laws_toStretchS.r4 : List Ent := [
  E0 0 (some 14) none (.i (.mv (.t 3))),
  E0 1 (some 15) none (.i (.mv (.t 4))),
  E0 2 (some 16) none (.i (.mv (.t 0))),
  E0 3 (some 17) none (.i (.mv (.t 4))),
  E0 4 (some 18) none (.i (.iad 2 (.t 16) (.t 17))),
  E0 5 (some 19) none (.i (.load false true 2 (.t 18))),
  E0 6 (some 20) none (.call F_laws_toStretch false (roA [.t 19])),
  E0 7 (some 21) none (.i (.iad 2 (.t 14) (.t 15))),
  E0 8 none none (.i (.store 2 (.t 21) (.t 20)))]
def laws_toStretchS.r5 : List Ent := [
  E0 0 (some 12) none (.i (.mv (.t 4))),
  E0 1 (some 13) none (.i (.bin .add (.t 12) (.k (I64 1)))),
  E0 2 (some 4) none (.i (.mv (.t 13)))]
def laws_toStretchS.b0 : KC := .seq (.seq (.reg 448 4 laws_toStretchS.r3) (.cond (.t 11) (.skip) (.exit 0))) (.seq (.block 1 (.reg 704 9 laws_toStretchS.r4)) (.reg 1280 3 laws_toStretchS.r5))
def laws_toStretchS.r6 : List Ent := [
  E0 0 (some 22) none (.i (.mv (.t 3))),
  E0 1 (some 2) none (.i (.mv (.t 22)))]
def laws_toStretchS.fi : FI := { res := [.t 2], code := .seq (.reg 64 1 laws_toStretchS.r0) (.seq (.reg 128 4 laws_toStretchS.r1) (.seq (.seq (.reg 384 1 laws_toStretchS.r2) (.block 0 (.loop laws_toStretchS.b0))) (.seq (.reg 1472 2 laws_toStretchS.r6) (.ret)))) }
attribute [go_sem] laws_toStretchS.r0 laws_toStretchS.r1 laws_toStretchS.r2 laws_toStretchS.r3 laws_toStretchS.r4 laws_toStretchS.r5 laws_toStretchS.r6
theorem laws_toStretchS.ok : chkF prog F_laws_toStretchS 1 laws_toStretchS.fi = true := by kernel_rfl

/-! laws_toKnown -/
def laws_toKnown.r0 : List Ent := [
  E0 0 (some 1) none (.i (.box (.t 0))),
  E0 1 (some 2) none (.i (.box (.k (.agg [.dat none (.int .i64 0), .dat none (.int .i64 0)]))))]
def laws_toKnown.r1 : List Ent := [
  E0 0 (some 3) none (.i (.box (.k (.agg [.dat none (.int .i64 0), .dat none (.int .i64 0)]))))]
def laws_toKnown.r2 : List Ent := [
  E0 0 (some 4) none (.i (.fad 0 (.t 1))),
  E0 1 (some 5) none (.i (.load false false 1 (.t 4))),
  E0 2 (some 6) none (.i (.fad 0 (.t 3))),
  E0 3 none none (.i (.store 1 (.t 6) (.t 5)))]
def laws_toKnown.r3 : List Ent := [
  E0 0 (some 7) none (.i (.fad 1 (.t 1))),
  E0 1 (some 8) none (.i (.load false false 1 (.t 7))),
  E0 2 (some 9) none (.i (.fad 1 (.t 3))),
  E0 3 none none (.i (.store 1 (.t 9) (.t 8)))]
def laws_toKnown.r4 : List Ent := [
  E0 0 (some 10) none (.i (.load false true 2 (.t 3))),
  E0 1 none none (.i (.store 2 (.t 2) (.t 10)))]
def laws_toKnown.fi : FI := { res := [.c 2 true 2], code := .seq (.reg 64 2 laws_toKnown.r0) (.seq (.reg 192 1 laws_toKnown.r1) (.seq (.reg 256 4 laws_toKnown.r2) (.seq (.reg 512 4 laws_toKnown.r3) (.seq (.reg 768 2 laws_toKnown.r4) (.ret))))) }
attribute [go_sem] laws_toKnown.r0 laws_toKnown.r1 laws_toKnown.r2 laws_toKnown.r3 laws_toKnown.r4
theorem laws_toKnown.ok : chkF prog F_laws_toKnown 1 laws_toKnown.fi = true := by kernel_rfl

/-! laws_toKnownS -/
def laws_toKnownS.r0 : List Ent := [
  E0 0 (some 2) none (.i (.mv (.k (.nil 2))))]
def laws_toKnownS.r1 : List Ent := [
  E0 0 (some 5) none (.i (.mv (.t 0))),
  E0 1 (some 6) none (.i (.len (.t 5))),
  E0 2 (some 7) none (.i (.mks 2 16 (.agg [.int .i64 0, .int .i64 0]) (.t 6) (.t 6))),
  E0 3 (some 3) none (.i (.mv (.t 7)))]
def laws_toKnownS.r2 : List Ent := [
  E0 0 (some 4) none (.i (.mv (.k (I64 0))))]
def laws_toKnownS.r3 : List Ent := [
  E0 0 (some 8) none (.i (.mv (.t 4))),
  E0 1 (some 9) none (.i (.mv (.t 0))),
  E0 2 (some 10) none (.i (.len (.t 9))),
  E0 3 (some 11) none (.i (.bin .lss (.t 8) (.t 10)))]
def laws_toKnownS.r4 : List Ent := [
  E0 0 (some 14) none (.i (.mv (.t 3))),
  E0 1 (some 15) none (.i (.mv (.t 4))),
  E0 2 (some 16) none (.i (.mv (.t 0))),
  E0 3 (some 17) none (.i (.mv (.t 4))),
  E0 4 (some 18) none (.i (.iad 2 (.t 16) (.t 17))),
  E0 5 (some 19) none (.i (.load false true 2 (.t 18))),
  E0 6 (some 20) none (.call F_laws_toKnown false (roA [.t 19])),
  E0 7 (some 21) none (.i (.iad 2 (.t 14) (.t 15))),
  E0 8 none none (.i (.store 2 (.t 21) (.t 20)))]
def laws_toKnownS.r5 : List Ent := [
  E0 0 (some 12) none (.i (.mv (.t 4))),
  E0 1 (some 13) none (.i (.bin .add (.t 12) (.k (I64 1)))),
  E0 2 (some 4) none (.i (.mv (.t 13)))]
def laws_toKnownS.b0 : KC := .seq (.seq (.reg 448 4 laws_toKnownS.r3) (.cond (.t 11) (.skip) (.exit 0))) (.seq (.block 1 (.reg 704 9 laws_toKnownS.r4)) (.reg 1280 3 laws_toKnownS.r5))
def laws_toKnownS.r6 : List Ent := [
  E0 0 (some 22) none (.i (.mv (.t 3))),
  E0 1 (some 2) none (.i (.mv (.t 22)))]
def laws_toKnownS.fi : FI := { res := [.t 2], code := .seq (.reg 64 1 laws_toKnownS.r0) (.seq (.reg 128 4 laws_toKnownS.r1) (.seq (.seq (.reg 384 1 laws_toKnownS.r2) (.block 0 (.loop laws_toKnownS.b0))) (.seq (.reg 1472 2 laws_toKnownS.r6) (.ret)))) }
attribute [go_sem] laws_toKnownS.r0 laws_toKnownS.r1 laws_toKnownS.r2 laws_toKnownS.r3 laws_toKnownS.r4 laws_toKnownS.r5 laws_toKnownS.r6
theorem laws_toKnownS.ok : chkF prog F_laws_toKnownS 1 laws_toKnownS.fi = true := by kernel_rfl

/-! laws_toBoolS -/
def laws_toBoolS.r0 : List Ent := [
  E0 0 (some 2) none (.i (.mv (.k (.nil 1))))]
def laws_toBoolS.r1 : List Ent := [
  E0 0 (some 5) none (.i (.mv (.t 0))),
  E0 1 (some 6) none (.i (.len (.t 5))),
  E0 2 (some 7) none (.i (.mks 1 1 (.bool false) (.t 6) (.t 6))),
  E0 3 (some 3) none (.i (.mv (.t 7)))]
def laws_toBoolS.r2 : List Ent := [
  E0 0 (some 4) none (.i (.mv (.k (I64 0))))]
def laws_toBoolS.r3 : List Ent := [
  E0 0 (some 8) none (.i (.mv (.t 4))),
  E0 1 (some 9) none (.i (.mv (.t 0))),
  E0 2 (some 10) none (.i (.len (.t 9))),
  E0 3 (some 11) none (.i (.bin .lss (.t 8) (.t 10)))]
def laws_toBoolS.r4 : List Ent := [
  E0 0 (some 14) none (.i (.mv (.t 3))),
  E0 1 (some 15) none (.i (.mv (.t 4))),
  E0 2 (some 16) none (.i (.mv (.t 0))),
  E0 3 (some 17) none (.i (.mv (.t 4))),
  E0 4 (some 18) none (.i (.iad 1 (.t 16) (.t 17))),
  E0 5 (some 19) none (.i (.load false false 1 (.t 18))),
  E0 6 (some 20) none (.i (.iad 1 (.t 14) (.t 15))),
  E0 7 none none (.i (.store 1 (.t 20) (.t 19)))]
def laws_toBoolS.r5 : List Ent := [
  E0 0 (some 12) none (.i (.mv (.t 4))),
  E0 1 (some 13) none (.i (.bin .add (.t 12) (.k (I64 1)))),
  E0 2 (some 4) none (.i (.mv (.t 13)))]
def laws_toBoolS.b0 : KC := .seq (.seq (.reg 448 4 laws_toBoolS.r3) (.cond (.t 11) (.skip) (.exit 0))) (.seq (.block 1 (.reg 704 8 laws_toBoolS.r4)) (.reg 1216 3 laws_toBoolS.r5))
def laws_toBoolS.r6 : List Ent := [
  E0 0 (some 21) none (.i (.mv (.t 3))),
  E0 1 (some 2) none (.i (.mv (.t 21)))]
def laws_toBoolS.fi : FI := { res := [.t 2], code := .seq (.reg 64 1 laws_toBoolS.r0) (.seq (.reg 128 4 laws_toBoolS.r1) (.seq (.seq (.reg 384 1 laws_toBoolS.r2) (.block 0 (.loop laws_toBoolS.b0))) (.seq (.reg 1408 2 laws_toBoolS.r6) (.ret)))) }
attribute [go_sem] laws_toBoolS.r0 laws_toBoolS.r1 laws_toBoolS.r2 laws_toBoolS.r3 laws_toBoolS.r4 laws_toBoolS.r5 laws_toBoolS.r6
theorem laws_toBoolS.ok : chkF prog F_laws_toBoolS 1 laws_toBoolS.fi = true := by kernel_rfl

/-! laws_toMay -/
def laws_toMay.r0 : List Ent := [
  E0 0 (some 1) none (.i (.box (.t 0))),
  E0 1 (some 2) none (.i (.box (.k (.agg [.nil 2, .nil 2, .nil 2, .nil 1]))))]
def laws_toMay.r1 : List Ent := [
  E0 0 (some 3) none (.i (.box (.k (.agg [.nil 2, .nil 2, .nil 2, .nil 1]))))]
def laws_toMay.r2 : List Ent := [
  E0 0 (some 4) none (.i (.fad 0 (.t 1))),
  E0 1 (some 5) none (.i (.load false false 1 (.t 4))),
  E0 2 (some 6) none (.call F_laws_toStretchS false (roA [.t 5])),
  E0 3 (some 7) none (.i (.fad 0 (.t 3))),
  E0 4 none none (.i (.store 1 (.t 7) (.t 6)))]
def laws_toMay.r3 : List Ent := [
  E0 0 (some 8) none (.i (.fad 1 (.t 1))),
  E0 1 (some 9) none (.i (.load false false 1 (.t 8))),
  E0 2 (some 10) none (.call F_laws_toKnownS false (roA [.t 9])),
  E0 3 (some 11) none (.i (.fad 1 (.t 3))),
  E0 4 none none (.i (.store 1 (.t 11) (.t 10)))]
def laws_toMay.r4 : List Ent := [
  E0 0 (some 12) none (.i (.fad 2 (.t 1))),
  E0 1 (some 13) none (.i (.load false false 1 (.t 12))),
  E0 2 (some 14) none (.call F_laws_toStretchS false (roA [.t 13])),
  E0 3 (some 15) none (.i (.fad 2 (.t 3))),
  E0 4 none none (.i (.store 1 (.t 15) (.t 14)))]
def laws_toMay.r5 : List Ent := [
  E0 0 (some 16) none (.i (.fad 3 (.t 1))),
  E0 1 (some 17) none (.i (.load false false 1 (.t 16))),
  E0 2 (some 18) none (.call F_laws_toBoolS false (roA [.t 17])),
  E0 3 (some 19) none (.i (.fad 3 (.t 3))),
  E0 4 none none (.i (.store 1 (.t 19) (.t 18)))]
def laws_toMay.r6 : List Ent := [
  E0 0 (some 20) none (.i (.load false true 4 (.t 3))),
  E0 1 none none (.i (.store 4 (.t 2) (.t 20)))]
def laws_toMay.fi : FI := { res := [.c 2 true 4], code := .seq (.reg 64 2 laws_toMay.r0) (.seq (.reg 192 1 laws_toMay.r1) (.seq (.reg 256 5 laws_toMay.r2) (.seq (.reg 576 5 laws_toMay.r3) (.seq (.reg 896 5 laws_toMay.r4) (.seq (.reg 1216 5 laws_toMay.r5) (.seq (.reg 1536 2 laws_toMay.r6) (.ret))))))) }
attribute [go_sem] laws_toMay.r0 laws_toMay.r1 laws_toMay.r2 laws_toMay.r3 laws_toMay.r4 laws_toMay.r5 laws_toMay.r6
theorem laws_toMay.ok : chkF prog F_laws_toMay 1 laws_toMay.fi = true := by kernel_rfl

/-! impl_in -/
def impl_in.r0 : List Ent := [
  E0 0 (some 6) none (.i (.mv (.k (.dat none (.bool false)))))]
def impl_in.r1 : List Ent := [
  E0 0 (some 7) none (.i (.mv (.t 0))),
  E0 1 (some 8) none (.i (.mv (.t 1))),
  E0 2 (some 9) none (.i (.bin .geq (.t 7) (.t 8))),
  E0 3 (some 10) none (.i (.mv (.t 9))),
  E0 4 (some 11) (some (10, true)) (.i (.mv (.t 0))),
  E0 5 (some 12) (some (10, true)) (.i (.mv (.t 2))),
  E0 6 (some 13) (some (10, true)) (.i (.bin .leq (.t 11) (.t 12))),
  E0 7 (some 14) none (.i (.pick (.t 10) (.t 13) (.k (.dat none (.bool false))))),
  E0 8 (some 6) none (.i (.mv (.t 14)))]
def impl_in.fi : FI := { res := [.t 6], code := .seq (.reg 64 1 impl_in.r0) (.seq (.reg 128 9 impl_in.r1) (.ret)) }
attribute [go_sem] impl_in.r0 impl_in.r1
theorem impl_in.ok : chkF prog F_impl_in 3 impl_in.fi = true := by kernel_rfl

/-! impl_isWord -/
def impl_isWord.r0 : List Ent := [
  E0 0 (some 2) none (.i (.mv (.k (.dat none (.bool false)))))]
def impl_isWord.r1 : List Ent := [
  E0 0 (some 3) none (.i (.mv (.t 0))),
  E0 1 (some 4) none (.call F_impl_in false (roA [.t 3, .k (I64 0), .k (I64 65535)])),
  E0 2 (some 2) none (.i (.mv (.t 4)))]
def impl_isWord.fi : FI := { res := [.t 2], code := .seq (.reg 64 1 impl_isWord.r0) (.seq (.reg 128 3 impl_isWord.r1) (.ret)) }
attribute [go_sem] impl_isWord.r0 impl_isWord.r1
theorem impl_isWord.ok : chkF prog F_impl_isWord 1 impl_isWord.fi = true := by kernel_rfl

/-! impl_GoodStretch -/
def impl_GoodStretch.r0 : List Ent := [
  E0 0 (some 1) none (.i (.box (.t 0))),
  E0 1 (some 2) none (.i (.mv (.k (.dat none (.bool false)))))]
def impl_GoodStretch.r1 : List Ent := [
  E0 0 (some 3) none (.i (.fad 0 (.t 1))),
  E0 1 (some 4) none (.i (.load false false 1 (.t 3))),
  E0 2 (some 5) none (.call F_impl_isWord false (roA [.t 4])),
  E0 3 (some 6) none (.i (.mv (.t 5))),
  E0 4 (some 7) (some (6, true)) (.i (.fad 1 (.t 1))),
  E0 5 (some 8) (some (6, true)) (.i (.load false false 1 (.t 7))),
  E0 6 (some 9) (some (6, true)) (.call F_impl_isWord false (roA [.t 8])),
  E0 7 (some 10) none (.i (.pick (.t 6) (.t 9) (.k (.dat none (.bool false))))),
  E0 8 (some 11) none (.i (.mv (.t 10))),
  E0 9 (some 12) (some (11, true)) (.i (.fad 0 (.t 1))),
  E0 10 (some 13) (some (11, true)) (.i (.load false false 1 (.t 12))),
  E0 11 (some 14) (some (11, true)) (.i (.fad 1 (.t 1))),
  E0 12 (some 15) (some (11, true)) (.i (.load false false 1 (.t 14))),
  E0 13 (some 16) (some (11, true)) (.i (.bin .leq (.t 13) (.t 15))),
  E0 14 (some 17) none (.i (.pick (.t 11) (.t 16) (.k (.dat none (.bool false))))),
  E0 15 (some 2) none (.i (.mv (.t 17)))]
def impl_GoodStretch.fi : FI := { res := [.t 2], code := .seq (.reg 64 2 impl_GoodStretch.r0) (.seq (.reg 192 16 impl_GoodStretch.r1) (.ret)) }
attribute [go_sem] impl_GoodStretch.r0 impl_GoodStretch.r1
theorem impl_GoodStretch.ok : chkF prog F_impl_GoodStretch 1 impl_GoodStretch.fi = true := by kernel_rfl

/-! impl_GoodMay_c1 -/
def impl_GoodMay_c1.r0 : List Ent := [
  E0 0 (some 1) none (.i (.box (.t 0))),
  E0 1 (some 2) none (.i (.mv (.k (.dat none (.bool false)))))]
def impl_GoodMay_c1.r1 : List Ent := [
  E0 0 (some 3) none (.i (.load false true 2 (.t 1))),
  E0 1 (some 4) none (.call F_impl_GoodStretch false (roA [.t 3])),
  E0 2 (some 5) none (.i (.un .not (.t 4))),
  E0 3 (some 2) none (.i (.mv (.t 5)))]
def impl_GoodMay_c1.fi : FI := { res := [.t 2], code := .seq (.reg 64 2 impl_GoodMay_c1.r0) (.seq (.reg 192 4 impl_GoodMay_c1.r1) (.ret)) }
attribute [go_sem] impl_GoodMay_c1.r0 impl_GoodMay_c1.r1
theorem impl_GoodMay_c1.ok : chkF prog F_impl_GoodMay_c1 1 impl_GoodMay_c1.fi = true := by kernel_rfl

/-! slices_IndexFunc__sStretch_Stretch -/
def slices_IndexFunc__sStretch_Stretch.r0 : List Ent := [
  E0 0 (some 4) none (.i (.mv (.k (I64 0))))]
def slices_IndexFunc__sStretch_Stretch.r1 : List Ent := [
  E0 0 (some 6) none (.i (.mv (.t 0))),
  E0 1 (some 7) none (.i (.len (.t 6))),
  E0 2 (some 8) none (.i (.mv (.k (I64 0))))]
def slices_IndexFunc__sStretch_Stretch.r2 : List Ent := [
  E0 0 (some 9) none (.i (.bin .lss (.t 8) (.t 7)))]
def slices_IndexFunc__sStretch_Stretch.r3 : List Ent := [
  E0 0 (some 10) none (.i (.mv (.t 8))),
  E0 1 (some 5) none (.i (.mv (.t 10)))]
def slices_IndexFunc__sStretch_Stretch.r4 : List Ent := [
  E0 0 (some 11) none (.i (.mv (.t 1))),
  E0 1 (some 12) none (.i (.mv (.t 0))),
  E0 2 (some 13) none (.i (.mv (.t 5))),
  E0 3 (some 14) none (.i (.iad 2 (.t 12) (.t 13))),
  E0 4 (some 15) none (.i (.load false true 2 (.t 14))),
  E0 5 (some 16) none (.ccl (.t 11) false [.t 15])]
def slices_IndexFunc__sStretch_Stretch.r5 : List Ent := [
  E0 0 (some 17) none (.i (.mv (.t 5))),
  E0 1 (some 4) none (.i (.mv (.t 17)))]
def slices_IndexFunc__sStretch_Stretch.r6 : List Ent := [
  E0 0 (some 18) none (.i (.bin .add (.t 8) (.k (I64 1)))),
  E0 1 (some 8) none (.i (.mv (.t 18)))]
def slices_IndexFunc__sStretch_Stretch.b0 : KC := .seq (.reg 320 1 slices_IndexFunc__sStretch_Stretch.r2) (.seq (.cond (.t 9) (.skip) (.exit 0)) (.seq (.block 1 (.seq (.reg 384 2 slices_IndexFunc__sStretch_Stretch.r3) (.seq (.reg 512 6 slices_IndexFunc__sStretch_Stretch.r4) (.cond (.t 16) (.seq (.reg 896 2 slices_IndexFunc__sStretch_Stretch.r5) (.ret)) (.skip))))) (.reg 1024 2 slices_IndexFunc__sStretch_Stretch.r6)))
def slices_IndexFunc__sStretch_Stretch.r7 : List Ent := [
  E0 0 (some 4) none (.i (.mv (.k (I64 (-1)))))]
def slices_IndexFunc__sStretch_Stretch.fi : FI := { res := [.t 4], code := .seq (.reg 64 1 slices_IndexFunc__sStretch_Stretch.r0) (.seq (.seq (.reg 128 3 slices_IndexFunc__sStretch_Stretch.r1) (.block 0 (.loop slices_IndexFunc__sStretch_Stretch.b0))) (.seq (.reg 1152 1 slices_IndexFunc__sStretch_Stretch.r7) (.ret))) }
attribute [go_sem] slices_IndexFunc__sStretch_Stretch.r0 slices_IndexFunc__sStretch_Stretch.r1 slices_IndexFunc__sStretch_Stretch.r2 slices_IndexFunc__sStretch_Stretch.r3 slices_IndexFunc__sStretch_Stretch.r4 slices_IndexFunc__sStretch_Stretch.r5 slices_IndexFunc__sStretch_Stretch.r6 slices_IndexFunc__sStretch_Stretch.r7
theorem slices_IndexFunc__sStretch_Stretch.ok : chkF prog F_slices_IndexFunc__sStretch_Stretch 2 slices_IndexFunc__sStretch_Stretch.fi = true := by kernel_rfl

/-! slices_ContainsFunc__sStretch_Stretch -/
def slices_ContainsFunc__sStretch_Stretch.r0 : List Ent := [
  E0 0 (some 4) none (.i (.mv (.k (.dat none (.bool false)))))]
def slices_ContainsFunc__sStretch_Stretch.r1 : List Ent := [
  E0 0 (some 5) none (.i (.mv (.t 0))),
  E0 1 (some 6) none (.i (.mv (.t 1))),
  E0 2 (some 7) none (.call F_slices_IndexFunc__sStretch_Stretch false (roA [.t 5, .t 6])),
  E0 3 (some 8) none (.i (.bin .geq (.t 7) (.k (I64 0)))),
  E0 4 (some 4) none (.i (.mv (.t 8)))]
def slices_ContainsFunc__sStretch_Stretch.fi : FI := { res := [.t 4], code := .seq (.reg 64 1 slices_ContainsFunc__sStretch_Stretch.r0) (.seq (.reg 128 5 slices_ContainsFunc__sStretch_Stretch.r1) (.ret)) }
attribute [go_sem] slices_ContainsFunc__sStretch_Stretch.r0 slices_ContainsFunc__sStretch_Stretch.r1
theorem slices_ContainsFunc__sStretch_Stretch.ok : chkF prog F_slices_ContainsFunc__sStretch_Stretch 2 slices_ContainsFunc__sStretch_Stretch.fi = true := by kernel_rfl

/-! slices_IndexFunc__sKnown_Known -/
def slices_IndexFunc__sKnown_Known.r0 : List Ent := [
  E0 0 (some 4) none (.i (.mv (.k (I64 0))))]
def slices_IndexFunc__sKnown_Known.r1 : List Ent := [
  E0 0 (some 6) none (.i (.mv (.t 0))),
  E0 1 (some 7) none (.i (.len (.t 6))),
  E0 2 (some 8) none (.i (.mv (.k (I64 0))))]
def slices_IndexFunc__sKnown_Known.r2 : List Ent := [
  E0 0 (some 9) none (.i (.bin .lss (.t 8) (.t 7)))]
def slices_IndexFunc__sKnown_Known.r3 : List Ent := [
  E0 0 (some 10) none (.i (.mv (.t 8))),
  E0 1 (some 5) none (.i (.mv (.t 10)))]
def slices_IndexFunc__sKnown_Known.r4 : List Ent := [
  E0 0 (some 11) none (.i (.mv (.t 1))),
  E0 1 (some 12) none (.i (.mv (.t 0))),
  E0 2 (some 13) none (.i (.mv (.t 5))),
  E0 3 (some 14) none (.i (.iad 2 (.t 12) (.t 13))),
  E0 4 (some 15) none (.i (.load false true 2 (.t 14))),
  E0 5 (some 16) none (.ccl (.t 11) false [.t 15])]
def slices_IndexFunc__sKnown_Known.r5 : List Ent := [
  E0 0 (some 17) none (.i (.mv (.t 5))),
  E0 1 (some 4) none (.i (.mv (.t 17)))]
def slices_IndexFunc__sKnown_Known.r6 : List Ent := [
  E0 0 (some 18) none (.i (.bin .add (.t 8) (.k (I64 1)))),
  E0 1 (some 8) none (.i (.mv (.t 18)))]
def slices_IndexFunc__sKnown_Known.b0 : KC := .seq (.reg 320 1 slices_IndexFunc__sKnown_Known.r2) (.seq (.cond (.t 9) (.skip) (.exit 0)) (.seq (.block 1 (.seq (.reg 384 2 slices_IndexFunc__sKnown_Known.r3) (.seq (.reg 512 6 slices_IndexFunc__sKnown_Known.r4) (.cond (.t 16) (.seq (.reg 896 2 slices_IndexFunc__sKnown_Known.r5) (.ret)) (.skip))))) (.reg 1024 2 slices_IndexFunc__sKnown_Known.r6)))
def slices_IndexFunc__sKnown_Known.r7 : List Ent := [
  E0 0 (some 4) none (.i (.mv (.k (I64 (-1)))))]
def slices_IndexFunc__sKnown_Known.fi : FI := { res := [.t 4], code := .seq (.reg 64 1 slices_IndexFunc__sKnown_Known.r0) (.seq (.seq (.reg 128 3 slices_IndexFunc__sKnown_Known.r1) (.block 0 (.loop slices_IndexFunc__sKnown_Known.b0))) (.seq (.reg 1152 1 slices_IndexFunc__sKnown_Known.r7) (.ret))) }
attribute [go_sem] slices_IndexFunc__sKnown_Known.r0 slices_IndexFunc__sKnown_Known.r1 slices_IndexFunc__sKnown_Known.r2 slices_IndexFunc__sKnown_Known.r3 slices_IndexFunc__sKnown_Known.r4 slices_IndexFunc__sKnown_Known.r5 slices_IndexFunc__sKnown_Known.r6 slices_IndexFunc__sKnown_Known.r7
theorem slices_IndexFunc__sKnown_Known.ok : chkF prog F_slices_IndexFunc__sKnown_Known 2 slices_IndexFunc__sKnown_Known.fi = true := by kernel_rfl

/-! slices_ContainsFunc__sKnown_Known -/
def slices_ContainsFunc__sKnown_Known.r0 : List Ent := [
  E0 0 (some 4) none (.i (.mv (.k (.dat none (.bool false)))))]
def slices_ContainsFunc__sKnown_Known.r1 : List Ent := [
  E0 0 (some 5) none (.i (.mv (.t 0))),
  E0 1 (some 6) none (.i (.mv (.t 1))),
  E0 2 (some 7) none (.call F_slices_IndexFunc__sKnown_Known false (roA [.t 5, .t 6])),
  E0 3 (some 8) none (.i (.bin .geq (.t 7) (.k (I64 0)))),
  E0 4 (some 4) none (.i (.mv (.t 8)))]
def slices_ContainsFunc__sKnown_Known.fi : FI := { res := [.t 4], code := .seq (.reg 64 1 slices_ContainsFunc__sKnown_Known.r0) (.seq (.reg 128 5 slices_ContainsFunc__sKnown_Known.r1) (.ret)) }
attribute [go_sem] slices_ContainsFunc__sKnown_Known.r0 slices_ContainsFunc__sKnown_Known.r1
theorem slices_ContainsFunc__sKnown_Known.ok : chkF prog F_slices_ContainsFunc__sKnown_Known 2 slices_ContainsFunc__sKnown_Known.fi = true := by kernel_rfl

/-! impl_GoodKnown -/
def impl_GoodKnown.r0 : List Ent := [
  E0 0 (some 1) none (.i (.box (.t 0))),
  E0 1 (some 2) none (.i (.mv (.k (.dat none (.bool false)))))]
def impl_GoodKnown.r1 : List Ent := [
  E0 0 (some 3) none (.i (.fad 0 (.t 1))),
  E0 1 (some 4) none (.i (.load false false 1 (.t 3))),
  E0 2 (some 5) none (.call F_impl_isWord false (roA [.t 4])),
  E0 3 (some 6) none (.i (.mv (.t 5))),
  E0 4 (some 7) (some (6, true)) (.i (.fad 1 (.t 1))),
  E0 5 (some 8) (some (6, true)) (.i (.load false false 1 (.t 7))),
  E0 6 (some 9) (some (6, true)) (.call F_impl_isWord false (roA [.t 8])),
  E0 7 (some 10) none (.i (.pick (.t 6) (.t 9) (.k (.dat none (.bool false))))),
  E0 8 (some 11) none (.i (.mv (.t 10))),
  E0 9 (some 12) (some (11, true)) (.i (.fad 0 (.t 1))),
  E0 10 (some 13) (some (11, true)) (.i (.load false false 1 (.t 12))),
  E0 11 (some 14) (some (11, true)) (.i (.fad 1 (.t 1))),
  E0 12 (some 15) (some (11, true)) (.i (.load false false 1 (.t 14))),
  E0 13 (some 16) (some (11, true)) (.i (.bin .and (.t 13) (.t 15))),
  E0 14 (some 17) (some (11, true)) (.i (.bin .eql (.t 16) (.k (I64 0)))),
  E0 15 (some 18) none (.i (.pick (.t 11) (.t 17) (.k (.dat none (.bool false))))),
  E0 16 (some 2) none (.i (.mv (.t 18)))]
def impl_GoodKnown.fi : FI := { res := [.t 2], code := .seq (.reg 64 2 impl_GoodKnown.r0) (.seq (.reg 192 17 impl_GoodKnown.r1) (.ret)) }
attribute [go_sem] impl_GoodKnown.r0 impl_GoodKnown.r1
theorem impl_GoodKnown.ok : chkF prog F_impl_GoodKnown 1 impl_GoodKnown.fi = true := by kernel_rfl

/-! impl_GoodMay_c2 -/
def impl_GoodMay_c2.r0 : List Ent := [
  E0 0 (some 1) none (.i (.box (.t 0))),
  E0 1 (some 2) none (.i (.mv (.k (.dat none (.bool false)))))]
def impl_GoodMay_c2.r1 : List Ent := [
  E0 0 (some 3) none (.i (.load false true 2 (.t 1))),
  E0 1 (some 4) none (.call F_impl_GoodKnown false (roA [.t 3])),
  E0 2 (some 5) none (.i (.un .not (.t 4))),
  E0 3 (some 2) none (.i (.mv (.t 5)))]
def impl_GoodMay_c2.fi : FI := { res := [.t 2], code := .seq (.reg 64 2 impl_GoodMay_c2.r0) (.seq (.reg 192 4 impl_GoodMay_c2.r1) (.ret)) }
attribute [go_sem] impl_GoodMay_c2.r0 impl_GoodMay_c2.r1
theorem impl_GoodMay_c2.ok : chkF prog F_impl_GoodMay_c2 1 impl_GoodMay_c2.fi = true := by kernel_rfl

/-! impl_GoodMay -/
def impl_GoodMay.r0 : List Ent := [
  E0 0 (some 1) none (.i (.box (.t 0))),
  E0 1 (some 2) none (.i (.mv (.k (.dat none (.bool false)))))]
def impl_GoodMay.r1 : List Ent := [
  E0 0 (some 4) none (.i (.fad 0 (.t 1))),
  E0 1 (some 5) none (.i (.load false false 1 (.t 4))),
  E0 2 (some 6) none (.i (.len (.t 5))),
  E0 3 (some 7) none (.i (.bin .neq (.t 6) (.k (I64 6)))),
  E0 4 (some 8) none (.i (.mv (.t 7))),
  E0 5 (some 9) (some (8, false)) (.i (.fad 1 (.t 1))),
  E0 6 (some 10) (some (8, false)) (.i (.load false false 1 (.t 9))),
  E0 7 (some 11) (some (8, false)) (.i (.len (.t 10))),
  E0 8 (some 12) (some (8, false)) (.i (.bin .neq (.t 11) (.k (I64 6)))),
  E0 9 (some 13) none (.i (.pick (.t 8) (.k (.dat none (.bool true))) (.t 12))),
  E0 10 (some 14) none (.i (.mv (.t 13))),
  E0 11 (some 15) (some (14, false)) (.i (.fad 2 (.t 1))),
  E0 12 (some 16) (some (14, false)) (.i (.load false false 1 (.t 15))),
  E0 13 (some 17) (some (14, false)) (.i (.len (.t 16))),
  E0 14 (some 18) (some (14, false)) (.i (.bin .neq (.t 17) (.k (I64 16)))),
  E0 15 (some 19) none (.i (.pick (.t 14) (.k (.dat none (.bool true))) (.t 18))),
  E0 16 (some 20) none (.i (.mv (.t 19))),
  E0 17 (some 21) (some (20, false)) (.i (.fad 3 (.t 1))),
  E0 18 (some 22) (some (20, false)) (.i (.load false false 1 (.t 21))),
  E0 19 (some 23) (some (20, false)) (.i (.len (.t 22))),
  E0 20 (some 24) (some (20, false)) (.i (.bin .neq (.t 23) (.k (I64 16)))),
  E0 21 (some 25) none (.i (.pick (.t 20) (.k (.dat none (.bool true))) (.t 24)))]
def impl_GoodMay.r2 : List Ent := [
  E0 0 (some 2) none (.i (.mv (.k (.dat none (.bool false)))))]
def impl_GoodMay.r3 : List Ent := [
  E0 0 (some 3) none (.i (.mv (.k (.clo F_impl_GoodMay_c1 []))))]
def impl_GoodMay.r4 : List Ent := [
  E0 0 (some 26) none (.i (.fad 0 (.t 1))),
  E0 1 (some 27) none (.i (.load false false 1 (.t 26))),
  E0 2 (some 28) none (.i (.mv (.t 3))),
  E0 3 (some 29) none (.call F_slices_ContainsFunc__sStretch_Stretch false (roA [.t 27, .t 28])),
  E0 4 (some 30) none (.i (.un .not (.t 29))),
  E0 5 (some 31) none (.i (.mv (.t 30))),
  E0 6 (some 32) (some (31, true)) (.i (.fad 2 (.t 1))),
  E0 7 (some 33) (some (31, true)) (.i (.load false false 1 (.t 32))),
  E0 8 (some 34) (some (31, true)) (.i (.mv (.t 3))),
  E0 9 (some 35) (some (31, true)) (.call F_slices_ContainsFunc__sStretch_Stretch false (roA [.t 33, .t 34])),
  E0 10 (some 36) (some (31, true)) (.i (.un .not (.t 35))),
  E0 11 (some 37) none (.i (.pick (.t 31) (.t 36) (.k (.dat none (.bool false))))),
  E0 12 (some 38) none (.i (.mv (.t 37))),
  E0 13 (some 39) (some (38, true)) (.i (.fad 1 (.t 1))),
  E0 14 (some 40) (some (38, true)) (.i (.load false false 1 (.t 39))),
  E0 15 (some 41) (some (38, true)) (.call F_slices_ContainsFunc__sKnown_Known false (roA [.t 40, .k (.clo F_impl_GoodMay_c2 [])])),
  E0 16 (some 42) (some (38, true)) (.i (.un .not (.t 41))),
  E0 17 (some 43) none (.i (.pick (.t 38) (.t 42) (.k (.dat none (.bool false))))),
  E0 18 (some 2) none (.i (.mv (.t 43)))]
def impl_GoodMay.fi : FI := { res := [.t 2], code := .seq (.reg 64 2 impl_GoodMay.r0) (.seq (.seq (.reg 192 22 impl_GoodMay.r1) (.cond (.t 25) (.seq (.reg 1600 1 impl_GoodMay.r2) (.ret)) (.skip))) (.seq (.reg 1664 1 impl_GoodMay.r3) (.seq (.reg 1728 19 impl_GoodMay.r4) (.ret)))) }
attribute [go_sem] impl_GoodMay.r0 impl_GoodMay.r1 impl_GoodMay.r2 impl_GoodMay.r3 impl_GoodMay.r4
theorem impl_GoodMay.ok : chkF prog F_impl_GoodMay 1 impl_GoodMay.fi = true := by kernel_rfl

/-! laws_eqStretch -/
def laws_eqStretch.r0 : List Ent := [
  E0 0 (some 2) none (.i (.box (.t 0))),
  E0 1 (some 3) none (.i (.box (.t 1))),
  E0 2 (some 4) none (.i (.mv (.k (.dat none (.bool false)))))]
def laws_eqStretch.r1 : List Ent := [
  E0 0 (some 5) none (.i (.fad 0 (.t 2))),
  E0 1 (some 6) none (.i (.load false false 1 (.t 5))),
  E0 2 (some 7) none (.i (.fad 0 (.t 3))),
  E0 3 (some 8) none (.i (.load false false 1 (.t 7))),
  E0 4 (some 9) none (.i (.bin .neq (.t 6) (.t 8)))]
def laws_eqStretch.r2 : List Ent := [
  E0 0 (some 4) none (.i (.mv (.k (.dat none (.bool false)))))]
def laws_eqStretch.r3 : List Ent := [
  E0 0 (some 10) none (.i (.fad 1 (.t 2))),
  E0 1 (some 11) none (.i (.load false false 1 (.t 10))),
  E0 2 (some 12) none (.i (.fad 1 (.t 3))),
  E0 3 (some 13) none (.i (.load false false 1 (.t 12))),
  E0 4 (some 14) none (.i (.bin .neq (.t 11) (.t 13)))]
def laws_eqStretch.r4 : List Ent := [
  E0 0 (some 4) none (.i (.mv (.k (.dat none (.bool false)))))]
def laws_eqStretch.r5 : List Ent := [
  E0 0 (some 4) none (.i (.mv (.k (.dat none (.bool true)))))]
def laws_eqStretch.fi : FI := { res := [.t 4], code := .seq (.reg 64 3 laws_eqStretch.r0) (.seq (.seq (.reg 256 5 laws_eqStretch.r1) (.cond (.t 9) (.seq (.reg 576 1 laws_eqStretch.r2) (.ret)) (.skip))) (.seq (.seq (.reg 640 5 laws_eqStretch.r3) (.cond (.t 14) (.seq (.reg 960 1 laws_eqStretch.r4) (.ret)) (.skip))) (.seq (.reg 1024 1 laws_eqStretch.r5) (.ret)))) }
attribute [go_sem] laws_eqStretch.r0 laws_eqStretch.r1 laws_eqStretch.r2 laws_eqStretch.r3 laws_eqStretch.r4 laws_eqStretch.r5
theorem laws_eqStretch.ok : chkF prog F_laws_eqStretch 2 laws_eqStretch.fi = true := by kernel_rfl

/-! laws_eqStretchS -/
def laws_eqStretchS.r0 : List Ent := [
  E0 0 (some 4) none (.i (.mv (.k (.dat none (.bool false)))))]
def laws_eqStretchS.r1 : List Ent := [
  E0 0 (some 6) none (.i (.mv (.t 0))),
  E0 1 (some 7) none (.i (.len (.t 6))),
  E0 2 (some 8) none (.i (.mv (.t 1))),
  E0 3 (some 9) none (.i (.len (.t 8))),
  E0 4 (some 10) none (.i (.bin .neq (.t 7) (.t 9)))]
def laws_eqStretchS.r2 : List Ent := [
  E0 0 (some 4) none (.i (.mv (.k (.dat none (.bool false)))))]
def laws_eqStretchS.r3 : List Ent := [
  E0 0 (some 5) none (.i (.mv (.k (I64 0))))]
def laws_eqStretchS.r4 : List Ent := [
  E0 0 (some 11) none (.i (.mv (.t 5))),
  E0 1 (some 12) none (.i (.mv (.t 0))),
  E0 2 (some 13) none (.i (.len (.t 12))),
  E0 3 (some 14) none (.i (.bin .lss (.t 11) (.t 13)))]
def laws_eqStretchS.r5 : List Ent := [
  E0 0 (some 17) none (.i (.mv (.t 0))),
  E0 1 (some 18) none (.i (.mv (.t 5))),
  ER 2 (some 19) none (.iad 2 (.t 17) (.t 18)),
  ER 3 (some 20) none (.load false true 2 (.t 19)),
  E0 4 (some 21) none (.i (.mv (.t 1))),
  E0 5 (some 22) none (.i (.mv (.t 5))),
  ER 6 (some 23) none (.iad 2 (.t 21) (.t 22)),
  ER 7 (some 24) none (.load false true 2 (.t 23)),
  E0 8 (some 25) none (.call F_laws_eqStretch false (roA [.t 20, .t 24])),
  E0 9 (some 26) none (.i (.un .not (.t 25)))]
def laws_eqStretchS.r6 : List Ent := [
  E0 0 (some 4) none (.i (.mv (.k (.dat none (.bool false)))))]
def laws_eqStretchS.r7 : List Ent := [
  E0 0 (some 15) none (.i (.mv (.t 5))),
  E0 1 (some 16) none (.i (.bin .add (.t 15) (.k (I64 1)))),
  E0 2 (some 5) none (.i (.mv (.t 16)))]
def laws_eqStretchS.b0 : KC := .seq (.seq (.reg 576 4 laws_eqStretchS.r4) (.cond (.t 14) (.skip) (.exit 0))) (.seq (.block 1 (.seq (.reg 832 10 laws_eqStretchS.r5) (.cond (.t 26) (.seq (.reg 1472 1 laws_eqStretchS.r6) (.ret)) (.skip)))) (.reg 1536 3 laws_eqStretchS.r7))
def laws_eqStretchS.r8 : List Ent := [
  E0 0 (some 4) none (.i (.mv (.k (.dat none (.bool true)))))]
def laws_eqStretchS.fi : FI := { res := [.t 4], code := .seq (.reg 64 1 laws_eqStretchS.r0) (.seq (.seq (.reg 128 5 laws_eqStretchS.r1) (.cond (.t 10) (.seq (.reg 448 1 laws_eqStretchS.r2) (.ret)) (.skip))) (.seq (.seq (.reg 512 1 laws_eqStretchS.r3) (.block 0 (.loop laws_eqStretchS.b0))) (.seq (.reg 1728 1 laws_eqStretchS.r8) (.ret)))) }
attribute [go_sem] laws_eqStretchS.r0 laws_eqStretchS.r1 laws_eqStretchS.r2 laws_eqStretchS.r3 laws_eqStretchS.r4 laws_eqStretchS.r5 laws_eqStretchS.r6 laws_eqStretchS.r7 laws_eqStretchS.r8
theorem laws_eqStretchS.ok : chkF prog F_laws_eqStretchS 2 laws_eqStretchS.fi = true := by kernel_rfl

/-! laws_eqKnown -/
def laws_eqKnown.r0 : List Ent := [
  E0 0 (some 2) none (.i (.box (.t 0))),
  E0 1 (some 3) none (.i (.box (.t 1))),
  E0 2 (some 4) none (.i (.mv (.k (.dat none (.bool false)))))]
def laws_eqKnown.r1 : List Ent := [
  E0 0 (some 5) none (.i (.fad 0 (.t 2))),
  E0 1 (some 6) none (.i (.load false false 1 (.t 5))),
  E0 2 (some 7) none (.i (.fad 0 (.t 3))),
  E0 3 (some 8) none (.i (.load false false 1 (.t 7))),
  E0 4 (some 9) none (.i (.bin .neq (.t 6) (.t 8)))]
def laws_eqKnown.r2 : List Ent := [
  E0 0 (some 4) none (.i (.mv (.k (.dat none (.bool false)))))]
def laws_eqKnown.r3 : List Ent := [
  E0 0 (some 10) none (.i (.fad 1 (.t 2))),
  E0 1 (some 11) none (.i (.load false false 1 (.t 10))),
  E0 2 (some 12) none (.i (.fad 1 (.t 3))),
  E0 3 (some 13) none (.i (.load false false 1 (.t 12))),
  E0 4 (some 14) none (.i (.bin .neq (.t 11) (.t 13)))]
def laws_eqKnown.r4 : List Ent := [
  E0 0 (some 4) none (.i (.mv (.k (.dat none (.bool false)))))]
def laws_eqKnown.r5 : List Ent := [
  E0 0 (some 4) none (.i (.mv (.k (.dat none (.bool true)))))]
def laws_eqKnown.fi : FI := { res := [.t 4], code := .seq (.reg 64 3 laws_eqKnown.r0) (.seq (.seq (.reg 256 5 laws_eqKnown.r1) (.cond (.t 9) (.seq (.reg 576 1 laws_eqKnown.r2) (.ret)) (.skip))) (.seq (.seq (.reg 640 5 laws_eqKnown.r3) (.cond (.t 14) (.seq (.reg 960 1 laws_eqKnown.r4) (.ret)) (.skip))) (.seq (.reg 1024 1 laws_eqKnown.r5) (.ret)))) }
attribute [go_sem] laws_eqKnown.r0 laws_eqKnown.r1 laws_eqKnown.r2 laws_eqKnown.r3 laws_eqKnown.r4 laws_eqKnown.r5
theorem laws_eqKnown.ok : chkF prog F_laws_eqKnown 2 laws_eqKnown.fi = true := by kernel_rfl

/-! laws_eqKnownS -/
def laws_eqKnownS.r0 : List Ent := [
  E0 0 (some 4) none (.i (.mv (.k (.dat none (.bool false)))))]
def laws_eqKnownS.r1 : List Ent := [
  E0 0 (some 6) none (.i (.mv (.t 0))),
  E0 1 (some 7) none (.i (.len (.t 6))),
  E0 2 (some 8) none (.i (.mv (.t 1))),
  E0 3 (some 9) none (.i (.len (.t 8))),
  E0 4 (some 10) none (.i (.bin .neq (.t 7) (.t 9)))]
def laws_eqKnownS.r2 : List Ent := [
  E0 0 (some 4) none (.i (.mv (.k (.dat none (.bool false)))))]
def laws_eqKnownS.r3 : List Ent := [
  E0 0 (some 5) none (.i (.mv (.k (I64 0))))]
def laws_eqKnownS.r4 : List Ent := [
  E0 0 (some 11) none (.i (.mv (.t 5))),
  E0 1 (some 12) none (.i (.mv (.t 0))),
  E0 2 (some 13) none (.i (.len (.t 12))),
  E0 3 (some 14) none (.i (.bin .lss (.t 11) (.t 13)))]
def laws_eqKnownS.r5 : List Ent := [
  E0 0 (some 17) none (.i (.mv (.t 0))),
  E0 1 (some 18) none (.i (.mv (.t 5))),
  ER 2 (some 19) none (.iad 2 (.t 17) (.t 18)),
  ER 3 (some 20) none (.load false true 2 (.t 19)),
  E0 4 (some 21) none (.i (.mv (.t 1))),
  E0 5 (some 22) none (.i (.mv (.t 5))),
  ER 6 (some 23) none (.iad 2 (.t 21) (.t 22)),
  ER 7 (some 24) none (.load false true 2 (.t 23)),
  E0 8 (some 25) none (.call F_laws_eqKnown false (roA [.t 20, .t 24])),
  E0 9 (some 26) none (.i (.un .not (.t 25)))]
def laws_eqKnownS.r6 : List Ent := [
  E0 0 (some 4) none (.i (.mv (.k (.dat none (.bool false)))))]
def laws_eqKnownS.r7 : List Ent := [
  E0 0 (some 15) none (.i (.mv (.t 5))),
  E0 1 (some 16) none (.i (.bin .add (.t 15) (.k (I64 1)))),
  E0 2 (some 5) none (.i (.mv (.t 16)))]
def laws_eqKnownS.b0 : KC := .seq (.seq (.reg 576 4 laws_eqKnownS.r4) (.cond (.t 14) (.skip) (.exit 0))) (.seq (.block 1 (.seq (.reg 832 10 laws_eqKnownS.r5) (.cond (.t 26) (.seq (.reg 1472 1 laws_eqKnownS.r6) (.ret)) (.skip)))) (.reg 1536 3 laws_eqKnownS.r7))
def laws_eqKnownS.r8 : List Ent := [
  E0 0 (some 4) none (.i (.mv (.k (.dat none (.bool true)))))]
def laws_eqKnownS.fi : FI := { res := [.t 4], code := .seq (.reg 64 1 laws_eqKnownS.r0) (.seq (.seq (.reg 128 5 laws_eqKnownS.r1) (.cond (.t 10) (.seq (.reg 448 1 laws_eqKnownS.r2) (.ret)) (.skip))) (.seq (.seq (.reg 512 1 laws_eqKnownS.r3) (.block 0 (.loop laws_eqKnownS.b0))) (.seq (.reg 1728 1 laws_eqKnownS.r8) (.ret)))) }
attribute [go_sem] laws_eqKnownS.r0 laws_eqKnownS.r1 laws_eqKnownS.r2 laws_eqKnownS.r3 laws_eqKnownS.r4 laws_eqKnownS.r5 laws_eqKnownS.r6 laws_eqKnownS.r7 laws_eqKnownS.r8
theorem laws_eqKnownS.ok : chkF prog F_laws_eqKnownS 2 laws_eqKnownS.fi = true := by kernel_rfl

/-! laws_eqBoolS -/
def laws_eqBoolS.r0 : List Ent := [
  E0 0 (some 4) none (.i (.mv (.k (.dat none (.bool false)))))]
def laws_eqBoolS.r1 : List Ent := [
  E0 0 (some 6) none (.i (.mv (.t 0))),
  E0 1 (some 7) none (.i (.len (.t 6))),
  E0 2 (some 8) none (.i (.mv (.t 1))),
  E0 3 (some 9) none (.i (.len (.t 8))),
  E0 4 (some 10) none (.i (.bin .neq (.t 7) (.t 9)))]
def laws_eqBoolS.r2 : List Ent := [
  E0 0 (some 4) none (.i (.mv (.k (.dat none (.bool false)))))]
def laws_eqBoolS.r3 : List Ent := [
  E0 0 (some 5) none (.i (.mv (.k (I64 0))))]
def laws_eqBoolS.r4 : List Ent := [
  E0 0 (some 11) none (.i (.mv (.t 5))),
  E0 1 (some 12) none (.i (.mv (.t 0))),
  E0 2 (some 13) none (.i (.len (.t 12))),
  E0 3 (some 14) none (.i (.bin .lss (.t 11) (.t 13)))]
def laws_eqBoolS.r5 : List Ent := [
  E0 0 (some 17) none (.i (.mv (.t 0))),
  E0 1 (some 18) none (.i (.mv (.t 5))),
  ER 2 (some 19) none (.iad 1 (.t 17) (.t 18)),
  ER 3 (some 20) none (.load false false 1 (.t 19)),
  E0 4 (some 21) none (.i (.mv (.t 1))),
  E0 5 (some 22) none (.i (.mv (.t 5))),
  ER 6 (some 23) none (.iad 1 (.t 21) (.t 22)),
  ER 7 (some 24) none (.load false false 1 (.t 23)),
  E0 8 (some 25) none (.i (.eqb true (.t 20) (.t 24)))]
def laws_eqBoolS.r6 : List Ent := [
  E0 0 (some 4) none (.i (.mv (.k (.dat none (.bool false)))))]
def laws_eqBoolS.r7 : List Ent := [
  E0 0 (some 15) none (.i (.mv (.t 5))),
  E0 1 (some 16) none (.i (.bin .add (.t 15) (.k (I64 1)))),
  E0 2 (some 5) none (.i (.mv (.t 16)))]
def laws_eqBoolS.b0 : KC := .seq (.seq (.reg 576 4 laws_eqBoolS.r4) (.cond (.t 14) (.skip) (.exit 0))) (.seq (.block 1 (.seq (.reg 832 9 laws_eqBoolS.r5) (.cond (.t 25) (.seq (.reg 1408 1 laws_eqBoolS.r6) (.ret)) (.skip)))) (.reg 1472 3 laws_eqBoolS.r7))
def laws_eqBoolS.r8 : List Ent := [
  E0 0 (some 4) none (.i (.mv (.k (.dat none (.bool true)))))]
def laws_eqBoolS.fi : FI := { res := [.t 4], code := .seq (.reg 64 1 laws_eqBoolS.r0) (.seq (.seq (.reg 128 5 laws_eqBoolS.r1) (.cond (.t 10) (.seq (.reg 448 1 laws_eqBoolS.r2) (.ret)) (.skip))) (.seq (.seq (.reg 512 1 laws_eqBoolS.r3) (.block 0 (.loop laws_eqBoolS.b0))) (.seq (.reg 1664 1 laws_eqBoolS.r8) (.ret)))) }
attribute [go_sem] laws_eqBoolS.r0 laws_eqBoolS.r1 laws_eqBoolS.r2 laws_eqBoolS.r3 laws_eqBoolS.r4 laws_eqBoolS.r5 laws_eqBoolS.r6 laws_eqBoolS.r7 laws_eqBoolS.r8
theorem laws_eqBoolS.ok : chkF prog F_laws_eqBoolS 2 laws_eqBoolS.fi = true := by kernel_rfl

/-! laws_eqMay -/
def laws_eqMay.r0 : List Ent := [
  E0 0 (some 2) none (.i (.box (.t 0))),
  E0 1 (some 3) none (.i (.box (.t 1))),
  E0 2 (some 4) none (.i (.mv (.k (.dat none (.bool false)))))]
def laws_eqMay.r1 : List Ent := [
  E0 0 (some 5) none (.i (.fad 0 (.t 2))),
  E0 1 (some 6) none (.i (.load false false 1 (.t 5))),
  E0 2 (some 7) none (.i (.fad 0 (.t 3))),
  E0 3 (some 8) none (.i (.load false false 1 (.t 7))),
  E0 4 (some 9) none (.call F_laws_eqStretchS false (roA [.t 6, .t 8])),
  E0 5 (some 10) none (.i (.un .not (.t 9)))]
def laws_eqMay.r2 : List Ent := [
  E0 0 (some 4) none (.i (.mv (.k (.dat none (.bool false)))))]
def laws_eqMay.r3 : List Ent := [
  E0 0 (some 11) none (.i (.fad 1 (.t 2))),
  E0 1 (some 12) none (.i (.load false false 1 (.t 11))),
  E0 2 (some 13) none (.i (.fad 1 (.t 3))),
  E0 3 (some 14) none (.i (.load false false 1 (.t 13))),
  E0 4 (some 15) none (.call F_laws_eqKnownS false (roA [.t 12, .t 14])),
  E0 5 (some 16) none (.i (.un .not (.t 15)))]
def laws_eqMay.r4 : List Ent := [
  E0 0 (some 4) none (.i (.mv (.k (.dat none (.bool false)))))]
def laws_eqMay.r5 : List Ent := [
  E0 0 (some 17) none (.i (.fad 2 (.t 2))),
  E0 1 (some 18) none (.i (.load false false 1 (.t 17))),
  E0 2 (some 19) none (.i (.fad 2 (.t 3))),
  E0 3 (some 20) none (.i (.load false false 1 (.t 19))),
  E0 4 (some 21) none (.call F_laws_eqStretchS false (roA [.t 18, .t 20])),
  E0 5 (some 22) none (.i (.un .not (.t 21)))]
def laws_eqMay.r6 : List Ent := [
  E0 0 (some 4) none (.i (.mv (.k (.dat none (.bool false)))))]
def laws_eqMay.r7 : List Ent := [
  E0 0 (some 23) none (.i (.fad 3 (.t 2))),
  E0 1 (some 24) none (.i (.load false false 1 (.t 23))),
  E0 2 (some 25) none (.i (.fad 3 (.t 3))),
  E0 3 (some 26) none (.i (.load false false 1 (.t 25))),
  E0 4 (some 27) none (.call F_laws_eqBoolS false (roA [.t 24, .t 26])),
  E0 5 (some 28) none (.i (.un .not (.t 27)))]
def laws_eqMay.r8 : List Ent := [
  E0 0 (some 4) none (.i (.mv (.k (.dat none (.bool false)))))]
def laws_eqMay.r9 : List Ent := [
  E0 0 (some 4) none (.i (.mv (.k (.dat none (.bool true)))))]
def laws_eqMay.fi : FI := { res := [.t 4], code := .seq (.reg 64 3 laws_eqMay.r0) (.seq (.seq (.reg 256 6 laws_eqMay.r1) (.cond (.t 10) (.seq (.reg 640 1 laws_eqMay.r2) (.ret)) (.skip))) (.seq (.seq (.reg 704 6 laws_eqMay.r3) (.cond (.t 16) (.seq (.reg 1088 1 laws_eqMay.r4) (.ret)) (.skip))) (.seq (.seq (.reg 1152 6 laws_eqMay.r5) (.cond (.t 22) (.seq (.reg 1536 1 laws_eqMay.r6) (.ret)) (.skip))) (.seq (.seq (.reg 1600 6 laws_eqMay.r7) (.cond (.t 28) (.seq (.reg 1984 1 laws_eqMay.r8) (.ret)) (.skip))) (.seq (.reg 2048 1 laws_eqMay.r9) (.ret)))))) }
attribute [go_sem] laws_eqMay.r0 laws_eqMay.r1 laws_eqMay.r2 laws_eqMay.r3 laws_eqMay.r4 laws_eqMay.r5 laws_eqMay.r6 laws_eqMay.r7 laws_eqMay.r8 laws_eqMay.r9
theorem laws_eqMay.ok : chkF prog F_laws_eqMay 2 laws_eqMay.fi = true := by kernel_rfl

/-! laws_szIntS -/
def laws_szIntS.r0 : List Ent := [
  E0 0 (some 4) none (.i (.mv (.k (I64 0))))]
def laws_szIntS.r1 : List Ent := [
  E0 0 (some 5) none (.i (.mv (.t 1))),
  E0 1 (some 6) none (.i (.mv (.t 0))),
  E0 2 (some 7) none (.i (.len (.t 6))),
  E0 3 (some 8) none (.i (.bin .sub (.t 5) (.t 7))),
  E0 4 (some 1) none (.i (.mv (.t 8)))]
def laws_szIntS.r2 : List Ent := [
  E0 0 (some 9) none (.i (.mv (.t 1))),
  E0 1 (some 10) none (.i (.bin .lss (.t 9) (.k (I64 0))))]
def laws_szIntS.r3 : List Ent := [
  E0 0 (some 4) none (.i (.mv (.k (I64 (-1)))))]
def laws_szIntS.r4 : List Ent := [
  E0 0 (some 11) none (.i (.mv (.t 1))),
  E0 1 (some 4) none (.i (.mv (.t 11)))]
def laws_szIntS.fi : FI := { res := [.t 4], code := .seq (.reg 64 1 laws_szIntS.r0) (.seq (.reg 128 5 laws_szIntS.r1) (.seq (.seq (.reg 448 2 laws_szIntS.r2) (.cond (.t 10) (.seq (.reg 576 1 laws_szIntS.r3) (.ret)) (.skip))) (.seq (.reg 640 2 laws_szIntS.r4) (.ret)))) }
attribute [go_sem] laws_szIntS.r0 laws_szIntS.r1 laws_szIntS.r2 laws_szIntS.r3 laws_szIntS.r4
theorem laws_szIntS.ok : chkF prog F_laws_szIntS 2 laws_szIntS.fi = true := by kernel_rfl

/-! laws_szMachine -/
def laws_szMachine.r0 : List Ent := [
  E0 0 (some 2) none (.i (.box (.t 0))),
  E0 1 (some 4) none (.i (.mv (.k (I64 0))))]
def laws_szMachine.r1 : List Ent := [
  E0 0 (some 5) none (.i (.fad 1 (.t 2))),
  E0 1 (some 6) none (.i (.load false false 1 (.t 5))),
  E0 2 (some 7) none (.i (.mv (.t 1))),
  E0 3 (some 8) none (.call F_laws_szIntS false (roA [.t 6, .t 7])),
  E0 4 (some 1) none (.i (.mv (.t 8)))]
def laws_szMachine.r2 : List Ent := [
  E0 0 (some 9) none (.i (.mv (.t 1))),
  E0 1 (some 10) none (.i (.bin .lss (.t 9) (.k (I64 0))))]
def laws_szMachine.r3 : List Ent := [
  E0 0 (some 4) none (.i (.mv (.k (I64 (-1)))))]
def laws_szMachine.r4 : List Ent := [
  E0 0 (some 11) none (.i (.fad 2 (.t 2))),
  E0 1 (some 12) none (.i (.load false false 1 (.t 11))),
  E0 2 (some 13) none (.i (.mv (.t 1))),
  E0 3 (some 14) none (.call F_laws_szIntS false (roA [.t 12, .t 13])),
  E0 4 (some 1) none (.i (.mv (.t 14)))]
def laws_szMachine.r5 : List Ent := [
  E0 0 (some 15) none (.i (.mv (.t 1))),
  E0 1 (some 16) none (.i (.bin .lss (.t 15) (.k (I64 0))))]
def laws_szMachine.r6 : List Ent := [
  E0 0 (some 4) none (.i (.mv (.k (I64 (-1)))))]
def laws_szMachine.r7 : List Ent := [
  E0 0 (some 17) none (.i (.fad 3 (.t 2))),
  E0 1 (some 18) none (.i (.load false false 1 (.t 17))),
  E0 2 (some 19) none (.i (.mv (.t 1))),
  E0 3 (some 20) none (.call F_laws_szBoolS false (roA [.t 18, .t 19])),
  E0 4 (some 1) none (.i (.mv (.t 20)))]
def laws_szMachine.r8 : List Ent := [
  E0 0 (some 21) none (.i (.mv (.t 1))),
  E0 1 (some 22) none (.i (.bin .lss (.t 21) (.k (I64 0))))]
def laws_szMachine.r9 : List Ent := [
  E0 0 (some 4) none (.i (.mv (.k (I64 (-1)))))]
def laws_szMachine.r10 : List Ent := [
  E0 0 (some 23) none (.i (.mv (.t 1))),
  E0 1 (some 4) none (.i (.mv (.t 23)))]
def laws_szMachine.fi : FI := { res := [.t 4], code := .seq (.reg 64 2 laws_szMachine.r0) (.seq (.reg 192 5 laws_szMachine.r1) (.seq (.seq (.reg 512 2 laws_szMachine.r2) (.cond (.t 10) (.seq (.reg 640 1 laws_szMachine.r3) (.ret)) (.skip))) (.seq (.reg 704 5 laws_szMachine.r4) (.seq (.seq (.reg 1024 2 laws_szMachine.r5) (.cond (.t 16) (.seq (.reg 1152 1 laws_szMachine.r6) (.ret)) (.skip))) (.seq (.reg 1216 5 laws_szMachine.r7) (.seq (.seq (.reg 1536 2 laws_szMachine.r8) (.cond (.t 22) (.seq (.reg 1664 1 laws_szMachine.r9) (.ret)) (.skip))) (.seq (.reg 1728 2 laws_szMachine.r10) (.ret)))))))) }
attribute [go_sem] laws_szMachine.r0 laws_szMachine.r1 laws_szMachine.r2 laws_szMachine.r3 laws_szMachine.r4 laws_szMachine.r5 laws_szMachine.r6 laws_szMachine.r7 laws_szMachine.r8 laws_szMachine.r9 laws_szMachine.r10
theorem laws_szMachine.ok : chkF prog F_laws_szMachine 2 laws_szMachine.fi = true := by kernel_rfl

/-! spec_l1All -/
def spec_l1All.r0 : List Ent := [
  E0 0 (some 6) none (.i (.mv (.k (.dat none (.bool false)))))]
def spec_l1All.r1 : List Ent := [
  E0 0 (some 9) none (.i (.mv (.t 0))),
  E0 1 (some 10) none (.i (.len (.t 9))),
  E0 2 (some 11) none (.i (.mv (.k (I64 0))))]
def spec_l1All.r2 : List Ent := [
  E0 0 (some 12) none (.i (.bin .lss (.t 11) (.t 10)))]
def spec_l1All.r3 : List Ent := [
  E0 0 (some 13) none (.i (.iad 1 (.t 9) (.t 11))),
  E0 1 (some 14) none (.i (.load false false 1 (.t 13))),
  E0 2 (some 8) none (.i (.mv (.t 14)))]
def spec_l1All.r4 : List Ent := [
  E0 0 (some 15) none (.i (.mv (.t 8))),
  E0 1 (some 16) none (.i (.mv (.t 1))),
  E0 2 (some 17) none (.i (.mv (.t 2))),
  E0 3 (some 18) none (.call F_spec_l1In false (roA [.t 15, .t 16, .t 17])),
  E0 4 (some 19) none (.i (.un .not (.t 18)))]
def spec_l1All.r5 : List Ent := [
  E0 0 (some 6) none (.i (.mv (.k (.dat none (.bool false)))))]
def spec_l1All.r6 : List Ent := [
  E0 0 (some 20) none (.i (.bin .add (.t 11) (.k (I64 1)))),
  E0 1 (some 11) none (.i (.mv (.t 20)))]
def spec_l1All.b0 : KC := .seq (.reg 320 1 spec_l1All.r2) (.seq (.cond (.t 12) (.skip) (.exit 0)) (.seq (.block 1 (.seq (.reg 384 3 spec_l1All.r3) (.seq (.reg 576 5 spec_l1All.r4) (.cond (.t 19) (.seq (.reg 896 1 spec_l1All.r5) (.ret)) (.skip))))) (.reg 960 2 spec_l1All.r6)))
def spec_l1All.r7 : List Ent := [
  E0 0 (some 6) none (.i (.mv (.k (.dat none (.bool true)))))]
def spec_l1All.fi : FI := { res := [.t 6], code := .seq (.reg 64 1 spec_l1All.r0) (.seq (.seq (.reg 128 3 spec_l1All.r1) (.block 0 (.loop spec_l1All.b0))) (.seq (.reg 1088 1 spec_l1All.r7) (.ret))) }
attribute [go_sem] spec_l1All.r0 spec_l1All.r1 spec_l1All.r2 spec_l1All.r3 spec_l1All.r4 spec_l1All.r5 spec_l1All.r6 spec_l1All.r7
theorem spec_l1All.ok : chkF prog F_spec_l1All 3 spec_l1All.fi = true := by kernel_rfl

/-! spec_GoodMachine -/
def spec_GoodMachine.r0 : List Ent := [
  E0 0 (some 1) none (.i (.box (.t 0))),
  E0 1 (some 2) none (.i (.mv (.k (.dat none (.bool false)))))]
def spec_GoodMachine.r1 : List Ent := [
  E0 0 (some 3) none (.i (.fad 0 (.t 1))),
  E0 1 (some 4) none (.i (.load false false 1 (.t 3))),
  E0 2 (some 5) none (.call F_spec_l1In false (roA [.t 4, .k (I64 0), .k (I64 19)])),
  E0 3 (some 6) none (.i (.mv (.t 5))),
  E0 4 (some 7) (some (6, true)) (.i (.fad 1 (.t 1))),
  E0 5 (some 8) (some (6, true)) (.i (.load false false 1 (.t 7))),
  E0 6 (some 9) (some (6, true)) (.i (.len (.t 8))),
  E0 7 (some 10) (some (6, true)) (.i (.bin .eql (.t 9) (.k (I64 6)))),
  E0 8 (some 11) none (.i (.pick (.t 6) (.t 10) (.k (.dat none (.bool false))))),
  E0 9 (some 12) none (.i (.mv (.t 11))),
  E0 10 (some 13) (some (12, true)) (.i (.fad 1 (.t 1))),
  E0 11 (some 14) (some (12, true)) (.i (.load false false 1 (.t 13))),
  E0 12 (some 15) (some (12, true)) (.call F_spec_l1All false (roA [.t 14, .k (I64 0), .k (I64 65535)])),
  E0 13 (some 16) none (.i (.pick (.t 12) (.t 15) (.k (.dat none (.bool false))))),
  E0 14 (some 17) none (.i (.mv (.t 16))),
  E0 15 (some 18) (some (17, true)) (.i (.fad 2 (.t 1))),
  E0 16 (some 19) (some (17, true)) (.i (.load false false 1 (.t 18))),
  E0 17 (some 20) (some (17, true)) (.i (.len (.t 19))),
  E0 18 (some 21) (some (17, true)) (.i (.bin .eql (.t 20) (.k (I64 16)))),
  E0 19 (some 22) none (.i (.pick (.t 17) (.t 21) (.k (.dat none (.bool false))))),
  E0 20 (some 23) none (.i (.mv (.t 22))),
  E0 21 (some 24) (some (23, true)) (.i (.fad 2 (.t 1))),
  E0 22 (some 25) (some (23, true)) (.i (.load false false 1 (.t 24))),
  E0 23 (some 26) (some (23, true)) (.call F_spec_l1All false (roA [.t 25, .k (I64 0), .k (I64 65535)])),
  E0 24 (some 27) none (.i (.pick (.t 23) (.t 26) (.k (.dat none (.bool false))))),
  E0 25 (some 28) none (.i (.mv (.t 27))),
  E0 26 (some 29) (some (28, true)) (.i (.fad 3 (.t 1))),
  E0 27 (some 30) (some (28, true)) (.i (.load false false 1 (.t 29))),
  E0 28 (some 31) (some (28, true)) (.i (.len (.t 30))),
  E0 29 (some 32) (some (28, true)) (.i (.bin .eql (.t 31) (.k (I64 16)))),
  E0 30 (some 33) none (.i (.pick (.t 28) (.t 32) (.k (.dat none (.bool false))))),
  E0 31 (some 2) none (.i (.mv (.t 33)))]
def spec_GoodMachine.fi : FI := { res := [.t 2], code := .seq (.reg 64 2 spec_GoodMachine.r0) (.seq (.reg 192 32 spec_GoodMachine.r1) (.ret)) }
attribute [go_sem] spec_GoodMachine.r0 spec_GoodMachine.r1
theorem spec_GoodMachine.ok : chkF prog F_spec_GoodMachine 1 spec_GoodMachine.fi = true := by kernel_rfl

/-! spec_l10May -/
def spec_l10May.r0 : List Ent := [
  E0 0 (some 2) none (.i (.box (.t 0))),
  E0 1 (some 4) none (.i (.mv (.k (.dat none (.bool false)))))]
def spec_l10May.r1 : List Ent := [
  E0 0 (some 5) none (.i (.mv (.t 1))),
  E0 1 (some 6) none (.i (.fad 1 (.t 2))),
  E0 2 (some 7) none (.i (.load false false 1 (.t 6))),
  E0 3 (some 8) none (.i (.bin .andNot (.t 5) (.t 7))),
  E0 4 (some 9) none (.i (.fad 0 (.t 2))),
  E0 5 (some 10) none (.i (.load false false 1 (.t 9))),
  E0 6 (some 11) none (.i (.bin .eql (.t 8) (.t 10))),
  E0 7 (some 4) none (.i (.mv (.t 11)))]
def spec_l10May.fi : FI := { res := [.t 4], code := .seq (.reg 64 2 spec_l10May.r0) (.seq (.reg 192 8 spec_l10May.r1) (.ret)) }
attribute [go_sem] spec_l10May.r0 spec_l10May.r1
theorem spec_l10May.ok : chkF prog F_spec_l10May 2 spec_l10May.fi = true := by kernel_rfl

/-! spec_InMay -/
def spec_InMay.r0 : List Ent := [
  E0 0 (some 2) none (.i (.box (.t 0))),
  E0 1 (some 3) none (.i (.box (.t 1))),
  E0 2 (some 4) none (.i (.mv (.k (.dat none (.bool false))))),
  E0 3 (some 5) none (.i (.mv (.k (.dat none (.bool false)))))]
def spec_InMay.r1 : List Ent := [
  E0 0 (some 10) none (.i (.load false true 4 (.t 2))),
  E0 1 (some 11) none (.call F_spec_GoodMay false (roA [.t 10])),
  E0 2 (some 12) none (.i (.un .not (.t 11))),
  E0 3 (some 13) none (.i (.mv (.t 12))),
  E0 4 (some 14) (some (13, false)) (.i (.load false true 4 (.t 3))),
  E0 5 (some 15) (some (13, false)) (.call F_spec_GoodMachine false (roA [.t 14])),
  E0 6 (some 16) (some (13, false)) (.i (.un .not (.t 15))),
  E0 7 (some 17) none (.i (.pick (.t 13) (.k (.dat none (.bool true))) (.t 16)))]
def spec_InMay.r2 : List Ent := [
  E0 0 (some 4) none (.i (.mv (.k (.dat none (.bool false))))),
  E0 1 (some 5) none (.i (.mv (.k (.dat none (.bool false)))))]
def spec_InMay.r3 : List Ent := [
  E0 0 (some 18) none (.i (.fad 1 (.t 3))),
  E0 1 (some 19) none (.i (.load false false 1 (.t 18))),
  E0 2 (some 20) none (.i (.len (.t 19))),
  E0 3 (some 21) none (.i (.mv (.k (I64 0))))]
def spec_InMay.r4 : List Ent := [
  E0 0 (some 22) none (.i (.bin .lss (.t 21) (.t 20)))]
def spec_InMay.r5 : List Ent := [
  E0 0 (some 23) none (.i (.mv (.t 21))),
  E0 1 (some 24) none (.i (.iad 1 (.t 19) (.t 21))),
  E0 2 (some 25) none (.i (.load false false 1 (.t 24))),
  E0 3 (some 6) none (.i (.mv (.t 23))),
  E0 4 (some 7) none (.i (.mv (.t 25)))]
def spec_InMay.r6 : List Ent := [
  E0 0 (some 26) none (.i (.mv (.t 7))),
  ER 1 (some 27) none (.fad 0 (.t 2)),
  ER 2 (some 28) none (.load false false 1 (.t 27)),
  E0 3 (some 29) none (.i (.mv (.t 6))),
  ER 4 (some 30) none (.iad 2 (.t 28) (.t 29)),
  ER 5 (some 31) none (.fad 0 (.t 30)),
  ER 6 (some 32) none (.load false false 1 (.t 31)),
  ER 7 (some 33) none (.fad 0 (.t 2)),
  ER 8 (some 34) none (.load false false 1 (.t 33)),
  E0 9 (some 35) none (.i (.mv (.t 6))),
  ER 10 (some 36) none (.iad 2 (.t 34) (.t 35)),
  ER 11 (some 37) none (.fad 1 (.t 36)),
  ER 12 (some 38) none (.load false false 1 (.t 37)),
  E0 13 (some 39) none (.call F_spec_l1In false (roA [.t 26, .t 32, .t 38])),
  E0 14 (some 40) none (.i (.un .not (.t 39))),
  E0 15 (some 41) none (.i (.mv (.t 40))),
  E0 16 (some 42) (some (41, false)) (.i (.fad 1 (.t 2))),
  E0 17 (some 43) (some (41, false)) (.i (.load false false 1 (.t 42))),
  E0 18 (some 44) (some (41, false)) (.i (.mv (.t 6))),
  E0 19 (some 45) (some (41, false)) (.i (.iad 2 (.t 43) (.t 44))),
  E0 20 (some 46) (some (41, false)) (.i (.load false true 2 (.t 45))),
  E0 21 (some 47) (some (41, false)) (.i (.mv (.t 7))),
  E0 22 (some 48) (some (41, false)) (.call F_spec_l10May false (roA [.t 46, .t 47])),
  E0 23 (some 49) (some (41, false)) (.i (.un .not (.t 48))),
  E0 24 (some 50) none (.i (.pick (.t 41) (.k (.dat none (.bool true))) (.t 49)))]
def spec_InMay.r7 : List Ent := [
  E0 0 (some 4) none (.i (.mv (.k (.dat none (.bool false))))),
  E0 1 (some 5) none (.i (.mv (.k (.dat none (.bool true)))))]
def spec_InMay.r8 : List Ent := [
  E0 0 (some 51) none (.i (.bin .add (.t 21) (.k (I64 1)))),
  E0 1 (some 21) none (.i (.mv (.t 51)))]
def spec_InMay.b0 : KC := .seq (.reg 1216 1 spec_InMay.r4) (.seq (.cond (.t 22) (.skip) (.exit 0)) (.seq (.block 1 (.seq (.reg 1280 5 spec_InMay.r5) (.seq (.reg 1600 25 spec_InMay.r6) (.cond (.t 50) (.seq (.reg 3200 2 spec_InMay.r7) (.ret)) (.skip))))) (.reg 3328 2 spec_InMay.r8)))
def spec_InMay.r9 : List Ent := [
  E0 0 (some 52) none (.i (.fad 3 (.t 3))),
  E0 1 (some 53) none (.i (.load false false 1 (.t 52))),
  E0 2 (some 54) none (.i (.len (.t 53))),
  E0 3 (some 55) none (.i (.mv (.k (I64 0))))]
def spec_InMay.r10 : List Ent := [
  E0 0 (some 56) none (.i (.bin .lss (.t 55) (.t 54)))]
def spec_InMay.r11 : List Ent := [
  E0 0 (some 57) none (.i (.mv (.t 55))),
  E0 1 (some 58) none (.i (.iad 1 (.t 53) (.t 55))),
  E0 2 (some 59) none (.i (.load false false 1 (.t 58))),
  E0 3 (some 8) none (.i (.mv (.t 57))),
  E0 4 (some 9) none (.i (.mv (.t 59)))]
def spec_InMay.r12 : List Ent := [
  E0 0 (some 60) none (.i (.fad 3 (.t 2))),
  E0 1 (some 61) none (.i (.load false false 1 (.t 60))),
  E0 2 (some 62) none (.i (.mv (.t 8))),
  E0 3 (some 63) none (.i (.iad 1 (.t 61) (.t 62))),
  E0 4 (some 64) none (.i (.load false false 1 (.t 63))),
  E0 5 (some 65) none (.i (.mv (.t 64))),
  E0 6 (some 66) (some (65, true)) (.i (.mv (.t 9))),
  E0 7 (some 67) (some (65, true)) (.i (.un .not (.t 66))),
  E0 8 (some 68) none (.i (.pick (.t 65) (.t 67) (.k (.dat none (.bool false))))),
  E0 9 (some 69) none (.i (.mv (.t 68))),
  E0 10 (some 70) (some (69, false)) (.i (.mv (.t 9))),
  E0 11 (some 71) (some (69, false)) (.i (.mv (.t 70))),
  ER 12 (some 72) (some (71, true)) (.fad 2 (.t 3)),
  ER 13 (some 73) (some (71, true)) (.load false false 1 (.t 72)),
  E0 14 (some 74) (some (71, true)) (.i (.mv (.t 8))),
  ER 15 (some 75) (some (71, true)) (.iad 1 (.t 73) (.t 74)),
  ER 16 (some 76) (some (71, true)) (.load false false 1 (.t 75)),
  ER 17 (some 77) (some (71, true)) (.fad 2 (.t 2)),
  ER 18 (some 78) (some (71, true)) (.load false false 1 (.t 77)),
  E0 19 (some 79) (some (71, true)) (.i (.mv (.t 8))),
  ER 20 (some 80) (some (71, true)) (.iad 2 (.t 78) (.t 79)),
  ER 21 (some 81) (some (71, true)) (.fad 0 (.t 80)),
  ER 22 (some 82) (some (71, true)) (.load false false 1 (.t 81)),
  ER 23 (some 83) (some (71, true)) (.fad 2 (.t 2)),
  ER 24 (some 84) (some (71, true)) (.load false false 1 (.t 83)),
  E0 25 (some 85) (some (71, true)) (.i (.mv (.t 8))),
  ER 26 (some 86) (some (71, true)) (.iad 2 (.t 84) (.t 85)),
  ER 27 (some 87) (some (71, true)) (.fad 1 (.t 86)),
  ER 28 (some 88) (some (71, true)) (.load false false 1 (.t 87)),
  E0 29 (some 89) (some (71, true)) (.call F_spec_l1In false (roA [.t 76, .t 82, .t 88])),
  E0 30 (some 90) (some (71, true)) (.i (.un .not (.t 89))),
  E0 31 (some 91) (some (69, false)) (.i (.pick (.t 71) (.t 90) (.k (.dat none (.bool false))))),
  E0 32 (some 92) none (.i (.pick (.t 69) (.k (.dat none (.bool true))) (.t 91)))]
def spec_InMay.r13 : List Ent := [
  E0 0 (some 4) none (.i (.mv (.k (.dat none (.bool false))))),
  E0 1 (some 5) none (.i (.mv (.k (.dat none (.bool true)))))]
def spec_InMay.r14 : List Ent := [
  E0 0 (some 93) none (.i (.bin .add (.t 55) (.k (I64 1)))),
  E0 1 (some 55) none (.i (.mv (.t 93)))]
def spec_InMay.b1 : KC := .seq (.reg 3712 1 spec_InMay.r10) (.seq (.cond (.t 56) (.skip) (.exit 2)) (.seq (.block 3 (.seq (.reg 3776 5 spec_InMay.r11) (.seq (.reg 4096 33 spec_InMay.r12) (.cond (.t 92) (.seq (.reg 6208 2 spec_InMay.r13) (.ret)) (.skip))))) (.reg 6336 2 spec_InMay.r14)))
def spec_InMay.r15 : List Ent := [
  E0 0 (some 4) none (.i (.mv (.k (.dat none (.bool true))))),
  E0 1 (some 5) none (.i (.mv (.k (.dat none (.bool true)))))]
def spec_InMay.fi : FI := { res := [.t 4, .t 5], code := .seq (.reg 64 4 spec_InMay.r0) (.seq (.seq (.reg 320 8 spec_InMay.r1) (.cond (.t 17) (.seq (.reg 832 2 spec_InMay.r2) (.ret)) (.skip))) (.seq (.seq (.reg 960 4 spec_InMay.r3) (.block 0 (.loop spec_InMay.b0))) (.seq (.seq (.reg 3456 4 spec_InMay.r9) (.block 2 (.loop spec_InMay.b1))) (.seq (.reg 6464 2 spec_InMay.r15) (.ret))))) }
attribute [go_sem] spec_InMay.r0 spec_InMay.r1 spec_InMay.r2 spec_InMay.r3 spec_InMay.r4 spec_InMay.r5 spec_InMay.r6 spec_InMay.r7 spec_InMay.r8 spec_InMay.r9 spec_InMay.r10 spec_InMay.r11 spec_InMay.r12 spec_InMay.r13 spec_InMay.r14 spec_InMay.r15
theorem spec_InMay.ok : chkF prog F_spec_InMay 2 spec_InMay.fi = true := by kernel_rfl

/-! laws_toIntS -/
def laws_toIntS.r0 : List Ent := [
  E0 0 (some 2) none (.i (.mv (.k (.nil 1))))]
def laws_toIntS.r1 : List Ent := [
  E0 0 (some 5) none (.i (.mv (.t 0))),
  E0 1 (some 6) none (.i (.len (.t 5))),
  E0 2 (some 7) none (.i (.mks 1 8 (.int .i64 0) (.t 6) (.t 6))),
  E0 3 (some 3) none (.i (.mv (.t 7)))]
def laws_toIntS.r2 : List Ent := [
  E0 0 (some 4) none (.i (.mv (.k (I64 0))))]
def laws_toIntS.r3 : List Ent := [
  E0 0 (some 8) none (.i (.mv (.t 4))),
  E0 1 (some 9) none (.i (.mv (.t 0))),
  E0 2 (some 10) none (.i (.len (.t 9))),
  E0 3 (some 11) none (.i (.bin .lss (.t 8) (.t 10)))]
def laws_toIntS.r4 : List Ent := [
  E0 0 (some 14) none (.i (.mv (.t 3))),
  E0 1 (some 15) none (.i (.mv (.t 4))),
  E0 2 (some 16) none (.i (.mv (.t 0))),
  E0 3 (some 17) none (.i (.mv (.t 4))),
  E0 4 (some 18) none (.i (.iad 1 (.t 16) (.t 17))),
  E0 5 (some 19) none (.i (.load false false 1 (.t 18))),
  E0 6 (some 20) none (.i (.iad 1 (.t 14) (.t 15))),
  E0 7 none none (.i (.store 1 (.t 20) (.t 19)))]
def laws_toIntS.r5 : List Ent := [
  E0 0 (some 12) none (.i (.mv (.t 4))),
  E0 1 (some 13) none (.i (.bin .add (.t 12) (.k (I64 1)))),
  E0 2 (some 4) none (.i (.mv (.t 13)))]
def laws_toIntS.b0 : KC := .seq (.seq (.reg 448 4 laws_toIntS.r3) (.cond (.t 11) (.skip) (.exit 0))) (.seq (.block 1 (.reg 704 8 laws_toIntS.r4)) (.reg 1216 3 laws_toIntS.r5))
def laws_toIntS.r6 : List Ent := [
  E0 0 (some 21) none (.i (.mv (.t 3))),
  E0 1 (some 2) none (.i (.mv (.t 21)))]
def laws_toIntS.fi : FI := { res := [.t 2], code := .seq (.reg 64 1 laws_toIntS.r0) (.seq (.reg 128 4 laws_toIntS.r1) (.seq (.seq (.reg 384 1 laws_toIntS.r2) (.block 0 (.loop laws_toIntS.b0))) (.seq (.reg 1408 2 laws_toIntS.r6) (.ret)))) }
attribute [go_sem] laws_toIntS.r0 laws_toIntS.r1 laws_toIntS.r2 laws_toIntS.r3 laws_toIntS.r4 laws_toIntS.r5 laws_toIntS.r6
theorem laws_toIntS.ok : chkF prog F_laws_toIntS 1 laws_toIntS.fi = true := by kernel_rfl

/-! laws_toMachine -/
def laws_toMachine.r0 : List Ent := [
  E0 0 (some 1) none (.i (.box (.t 0))),
  E0 1 (some 2) none (.i (.box (.k (.agg [.dat none (.int .i64 0), .nil 1, .nil 1, .nil 1]))))]
def laws_toMachine.r1 : List Ent := [
  E0 0 (some 3) none (.i (.box (.k (.agg [.dat none (.int .i64 0), .nil 1, .nil 1, .nil 1]))))]
def laws_toMachine.r2 : List Ent := [
  E0 0 (some 4) none (.i (.fad 0 (.t 1))),
  E0 1 (some 5) none (.i (.load false false 1 (.t 4))),
  E0 2 (some 6) none (.i (.fad 0 (.t 3))),
  E0 3 none none (.i (.store 1 (.t 6) (.t 5)))]
def laws_toMachine.r3 : List Ent := [
  E0 0 (some 7) none (.i (.fad 1 (.t 1))),
  E0 1 (some 8) none (.i (.load false false 1 (.t 7))),
  E0 2 (some 9) none (.call F_laws_toIntS false (roA [.t 8])),
  E0 3 (some 10) none (.i (.fad 1 (.t 3))),
  E0 4 none none (.i (.store 1 (.t 10) (.t 9)))]
def laws_toMachine.r4 : List Ent := [
  E0 0 (some 11) none (.i (.fad 2 (.t 1))),
  E0 1 (some 12) none (.i (.load false false 1 (.t 11))),
  E0 2 (some 13) none (.call F_laws_toIntS false (roA [.t 12])),
  E0 3 (some 14) none (.i (.fad 2 (.t 3))),
  E0 4 none none (.i (.store 1 (.t 14) (.t 13)))]
def laws_toMachine.r5 : List Ent := [
  E0 0 (some 15) none (.i (.fad 3 (.t 1))),
  E0 1 (some 16) none (.i (.load false false 1 (.t 15))),
  E0 2 (some 17) none (.call F_laws_toBoolS false (roA [.t 16])),
  E0 3 (some 18) none (.i (.fad 3 (.t 3))),
  E0 4 none none (.i (.store 1 (.t 18) (.t 17)))]
def laws_toMachine.r6 : List Ent := [
  E0 0 (some 19) none (.i (.load false true 4 (.t 3))),
  E0 1 none none (.i (.store 4 (.t 2) (.t 19)))]
def laws_toMachine.fi : FI := { res := [.c 2 true 4], code := .seq (.reg 64 2 laws_toMachine.r0) (.seq (.reg 192 1 laws_toMachine.r1) (.seq (.reg 256 4 laws_toMachine.r2) (.seq (.reg 512 5 laws_toMachine.r3) (.seq (.reg 832 5 laws_toMachine.r4) (.seq (.reg 1152 5 laws_toMachine.r5) (.seq (.reg 1472 2 laws_toMachine.r6) (.ret))))))) }
attribute [go_sem] laws_toMachine.r0 laws_toMachine.r1 laws_toMachine.r2 laws_toMachine.r3 laws_toMachine.r4 laws_toMachine.r5 laws_toMachine.r6
theorem laws_toMachine.ok : chkF prog F_laws_toMachine 1 laws_toMachine.fi = true := by kernel_rfl

/-! slices_IndexFunc__sint_int -/
def slices_IndexFunc__sint_int.r0 : List Ent := [
  E0 0 (some 4) none (.i (.mv (.k (I64 0))))]
def slices_IndexFunc__sint_int.r1 : List Ent := [
  E0 0 (some 6) none (.i (.mv (.t 0))),
  E0 1 (some 7) none (.i (.len (.t 6))),
  E0 2 (some 8) none (.i (.mv (.k (I64 0))))]
def slices_IndexFunc__sint_int.r2 : List Ent := [
  E0 0 (some 9) none (.i (.bin .lss (.t 8) (.t 7)))]
def slices_IndexFunc__sint_int.r3 : List Ent := [
  E0 0 (some 10) none (.i (.mv (.t 8))),
  E0 1 (some 5) none (.i (.mv (.t 10)))]
def slices_IndexFunc__sint_int.r4 : List Ent := [
  E0 0 (some 11) none (.i (.mv (.t 1))),
  E0 1 (some 12) none (.i (.mv (.t 0))),
  E0 2 (some 13) none (.i (.mv (.t 5))),
  E0 3 (some 14) none (.i (.iad 1 (.t 12) (.t 13))),
  E0 4 (some 15) none (.i (.load false false 1 (.t 14))),
  E0 5 (some 16) none (.ccl (.t 11) false [.t 15])]
def slices_IndexFunc__sint_int.r5 : List Ent := [
  E0 0 (some 17) none (.i (.mv (.t 5))),
  E0 1 (some 4) none (.i (.mv (.t 17)))]
def slices_IndexFunc__sint_int.r6 : List Ent := [
  E0 0 (some 18) none (.i (.bin .add (.t 8) (.k (I64 1)))),
  E0 1 (some 8) none (.i (.mv (.t 18)))]
def slices_IndexFunc__sint_int.b0 : KC := .seq (.reg 320 1 slices_IndexFunc__sint_int.r2) (.seq (.cond (.t 9) (.skip) (.exit 0)) (.seq (.block 1 (.seq (.reg 384 2 slices_IndexFunc__sint_int.r3) (.seq (.reg 512 6 slices_IndexFunc__sint_int.r4) (.cond (.t 16) (.seq (.reg 896 2 slices_IndexFunc__sint_int.r5) (.ret)) (.skip))))) (.reg 1024 2 slices_IndexFunc__sint_int.r6)))
def slices_IndexFunc__sint_int.r7 : List Ent := [
  E0 0 (some 4) none (.i (.mv (.k (I64 (-1)))))]
def slices_IndexFunc__sint_int.fi : FI := { res := [.t 4], code := .seq (.reg 64 1 slices_IndexFunc__sint_int.r0) (.seq (.seq (.reg 128 3 slices_IndexFunc__sint_int.r1) (.block 0 (.loop slices_IndexFunc__sint_int.b0))) (.seq (.reg 1152 1 slices_IndexFunc__sint_int.r7) (.ret))) }
attribute [go_sem] slices_IndexFunc__sint_int.r0 slices_IndexFunc__sint_int.r1 slices_IndexFunc__sint_int.r2 slices_IndexFunc__sint_int.r3 slices_IndexFunc__sint_int.r4 slices_IndexFunc__sint_int.r5 slices_IndexFunc__sint_int.r6 slices_IndexFunc__sint_int.r7
theorem slices_IndexFunc__sint_int.ok : chkF prog F_slices_IndexFunc__sint_int 2 slices_IndexFunc__sint_int.fi = true := by kernel_rfl

/-! slices_ContainsFunc__sint_int -/
def slices_ContainsFunc__sint_int.r0 : List Ent := [
  E0 0 (some 4) none (.i (.mv (.k (.dat none (.bool false)))))]
def slices_ContainsFunc__sint_int.r1 : List Ent := [
  E0 0 (some 5) none (.i (.mv (.t 0))),
  E0 1 (some 6) none (.i (.mv (.t 1))),
  E0 2 (some 7) none (.call F_slices_IndexFunc__sint_int false (roA [.t 5, .t 6])),
  E0 3 (some 8) none (.i (.bin .geq (.t 7) (.k (I64 0)))),
  E0 4 (some 4) none (.i (.mv (.t 8)))]
def slices_ContainsFunc__sint_int.fi : FI := { res := [.t 4], code := .seq (.reg 64 1 slices_ContainsFunc__sint_int.r0) (.seq (.reg 128 5 slices_ContainsFunc__sint_int.r1) (.ret)) }
attribute [go_sem] slices_ContainsFunc__sint_int.r0 slices_ContainsFunc__sint_int.r1
theorem slices_ContainsFunc__sint_int.ok : chkF prog F_slices_ContainsFunc__sint_int 2 slices_ContainsFunc__sint_int.fi = true := by kernel_rfl

/-! impl_areWords_c1 -/
def impl_areWords_c1.r0 : List Ent := [
  E0 0 (some 2) none (.i (.mv (.k (.dat none (.bool false)))))]
def impl_areWords_c1.r1 : List Ent := [
  E0 0 (some 3) none (.i (.mv (.t 0))),
  E0 1 (some 4) none (.call F_impl_isWord false (roA [.t 3])),
  E0 2 (some 5) none (.i (.un .not (.t 4))),
  E0 3 (some 2) none (.i (.mv (.t 5)))]
def impl_areWords_c1.fi : FI := { res := [.t 2], code := .seq (.reg 64 1 impl_areWords_c1.r0) (.seq (.reg 128 4 impl_areWords_c1.r1) (.ret)) }
attribute [go_sem] impl_areWords_c1.r0 impl_areWords_c1.r1
theorem impl_areWords_c1.ok : chkF prog F_impl_areWords_c1 1 impl_areWords_c1.fi = true := by kernel_rfl

/-! impl_areWords -/
def impl_areWords.r0 : List Ent := [
  E0 0 (some 2) none (.i (.mv (.k (.dat none (.bool false)))))]
def impl_areWords.r1 : List Ent := [
  E0 0 (some 3) none (.i (.mv (.t 0))),
  E0 1 (some 4) none (.call F_slices_ContainsFunc__sint_int false (roA [.t 3, .k (.clo F_impl_areWords_c1 [])])),
  E0 2 (some 5) none (.i (.un .not (.t 4))),
  E0 3 (some 2) none (.i (.mv (.t 5)))]
def impl_areWords.fi : FI := { res := [.t 2], code := .seq (.reg 64 1 impl_areWords.r0) (.seq (.reg 128 4 impl_areWords.r1) (.ret)) }
attribute [go_sem] impl_areWords.r0 impl_areWords.r1
theorem impl_areWords.ok : chkF prog F_impl_areWords 1 impl_areWords.fi = true := by kernel_rfl

/-! impl_GoodMachine -/
def impl_GoodMachine.r0 : List Ent := [
  E0 0 (some 1) none (.i (.box (.t 0))),
  E0 1 (some 2) none (.i (.mv (.k (.dat none (.bool false)))))]
def impl_GoodMachine.r1 : List Ent := [
  E0 0 (some 3) none (.i (.fad 0 (.t 1))),
  E0 1 (some 4) none (.i (.load false false 1 (.t 3))),
  E0 2 (some 5) none (.call F_impl_in false (roA [.t 4, .k (I64 0), .k (I64 19)])),
  E0 3 (some 6) none (.i (.mv (.t 5))),
  E0 4 (some 7) (some (6, true)) (.i (.fad 1 (.t 1))),
  E0 5 (some 8) (some (6, true)) (.i (.load false false 1 (.t 7))),
  E0 6 (some 9) (some (6, true)) (.i (.len (.t 8))),
  E0 7 (some 10) (some (6, true)) (.i (.bin .eql (.t 9) (.k (I64 6)))),
  E0 8 (some 11) none (.i (.pick (.t 6) (.t 10) (.k (.dat none (.bool false))))),
  E0 9 (some 12) none (.i (.mv (.t 11))),
  E0 10 (some 13) (some (12, true)) (.i (.fad 2 (.t 1))),
  E0 11 (some 14) (some (12, true)) (.i (.load false false 1 (.t 13))),
  E0 12 (some 15) (some (12, true)) (.i (.len (.t 14))),
  E0 13 (some 16) (some (12, true)) (.i (.bin .eql (.t 15) (.k (I64 16)))),
  E0 14 (some 17) none (.i (.pick (.t 12) (.t 16) (.k (.dat none (.bool false))))),
  E0 15 (some 18) none (.i (.mv (.t 17))),
  E0 16 (some 19) (some (18, true)) (.i (.fad 3 (.t 1))),
  E0 17 (some 20) (some (18, true)) (.i (.load false false 1 (.t 19))),
  E0 18 (some 21) (some (18, true)) (.i (.len (.t 20))),
  E0 19 (some 22) (some (18, true)) (.i (.bin .eql (.t 21) (.k (I64 16)))),
  E0 20 (some 23) none (.i (.pick (.t 18) (.t 22) (.k (.dat none (.bool false))))),
  E0 21 (some 24) none (.i (.mv (.t 23))),
  E0 22 (some 25) (some (24, true)) (.i (.fad 1 (.t 1))),
  E0 23 (some 26) (some (24, true)) (.i (.load false false 1 (.t 25))),
  E0 24 (some 27) (some (24, true)) (.call F_impl_areWords false (roA [.t 26])),
  E0 25 (some 28) none (.i (.pick (.t 24) (.t 27) (.k (.dat none (.bool false))))),
  E0 26 (some 29) none (.i (.mv (.t 28))),
  E0 27 (some 30) (some (29, true)) (.i (.fad 2 (.t 1))),
  E0 28 (some 31) (some (29, true)) (.i (.load false false 1 (.t 30))),
  E0 29 (some 32) (some (29, true)) (.call F_impl_areWords false (roA [.t 31])),
  E0 30 (some 33) none (.i (.pick (.t 29) (.t 32) (.k (.dat none (.bool false))))),
  E0 31 (some 2) none (.i (.mv (.t 33)))]
def impl_GoodMachine.fi : FI := { res := [.t 2], code := .seq (.reg 64 2 impl_GoodMachine.r0) (.seq (.reg 192 32 impl_GoodMachine.r1) (.ret)) }
attribute [go_sem] impl_GoodMachine.r0 impl_GoodMachine.r1
theorem impl_GoodMachine.ok : chkF prog F_impl_GoodMachine 1 impl_GoodMachine.fi = true := by kernel_rfl

/-! impl_Known_matches -/
def impl_Known_matches.r0 : List Ent := [
  E0 0 (some 2) none (.i (.box (.t 0))),
  E0 1 (some 4) none (.i (.mv (.k (.dat none (.bool false)))))]
def impl_Known_matches.r1 : List Ent := [
  E0 0 (some 5) none (.i (.mv (.t 1))),
  E0 1 (some 6) none (.i (.fad 1 (.t 2))),
  E0 2 (some 7) none (.i (.load false false 1 (.t 6))),
  E0 3 (some 8) none (.i (.bin .andNot (.t 5) (.t 7))),
  E0 4 (some 9) none (.i (.fad 0 (.t 2))),
  E0 5 (some 10) none (.i (.load false false 1 (.t 9))),
  E0 6 (some 11) none (.i (.bin .eql (.t 8) (.t 10))),
  E0 7 (some 4) none (.i (.mv (.t 11)))]
def impl_Known_matches.fi : FI := { res := [.t 4], code := .seq (.reg 64 2 impl_Known_matches.r0) (.seq (.reg 192 8 impl_Known_matches.r1) (.ret)) }
attribute [go_sem] impl_Known_matches.r0 impl_Known_matches.r1
theorem impl_Known_matches.ok : chkF prog F_impl_Known_matches 2 impl_Known_matches.fi = true := by kernel_rfl

/-! impl_InMay -/
def impl_InMay.r0 : List Ent := [
  E0 0 (some 2) none (.i (.box (.t 0))),
  E0 1 (some 3) none (.i (.box (.t 1))),
  E0 2 (some 4) none (.i (.mv (.k (.dat none (.bool false))))),
  E0 3 (some 5) none (.i (.mv (.k (.dat none (.bool false)))))]
def impl_InMay.r1 : List Ent := [
  E0 0 (some 10) none (.i (.load false true 4 (.t 2))),
  E0 1 (some 11) none (.call F_impl_GoodMay false (roA [.t 10])),
  E0 2 (some 12) none (.i (.un .not (.t 11))),
  E0 3 (some 13) none (.i (.mv (.t 12))),
  E0 4 (some 14) (some (13, false)) (.i (.load false true 4 (.t 3))),
  E0 5 (some 15) (some (13, false)) (.call F_impl_GoodMachine false (roA [.t 14])),
  E0 6 (some 16) (some (13, false)) (.i (.un .not (.t 15))),
  E0 7 (some 17) none (.i (.pick (.t 13) (.k (.dat none (.bool true))) (.t 16)))]
def impl_InMay.r2 : List Ent := [
  E0 0 (some 4) none (.i (.mv (.k (.dat none (.bool false))))),
  E0 1 (some 5) none (.i (.mv (.k (.dat none (.bool false)))))]
def impl_InMay.r3 : List Ent := [
  E0 0 (some 18) none (.i (.fad 1 (.t 3))),
  E0 1 (some 19) none (.i (.load false false 1 (.t 18))),
  E0 2 (some 20) none (.i (.len (.t 19))),
  E0 3 (some 21) none (.i (.mv (.k (I64 0))))]
def impl_InMay.r4 : List Ent := [
  E0 0 (some 22) none (.i (.bin .lss (.t 21) (.t 20)))]
def impl_InMay.r5 : List Ent := [
  E0 0 (some 23) none (.i (.mv (.t 21))),
  E0 1 (some 24) none (.i (.iad 1 (.t 19) (.t 21))),
  E0 2 (some 25) none (.i (.load false false 1 (.t 24))),
  E0 3 (some 6) none (.i (.mv (.t 23))),
  E0 4 (some 7) none (.i (.mv (.t 25)))]
def impl_InMay.r6 : List Ent := [
  E0 0 (some 26) none (.i (.mv (.t 7))),
  ER 1 (some 27) none (.fad 0 (.t 2)),
  ER 2 (some 28) none (.load false false 1 (.t 27)),
  E0 3 (some 29) none (.i (.mv (.t 6))),
  ER 4 (some 30) none (.iad 2 (.t 28) (.t 29)),
  ER 5 (some 31) none (.fad 0 (.t 30)),
  ER 6 (some 32) none (.load false false 1 (.t 31)),
  ER 7 (some 33) none (.fad 0 (.t 2)),
  ER 8 (some 34) none (.load false false 1 (.t 33)),
  E0 9 (some 35) none (.i (.mv (.t 6))),
  ER 10 (some 36) none (.iad 2 (.t 34) (.t 35)),
  ER 11 (some 37) none (.fad 1 (.t 36)),
  ER 12 (some 38) none (.load false false 1 (.t 37)),
  E0 13 (some 39) none (.call F_impl_in false (roA [.t 26, .t 32, .t 38])),
  E0 14 (some 40) none (.i (.un .not (.t 39))),
  E0 15 (some 41) none (.i (.mv (.t 40))),
  E0 16 (some 42) (some (41, false)) (.i (.fad 1 (.t 2))),
  E0 17 (some 43) (some (41, false)) (.i (.load false false 1 (.t 42))),
  E0 18 (some 44) (some (41, false)) (.i (.mv (.t 6))),
  E0 19 (some 45) (some (41, false)) (.i (.iad 2 (.t 43) (.t 44))),
  E0 20 (some 46) (some (41, false)) (.i (.load false true 2 (.t 45))),
  E0 21 (some 47) (some (41, false)) (.i (.mv (.t 7))),
  E0 22 (some 48) (some (41, false)) (.call F_impl_Known_matches false (roA [.t 46, .t 47])),
  E0 23 (some 49) (some (41, false)) (.i (.un .not (.t 48))),
  E0 24 (some 50) none (.i (.pick (.t 41) (.k (.dat none (.bool true))) (.t 49)))]
def impl_InMay.r7 : List Ent := [
  E0 0 (some 4) none (.i (.mv (.k (.dat none (.bool false))))),
  E0 1 (some 5) none (.i (.mv (.k (.dat none (.bool true)))))]
def impl_InMay.r8 : List Ent := [
  E0 0 (some 51) none (.i (.bin .add (.t 21) (.k (I64 1)))),
  E0 1 (some 21) none (.i (.mv (.t 51)))]
def impl_InMay.b0 : KC := .seq (.reg 1216 1 impl_InMay.r4) (.seq (.cond (.t 22) (.skip) (.exit 0)) (.seq (.block 1 (.seq (.reg 1280 5 impl_InMay.r5) (.seq (.reg 1600 25 impl_InMay.r6) (.cond (.t 50) (.seq (.reg 3200 2 impl_InMay.r7) (.ret)) (.skip))))) (.reg 3328 2 impl_InMay.r8)))
def impl_InMay.r9 : List Ent := [
  E0 0 (some 52) none (.i (.fad 2 (.t 3))),
  E0 1 (some 53) none (.i (.load false false 1 (.t 52))),
  E0 2 (some 54) none (.i (.len (.t 53))),
  E0 3 (some 55) none (.i (.mv (.k (I64 0))))]
def impl_InMay.r10 : List Ent := [
  E0 0 (some 56) none (.i (.bin .lss (.t 55) (.t 54)))]
def impl_InMay.r11 : List Ent := [
  E0 0 (some 57) none (.i (.mv (.t 55))),
  E0 1 (some 58) none (.i (.iad 1 (.t 53) (.t 55))),
  E0 2 (some 59) none (.i (.load false false 1 (.t 58))),
  E0 3 (some 8) none (.i (.mv (.t 57))),
  E0 4 (some 9) none (.i (.mv (.t 59)))]
def impl_InMay.r12 : List Ent := [
  E0 0 (some 60) none (.i (.fad 3 (.t 3))),
  E0 1 (some 61) none (.i (.load false false 1 (.t 60))),
  E0 2 (some 62) none (.i (.mv (.t 8))),
  E0 3 (some 63) none (.i (.iad 1 (.t 61) (.t 62))),
  E0 4 (some 64) none (.i (.load false false 1 (.t 63))),
  E0 5 (some 65) none (.i (.mv (.t 64))),
  E0 6 (some 66) (some (65, true)) (.i (.mv (.t 9))),
  ER 7 (some 67) (some (65, true)) (.fad 2 (.t 2)),
  ER 8 (some 68) (some (65, true)) (.load false false 1 (.t 67)),
  E0 9 (some 69) (some (65, true)) (.i (.mv (.t 8))),
  ER 10 (some 70) (some (65, true)) (.iad 2 (.t 68) (.t 69)),
  ER 11 (some 71) (some (65, true)) (.fad 0 (.t 70)),
  ER 12 (some 72) (some (65, true)) (.load false false 1 (.t 71)),
  ER 13 (some 73) (some (65, true)) (.fad 2 (.t 2)),
  ER 14 (some 74) (some (65, true)) (.load false false 1 (.t 73)),
  E0 15 (some 75) (some (65, true)) (.i (.mv (.t 8))),
  ER 16 (some 76) (some (65, true)) (.iad 2 (.t 74) (.t 75)),
  ER 17 (some 77) (some (65, true)) (.fad 1 (.t 76)),
  ER 18 (some 78) (some (65, true)) (.load false false 1 (.t 77)),
  E0 19 (some 79) (some (65, true)) (.call F_impl_in false (roA [.t 66, .t 72, .t 78])),
  E0 20 (some 80) (some (65, true)) (.i (.un .not (.t 79))),
  E0 21 (some 81) none (.i (.pick (.t 65) (.t 80) (.k (.dat none (.bool false))))),
  E0 22 (some 82) none (.i (.mv (.t 81))),
  E0 23 (some 83) (some (82, false)) (.i (.fad 3 (.t 2))),
  E0 24 (some 84) (some (82, false)) (.i (.load false false 1 (.t 83))),
  E0 25 (some 85) (some (82, false)) (.i (.mv (.t 8))),
  E0 26 (some 86) (some (82, false)) (.i (.iad 1 (.t 84) (.t 85))),
  E0 27 (some 87) (some (82, false)) (.i (.load false false 1 (.t 86))),
  E0 28 (some 88) (some (82, false)) (.i (.mv (.t 87))),
  E0 29 (some 89) (some (88, true)) (.i (.fad 3 (.t 3))),
  E0 30 (some 90) (some (88, true)) (.i (.load false false 1 (.t 89))),
  E0 31 (some 91) (some (88, true)) (.i (.mv (.t 8))),
  E0 32 (some 92) (some (88, true)) (.i (.iad 1 (.t 90) (.t 91))),
  E0 33 (some 93) (some (88, true)) (.i (.load false false 1 (.t 92))),
  E0 34 (some 94) (some (88, true)) (.i (.un .not (.t 93))),
  E0 35 (some 95) (some (82, false)) (.i (.pick (.t 88) (.t 94) (.k (.dat none (.bool false))))),
  E0 36 (some 96) none (.i (.pick (.t 82) (.k (.dat none (.bool true))) (.t 95)))]
def impl_InMay.r13 : List Ent := [
  E0 0 (some 4) none (.i (.mv (.k (.dat none (.bool false))))),
  E0 1 (some 5) none (.i (.mv (.k (.dat none (.bool true)))))]
def impl_InMay.r14 : List Ent := [
  E0 0 (some 97) none (.i (.bin .add (.t 55) (.k (I64 1)))),
  E0 1 (some 55) none (.i (.mv (.t 97)))]
def impl_InMay.b1 : KC := .seq (.reg 3712 1 impl_InMay.r10) (.seq (.cond (.t 56) (.skip) (.exit 2)) (.seq (.block 3 (.seq (.reg 3776 5 impl_InMay.r11) (.seq (.reg 4096 37 impl_InMay.r12) (.cond (.t 96) (.seq (.reg 6464 2 impl_InMay.r13) (.ret)) (.skip))))) (.reg 6592 2 impl_InMay.r14)))
def impl_InMay.r15 : List Ent := [
  E0 0 (some 4) none (.i (.mv (.k (.dat none (.bool true))))),
  E0 1 (some 5) none (.i (.mv (.k (.dat none (.bool true)))))]
def impl_InMay.fi : FI := { res := [.t 4, .t 5], code := .seq (.reg 64 4 impl_InMay.r0) (.seq (.seq (.reg 320 8 impl_InMay.r1) (.cond (.t 17) (.seq (.reg 832 2 impl_InMay.r2) (.ret)) (.skip))) (.seq (.seq (.reg 960 4 impl_InMay.r3) (.block 0 (.loop impl_InMay.b0))) (.seq (.seq (.reg 3456 4 impl_InMay.r9) (.block 2 (.loop impl_InMay.b1))) (.seq (.reg 6720 2 impl_InMay.r15) (.ret))))) }
attribute [go_sem] impl_InMay.r0 impl_InMay.r1 impl_InMay.r2 impl_InMay.r3 impl_InMay.r4 impl_InMay.r5 impl_InMay.r6 impl_InMay.r7 impl_InMay.r8 impl_InMay.r9 impl_InMay.r10 impl_InMay.r11 impl_InMay.r12 impl_InMay.r13 impl_InMay.r14 impl_InMay.r15
theorem impl_InMay.ok : chkF prog F_impl_InMay 2 impl_InMay.fi = true := by kernel_rfl

/-! laws_eqIntS -/
def laws_eqIntS.r0 : List Ent := [
  E0 0 (some 4) none (.i (.mv (.k (.dat none (.bool false)))))]
def laws_eqIntS.r1 : List Ent := [
  E0 0 (some 6) none (.i (.mv (.t 0))),
  E0 1 (some 7) none (.i (.len (.t 6))),
  E0 2 (some 8) none (.i (.mv (.t 1))),
  E0 3 (some 9) none (.i (.len (.t 8))),
  E0 4 (some 10) none (.i (.bin .neq (.t 7) (.t 9)))]
def laws_eqIntS.r2 : List Ent := [
  E0 0 (some 4) none (.i (.mv (.k (.dat none (.bool false)))))]
def laws_eqIntS.r3 : List Ent := [
  E0 0 (some 5) none (.i (.mv (.k (I64 0))))]
def laws_eqIntS.r4 : List Ent := [
  E0 0 (some 11) none (.i (.mv (.t 5))),
  E0 1 (some 12) none (.i (.mv (.t 0))),
  E0 2 (some 13) none (.i (.len (.t 12))),
  E0 3 (some 14) none (.i (.bin .lss (.t 11) (.t 13)))]
def laws_eqIntS.r5 : List Ent := [
  E0 0 (some 17) none (.i (.mv (.t 0))),
  E0 1 (some 18) none (.i (.mv (.t 5))),
  ER 2 (some 19) none (.iad 1 (.t 17) (.t 18)),
  ER 3 (some 20) none (.load false false 1 (.t 19)),
  E0 4 (some 21) none (.i (.mv (.t 1))),
  E0 5 (some 22) none (.i (.mv (.t 5))),
  ER 6 (some 23) none (.iad 1 (.t 21) (.t 22)),
  ER 7 (some 24) none (.load false false 1 (.t 23)),
  E0 8 (some 25) none (.i (.bin .neq (.t 20) (.t 24)))]
def laws_eqIntS.r6 : List Ent := [
  E0 0 (some 4) none (.i (.mv (.k (.dat none (.bool false)))))]
def laws_eqIntS.r7 : List Ent := [
  E0 0 (some 15) none (.i (.mv (.t 5))),
  E0 1 (some 16) none (.i (.bin .add (.t 15) (.k (I64 1)))),
  E0 2 (some 5) none (.i (.mv (.t 16)))]
def laws_eqIntS.b0 : KC := .seq (.seq (.reg 576 4 laws_eqIntS.r4) (.cond (.t 14) (.skip) (.exit 0))) (.seq (.block 1 (.seq (.reg 832 9 laws_eqIntS.r5) (.cond (.t 25) (.seq (.reg 1408 1 laws_eqIntS.r6) (.ret)) (.skip)))) (.reg 1472 3 laws_eqIntS.r7))
def laws_eqIntS.r8 : List Ent := [
  E0 0 (some 4) none (.i (.mv (.k (.dat none (.bool true)))))]
def laws_eqIntS.fi : FI := { res := [.t 4], code := .seq (.reg 64 1 laws_eqIntS.r0) (.seq (.seq (.reg 128 5 laws_eqIntS.r1) (.cond (.t 10) (.seq (.reg 448 1 laws_eqIntS.r2) (.ret)) (.skip))) (.seq (.seq (.reg 512 1 laws_eqIntS.r3) (.block 0 (.loop laws_eqIntS.b0))) (.seq (.reg 1664 1 laws_eqIntS.r8) (.ret)))) }
attribute [go_sem] laws_eqIntS.r0 laws_eqIntS.r1 laws_eqIntS.r2 laws_eqIntS.r3 laws_eqIntS.r4 laws_eqIntS.r5 laws_eqIntS.r6 laws_eqIntS.r7 laws_eqIntS.r8
theorem laws_eqIntS.ok : chkF prog F_laws_eqIntS 2 laws_eqIntS.fi = true := by kernel_rfl

/-! laws_eqMachine -/
def laws_eqMachine.r0 : List Ent := [
  E0 0 (some 2) none (.i (.box (.t 0))),
  E0 1 (some 3) none (.i (.box (.t 1))),
  E0 2 (some 4) none (.i (.mv (.k (.dat none (.bool false)))))]
def laws_eqMachine.r1 : List Ent := [
  E0 0 (some 5) none (.i (.fad 0 (.t 2))),
  E0 1 (some 6) none (.i (.load false false 1 (.t 5))),
  E0 2 (some 7) none (.i (.fad 0 (.t 3))),
  E0 3 (some 8) none (.i (.load false false 1 (.t 7))),
  E0 4 (some 9) none (.i (.bin .neq (.t 6) (.t 8)))]
def laws_eqMachine.r2 : List Ent := [
  E0 0 (some 4) none (.i (.mv (.k (.dat none (.bool false)))))]
def laws_eqMachine.r3 : List Ent := [
  E0 0 (some 10) none (.i (.fad 1 (.t 2))),
  E0 1 (some 11) none (.i (.load false false 1 (.t 10))),
  E0 2 (some 12) none (.i (.fad 1 (.t 3))),
  E0 3 (some 13) none (.i (.load false false 1 (.t 12))),
  E0 4 (some 14) none (.call F_laws_eqIntS false (roA [.t 11, .t 13])),
  E0 5 (some 15) none (.i (.un .not (.t 14)))]
def laws_eqMachine.r4 : List Ent := [
  E0 0 (some 4) none (.i (.mv (.k (.dat none (.bool false)))))]
def laws_eqMachine.r5 : List Ent := [
  E0 0 (some 16) none (.i (.fad 2 (.t 2))),
  E0 1 (some 17) none (.i (.load false false 1 (.t 16))),
  E0 2 (some 18) none (.i (.fad 2 (.t 3))),
  E0 3 (some 19) none (.i (.load false false 1 (.t 18))),
  E0 4 (some 20) none (.call F_laws_eqIntS false (roA [.t 17, .t 19])),
  E0 5 (some 21) none (.i (.un .not (.t 20)))]
def laws_eqMachine.r6 : List Ent := [
  E0 0 (some 4) none (.i (.mv (.k (.dat none (.bool false)))))]
def laws_eqMachine.r7 : List Ent := [
  E0 0 (some 22) none (.i (.fad 3 (.t 2))),
  E0 1 (some 23) none (.i (.load false false 1 (.t 22))),
  E0 2 (some 24) none (.i (.fad 3 (.t 3))),
  E0 3 (some 25) none (.i (.load false false 1 (.t 24))),
  E0 4 (some 26) none (.call F_laws_eqBoolS false (roA [.t 23, .t 25])),
  E0 5 (some 27) none (.i (.un .not (.t 26)))]
def laws_eqMachine.r8 : List Ent := [
  E0 0 (some 4) none (.i (.mv (.k (.dat none (.bool false)))))]
def laws_eqMachine.r9 : List Ent := [
  E0 0 (some 4) none (.i (.mv (.k (.dat none (.bool true)))))]
def laws_eqMachine.fi : FI := { res := [.t 4], code := .seq (.reg 64 3 laws_eqMachine.r0) (.seq (.seq (.reg 256 5 laws_eqMachine.r1) (.cond (.t 9) (.seq (.reg 576 1 laws_eqMachine.r2) (.ret)) (.skip))) (.seq (.seq (.reg 640 6 laws_eqMachine.r3) (.cond (.t 15) (.seq (.reg 1024 1 laws_eqMachine.r4) (.ret)) (.skip))) (.seq (.seq (.reg 1088 6 laws_eqMachine.r5) (.cond (.t 21) (.seq (.reg 1472 1 laws_eqMachine.r6) (.ret)) (.skip))) (.seq (.seq (.reg 1536 6 laws_eqMachine.r7) (.cond (.t 27) (.seq (.reg 1920 1 laws_eqMachine.r8) (.ret)) (.skip))) (.seq (.reg 1984 1 laws_eqMachine.r9) (.ret)))))) }
attribute [go_sem] laws_eqMachine.r0 laws_eqMachine.r1 laws_eqMachine.r2 laws_eqMachine.r3 laws_eqMachine.r4 laws_eqMachine.r5 laws_eqMachine.r6 laws_eqMachine.r7 laws_eqMachine.r8 laws_eqMachine.r9
theorem laws_eqMachine.ok : chkF prog F_laws_eqMachine 2 laws_eqMachine.fi = true := by kernel_rfl

/-! laws_FnExactInMay -/
def laws_FnExactInMay.r0 : List Ent := [
  E0 0 (some 2) none (.i (.box (.t 0))),
  E0 1 (some 3) none (.i (.box (.t 1))),
  E0 2 (some 4) none (.i (.mv (.k (.dat none (.bool false)))))]
def laws_FnExactInMay.r1 : List Ent := [
  E0 0 (some 5) none (.i (.mv (.k (I64 1048576))))]
def laws_FnExactInMay.r2 : List Ent := [
  E0 0 (some 12) none (.i (.load false true 4 (.t 2))),
  E0 1 (some 13) none (.i (.mv (.t 5))),
  E0 2 (some 14) none (.call F_laws_szMay false (roA [.t 12, .t 13])),
  E0 3 (some 5) none (.i (.mv (.t 14)))]
def laws_FnExactInMay.r3 : List Ent := [
  E0 0 (some 15) none (.i (.mv (.t 5))),
  E0 1 (some 16) none (.i (.bin .lss (.t 15) (.k (I64 0))))]
def laws_FnExactInMay.r4 : List Ent := [
  E0 0 (some 4) none (.i (.mv (.k (.dat none (.bool true)))))]
def laws_FnExactInMay.r5 : List Ent := [
  E0 0 (some 17) none (.i (.load false true 4 (.t 3))),
  E0 1 (some 18) none (.i (.mv (.t 5))),
  E0 2 (some 19) none (.call F_laws_szMachine false (roA [.t 17, .t 18])),
  E0 3 (some 5) none (.i (.mv (.t 19)))]
def laws_FnExactInMay.r6 : List Ent := [
  E0 0 (some 20) none (.i (.mv (.t 5))),
  E0 1 (some 21) none (.i (.bin .lss (.t 20) (.k (I64 0))))]
def laws_FnExactInMay.r7 : List Ent := [
  E0 0 (some 4) none (.i (.mv (.k (.dat none (.bool true)))))]
def laws_FnExactInMay.r8 : List Ent := [
  ER 0 (some 23) none (.load false true 4 (.t 2)),
  EP 1 (some 24) none (.call F_laws_toMay false (roA [.t 23])) 1 false,
  EX 2 (some 25) none (.i (.load false true 4 (.t 3))) 2 [1] [] false,
  E0 3 (some 26) none (.call F_laws_toMachine false (roA [.t 25])),
  E0 4 (some 27) none (.call F_spec_InMay false (roA [.t 24, .t 26])),
  E0 5 (some 22) none (.i (.mv (.t 27))),
  ER 6 (some 28) none (.ext 0 (.t 22)),
  ER 7 (some 29) none (.ext 1 (.t 22)),
  E0 8 (some 6) none (.i (.mv (.t 28))),
  E0 9 (some 7) none (.i (.mv (.t 29)))]
def laws_FnExactInMay.r9 : List Ent := [
  E0 0 (some 30) none (.i (.load false true 4 (.t 2))),
  E0 1 (some 31) none (.call F_laws_toMay false (roA [.t 30])),
  E0 2 (some 8) none (.i (.box (.k (.agg [.nil 2, .nil 2, .nil 2, .nil 1])))),
  E0 3 none none (.i (.store 4 (.t 8) (.t 31)))]
def laws_FnExactInMay.r10 : List Ent := [
  E0 0 (some 32) none (.i (.load false true 4 (.t 3))),
  E0 1 (some 33) none (.call F_laws_toMachine false (roA [.t 32])),
  E0 2 (some 9) none (.i (.box (.k (.agg [.dat none (.int .i64 0), .nil 1, .nil 1, .nil 1])))),
  E0 3 none none (.i (.store 4 (.t 9) (.t 33)))]
def laws_FnExactInMay.r11 : List Ent := [
  E0 0 (some 35) none (.i (.load false true 4 (.t 8))),
  E0 1 (some 36) none (.i (.load false true 4 (.t 9))),
  E0 2 (some 37) none (.call F_impl_InMay false (roA [.t 35, .t 36])),
  E0 3 (some 34) none (.i (.mv (.t 37))),
  E0 4 (some 38) none (.i (.ext 0 (.t 34))),
  E0 5 (some 39) none (.i (.ext 1 (.t 34))),
  E0 6 (some 10) none (.i (.mv (.t 38))),
  E0 7 (some 11) none (.i (.mv (.t 39)))]
def laws_FnExactInMay.r12 : List Ent := [
  E0 0 (some 40) none (.i (.mv (.t 10))),
  E0 1 (some 41) none (.i (.mv (.t 6))),
  E0 2 (some 42) none (.i (.eqb true (.t 40) (.t 41))),
  E0 3 (some 43) none (.i (.mv (.t 42))),
  E0 4 (some 44) (some (43, false)) (.i (.mv (.t 11))),
  E0 5 (some 45) (some (43, false)) (.i (.mv (.t 7))),
  E0 6 (some 46) (some (43, false)) (.i (.eqb true (.t 44) (.t 45))),
  E0 7 (some 47) none (.i (.pick (.t 43) (.k (.dat none (.bool true))) (.t 46)))]
def laws_FnExactInMay.r13 : List Ent := [
  E0 0 (some 4) none (.i (.mv (.k (.dat none (.bool false)))))]
def laws_FnExactInMay.r14 : List Ent := [
  EX 0 (some 48) none (.i (.load false true 4 (.t 8))) 2 [2] [] false,
  ER 1 (some 49) none (.load false true 4 (.t 2)),
  EP 2 (some 50) none (.call F_laws_toMay false (roA [.t 49])) 1 false,
  E0 3 (some 51) none (.call F_laws_eqMay false (roA [.t 48, .t 50])),
  E0 4 (some 52) none (.i (.un .not (.t 51)))]
def laws_FnExactInMay.r15 : List Ent := [
  E0 0 (some 4) none (.i (.mv (.k (.dat none (.bool false)))))]
def laws_FnExactInMay.r16 : List Ent := [
  EX 0 (some 53) none (.i (.load false true 4 (.t 9))) 2 [2] [] false,
  ER 1 (some 54) none (.load false true 4 (.t 3)),
  EP 2 (some 55) none (.call F_laws_toMachine false (roA [.t 54])) 1 false,
  E0 3 (some 56) none (.call F_laws_eqMachine false (roA [.t 53, .t 55])),
  E0 4 (some 57) none (.i (.un .not (.t 56)))]
def laws_FnExactInMay.r17 : List Ent := [
  E0 0 (some 4) none (.i (.mv (.k (.dat none (.bool false)))))]
def laws_FnExactInMay.r18 : List Ent := [
  E0 0 (some 4) none (.i (.mv (.k (.dat none (.bool true)))))]
def laws_FnExactInMay.fi : FI := { res := [.t 4], code := .seq (.reg 64 3 laws_FnExactInMay.r0) (.seq (.reg 256 1 laws_FnExactInMay.r1) (.seq (.reg 320 4 laws_FnExactInMay.r2) (.seq (.seq (.reg 576 2 laws_FnExactInMay.r3) (.cond (.t 16) (.seq (.reg 704 1 laws_FnExactInMay.r4) (.ret)) (.skip))) (.seq (.reg 768 4 laws_FnExactInMay.r5) (.seq (.seq (.reg 1024 2 laws_FnExactInMay.r6) (.cond (.t 21) (.seq (.reg 1152 1 laws_FnExactInMay.r7) (.ret)) (.skip))) (.seq (.reg 1216 10 laws_FnExactInMay.r8) (.seq (.reg 1856 4 laws_FnExactInMay.r9) (.seq (.reg 2112 4 laws_FnExactInMay.r10) (.seq (.reg 2368 8 laws_FnExactInMay.r11) (.seq (.seq (.reg 2880 8 laws_FnExactInMay.r12) (.cond (.t 47) (.seq (.reg 3392 1 laws_FnExactInMay.r13) (.ret)) (.skip))) (.seq (.seq (.reg 3456 5 laws_FnExactInMay.r14) (.cond (.t 52) (.seq (.reg 3776 1 laws_FnExactInMay.r15) (.ret)) (.skip))) (.seq (.seq (.reg 3840 5 laws_FnExactInMay.r16) (.cond (.t 57) (.seq (.reg 4160 1 laws_FnExactInMay.r17) (.ret)) (.skip))) (.seq (.reg 4224 1 laws_FnExactInMay.r18) (.ret)))))))))))))) }
attribute [go_sem] laws_FnExactInMay.r0 laws_FnExactInMay.r1 laws_FnExactInMay.r2 laws_FnExactInMay.r3 laws_FnExactInMay.r4 laws_FnExactInMay.r5 laws_FnExactInMay.r6 laws_FnExactInMay.r7 laws_FnExactInMay.r8 laws_FnExactInMay.r9 laws_FnExactInMay.r10 laws_FnExactInMay.r11 laws_FnExactInMay.r12 laws_FnExactInMay.r13 laws_FnExactInMay.r14 laws_FnExactInMay.r15 laws_FnExactInMay.r16 laws_FnExactInMay.r17 laws_FnExactInMay.r18
theorem laws_FnExactInMay.ok : chkF prog F_laws_FnExactInMay 2 laws_FnExactInMay.fi = true := by kernel_rfl
end Go.Vm.Ytmicgdfekpoajaa
