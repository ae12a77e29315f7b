/- The functions that the law reaches, in the text of the interpreter, and that this text fits them (no condition). -/
import Derived.Test.YtmicgdfekpoajaaVmc
import Derived.Test.YtmicgdfekpoajaaProg
import Derived.KernelRfl
/- PRINTED BY irgen.py, a program of this claim's author: the functions that the claim reaches, in the text of the interpreter, and that they fit. -/
namespace Go.Vm.Ytmicgdfekpoajaa
open Go Go.Vm
set_option linter.unusedVariables false
set_option maxRecDepth 100000
noncomputable abbrev prog : Program := Go.Proofs.Try.prog
abbrev F_laws_FnExactGoodMay : FuncId := 3
abbrev F_laws_FnExactStartMay : FuncId := 4
abbrev F_laws_FnExactInMay : FuncId := 5
abbrev F_laws_FnExactJoinMay : FuncId := 6
abbrev F_laws_FnExactHeedJump : FuncId := 7
abbrev F_laws_FnExactStepMay : FuncId := 8
abbrev F_laws_FnHeeded : FuncId := 9
abbrev F_laws_FnExactDoStep : FuncId := 10
abbrev F_laws_FnSteps : FuncId := 11
abbrev F_laws_FnMachine : FuncId := 12
abbrev F_laws_FnExactTriesFor : FuncId := 13
abbrev F_laws_szMay : FuncId := 14
abbrev F_spec_GoodMay : FuncId := 15
abbrev F_laws_toMay : FuncId := 16
abbrev F_impl_GoodMay : FuncId := 17
abbrev F_laws_eqMay : FuncId := 18
abbrev F_spec_StartMay : FuncId := 19
abbrev F_impl_StartMay : FuncId := 20
abbrev F_laws_markMay : FuncId := 21
abbrev F_laws_heldMay : FuncId := 22
abbrev F_laws_szMachine : FuncId := 23
abbrev F_spec_InMay : FuncId := 24
abbrev F_laws_toMachine : FuncId := 25
abbrev F_impl_InMay : FuncId := 26
abbrev F_laws_eqMachine : FuncId := 27
abbrev F_spec_JoinMay : FuncId := 28
abbrev F_impl_JoinMay : FuncId := 29
abbrev F_spec_HeedJump : FuncId := 30
abbrev F_laws_toStep : FuncId := 31
abbrev F_impl_HeedJump : FuncId := 32
abbrev F_spec_StepMay : FuncId := 33
abbrev F_impl_StepMay : FuncId := 34
abbrev F_spec_DrawReduceBoth : FuncId := 35
abbrev F_impl_ReduceBoth : FuncId := 36
abbrev F_spec_ReduceBoth : FuncId := 37
abbrev F_impl_GoodStretch : FuncId := 38
abbrev F_impl_GoodKnown : FuncId := 39
abbrev F_impl_WordOf : FuncId := 40
abbrev F_laws_numberOf : FuncId := 41
abbrev F_impl_InStretch : FuncId := 42
abbrev F_impl_MayBe : FuncId := 43
abbrev F_spec_DrawHeedJump : FuncId := 44
abbrev F_spec_DrawStepMay : FuncId := 45
abbrev F_laws_sameMay : FuncId := 46
abbrev F_laws_szStepS : FuncId := 47
abbrev F_spec_DoStep : FuncId := 48
abbrev F_laws_toStepS : FuncId := 49
abbrev F_laws_toIntS : FuncId := 50
abbrev F_impl_DoStep : FuncId := 51
abbrev F_laws_eqStepS : FuncId := 52
abbrev F_laws_eqIntS : FuncId := 53
abbrev F_laws_markStepS : FuncId := 54
abbrev F_laws_markIntS : FuncId := 55
abbrev F_laws_markMachine : FuncId := 56
abbrev F_laws_heldMachine : FuncId := 57
abbrev F_spec_DrawDoStep : FuncId := 58
abbrev F_laws_sameMachine : FuncId := 59
abbrev F_impl_GoodMachine : FuncId := 60
abbrev F_spec_GoodMachine : FuncId := 61
abbrev F_impl_NextsOf : FuncId := 62
abbrev F_laws_has : FuncId := 63
abbrev F_spec_DrawFaultFree : FuncId := 64
abbrev F_impl_FaultFree : FuncId := 65
abbrev F_spec_FaultFree : FuncId := 66
abbrev F_impl_NewMachine : FuncId := 67
abbrev F_spec_NewMachine : FuncId := 68
abbrev F_spec_DrawTraceOf : FuncId := 69
abbrev F_impl_TraceOf : FuncId := 70
abbrev F_spec_TraceOf : FuncId := 71
abbrev F_laws_sameInts : FuncId := 72
abbrev F_impl_RunProgram : FuncId := 73
abbrev F_spec_DrawRunProgram : FuncId := 74
abbrev F_spec_RunProgram : FuncId := 75
abbrev F_spec_TriesFor : FuncId := 76
abbrev F_impl_TriesFor : FuncId := 77
abbrev F_laws_eqIntSS : FuncId := 78
abbrev F_laws_markIntSS : FuncId := 79
abbrev F_laws_heldIntSS : FuncId := 80
abbrev F_laws_szStretchS : FuncId := 81
abbrev F_laws_szKnownS : FuncId := 82
abbrev F_laws_szBoolS : FuncId := 83
abbrev F_spec_GoodStretch : FuncId := 84
abbrev F_spec_GoodKnown : FuncId := 85
abbrev F_laws_toStretchS : FuncId := 86
abbrev F_laws_toKnownS : FuncId := 87
abbrev F_laws_toBoolS : FuncId := 88
abbrev F_impl_GoodMay_c1 : FuncId := 89
abbrev F_slices_ContainsFunc__sStretch_Stretch : FuncId := 90
abbrev F_slices_ContainsFunc__sKnown_Known : FuncId := 91
abbrev F_impl_GoodMay_c2 : FuncId := 92
abbrev F_laws_eqStretchS : FuncId := 93
abbrev F_laws_eqKnownS : FuncId := 94
abbrev F_laws_eqBoolS : FuncId := 95
abbrev F_spec_l13Const : FuncId := 96
abbrev F_spec_l9All : FuncId := 97
abbrev F_slices_Repeat__sStretch_Stretch : FuncId := 98
abbrev F_impl_allWords : FuncId := 99
abbrev F_laws_markStretchS : FuncId := 100
abbrev F_laws_markKnownS : FuncId := 101
abbrev F_laws_markBoolS : FuncId := 102
abbrev F_laws_heldStretchS : FuncId := 103
abbrev F_laws_heldKnownS : FuncId := 104
abbrev F_laws_heldBoolS : FuncId := 105
abbrev F_laws_szIntS : FuncId := 106
abbrev F_spec_l1In : FuncId := 107
abbrev F_spec_l10May : FuncId := 108
abbrev F_impl_in : FuncId := 109
abbrev F_impl_Known_matches : FuncId := 110
abbrev F_spec_l13Join : FuncId := 111
abbrev F_impl_joined : FuncId := 112
abbrev F_spec_l2Step : FuncId := 113
abbrev F_spec_l13Heed : FuncId := 114
abbrev F_spec_l13Own : FuncId := 115
abbrev F_impl_Step_valid : FuncId := 116
abbrev F_impl_heedJump : FuncId := 117
abbrev F_spec_l13Step : FuncId := 118
abbrev F_impl_stepMay : FuncId := 119
abbrev F_spec_pl1Cur_stretch : FuncId := 120
abbrev F_spec_pl1Cur_known : FuncId := 121
abbrev F_impl_reduceBoth : FuncId := 122
abbrev F_spec_l13Reduce : FuncId := 123
abbrev F_impl_isWord : FuncId := 124
abbrev F_spec_pl1Cur_among : FuncId := 125
abbrev F_spec_pl1Cur_pick : FuncId := 126
abbrev F_spec_pl1Cur_may : FuncId := 127
abbrev F_spec_pl1Cur_one : FuncId := 128
abbrev F_spec_pl1Cur_step : FuncId := 129
abbrev F_laws_sameBools : FuncId := 130
abbrev F_spec_GoodProgram : FuncId := 131
abbrev F_spec_l3Ctx : FuncId := 132
abbrev F_spec_l3Do : FuncId := 133
abbrev F_spec_l3Own : FuncId := 134
abbrev F_impl_GoodProgram : FuncId := 135
abbrev F_impl_isContext : FuncId := 136
abbrev F_impl_Machine_own : FuncId := 137
abbrev F_impl_pMachine_step : FuncId := 138
abbrev F_laws_eqStep : FuncId := 139
abbrev F_laws_heldIntS : FuncId := 140
abbrev F_spec_pl1Cur_program : FuncId := 141
abbrev F_spec_pl1Cur_ctx : FuncId := 142
abbrev F_spec_pl1Cur_machine : FuncId := 143
abbrev F_impl_areWords : FuncId := 144
abbrev F_spec_l1All : FuncId := 145
abbrev F_impl_nexts : FuncId := 146
abbrev F_impl_run : FuncId := 147
abbrev F_spec_l3Run : FuncId := 148
abbrev F_spec_l17Tries : FuncId := 149
abbrev F_impl_tries : FuncId := 150
abbrev F_spec_l1Word : FuncId := 151
abbrev F_laws_toStretch : FuncId := 152
abbrev F_laws_toKnown : FuncId := 153
abbrev F_slices_IndexFunc__sStretch_Stretch : FuncId := 154
abbrev F_slices_IndexFunc__sKnown_Known : FuncId := 155
abbrev F_laws_eqStretch : FuncId := 156
abbrev F_laws_eqKnown : FuncId := 157
abbrev F_bits_Mul : FuncId := 158
abbrev F_spec_l9Join : FuncId := 159
abbrev F_spec_l10Join : FuncId := 160
abbrev F_impl_May_own : FuncId := 161
abbrev F_impl_joinStretch : FuncId := 162
abbrev F_impl_joinKnown : FuncId := 163
abbrev F_spec_l2Reg : FuncId := 164
abbrev F_spec_l2Zero : FuncId := 165
abbrev F_spec_l9Meet : FuncId := 166
abbrev F_spec_l10Meet : FuncId := 167
abbrev F_spec_l9Less : FuncId := 168
abbrev F_spec_l1Most : FuncId := 169
abbrev F_spec_l1Least : FuncId := 170
abbrev F_impl_fields : FuncId := 171
abbrev F_impl_Step_ranges : FuncId := 172
abbrev F_impl_pStep_field : FuncId := 173
abbrev F_impl_meetStretch : FuncId := 174
abbrev F_impl_meetKnown : FuncId := 175
abbrev F_impl_splitLess : FuncId := 176
abbrev F_spec_l13Set : FuncId := 177
abbrev F_spec_l9Do : FuncId := 178
abbrev F_spec_l10Do : FuncId := 179
abbrev F_impl_pMay_put : FuncId := 180
abbrev F_impl_stretched : FuncId := 181
abbrev F_impl_doKnown : FuncId := 182
abbrev F_impl_exact : FuncId := 183
abbrev F_impl_unknown : FuncId := 184
abbrev F_spec_pl1Cur_word : FuncId := 185
abbrev F_spec_pl1Cur_rawWord : FuncId := 186
abbrev F_spec_l10Not : FuncId := 187
abbrev F_spec_pl1Cur_next : FuncId := 188
abbrev F_spec_l1Do : FuncId := 189
abbrev F_impl_Step_jumps : FuncId := 190
abbrev F_slices_ContainsFunc__sint_int : FuncId := 191
abbrev F_impl_isContext_c1 : FuncId := 192
abbrev F_slices_Clone__sint_int : FuncId := 193
abbrev F_slices_Clone__sbool_bool : FuncId := 194
abbrev F_impl_do : FuncId := 195
abbrev F_impl_areWords_c1 : FuncId := 196
abbrev F_spec_l17Full : FuncId := 197
abbrev F_spec_l1Has : FuncId := 198
abbrev F_impl_alone : FuncId := 199
abbrev F_slices_Contains__sint_int : FuncId := 200
abbrev F_bits_Mul32 : FuncId := 201
abbrev F_bits_Mul64 : FuncId := 202
abbrev F_slices_Clone__sStretch_Stretch : FuncId := 203
abbrev F_slices_Clone__sKnown_Known : FuncId := 204
abbrev F_impl_known : FuncId := 205
abbrev F_spec_l9Ends : FuncId := 206
abbrev F_spec_l9Mod : FuncId := 207
abbrev F_spec_l9Ones : FuncId := 208
abbrev F_spec_l9Shift : FuncId := 209
abbrev F_spec_l10Bits : FuncId := 210
abbrev F_spec_l1Wrap : FuncId := 211
abbrev F_impl_wrap : FuncId := 212
abbrev F_impl_ones : FuncId := 213
abbrev F_impl_bitwise : FuncId := 214
abbrev F_slices_IndexFunc__sint_int : FuncId := 215
abbrev F_slices_Repeat__sint_int : FuncId := 216
abbrev F_slices_Index__sint_int : FuncId := 217
abbrev F_spec_l9Floor : FuncId := 218
abbrev F_impl_Known_may : FuncId := 219
abbrev F_runtime_boundsError_Error : FuncId := 220
abbrev F_runtime_boundsError_RuntimeError : FuncId := 221
abbrev F_runtime_errorString_Error : FuncId := 222
abbrev F_runtime_errorString_RuntimeError : FuncId := 223
abbrev F_runtime_plainError_Error : FuncId := 224
abbrev F_runtime_plainError_RuntimeError : FuncId := 225
abbrev F_runtime_errorAddressString_Error : FuncId := 226
abbrev F_runtime_errorAddressString_RuntimeError : FuncId := 227
abbrev F_runtime_pTypeAssertionError_Error : FuncId := 228
abbrev F_runtime_pTypeAssertionError_RuntimeError : FuncId := 229
abbrev F_runtime_pPanicNilError_Error : FuncId := 230
abbrev F_runtime_pPanicNilError_RuntimeError : FuncId := 231
abbrev F_abi_pType_Align : FuncId := 232
abbrev F_maps_unhashableTypeError_Error : FuncId := 233
abbrev F_maps_unhashableTypeError_RuntimeError : FuncId := 234
abbrev F_impl_Step_branches : FuncId := 235
abbrev F_abi_Kind_String : FuncId := 236

/-! laws_szStretchS -/
def laws_szStretchS.r0 : List Ent := [
  E0 0 (some 4) none (.i (.mv (.k (I64 0))))]
def laws_szStretchS.r1 : List Ent := [
  E0 0 (some 5) none (.i (.mv (.t 1))),
  E0 1 (some 6) none (.i (.mv (.t 0))),
  E0 2 (some 7) none (.i (.len (.t 6))),
  E0 3 (some 8) none (.i (.bin .sub (.t 5) (.t 7))),
  E0 4 (some 1) none (.i (.mv (.t 8)))]
def laws_szStretchS.r2 : List Ent := [
  E0 0 (some 9) none (.i (.mv (.t 1))),
  E0 1 (some 10) none (.i (.bin .lss (.t 9) (.k (I64 0))))]
def laws_szStretchS.r3 : List Ent := [
  E0 0 (some 4) none (.i (.mv (.k (I64 (-1)))))]
def laws_szStretchS.r4 : List Ent := [
  E0 0 (some 11) none (.i (.mv (.t 1))),
  E0 1 (some 4) none (.i (.mv (.t 11)))]
def laws_szStretchS.fi : FI := { res := [.t 4], code := .seq (.reg 64 1 laws_szStretchS.r0) (.seq (.reg 128 5 laws_szStretchS.r1) (.seq (.seq (.reg 448 2 laws_szStretchS.r2) (.cond (.t 10) (.seq (.reg 576 1 laws_szStretchS.r3) (.ret)) (.skip))) (.seq (.reg 640 2 laws_szStretchS.r4) (.ret)))) }
attribute [go_sem] laws_szStretchS.r0 laws_szStretchS.r1 laws_szStretchS.r2 laws_szStretchS.r3 laws_szStretchS.r4
theorem laws_szStretchS.ok : chkF prog F_laws_szStretchS 2 laws_szStretchS.fi = true := by kernel_rfl

/-! laws_szKnownS -/
def laws_szKnownS.r0 : List Ent := [
  E0 0 (some 4) none (.i (.mv (.k (I64 0))))]
def laws_szKnownS.r1 : List Ent := [
  E0 0 (some 5) none (.i (.mv (.t 1))),
  E0 1 (some 6) none (.i (.mv (.t 0))),
  E0 2 (some 7) none (.i (.len (.t 6))),
  E0 3 (some 8) none (.i (.bin .sub (.t 5) (.t 7))),
  E0 4 (some 1) none (.i (.mv (.t 8)))]
def laws_szKnownS.r2 : List Ent := [
  E0 0 (some 9) none (.i (.mv (.t 1))),
  E0 1 (some 10) none (.i (.bin .lss (.t 9) (.k (I64 0))))]
def laws_szKnownS.r3 : List Ent := [
  E0 0 (some 4) none (.i (.mv (.k (I64 (-1)))))]
def laws_szKnownS.r4 : List Ent := [
  E0 0 (some 11) none (.i (.mv (.t 1))),
  E0 1 (some 4) none (.i (.mv (.t 11)))]
def laws_szKnownS.fi : FI := { res := [.t 4], code := .seq (.reg 64 1 laws_szKnownS.r0) (.seq (.reg 128 5 laws_szKnownS.r1) (.seq (.seq (.reg 448 2 laws_szKnownS.r2) (.cond (.t 10) (.seq (.reg 576 1 laws_szKnownS.r3) (.ret)) (.skip))) (.seq (.reg 640 2 laws_szKnownS.r4) (.ret)))) }
attribute [go_sem] laws_szKnownS.r0 laws_szKnownS.r1 laws_szKnownS.r2 laws_szKnownS.r3 laws_szKnownS.r4
theorem laws_szKnownS.ok : chkF prog F_laws_szKnownS 2 laws_szKnownS.fi = true := by kernel_rfl

/-! laws_szBoolS -/
def laws_szBoolS.r0 : List Ent := [
  E0 0 (some 4) none (.i (.mv (.k (I64 0))))]
def laws_szBoolS.r1 : List Ent := [
  E0 0 (some 5) none (.i (.mv (.t 1))),
  E0 1 (some 6) none (.i (.mv (.t 0))),
  E0 2 (some 7) none (.i (.len (.t 6))),
  E0 3 (some 8) none (.i (.bin .sub (.t 5) (.t 7))),
  E0 4 (some 1) none (.i (.mv (.t 8)))]
def laws_szBoolS.r2 : List Ent := [
  E0 0 (some 9) none (.i (.mv (.t 1))),
  E0 1 (some 10) none (.i (.bin .lss (.t 9) (.k (I64 0))))]
def laws_szBoolS.r3 : List Ent := [
  E0 0 (some 4) none (.i (.mv (.k (I64 (-1)))))]
def laws_szBoolS.r4 : List Ent := [
  E0 0 (some 11) none (.i (.mv (.t 1))),
  E0 1 (some 4) none (.i (.mv (.t 11)))]
def laws_szBoolS.fi : FI := { res := [.t 4], code := .seq (.reg 64 1 laws_szBoolS.r0) (.seq (.reg 128 5 laws_szBoolS.r1) (.seq (.seq (.reg 448 2 laws_szBoolS.r2) (.cond (.t 10) (.seq (.reg 576 1 laws_szBoolS.r3) (.ret)) (.skip))) (.seq (.reg 640 2 laws_szBoolS.r4) (.ret)))) }
attribute [go_sem] laws_szBoolS.r0 laws_szBoolS.r1 laws_szBoolS.r2 laws_szBoolS.r3 laws_szBoolS.r4
theorem laws_szBoolS.ok : chkF prog F_laws_szBoolS 2 laws_szBoolS.fi = true := by kernel_rfl

/-! laws_szMay -/
def laws_szMay.r0 : List Ent := [
  E0 0 (some 2) none (.i (.box (.t 0))),
  E0 1 (some 4) none (.i (.mv (.k (I64 0))))]
def laws_szMay.r1 : List Ent := [
  E0 0 (some 5) none (.i (.fad 0 (.t 2))),
  E0 1 (some 6) none (.i (.load false false 1 (.t 5))),
  E0 2 (some 7) none (.i (.mv (.t 1))),
  E0 3 (some 8) none (.call F_laws_szStretchS false (roA [.t 6, .t 7])),
  E0 4 (some 1) none (.i (.mv (.t 8)))]
def laws_szMay.r2 : List Ent := [
  E0 0 (some 9) none (.i (.mv (.t 1))),
  E0 1 (some 10) none (.i (.bin .lss (.t 9) (.k (I64 0))))]
def laws_szMay.r3 : List Ent := [
  E0 0 (some 4) none (.i (.mv (.k (I64 (-1)))))]
def laws_szMay.r4 : List Ent := [
  E0 0 (some 11) none (.i (.fad 1 (.t 2))),
  E0 1 (some 12) none (.i (.load false false 1 (.t 11))),
  E0 2 (some 13) none (.i (.mv (.t 1))),
  E0 3 (some 14) none (.call F_laws_szKnownS false (roA [.t 12, .t 13])),
  E0 4 (some 1) none (.i (.mv (.t 14)))]
def laws_szMay.r5 : List Ent := [
  E0 0 (some 15) none (.i (.mv (.t 1))),
  E0 1 (some 16) none (.i (.bin .lss (.t 15) (.k (I64 0))))]
def laws_szMay.r6 : List Ent := [
  E0 0 (some 4) none (.i (.mv (.k (I64 (-1)))))]
def laws_szMay.r7 : List Ent := [
  E0 0 (some 17) none (.i (.fad 2 (.t 2))),
  E0 1 (some 18) none (.i (.load false false 1 (.t 17))),
  E0 2 (some 19) none (.i (.mv (.t 1))),
  E0 3 (some 20) none (.call F_laws_szStretchS false (roA [.t 18, .t 19])),
  E0 4 (some 1) none (.i (.mv (.t 20)))]
def laws_szMay.r8 : List Ent := [
  E0 0 (some 21) none (.i (.mv (.t 1))),
  E0 1 (some 22) none (.i (.bin .lss (.t 21) (.k (I64 0))))]
def laws_szMay.r9 : List Ent := [
  E0 0 (some 4) none (.i (.mv (.k (I64 (-1)))))]
def laws_szMay.r10 : List Ent := [
  E0 0 (some 23) none (.i (.fad 3 (.t 2))),
  E0 1 (some 24) none (.i (.load false false 1 (.t 23))),
  E0 2 (some 25) none (.i (.mv (.t 1))),
  E0 3 (some 26) none (.call F_laws_szBoolS false (roA [.t 24, .t 25])),
  E0 4 (some 1) none (.i (.mv (.t 26)))]
def laws_szMay.r11 : List Ent := [
  E0 0 (some 27) none (.i (.mv (.t 1))),
  E0 1 (some 28) none (.i (.bin .lss (.t 27) (.k (I64 0))))]
def laws_szMay.r12 : List Ent := [
  E0 0 (some 4) none (.i (.mv (.k (I64 (-1)))))]
def laws_szMay.r13 : List Ent := [
  E0 0 (some 29) none (.i (.mv (.t 1))),
  E0 1 (some 4) none (.i (.mv (.t 29)))]
def laws_szMay.fi : FI := { res := [.t 4], code := .seq (.reg 64 2 laws_szMay.r0) (.seq (.reg 192 5 laws_szMay.r1) (.seq (.seq (.reg 512 2 laws_szMay.r2) (.cond (.t 10) (.seq (.reg 640 1 laws_szMay.r3) (.ret)) (.skip))) (.seq (.reg 704 5 laws_szMay.r4) (.seq (.seq (.reg 1024 2 laws_szMay.r5) (.cond (.t 16) (.seq (.reg 1152 1 laws_szMay.r6) (.ret)) (.skip))) (.seq (.reg 1216 5 laws_szMay.r7) (.seq (.seq (.reg 1536 2 laws_szMay.r8) (.cond (.t 22) (.seq (.reg 1664 1 laws_szMay.r9) (.ret)) (.skip))) (.seq (.reg 1728 5 laws_szMay.r10) (.seq (.seq (.reg 2048 2 laws_szMay.r11) (.cond (.t 28) (.seq (.reg 2176 1 laws_szMay.r12) (.ret)) (.skip))) (.seq (.reg 2240 2 laws_szMay.r13) (.ret)))))))))) }
attribute [go_sem] laws_szMay.r0 laws_szMay.r1 laws_szMay.r2 laws_szMay.r3 laws_szMay.r4 laws_szMay.r5 laws_szMay.r6 laws_szMay.r7 laws_szMay.r8 laws_szMay.r9 laws_szMay.r10 laws_szMay.r11 laws_szMay.r12 laws_szMay.r13
theorem laws_szMay.ok : chkF prog F_laws_szMay 2 laws_szMay.fi = true := by kernel_rfl

/-! spec_l1In -/
def spec_l1In.r0 : List Ent := [
  E0 0 (some 6) none (.i (.mv (.k (.dat none (.bool false)))))]
def spec_l1In.r1 : List Ent := [
  E0 0 (some 7) none (.i (.mv (.t 0))),
  E0 1 (some 8) none (.i (.mv (.t 1))),
  E0 2 (some 9) none (.i (.bin .geq (.t 7) (.t 8))),
  E0 3 (some 10) none (.i (.mv (.t 9))),
  E0 4 (some 11) (some (10, true)) (.i (.mv (.t 0))),
  E0 5 (some 12) (some (10, true)) (.i (.mv (.t 2))),
  E0 6 (some 13) (some (10, true)) (.i (.bin .leq (.t 11) (.t 12))),
  E0 7 (some 14) none (.i (.pick (.t 10) (.t 13) (.k (.dat none (.bool false))))),
  E0 8 (some 6) none (.i (.mv (.t 14)))]
def spec_l1In.fi : FI := { res := [.t 6], code := .seq (.reg 64 1 spec_l1In.r0) (.seq (.reg 128 9 spec_l1In.r1) (.ret)) }
attribute [go_sem] spec_l1In.r0 spec_l1In.r1
theorem spec_l1In.ok : chkF prog F_spec_l1In 3 spec_l1In.fi = true := by kernel_rfl

/-! spec_l1Word -/
def spec_l1Word.r0 : List Ent := [
  E0 0 (some 2) none (.i (.mv (.k (.dat none (.bool false)))))]
def spec_l1Word.r1 : List Ent := [
  E0 0 (some 3) none (.i (.mv (.t 0))),
  E0 1 (some 4) none (.call F_spec_l1In false (roA [.t 3, .k (I64 0), .k (I64 65535)])),
  E0 2 (some 2) none (.i (.mv (.t 4)))]
def spec_l1Word.fi : FI := { res := [.t 2], code := .seq (.reg 64 1 spec_l1Word.r0) (.seq (.reg 128 3 spec_l1Word.r1) (.ret)) }
attribute [go_sem] spec_l1Word.r0 spec_l1Word.r1
theorem spec_l1Word.ok : chkF prog F_spec_l1Word 1 spec_l1Word.fi = true := by kernel_rfl

/-! spec_GoodStretch -/
def spec_GoodStretch.r0 : List Ent := [
  E0 0 (some 1) none (.i (.box (.t 0))),
  E0 1 (some 2) none (.i (.mv (.k (.dat none (.bool false)))))]
def spec_GoodStretch.r1 : List Ent := [
  E0 0 (some 3) none (.i (.fad 0 (.t 1))),
  E0 1 (some 4) none (.i (.load false false 1 (.t 3))),
  E0 2 (some 5) none (.call F_spec_l1Word false (roA [.t 4])),
  E0 3 (some 6) none (.i (.mv (.t 5))),
  E0 4 (some 7) (some (6, true)) (.i (.fad 1 (.t 1))),
  E0 5 (some 8) (some (6, true)) (.i (.load false false 1 (.t 7))),
  E0 6 (some 9) (some (6, true)) (.call F_spec_l1Word false (roA [.t 8])),
  E0 7 (some 10) none (.i (.pick (.t 6) (.t 9) (.k (.dat none (.bool false))))),
  E0 8 (some 11) none (.i (.mv (.t 10))),
  E0 9 (some 12) (some (11, true)) (.i (.fad 0 (.t 1))),
  E0 10 (some 13) (some (11, true)) (.i (.load false false 1 (.t 12))),
  E0 11 (some 14) (some (11, true)) (.i (.fad 1 (.t 1))),
  E0 12 (some 15) (some (11, true)) (.i (.load false false 1 (.t 14))),
  E0 13 (some 16) (some (11, true)) (.i (.bin .leq (.t 13) (.t 15))),
  E0 14 (some 17) none (.i (.pick (.t 11) (.t 16) (.k (.dat none (.bool false))))),
  E0 15 (some 2) none (.i (.mv (.t 17)))]
def spec_GoodStretch.fi : FI := { res := [.t 2], code := .seq (.reg 64 2 spec_GoodStretch.r0) (.seq (.reg 192 16 spec_GoodStretch.r1) (.ret)) }
attribute [go_sem] spec_GoodStretch.r0 spec_GoodStretch.r1
theorem spec_GoodStretch.ok : chkF prog F_spec_GoodStretch 1 spec_GoodStretch.fi = true := by kernel_rfl

/-! spec_GoodKnown -/
def spec_GoodKnown.r0 : List Ent := [
  E0 0 (some 1) none (.i (.box (.t 0))),
  E0 1 (some 2) none (.i (.mv (.k (.dat none (.bool false)))))]
def spec_GoodKnown.r1 : List Ent := [
  E0 0 (some 3) none (.i (.fad 0 (.t 1))),
  E0 1 (some 4) none (.i (.load false false 1 (.t 3))),
  E0 2 (some 5) none (.call F_spec_l1Word false (roA [.t 4])),
  E0 3 (some 6) none (.i (.mv (.t 5))),
  E0 4 (some 7) (some (6, true)) (.i (.fad 1 (.t 1))),
  E0 5 (some 8) (some (6, true)) (.i (.load false false 1 (.t 7))),
  E0 6 (some 9) (some (6, true)) (.call F_spec_l1Word false (roA [.t 8])),
  E0 7 (some 10) none (.i (.pick (.t 6) (.t 9) (.k (.dat none (.bool false))))),
  E0 8 (some 11) none (.i (.mv (.t 10))),
  E0 9 (some 12) (some (11, true)) (.i (.fad 0 (.t 1))),
  E0 10 (some 13) (some (11, true)) (.i (.load false false 1 (.t 12))),
  E0 11 (some 14) (some (11, true)) (.i (.fad 1 (.t 1))),
  E0 12 (some 15) (some (11, true)) (.i (.load false false 1 (.t 14))),
  E0 13 (some 16) (some (11, true)) (.i (.bin .and (.t 13) (.t 15))),
  E0 14 (some 17) (some (11, true)) (.i (.bin .eql (.t 16) (.k (I64 0)))),
  E0 15 (some 18) none (.i (.pick (.t 11) (.t 17) (.k (.dat none (.bool false))))),
  E0 16 (some 2) none (.i (.mv (.t 18)))]
def spec_GoodKnown.fi : FI := { res := [.t 2], code := .seq (.reg 64 2 spec_GoodKnown.r0) (.seq (.reg 192 17 spec_GoodKnown.r1) (.ret)) }
attribute [go_sem] spec_GoodKnown.r0 spec_GoodKnown.r1
theorem spec_GoodKnown.ok : chkF prog F_spec_GoodKnown 1 spec_GoodKnown.fi = true := by kernel_rfl

/-! spec_GoodMay -/
def spec_GoodMay.r0 : List Ent := [
  E0 0 (some 1) none (.i (.box (.t 0))),
  E0 1 (some 2) none (.i (.mv (.k (.dat none (.bool false)))))]
def spec_GoodMay.r1 : List Ent := [
  E0 0 (some 9) none (.i (.fad 0 (.t 1))),
  E0 1 (some 10) none (.i (.load false false 1 (.t 9))),
  E0 2 (some 11) none (.i (.len (.t 10))),
  E0 3 (some 12) none (.i (.mv (.k (I64 0))))]
def spec_GoodMay.r2 : List Ent := [
  E0 0 (some 13) none (.i (.bin .lss (.t 12) (.t 11)))]
def spec_GoodMay.r3 : List Ent := [
  E0 0 (some 14) none (.i (.iad 2 (.t 10) (.t 12))),
  E0 1 (some 15) none (.i (.load false true 2 (.t 14))),
  E0 2 (some 4) none (.i (.box (.k (.agg [.dat none (.int .i64 0), .dat none (.int .i64 0)])))),
  E0 3 none none (.i (.store 2 (.t 4) (.t 15)))]
def spec_GoodMay.r4 : List Ent := [
  E0 0 (some 16) none (.i (.load false true 2 (.t 4))),
  E0 1 (some 17) none (.call F_spec_GoodStretch false (roA [.t 16])),
  E0 2 (some 18) none (.i (.un .not (.t 17)))]
def spec_GoodMay.r5 : List Ent := [
  E0 0 (some 2) none (.i (.mv (.k (.dat none (.bool false)))))]
def spec_GoodMay.r6 : List Ent := [
  E0 0 (some 19) none (.i (.bin .add (.t 12) (.k (I64 1)))),
  E0 1 (some 12) none (.i (.mv (.t 19)))]
def spec_GoodMay.b0 : KC := .seq (.reg 448 1 spec_GoodMay.r2) (.seq (.cond (.t 13) (.skip) (.exit 0)) (.seq (.block 1 (.seq (.reg 512 4 spec_GoodMay.r3) (.seq (.reg 768 3 spec_GoodMay.r4) (.cond (.t 18) (.seq (.reg 960 1 spec_GoodMay.r5) (.ret)) (.skip))))) (.reg 1024 2 spec_GoodMay.r6)))
def spec_GoodMay.r7 : List Ent := [
  E0 0 (some 20) none (.i (.fad 1 (.t 1))),
  E0 1 (some 21) none (.i (.load false false 1 (.t 20))),
  E0 2 (some 22) none (.i (.len (.t 21))),
  E0 3 (some 23) none (.i (.mv (.k (I64 0))))]
def spec_GoodMay.r8 : List Ent := [
  E0 0 (some 24) none (.i (.bin .lss (.t 23) (.t 22)))]
def spec_GoodMay.r9 : List Ent := [
  E0 0 (some 25) none (.i (.iad 2 (.t 21) (.t 23))),
  E0 1 (some 26) none (.i (.load false true 2 (.t 25))),
  E0 2 (some 6) none (.i (.box (.k (.agg [.dat none (.int .i64 0), .dat none (.int .i64 0)])))),
  E0 3 none none (.i (.store 2 (.t 6) (.t 26)))]
def spec_GoodMay.r10 : List Ent := [
  E0 0 (some 27) none (.i (.load false true 2 (.t 6))),
  E0 1 (some 28) none (.call F_spec_GoodKnown false (roA [.t 27])),
  E0 2 (some 29) none (.i (.un .not (.t 28)))]
def spec_GoodMay.r11 : List Ent := [
  E0 0 (some 2) none (.i (.mv (.k (.dat none (.bool false)))))]
def spec_GoodMay.r12 : List Ent := [
  E0 0 (some 30) none (.i (.bin .add (.t 23) (.k (I64 1)))),
  E0 1 (some 23) none (.i (.mv (.t 30)))]
def spec_GoodMay.b1 : KC := .seq (.reg 1408 1 spec_GoodMay.r8) (.seq (.cond (.t 24) (.skip) (.exit 2)) (.seq (.block 3 (.seq (.reg 1472 4 spec_GoodMay.r9) (.seq (.reg 1728 3 spec_GoodMay.r10) (.cond (.t 29) (.seq (.reg 1920 1 spec_GoodMay.r11) (.ret)) (.skip))))) (.reg 1984 2 spec_GoodMay.r12)))
def spec_GoodMay.r13 : List Ent := [
  E0 0 (some 31) none (.i (.fad 2 (.t 1))),
  E0 1 (some 32) none (.i (.load false false 1 (.t 31))),
  E0 2 (some 33) none (.i (.len (.t 32))),
  E0 3 (some 34) none (.i (.mv (.k (I64 0))))]
def spec_GoodMay.r14 : List Ent := [
  E0 0 (some 35) none (.i (.bin .lss (.t 34) (.t 33)))]
def spec_GoodMay.r15 : List Ent := [
  E0 0 (some 36) none (.i (.iad 2 (.t 32) (.t 34))),
  E0 1 (some 37) none (.i (.load false true 2 (.t 36))),
  E0 2 (some 8) none (.i (.box (.k (.agg [.dat none (.int .i64 0), .dat none (.int .i64 0)])))),
  E0 3 none none (.i (.store 2 (.t 8) (.t 37)))]
def spec_GoodMay.r16 : List Ent := [
  E0 0 (some 38) none (.i (.load false true 2 (.t 8))),
  E0 1 (some 39) none (.call F_spec_GoodStretch false (roA [.t 38])),
  E0 2 (some 40) none (.i (.un .not (.t 39)))]
def spec_GoodMay.r17 : List Ent := [
  E0 0 (some 2) none (.i (.mv (.k (.dat none (.bool false)))))]
def spec_GoodMay.r18 : List Ent := [
  E0 0 (some 41) none (.i (.bin .add (.t 34) (.k (I64 1)))),
  E0 1 (some 34) none (.i (.mv (.t 41)))]
def spec_GoodMay.b2 : KC := .seq (.reg 2368 1 spec_GoodMay.r14) (.seq (.cond (.t 35) (.skip) (.exit 4)) (.seq (.block 5 (.seq (.reg 2432 4 spec_GoodMay.r15) (.seq (.reg 2688 3 spec_GoodMay.r16) (.cond (.t 40) (.seq (.reg 2880 1 spec_GoodMay.r17) (.ret)) (.skip))))) (.reg 2944 2 spec_GoodMay.r18)))
def spec_GoodMay.r19 : List Ent := [
  E0 0 (some 42) none (.i (.fad 0 (.t 1))),
  E0 1 (some 43) none (.i (.load false false 1 (.t 42))),
  E0 2 (some 44) none (.i (.len (.t 43))),
  E0 3 (some 45) none (.i (.bin .eql (.t 44) (.k (I64 6)))),
  E0 4 (some 46) none (.i (.mv (.t 45))),
  E0 5 (some 47) (some (46, true)) (.i (.fad 1 (.t 1))),
  E0 6 (some 48) (some (46, true)) (.i (.load false false 1 (.t 47))),
  E0 7 (some 49) (some (46, true)) (.i (.len (.t 48))),
  E0 8 (some 50) (some (46, true)) (.i (.bin .eql (.t 49) (.k (I64 6)))),
  E0 9 (some 51) none (.i (.pick (.t 46) (.t 50) (.k (.dat none (.bool false))))),
  E0 10 (some 52) none (.i (.mv (.t 51))),
  E0 11 (some 53) (some (52, true)) (.i (.fad 2 (.t 1))),
  E0 12 (some 54) (some (52, true)) (.i (.load false false 1 (.t 53))),
  E0 13 (some 55) (some (52, true)) (.i (.len (.t 54))),
  E0 14 (some 56) (some (52, true)) (.i (.bin .eql (.t 55) (.k (I64 16)))),
  E0 15 (some 57) none (.i (.pick (.t 52) (.t 56) (.k (.dat none (.bool false))))),
  E0 16 (some 58) none (.i (.mv (.t 57))),
  E0 17 (some 59) (some (58, true)) (.i (.fad 3 (.t 1))),
  E0 18 (some 60) (some (58, true)) (.i (.load false false 1 (.t 59))),
  E0 19 (some 61) (some (58, true)) (.i (.len (.t 60))),
  E0 20 (some 62) (some (58, true)) (.i (.bin .eql (.t 61) (.k (I64 16)))),
  E0 21 (some 63) none (.i (.pick (.t 58) (.t 62) (.k (.dat none (.bool false))))),
  E0 22 (some 2) none (.i (.mv (.t 63)))]
def spec_GoodMay.fi : FI := { res := [.t 2], code := .seq (.reg 64 2 spec_GoodMay.r0) (.seq (.seq (.reg 192 4 spec_GoodMay.r1) (.block 0 (.loop spec_GoodMay.b0))) (.seq (.seq (.reg 1152 4 spec_GoodMay.r7) (.block 2 (.loop spec_GoodMay.b1))) (.seq (.seq (.reg 2112 4 spec_GoodMay.r13) (.block 4 (.loop spec_GoodMay.b2))) (.seq (.reg 3072 23 spec_GoodMay.r19) (.ret))))) }
attribute [go_sem] spec_GoodMay.r0 spec_GoodMay.r1 spec_GoodMay.r2 spec_GoodMay.r3 spec_GoodMay.r4 spec_GoodMay.r5 spec_GoodMay.r6 spec_GoodMay.r7 spec_GoodMay.r8 spec_GoodMay.r9 spec_GoodMay.r10 spec_GoodMay.r11 spec_GoodMay.r12 spec_GoodMay.r13 spec_GoodMay.r14 spec_GoodMay.r15 spec_GoodMay.r16 spec_GoodMay.r17 spec_GoodMay.r18 spec_GoodMay.r19
theorem spec_GoodMay.ok : chkF prog F_spec_GoodMay 1 spec_GoodMay.fi = true := by kernel_rfl

/-! laws_toStretch -/
def laws_toStretch.r0 : List Ent := [
  E0 0 (some 1) none (.i (.box (.t 0))),
  E0 1 (some 2) none (.i (.box (.k (.agg [.dat none (.int .i64 0), .dat none (.int .i64 0)]))))]
def laws_toStretch.r1 : List Ent := [
  E0 0 (some 3) none (.i (.box (.k (.agg [.dat none (.int .i64 0), .dat none (.int .i64 0)]))))]
def laws_toStretch.r2 : List Ent := [
  E0 0 (some 4) none (.i (.fad 0 (.t 1))),
  E0 1 (some 5) none (.i (.load false false 1 (.t 4))),
  E0 2 (some 6) none (.i (.fad 0 (.t 3))),
  E0 3 none none (.i (.store 1 (.t 6) (.t 5)))]
def laws_toStretch.r3 : List Ent := [
  E0 0 (some 7) none (.i (.fad 1 (.t 1))),
  E0 1 (some 8) none (.i (.load false false 1 (.t 7))),
  E0 2 (some 9) none (.i (.fad 1 (.t 3))),
  E0 3 none none (.i (.store 1 (.t 9) (.t 8)))]
def laws_toStretch.r4 : List Ent := [
  E0 0 (some 10) none (.i (.load false true 2 (.t 3))),
  E0 1 none none (.i (.store 2 (.t 2) (.t 10)))]
def laws_toStretch.fi : FI := { res := [.c 2 true 2], code := .seq (.reg 64 2 laws_toStretch.r0) (.seq (.reg 192 1 laws_toStretch.r1) (.seq (.reg 256 4 laws_toStretch.r2) (.seq (.reg 512 4 laws_toStretch.r3) (.seq (.reg 768 2 laws_toStretch.r4) (.ret))))) }
attribute [go_sem] laws_toStretch.r0 laws_toStretch.r1 laws_toStretch.r2 laws_toStretch.r3 laws_toStretch.r4
theorem laws_toStretch.ok : chkF prog F_laws_toStretch 1 laws_toStretch.fi = true := by kernel_rfl

/-! laws_toStretchS -/
def laws_toStretchS.r0 : List Ent := [
  E0 0 (some 2) none (.i (.mv (.k (.nil 2))))]
def laws_toStretchS.r1 : List Ent := [
  E0 0 (some 5) none (.i (.mv (.t 0))),
  E0 1 (some 6) none (.i (.len (.t 5))),
  E0 2 (some 7) none (.i (.mks 2 16 (.agg [.int .i64 0, .int .i64 0]) (.t 6) (.t 6))),
  E0 3 (some 3) none (.i (.mv (.t 7)))]
def laws_toStretchS.r2 : List Ent := [
  E0 0 (some 4) none (.i (.mv (.k (I64 0))))]
def laws_toStretchS.r3 : List Ent := [
  E0 0 (some 8) none (.i (.mv (.t 4))),
  E0 1 (some 9) none (.i (.mv (.t 0))),
  E0 2 (some 10) none (.i (.len (.t 9))),
  E0 3 (some 11) none (.i (.bin .lss (.t 8) (.t 10)))]
def laws_toStretchS.r4 : List Ent := [
  E0 0 (some 14) none (.i (.mv (.t 3))),
  E0 1 (some 15) none (.i (.mv (.t 4))),
  E0 2 (some 16) none (.i (.mv (.t 0))),
  E0 3 (some 17) none (.i (.mv (.t 4))),
  E0 4 (some 18) none (.i (.iad 2 (.t 16) (.t 17))),
  E0 5 (some 19) none (.i (.load false true 2 (.t 18))),
  E0 6 (some 20) none (.call F_laws_toStretch false (roA [.t 19])),
  E0 7 (some 21) none (.i (.iad 2 (.t 14) (.t 15))),
  E0 8 none none (.i (.store 2 (.t 21) (.t 20)))]
def laws_toStretchS.r5 : List Ent := [
  E0 0 (some 12) none (.i (.mv (.t 4))),
  E0 1 (some 13) none (.i (.bin .add (.t 12) (.k (I64 1)))),
  E0 2 (some 4) none (.i (.mv (.t 13)))]
def laws_toStretchS.b0 : KC := .seq (.seq (.reg 448 4 laws_toStretchS.r3) (.cond (.t 11) (.skip) (.exit 0))) (.seq (.block 1 (.reg 704 9 laws_toStretchS.r4)) (.reg 1280 3 laws_toStretchS.r5))
def laws_toStretchS.r6 : List Ent := [
  E0 0 (some 22) none (.i (.mv (.t 3))),
  E0 1 (some 2) none (.i (.mv (.t 22)))]
def laws_toStretchS.fi : FI := { res := [.t 2], code := .seq (.reg 64 1 laws_toStretchS.r0) (.seq (.reg 128 4 laws_toStretchS.r1) (.seq (.seq (.reg 384 1 laws_toStretchS.r2) (.block 0 (.loop laws_toStretchS.b0))) (.seq (.reg 1472 2 laws_toStretchS.r6) (.ret)))) }
attribute [go_sem] laws_toStretchS.r0 laws_toStretchS.r1 laws_toStretchS.r2 laws_toStretchS.r3 laws_toStretchS.r4 laws_toStretchS.r5 laws_toStretchS.r6
theorem laws_toStretchS.ok : chkF prog F_laws_toStretchS 1 laws_toStretchS.fi = true := by kernel_rfl

/-! laws_toKnown -/
def laws_toKnown.r0 : List Ent := [
  E0 0 (some 1) none (.i (.box (.t 0))),
  E0 1 (some 2) none (.i (.box (.k (.agg [.dat none (.int .i64 0), .dat none (.int .i64 0)]))))]
def laws_toKnown.r1 : List Ent := [
  E0 0 (some 3) none (.i (.box (.k (.agg [.dat none (.int .i64 0), .dat none (.int .i64 0)]))))]
def laws_toKnown.r2 : List Ent := [
  E0 0 (some 4) none (.i (.fad 0 (.t 1))),
  E0 1 (some 5) none (.i (.load false false 1 (.t 4))),
  E0 2 (some 6) none (.i (.fad 0 (.t 3))),
  E0 3 none none (.i (.store 1 (.t 6) (.t 5)))]
def laws_toKnown.r3 : List Ent := [
  E0 0 (some 7) none (.i (.fad 1 (.t 1))),
  E0 1 (some 8) none (.i (.load false false 1 (.t 7))),
  E0 2 (some 9) none (.i (.fad 1 (.t 3))),
  E0 3 none none (.i (.store 1 (.t 9) (.t 8)))]
def laws_toKnown.r4 : List Ent := [
  E0 0 (some 10) none (.i (.load false true 2 (.t 3))),
  E0 1 none none (.i (.store 2 (.t 2) (.t 10)))]
def laws_toKnown.fi : FI := { res := [.c 2 true 2], code := .seq (.reg 64 2 laws_toKnown.r0) (.seq (.reg 192 1 laws_toKnown.r1) (.seq (.reg 256 4 laws_toKnown.r2) (.seq (.reg 512 4 laws_toKnown.r3) (.seq (.reg 768 2 laws_toKnown.r4) (.ret))))) }
attribute [go_sem] laws_toKnown.r0 laws_toKnown.r1 laws_toKnown.r2 laws_toKnown.r3 laws_toKnown.r4
theorem laws_toKnown.ok : chkF prog F_laws_toKnown 1 laws_toKnown.fi = true := by kernel_rfl

/-! laws_toKnownS -/
def laws_toKnownS.r0 : List Ent := [
  E0 0 (some 2) none (.i (.mv (.k (.nil 2))))]
def laws_toKnownS.r1 : List Ent := [
  E0 0 (some 5) none (.i (.mv (.t 0))),
  E0 1 (some 6) none (.i (.len (.t 5))),
  E0 2 (some 7) none (.i (.mks 2 16 (.agg [.int .i64 0, .int .i64 0]) (.t 6) (.t 6))),
  E0 3 (some 3) none (.i (.mv (.t 7)))]
def laws_toKnownS.r2 : List Ent := [
  E0 0 (some 4) none (.i (.mv (.k (I64 0))))]
def laws_toKnownS.r3 : List Ent := [
  E0 0 (some 8) none (.i (.mv (.t 4))),
  E0 1 (some 9) none (.i (.mv (.t 0))),
  E0 2 (some 10) none (.i (.len (.t 9))),
  E0 3 (some 11) none (.i (.bin .lss (.t 8) (.t 10)))]
def laws_toKnownS.r4 : List Ent := [
  E0 0 (some 14) none (.i (.mv (.t 3))),
  E0 1 (some 15) none (.i (.mv (.t 4))),
  E0 2 (some 16) none (.i (.mv (.t 0))),
  E0 3 (some 17) none (.i (.mv (.t 4))),
  E0 4 (some 18) none (.i (.iad 2 (.t 16) (.t 17))),
  E0 5 (some 19) none (.i (.load false true 2 (.t 18))),
  E0 6 (some 20) none (.call F_laws_toKnown false (roA [.t 19])),
  E0 7 (some 21) none (.i (.iad 2 (.t 14) (.t 15))),
  E0 8 none none (.i (.store 2 (.t 21) (.t 20)))]
def laws_toKnownS.r5 : List Ent := [
  E0 0 (some 12) none (.i (.mv (.t 4))),
  E0 1 (some 13) none (.i (.bin .add (.t 12) (.k (I64 1)))),
  E0 2 (some 4) none (.i (.mv (.t 13)))]
def laws_toKnownS.b0 : KC := .seq (.seq (.reg 448 4 laws_toKnownS.r3) (.cond (.t 11) (.skip) (.exit 0))) (.seq (.block 1 (.reg 704 9 laws_toKnownS.r4)) (.reg 1280 3 laws_toKnownS.r5))
def laws_toKnownS.r6 : List Ent := [
  E0 0 (some 22) none (.i (.mv (.t 3))),
  E0 1 (some 2) none (.i (.mv (.t 22)))]
def laws_toKnownS.fi : FI := { res := [.t 2], code := .seq (.reg 64 1 laws_toKnownS.r0) (.seq (.reg 128 4 laws_toKnownS.r1) (.seq (.seq (.reg 384 1 laws_toKnownS.r2) (.block 0 (.loop laws_toKnownS.b0))) (.seq (.reg 1472 2 laws_toKnownS.r6) (.ret)))) }
attribute [go_sem] laws_toKnownS.r0 laws_toKnownS.r1 laws_toKnownS.r2 laws_toKnownS.r3 laws_toKnownS.r4 laws_toKnownS.r5 laws_toKnownS.r6
theorem laws_toKnownS.ok : chkF prog F_laws_toKnownS 1 laws_toKnownS.fi = true := by kernel_rfl

/-! laws_toBoolS -/
def laws_toBoolS.r0 : List Ent := [
  E0 0 (some 2) none (.i (.mv (.k (.nil 1))))]
def laws_toBoolS.r1 : List Ent := [
  E0 0 (some 5) none (.i (.mv (.t 0))),
  E0 1 (some 6) none (.i (.len (.t 5))),
  E0 2 (some 7) none (.i (.mks 1 1 (.bool false) (.t 6) (.t 6))),
  E0 3 (some 3) none (.i (.mv (.t 7)))]
def laws_toBoolS.r2 : List Ent := [
  E0 0 (some 4) none (.i (.mv (.k (I64 0))))]
def laws_toBoolS.r3 : List Ent := [
  E0 0 (some 8) none (.i (.mv (.t 4))),
  E0 1 (some 9) none (.i (.mv (.t 0))),
  E0 2 (some 10) none (.i (.len (.t 9))),
  E0 3 (some 11) none (.i (.bin .lss (.t 8) (.t 10)))]
def laws_toBoolS.r4 : List Ent := [
  E0 0 (some 14) none (.i (.mv (.t 3))),
  E0 1 (some 15) none (.i (.mv (.t 4))),
  E0 2 (some 16) none (.i (.mv (.t 0))),
  E0 3 (some 17) none (.i (.mv (.t 4))),
  E0 4 (some 18) none (.i (.iad 1 (.t 16) (.t 17))),
  E0 5 (some 19) none (.i (.load false false 1 (.t 18))),
  E0 6 (some 20) none (.i (.iad 1 (.t 14) (.t 15))),
  E0 7 none none (.i (.store 1 (.t 20) (.t 19)))]
def laws_toBoolS.r5 : List Ent := [
  E0 0 (some 12) none (.i (.mv (.t 4))),
  E0 1 (some 13) none (.i (.bin .add (.t 12) (.k (I64 1)))),
  E0 2 (some 4) none (.i (.mv (.t 13)))]
def laws_toBoolS.b0 : KC := .seq (.seq (.reg 448 4 laws_toBoolS.r3) (.cond (.t 11) (.skip) (.exit 0))) (.seq (.block 1 (.reg 704 8 laws_toBoolS.r4)) (.reg 1216 3 laws_toBoolS.r5))
def laws_toBoolS.r6 : List Ent := [
  E0 0 (some 21) none (.i (.mv (.t 3))),
  E0 1 (some 2) none (.i (.mv (.t 21)))]
def laws_toBoolS.fi : FI := { res := [.t 2], code := .seq (.reg 64 1 laws_toBoolS.r0) (.seq (.reg 128 4 laws_toBoolS.r1) (.seq (.seq (.reg 384 1 laws_toBoolS.r2) (.block 0 (.loop laws_toBoolS.b0))) (.seq (.reg 1408 2 laws_toBoolS.r6) (.ret)))) }
attribute [go_sem] laws_toBoolS.r0 laws_toBoolS.r1 laws_toBoolS.r2 laws_toBoolS.r3 laws_toBoolS.r4 laws_toBoolS.r5 laws_toBoolS.r6
theorem laws_toBoolS.ok : chkF prog F_laws_toBoolS 1 laws_toBoolS.fi = true := by kernel_rfl

/-! laws_toMay -/
def laws_toMay.r0 : List Ent := [
  E0 0 (some 1) none (.i (.box (.t 0))),
  E0 1 (some 2) none (.i (.box (.k (.agg [.nil 2, .nil 2, .nil 2, .nil 1]))))]
def laws_toMay.r1 : List Ent := [
  E0 0 (some 3) none (.i (.box (.k (.agg [.nil 2, .nil 2, .nil 2, .nil 1]))))]
def laws_toMay.r2 : List Ent := [
  E0 0 (some 4) none (.i (.fad 0 (.t 1))),
  E0 1 (some 5) none (.i (.load false false 1 (.t 4))),
  E0 2 (some 6) none (.call F_laws_toStretchS false (roA [.t 5])),
  E0 3 (some 7) none (.i (.fad 0 (.t 3))),
  E0 4 none none (.i (.store 1 (.t 7) (.t 6)))]
def laws_toMay.r3 : List Ent := [
  E0 0 (some 8) none (.i (.fad 1 (.t 1))),
  E0 1 (some 9) none (.i (.load false false 1 (.t 8))),
  E0 2 (some 10) none (.call F_laws_toKnownS false (roA [.t 9])),
  E0 3 (some 11) none (.i (.fad 1 (.t 3))),
  E0 4 none none (.i (.store 1 (.t 11) (.t 10)))]
def laws_toMay.r4 : List Ent := [
  E0 0 (some 12) none (.i (.fad 2 (.t 1))),
  E0 1 (some 13) none (.i (.load false false 1 (.t 12))),
  E0 2 (some 14) none (.call F_laws_toStretchS false (roA [.t 13])),
  E0 3 (some 15) none (.i (.fad 2 (.t 3))),
  E0 4 none none (.i (.store 1 (.t 15) (.t 14)))]
def laws_toMay.r5 : List Ent := [
  E0 0 (some 16) none (.i (.fad 3 (.t 1))),
  E0 1 (some 17) none (.i (.load false false 1 (.t 16))),
  E0 2 (some 18) none (.call F_laws_toBoolS false (roA [.t 17])),
  E0 3 (some 19) none (.i (.fad 3 (.t 3))),
  E0 4 none none (.i (.store 1 (.t 19) (.t 18)))]
def laws_toMay.r6 : List Ent := [
  E0 0 (some 20) none (.i (.load false true 4 (.t 3))),
  E0 1 none none (.i (.store 4 (.t 2) (.t 20)))]
def laws_toMay.fi : FI := { res := [.c 2 true 4], code := .seq (.reg 64 2 laws_toMay.r0) (.seq (.reg 192 1 laws_toMay.r1) (.seq (.reg 256 5 laws_toMay.r2) (.seq (.reg 576 5 laws_toMay.r3) (.seq (.reg 896 5 laws_toMay.r4) (.seq (.reg 1216 5 laws_toMay.r5) (.seq (.reg 1536 2 laws_toMay.r6) (.ret))))))) }
attribute [go_sem] laws_toMay.r0 laws_toMay.r1 laws_toMay.r2 laws_toMay.r3 laws_toMay.r4 laws_toMay.r5 laws_toMay.r6
theorem laws_toMay.ok : chkF prog F_laws_toMay 1 laws_toMay.fi = true := by kernel_rfl

/-! impl_in -/
def impl_in.r0 : List Ent := [
  E0 0 (some 6) none (.i (.mv (.k (.dat none (.bool false)))))]
def impl_in.r1 : List Ent := [
  E0 0 (some 7) none (.i (.mv (.t 0))),
  E0 1 (some 8) none (.i (.mv (.t 1))),
  E0 2 (some 9) none (.i (.bin .geq (.t 7) (.t 8))),
  E0 3 (some 10) none (.i (.mv (.t 9))),
  E0 4 (some 11) (some (10, true)) (.i (.mv (.t 0))),
  E0 5 (some 12) (some (10, true)) (.i (.mv (.t 2))),
  E0 6 (some 13) (some (10, true)) (.i (.bin .leq (.t 11) (.t 12))),
  E0 7 (some 14) none (.i (.pick (.t 10) (.t 13) (.k (.dat none (.bool false))))),
  E0 8 (some 6) none (.i (.mv (.t 14)))]
def impl_in.fi : FI := { res := [.t 6], code := .seq (.reg 64 1 impl_in.r0) (.seq (.reg 128 9 impl_in.r1) (.ret)) }
attribute [go_sem] impl_in.r0 impl_in.r1
theorem impl_in.ok : chkF prog F_impl_in 3 impl_in.fi = true := by kernel_rfl

/-! impl_isWord -/
def impl_isWord.r0 : List Ent := [
  E0 0 (some 2) none (.i (.mv (.k (.dat none (.bool false)))))]
def impl_isWord.r1 : List Ent := [
  E0 0 (some 3) none (.i (.mv (.t 0))),
  E0 1 (some 4) none (.call F_impl_in false (roA [.t 3, .k (I64 0), .k (I64 65535)])),
  E0 2 (some 2) none (.i (.mv (.t 4)))]
def impl_isWord.fi : FI := { res := [.t 2], code := .seq (.reg 64 1 impl_isWord.r0) (.seq (.reg 128 3 impl_isWord.r1) (.ret)) }
attribute [go_sem] impl_isWord.r0 impl_isWord.r1
theorem impl_isWord.ok : chkF prog F_impl_isWord 1 impl_isWord.fi = true := by kernel_rfl

/-! impl_GoodStretch -/
def impl_GoodStretch.r0 : List Ent := [
  E0 0 (some 1) none (.i (.box (.t 0))),
  E0 1 (some 2) none (.i (.mv (.k (.dat none (.bool false)))))]
def impl_GoodStretch.r1 : List Ent := [
  E0 0 (some 3) none (.i (.fad 0 (.t 1))),
  E0 1 (some 4) none (.i (.load false false 1 (.t 3))),
  E0 2 (some 5) none (.call F_impl_isWord false (roA [.t 4])),
  E0 3 (some 6) none (.i (.mv (.t 5))),
  E0 4 (some 7) (some (6, true)) (.i (.fad 1 (.t 1))),
  E0 5 (some 8) (some (6, true)) (.i (.load false false 1 (.t 7))),
  E0 6 (some 9) (some (6, true)) (.call F_impl_isWord false (roA [.t 8])),
  E0 7 (some 10) none (.i (.pick (.t 6) (.t 9) (.k (.dat none (.bool false))))),
  E0 8 (some 11) none (.i (.mv (.t 10))),
  E0 9 (some 12) (some (11, true)) (.i (.fad 0 (.t 1))),
  E0 10 (some 13) (some (11, true)) (.i (.load false false 1 (.t 12))),
  E0 11 (some 14) (some (11, true)) (.i (.fad 1 (.t 1))),
  E0 12 (some 15) (some (11, true)) (.i (.load false false 1 (.t 14))),
  E0 13 (some 16) (some (11, true)) (.i (.bin .leq (.t 13) (.t 15))),
  E0 14 (some 17) none (.i (.pick (.t 11) (.t 16) (.k (.dat none (.bool false))))),
  E0 15 (some 2) none (.i (.mv (.t 17)))]
def impl_GoodStretch.fi : FI := { res := [.t 2], code := .seq (.reg 64 2 impl_GoodStretch.r0) (.seq (.reg 192 16 impl_GoodStretch.r1) (.ret)) }
attribute [go_sem] impl_GoodStretch.r0 impl_GoodStretch.r1
theorem impl_GoodStretch.ok : chkF prog F_impl_GoodStretch 1 impl_GoodStretch.fi = true := by kernel_rfl

/-! impl_GoodMay_c1 -/
def impl_GoodMay_c1.r0 : List Ent := [
  E0 0 (some 1) none (.i (.box (.t 0))),
  E0 1 (some 2) none (.i (.mv (.k (.dat none (.bool false)))))]
def impl_GoodMay_c1.r1 : List Ent := [
  E0 0 (some 3) none (.i (.load false true 2 (.t 1))),
  E0 1 (some 4) none (.call F_impl_GoodStretch false (roA [.t 3])),
  E0 2 (some 5) none (.i (.un .not (.t 4))),
  E0 3 (some 2) none (.i (.mv (.t 5)))]
def impl_GoodMay_c1.fi : FI := { res := [.t 2], code := .seq (.reg 64 2 impl_GoodMay_c1.r0) (.seq (.reg 192 4 impl_GoodMay_c1.r1) (.ret)) }
attribute [go_sem] impl_GoodMay_c1.r0 impl_GoodMay_c1.r1
theorem impl_GoodMay_c1.ok : chkF prog F_impl_GoodMay_c1 1 impl_GoodMay_c1.fi = true := by kernel_rfl

/-! slices_IndexFunc__sStretch_Stretch -/
def slices_IndexFunc__sStretch_Stretch.r0 : List Ent := [
  E0 0 (some 4) none (.i (.mv (.k (I64 0))))]
def slices_IndexFunc__sStretch_Stretch.r1 : List Ent := [
  E0 0 (some 6) none (.i (.mv (.t 0))),
  E0 1 (some 7) none (.i (.len (.t 6))),
  E0 2 (some 8) none (.i (.mv (.k (I64 0))))]
def slices_IndexFunc__sStretch_Stretch.r2 : List Ent := [
  E0 0 (some 9) none (.i (.bin .lss (.t 8) (.t 7)))]
def slices_IndexFunc__sStretch_Stretch.r3 : List Ent := [
  E0 0 (some 10) none (.i (.mv (.t 8))),
  E0 1 (some 5) none (.i (.mv (.t 10)))]
def slices_IndexFunc__sStretch_Stretch.r4 : List Ent := [
  E0 0 (some 11) none (.i (.mv (.t 1))),
  E0 1 (some 12) none (.i (.mv (.t 0))),
  E0 2 (some 13) none (.i (.mv (.t 5))),
  E0 3 (some 14) none (.i (.iad 2 (.t 12) (.t 13))),
  E0 4 (some 15) none (.i (.load false true 2 (.t 14))),
  E0 5 (some 16) none (.ccl (.t 11) false [.t 15])]
def slices_IndexFunc__sStretch_Stretch.r5 : List Ent := [
  E0 0 (some 17) none (.i (.mv (.t 5))),
  E0 1 (some 4) none (.i (.mv (.t 17)))]
def slices_IndexFunc__sStretch_Stretch.r6 : List Ent := [
  E0 0 (some 18) none (.i (.bin .add (.t 8) (.k (I64 1)))),
  E0 1 (some 8) none (.i (.mv (.t 18)))]
def slices_IndexFunc__sStretch_Stretch.b0 : KC := .seq (.reg 320 1 slices_IndexFunc__sStretch_Stretch.r2) (.seq (.cond (.t 9) (.skip) (.exit 0)) (.seq (.block 1 (.seq (.reg 384 2 slices_IndexFunc__sStretch_Stretch.r3) (.seq (.reg 512 6 slices_IndexFunc__sStretch_Stretch.r4) (.cond (.t 16) (.seq (.reg 896 2 slices_IndexFunc__sStretch_Stretch.r5) (.ret)) (.skip))))) (.reg 1024 2 slices_IndexFunc__sStretch_Stretch.r6)))
def slices_IndexFunc__sStretch_Stretch.r7 : List Ent := [
  E0 0 (some 4) none (.i (.mv (.k (I64 (-1)))))]
def slices_IndexFunc__sStretch_Stretch.fi : FI := { res := [.t 4], code := .seq (.reg 64 1 slices_IndexFunc__sStretch_Stretch.r0) (.seq (.seq (.reg 128 3 slices_IndexFunc__sStretch_Stretch.r1) (.block 0 (.loop slices_IndexFunc__sStretch_Stretch.b0))) (.seq (.reg 1152 1 slices_IndexFunc__sStretch_Stretch.r7) (.ret))) }
attribute [go_sem] slices_IndexFunc__sStretch_Stretch.r0 slices_IndexFunc__sStretch_Stretch.r1 slices_IndexFunc__sStretch_Stretch.r2 slices_IndexFunc__sStretch_Stretch.r3 slices_IndexFunc__sStretch_Stretch.r4 slices_IndexFunc__sStretch_Stretch.r5 slices_IndexFunc__sStretch_Stretch.r6 slices_IndexFunc__sStretch_Stretch.r7
theorem slices_IndexFunc__sStretch_Stretch.ok : chkF prog F_slices_IndexFunc__sStretch_Stretch 2 slices_IndexFunc__sStretch_Stretch.fi = true := by kernel_rfl

/-! slices_ContainsFunc__sStretch_Stretch -/
def slices_ContainsFunc__sStretch_Stretch.r0 : List Ent := [
  E0 0 (some 4) none (.i (.mv (.k (.dat none (.bool false)))))]
def slices_ContainsFunc__sStretch_Stretch.r1 : List Ent := [
  E0 0 (some 5) none (.i (.mv (.t 0))),
  E0 1 (some 6) none (.i (.mv (.t 1))),
  E0 2 (some 7) none (.call F_slices_IndexFunc__sStretch_Stretch false (roA [.t 5, .t 6])),
  E0 3 (some 8) none (.i (.bin .geq (.t 7) (.k (I64 0)))),
  E0 4 (some 4) none (.i (.mv (.t 8)))]
def slices_ContainsFunc__sStretch_Stretch.fi : FI := { res := [.t 4], code := .seq (.reg 64 1 slices_ContainsFunc__sStretch_Stretch.r0) (.seq (.reg 128 5 slices_ContainsFunc__sStretch_Stretch.r1) (.ret)) }
attribute [go_sem] slices_ContainsFunc__sStretch_Stretch.r0 slices_ContainsFunc__sStretch_Stretch.r1
theorem slices_ContainsFunc__sStretch_Stretch.ok : chkF prog F_slices_ContainsFunc__sStretch_Stretch 2 slices_ContainsFunc__sStretch_Stretch.fi = true := by kernel_rfl

/-! slices_IndexFunc__sKnown_Known -/
def slices_IndexFunc__sKnown_Known.r0 : List Ent := [
  E0 0 (some 4) none (.i (.mv (.k (I64 0))))]
def slices_IndexFunc__sKnown_Known.r1 : List Ent := [
  E0 0 (some 6) none (.i (.mv (.t 0))),
  E0 1 (some 7) none (.i (.len (.t 6))),
  E0 2 (some 8) none (.i (.mv (.k (I64 0))))]
def slices_IndexFunc__sKnown_Known.r2 : List Ent := [
  E0 0 (some 9) none (.i (.bin .lss (.t 8) (.t 7)))]
def slices_IndexFunc__sKnown_Known.r3 : List Ent := [
  E0 0 (some 10) none (.i (.mv (.t 8))),
  E0 1 (some 5) none (.i (.mv (.t 10)))]
def slices_IndexFunc__sKnown_Known.r4 : List Ent := [
  E0 0 (some 11) none (.i (.mv (.t 1))),
  E0 1 (some 12) none (.i (.mv (.t 0))),
  E0 2 (some 13) none (.i (.mv (.t 5))),
  E0 3 (some 14) none (.i (.iad 2 (.t 12) (.t 13))),
  E0 4 (some 15) none (.i (.load false true 2 (.t 14))),
  E0 5 (some 16) none (.ccl (.t 11) false [.t 15])]
def slices_IndexFunc__sKnown_Known.r5 : List Ent := [
  E0 0 (some 17) none (.i (.mv (.t 5))),
  E0 1 (some 4) none (.i (.mv (.t 17)))]
def slices_IndexFunc__sKnown_Known.r6 : List Ent := [
  E0 0 (some 18) none (.i (.bin .add (.t 8) (.k (I64 1)))),
  E0 1 (some 8) none (.i (.mv (.t 18)))]
def slices_IndexFunc__sKnown_Known.b0 : KC := .seq (.reg 320 1 slices_IndexFunc__sKnown_Known.r2) (.seq (.cond (.t 9) (.skip) (.exit 0)) (.seq (.block 1 (.seq (.reg 384 2 slices_IndexFunc__sKnown_Known.r3) (.seq (.reg 512 6 slices_IndexFunc__sKnown_Known.r4) (.cond (.t 16) (.seq (.reg 896 2 slices_IndexFunc__sKnown_Known.r5) (.ret)) (.skip))))) (.reg 1024 2 slices_IndexFunc__sKnown_Known.r6)))
def slices_IndexFunc__sKnown_Known.r7 : List Ent := [
  E0 0 (some 4) none (.i (.mv (.k (I64 (-1)))))]
def slices_IndexFunc__sKnown_Known.fi : FI := { res := [.t 4], code := .seq (.reg 64 1 slices_IndexFunc__sKnown_Known.r0) (.seq (.seq (.reg 128 3 slices_IndexFunc__sKnown_Known.r1) (.block 0 (.loop slices_IndexFunc__sKnown_Known.b0))) (.seq (.reg 1152 1 slices_IndexFunc__sKnown_Known.r7) (.ret))) }
attribute [go_sem] slices_IndexFunc__sKnown_Known.r0 slices_IndexFunc__sKnown_Known.r1 slices_IndexFunc__sKnown_Known.r2 slices_IndexFunc__sKnown_Known.r3 slices_IndexFunc__sKnown_Known.r4 slices_IndexFunc__sKnown_Known.r5 slices_IndexFunc__sKnown_Known.r6 slices_IndexFunc__sKnown_Known.r7
theorem slices_IndexFunc__sKnown_Known.ok : chkF prog F_slices_IndexFunc__sKnown_Known 2 slices_IndexFunc__sKnown_Known.fi = true := by kernel_rfl

/-! slices_ContainsFunc__sKnown_Known -/
def slices_ContainsFunc__sKnown_Known.r0 : List Ent := [
  E0 0 (some 4) none (.i (.mv (.k (.dat none (.bool false)))))]
def slices_ContainsFunc__sKnown_Known.r1 : List Ent := [
  E0 0 (some 5) none (.i (.mv (.t 0))),
  E0 1 (some 6) none (.i (.mv (.t 1))),
  E0 2 (some 7) none (.call F_slices_IndexFunc__sKnown_Known false (roA [.t 5, .t 6])),
  E0 3 (some 8) none (.i (.bin .geq (.t 7) (.k (I64 0)))),
  E0 4 (some 4) none (.i (.mv (.t 8)))]
def slices_ContainsFunc__sKnown_Known.fi : FI := { res := [.t 4], code := .seq (.reg 64 1 slices_ContainsFunc__sKnown_Known.r0) (.seq (.reg 128 5 slices_ContainsFunc__sKnown_Known.r1) (.ret)) }
attribute [go_sem] slices_ContainsFunc__sKnown_Known.r0 slices_ContainsFunc__sKnown_Known.r1
theorem slices_ContainsFunc__sKnown_Known.ok : chkF prog F_slices_ContainsFunc__sKnown_Known 2 slices_ContainsFunc__sKnown_Known.fi = true := by kernel_rfl

/-! impl_GoodKnown -/
def impl_GoodKnown.r0 : List Ent := [
  E0 0 (some 1) none (.i (.box (.t 0))),
  E0 1 (some 2) none (.i (.mv (.k (.dat none (.bool false)))))]
def impl_GoodKnown.r1 : List Ent := [
  E0 0 (some 3) none (.i (.fad 0 (.t 1))),
  E0 1 (some 4) none (.i (.load false false 1 (.t 3))),
  E0 2 (some 5) none (.call F_impl_isWord false (roA [.t 4])),
  E0 3 (some 6) none (.i (.mv (.t 5))),
  E0 4 (some 7) (some (6, true)) (.i (.fad 1 (.t 1))),
  E0 5 (some 8) (some (6, true)) (.i (.load false false 1 (.t 7))),
  E0 6 (some 9) (some (6, true)) (.call F_impl_isWord false (roA [.t 8])),
  E0 7 (some 10) none (.i (.pick (.t 6) (.t 9) (.k (.dat none (.bool false))))),
  E0 8 (some 11) none (.i (.mv (.t 10))),
  E0 9 (some 12) (some (11, true)) (.i (.fad 0 (.t 1))),
  E0 10 (some 13) (some (11, true)) (.i (.load false false 1 (.t 12))),
  E0 11 (some 14) (some (11, true)) (.i (.fad 1 (.t 1))),
  E0 12 (some 15) (some (11, true)) (.i (.load false false 1 (.t 14))),
  E0 13 (some 16) (some (11, true)) (.i (.bin .and (.t 13) (.t 15))),
  E0 14 (some 17) (some (11, true)) (.i (.bin .eql (.t 16) (.k (I64 0)))),
  E0 15 (some 18) none (.i (.pick (.t 11) (.t 17) (.k (.dat none (.bool false))))),
  E0 16 (some 2) none (.i (.mv (.t 18)))]
def impl_GoodKnown.fi : FI := { res := [.t 2], code := .seq (.reg 64 2 impl_GoodKnown.r0) (.seq (.reg 192 17 impl_GoodKnown.r1) (.ret)) }
attribute [go_sem] impl_GoodKnown.r0 impl_GoodKnown.r1
theorem impl_GoodKnown.ok : chkF prog F_impl_GoodKnown 1 impl_GoodKnown.fi = true := by kernel_rfl

/-! impl_GoodMay_c2 -/
def impl_GoodMay_c2.r0 : List Ent := [
  E0 0 (some 1) none (.i (.box (.t 0))),
  E0 1 (some 2) none (.i (.mv (.k (.dat none (.bool false)))))]
def impl_GoodMay_c2.r1 : List Ent := [
  E0 0 (some 3) none (.i (.load false true 2 (.t 1))),
  E0 1 (some 4) none (.call F_impl_GoodKnown false (roA [.t 3])),
  E0 2 (some 5) none (.i (.un .not (.t 4))),
  E0 3 (some 2) none (.i (.mv (.t 5)))]
def impl_GoodMay_c2.fi : FI := { res := [.t 2], code := .seq (.reg 64 2 impl_GoodMay_c2.r0) (.seq (.reg 192 4 impl_GoodMay_c2.r1) (.ret)) }
attribute [go_sem] impl_GoodMay_c2.r0 impl_GoodMay_c2.r1
theorem impl_GoodMay_c2.ok : chkF prog F_impl_GoodMay_c2 1 impl_GoodMay_c2.fi = true := by kernel_rfl

/-! impl_GoodMay -/
def impl_GoodMay.r0 : List Ent := [
  E0 0 (some 1) none (.i (.box (.t 0))),
  E0 1 (some 2) none (.i (.mv (.k (.dat none (.bool false)))))]
def impl_GoodMay.r1 : List Ent := [
  E0 0 (some 4) none (.i (.fad 0 (.t 1))),
  E0 1 (some 5) none (.i (.load false false 1 (.t 4))),
  E0 2 (some 6) none (.i (.len (.t 5))),
  E0 3 (some 7) none (.i (.bin .neq (.t 6) (.k (I64 6)))),
  E0 4 (some 8) none (.i (.mv (.t 7))),
  E0 5 (some 9) (some (8, false)) (.i (.fad 1 (.t 1))),
  E0 6 (some 10) (some (8, false)) (.i (.load false false 1 (.t 9))),
  E0 7 (some 11) (some (8, false)) (.i (.len (.t 10))),
  E0 8 (some 12) (some (8, false)) (.i (.bin .neq (.t 11) (.k (I64 6)))),
  E0 9 (some 13) none (.i (.pick (.t 8) (.k (.dat none (.bool true))) (.t 12))),
  E0 10 (some 14) none (.i (.mv (.t 13))),
  E0 11 (some 15) (some (14, false)) (.i (.fad 2 (.t 1))),
  E0 12 (some 16) (some (14, false)) (.i (.load false false 1 (.t 15))),
  E0 13 (some 17) (some (14, false)) (.i (.len (.t 16))),
  E0 14 (some 18) (some (14, false)) (.i (.bin .neq (.t 17) (.k (I64 16)))),
  E0 15 (some 19) none (.i (.pick (.t 14) (.k (.dat none (.bool true))) (.t 18))),
  E0 16 (some 20) none (.i (.mv (.t 19))),
  E0 17 (some 21) (some (20, false)) (.i (.fad 3 (.t 1))),
  E0 18 (some 22) (some (20, false)) (.i (.load false false 1 (.t 21))),
  E0 19 (some 23) (some (20, false)) (.i (.len (.t 22))),
  E0 20 (some 24) (some (20, false)) (.i (.bin .neq (.t 23) (.k (I64 16)))),
  E0 21 (some 25) none (.i (.pick (.t 20) (.k (.dat none (.bool true))) (.t 24)))]
def impl_GoodMay.r2 : List Ent := [
  E0 0 (some 2) none (.i (.mv (.k (.dat none (.bool false)))))]
def impl_GoodMay.r3 : List Ent := [
  E0 0 (some 3) none (.i (.mv (.k (.clo F_impl_GoodMay_c1 []))))]
def impl_GoodMay.r4 : List Ent := [
  E0 0 (some 26) none (.i (.fad 0 (.t 1))),
  E0 1 (some 27) none (.i (.load false false 1 (.t 26))),
  E0 2 (some 28) none (.i (.mv (.t 3))),
  E0 3 (some 29) none (.call F_slices_ContainsFunc__sStretch_Stretch false (roA [.t 27, .t 28])),
  E0 4 (some 30) none (.i (.un .not (.t 29))),
  E0 5 (some 31) none (.i (.mv (.t 30))),
  E0 6 (some 32) (some (31, true)) (.i (.fad 2 (.t 1))),
  E0 7 (some 33) (some (31, true)) (.i (.load false false 1 (.t 32))),
  E0 8 (some 34) (some (31, true)) (.i (.mv (.t 3))),
  E0 9 (some 35) (some (31, true)) (.call F_slices_ContainsFunc__sStretch_Stretch false (roA [.t 33, .t 34])),
  E0 10 (some 36) (some (31, true)) (.i (.un .not (.t 35))),
  E0 11 (some 37) none (.i (.pick (.t 31) (.t 36) (.k (.dat none (.bool false))))),
  E0 12 (some 38) none (.i (.mv (.t 37))),
  E0 13 (some 39) (some (38, true)) (.i (.fad 1 (.t 1))),
  E0 14 (some 40) (some (38, true)) (.i (.load false false 1 (.t 39))),
  E0 15 (some 41) (some (38, true)) (.call F_slices_ContainsFunc__sKnown_Known false (roA [.t 40, .k (.clo F_impl_GoodMay_c2 [])])),
  E0 16 (some 42) (some (38, true)) (.i (.un .not (.t 41))),
  E0 17 (some 43) none (.i (.pick (.t 38) (.t 42) (.k (.dat none (.bool false))))),
  E0 18 (some 2) none (.i (.mv (.t 43)))]
def impl_GoodMay.fi : FI := { res := [.t 2], code := .seq (.reg 64 2 impl_GoodMay.r0) (.seq (.seq (.reg 192 22 impl_GoodMay.r1) (.cond (.t 25) (.seq (.reg 1600 1 impl_GoodMay.r2) (.ret)) (.skip))) (.seq (.reg 1664 1 impl_GoodMay.r3) (.seq (.reg 1728 19 impl_GoodMay.r4) (.ret)))) }
attribute [go_sem] impl_GoodMay.r0 impl_GoodMay.r1 impl_GoodMay.r2 impl_GoodMay.r3 impl_GoodMay.r4
theorem impl_GoodMay.ok : chkF prog F_impl_GoodMay 1 impl_GoodMay.fi = true := by kernel_rfl

/-! laws_eqStretch -/
def laws_eqStretch.r0 : List Ent := [
  E0 0 (some 2) none (.i (.box (.t 0))),
  E0 1 (some 3) none (.i (.box (.t 1))),
  E0 2 (some 4) none (.i (.mv (.k (.dat none (.bool false)))))]
def laws_eqStretch.r1 : List Ent := [
  E0 0 (some 5) none (.i (.fad 0 (.t 2))),
  E0 1 (some 6) none (.i (.load false false 1 (.t 5))),
  E0 2 (some 7) none (.i (.fad 0 (.t 3))),
  E0 3 (some 8) none (.i (.load false false 1 (.t 7))),
  E0 4 (some 9) none (.i (.bin .neq (.t 6) (.t 8)))]
def laws_eqStretch.r2 : List Ent := [
  E0 0 (some 4) none (.i (.mv (.k (.dat none (.bool false)))))]
def laws_eqStretch.r3 : List Ent := [
  E0 0 (some 10) none (.i (.fad 1 (.t 2))),
  E0 1 (some 11) none (.i (.load false false 1 (.t 10))),
  E0 2 (some 12) none (.i (.fad 1 (.t 3))),
  E0 3 (some 13) none (.i (.load false false 1 (.t 12))),
  E0 4 (some 14) none (.i (.bin .neq (.t 11) (.t 13)))]
def laws_eqStretch.r4 : List Ent := [
  E0 0 (some 4) none (.i (.mv (.k (.dat none (.bool false)))))]
def laws_eqStretch.r5 : List Ent := [
  E0 0 (some 4) none (.i (.mv (.k (.dat none (.bool true)))))]
def laws_eqStretch.fi : FI := { res := [.t 4], code := .seq (.reg 64 3 laws_eqStretch.r0) (.seq (.seq (.reg 256 5 laws_eqStretch.r1) (.cond (.t 9) (.seq (.reg 576 1 laws_eqStretch.r2) (.ret)) (.skip))) (.seq (.seq (.reg 640 5 laws_eqStretch.r3) (.cond (.t 14) (.seq (.reg 960 1 laws_eqStretch.r4) (.ret)) (.skip))) (.seq (.reg 1024 1 laws_eqStretch.r5) (.ret)))) }
attribute [go_sem] laws_eqStretch.r0 laws_eqStretch.r1 laws_eqStretch.r2 laws_eqStretch.r3 laws_eqStretch.r4 laws_eqStretch.r5
theorem laws_eqStretch.ok : chkF prog F_laws_eqStretch 2 laws_eqStretch.fi = true := by kernel_rfl

/-! laws_eqStretchS -/
def laws_eqStretchS.r0 : List Ent := [
  E0 0 (some 4) none (.i (.mv (.k (.dat none (.bool false)))))]
def laws_eqStretchS.r1 : List Ent := [
  E0 0 (some 6) none (.i (.mv (.t 0))),
  E0 1 (some 7) none (.i (.len (.t 6))),
  E0 2 (some 8) none (.i (.mv (.t 1))),
  E0 3 (some 9) none (.i (.len (.t 8))),
  E0 4 (some 10) none (.i (.bin .neq (.t 7) (.t 9)))]
def laws_eqStretchS.r2 : List Ent := [
  E0 0 (some 4) none (.i (.mv (.k (.dat none (.bool false)))))]
def laws_eqStretchS.r3 : List Ent := [
  E0 0 (some 5) none (.i (.mv (.k (I64 0))))]
def laws_eqStretchS.r4 : List Ent := [
  E0 0 (some 11) none (.i (.mv (.t 5))),
  E0 1 (some 12) none (.i (.mv (.t 0))),
  E0 2 (some 13) none (.i (.len (.t 12))),
  E0 3 (some 14) none (.i (.bin .lss (.t 11) (.t 13)))]
def laws_eqStretchS.r5 : List Ent := [
  E0 0 (some 17) none (.i (.mv (.t 0))),
  E0 1 (some 18) none (.i (.mv (.t 5))),
  ER 2 (some 19) none (.iad 2 (.t 17) (.t 18)),
  ER 3 (some 20) none (.load false true 2 (.t 19)),
  E0 4 (some 21) none (.i (.mv (.t 1))),
  E0 5 (some 22) none (.i (.mv (.t 5))),
  ER 6 (some 23) none (.iad 2 (.t 21) (.t 22)),
  ER 7 (some 24) none (.load false true 2 (.t 23)),
  E0 8 (some 25) none (.call F_laws_eqStretch false (roA [.t 20, .t 24])),
  E0 9 (some 26) none (.i (.un .not (.t 25)))]
def laws_eqStretchS.r6 : List Ent := [
  E0 0 (some 4) none (.i (.mv (.k (.dat none (.bool false)))))]
def laws_eqStretchS.r7 : List Ent := [
  E0 0 (some 15) none (.i (.mv (.t 5))),
  E0 1 (some 16) none (.i (.bin .add (.t 15) (.k (I64 1)))),
  E0 2 (some 5) none (.i (.mv (.t 16)))]
def laws_eqStretchS.b0 : KC := .seq (.seq (.reg 576 4 laws_eqStretchS.r4) (.cond (.t 14) (.skip) (.exit 0))) (.seq (.block 1 (.seq (.reg 832 10 laws_eqStretchS.r5) (.cond (.t 26) (.seq (.reg 1472 1 laws_eqStretchS.r6) (.ret)) (.skip)))) (.reg 1536 3 laws_eqStretchS.r7))
def laws_eqStretchS.r8 : List Ent := [
  E0 0 (some 4) none (.i (.mv (.k (.dat none (.bool true)))))]
def laws_eqStretchS.fi : FI := { res := [.t 4], code := .seq (.reg 64 1 laws_eqStretchS.r0) (.seq (.seq (.reg 128 5 laws_eqStretchS.r1) (.cond (.t 10) (.seq (.reg 448 1 laws_eqStretchS.r2) (.ret)) (.skip))) (.seq (.seq (.reg 512 1 laws_eqStretchS.r3) (.block 0 (.loop laws_eqStretchS.b0))) (.seq (.reg 1728 1 laws_eqStretchS.r8) (.ret)))) }
attribute [go_sem] laws_eqStretchS.r0 laws_eqStretchS.r1 laws_eqStretchS.r2 laws_eqStretchS.r3 laws_eqStretchS.r4 laws_eqStretchS.r5 laws_eqStretchS.r6 laws_eqStretchS.r7 laws_eqStretchS.r8
theorem laws_eqStretchS.ok : chkF prog F_laws_eqStretchS 2 laws_eqStretchS.fi = true := by kernel_rfl

/-! laws_eqKnown -/
def laws_eqKnown.r0 : List Ent := [
  E0 0 (some 2) none (.i (.box (.t 0))),
  E0 1 (some 3) none (.i (.box (.t 1))),
  E0 2 (some 4) none (.i (.mv (.k (.dat none (.bool false)))))]
def laws_eqKnown.r1 : List Ent := [
  E0 0 (some 5) none (.i (.fad 0 (.t 2))),
  E0 1 (some 6) none (.i (.load false false 1 (.t 5))),
  E0 2 (some 7) none (.i (.fad 0 (.t 3))),
  E0 3 (some 8) none (.i (.load false false 1 (.t 7))),
  E0 4 (some 9) none (.i (.bin .neq (.t 6) (.t 8)))]
def laws_eqKnown.r2 : List Ent := [
  E0 0 (some 4) none (.i (.mv (.k (.dat none (.bool false)))))]
def laws_eqKnown.r3 : List Ent := [
  E0 0 (some 10) none (.i (.fad 1 (.t 2))),
  E0 1 (some 11) none (.i (.load false false 1 (.t 10))),
  E0 2 (some 12) none (.i (.fad 1 (.t 3))),
  E0 3 (some 13) none (.i (.load false false 1 (.t 12))),
  E0 4 (some 14) none (.i (.bin .neq (.t 11) (.t 13)))]
def laws_eqKnown.r4 : List Ent := [
  E0 0 (some 4) none (.i (.mv (.k (.dat none (.bool false)))))]
def laws_eqKnown.r5 : List Ent := [
  E0 0 (some 4) none (.i (.mv (.k (.dat none (.bool true)))))]
def laws_eqKnown.fi : FI := { res := [.t 4], code := .seq (.reg 64 3 laws_eqKnown.r0) (.seq (.seq (.reg 256 5 laws_eqKnown.r1) (.cond (.t 9) (.seq (.reg 576 1 laws_eqKnown.r2) (.ret)) (.skip))) (.seq (.seq (.reg 640 5 laws_eqKnown.r3) (.cond (.t 14) (.seq (.reg 960 1 laws_eqKnown.r4) (.ret)) (.skip))) (.seq (.reg 1024 1 laws_eqKnown.r5) (.ret)))) }
attribute [go_sem] laws_eqKnown.r0 laws_eqKnown.r1 laws_eqKnown.r2 laws_eqKnown.r3 laws_eqKnown.r4 laws_eqKnown.r5
theorem laws_eqKnown.ok : chkF prog F_laws_eqKnown 2 laws_eqKnown.fi = true := by kernel_rfl

/-! laws_eqKnownS -/
def laws_eqKnownS.r0 : List Ent := [
  E0 0 (some 4) none (.i (.mv (.k (.dat none (.bool false)))))]
def laws_eqKnownS.r1 : List Ent := [
  E0 0 (some 6) none (.i (.mv (.t 0))),
  E0 1 (some 7) none (.i (.len (.t 6))),
  E0 2 (some 8) none (.i (.mv (.t 1))),
  E0 3 (some 9) none (.i (.len (.t 8))),
  E0 4 (some 10) none (.i (.bin .neq (.t 7) (.t 9)))]
def laws_eqKnownS.r2 : List Ent := [
  E0 0 (some 4) none (.i (.mv (.k (.dat none (.bool false)))))]
def laws_eqKnownS.r3 : List Ent := [
  E0 0 (some 5) none (.i (.mv (.k (I64 0))))]
def laws_eqKnownS.r4 : List Ent := [
  E0 0 (some 11) none (.i (.mv (.t 5))),
  E0 1 (some 12) none (.i (.mv (.t 0))),
  E0 2 (some 13) none (.i (.len (.t 12))),
  E0 3 (some 14) none (.i (.bin .lss (.t 11) (.t 13)))]
def laws_eqKnownS.r5 : List Ent := [
  E0 0 (some 17) none (.i (.mv (.t 0))),
  E0 1 (some 18) none (.i (.mv (.t 5))),
  ER 2 (some 19) none (.iad 2 (.t 17) (.t 18)),
  ER 3 (some 20) none (.load false true 2 (.t 19)),
  E0 4 (some 21) none (.i (.mv (.t 1))),
  E0 5 (some 22) none (.i (.mv (.t 5))),
  ER 6 (some 23) none (.iad 2 (.t 21) (.t 22)),
  ER 7 (some 24) none (.load false true 2 (.t 23)),
  E0 8 (some 25) none (.call F_laws_eqKnown false (roA [.t 20, .t 24])),
  E0 9 (some 26) none (.i (.un .not (.t 25)))]
def laws_eqKnownS.r6 : List Ent := [
  E0 0 (some 4) none (.i (.mv (.k (.dat none (.bool false)))))]
def laws_eqKnownS.r7 : List Ent := [
  E0 0 (some 15) none (.i (.mv (.t 5))),
  E0 1 (some 16) none (.i (.bin .add (.t 15) (.k (I64 1)))),
  E0 2 (some 5) none (.i (.mv (.t 16)))]
def laws_eqKnownS.b0 : KC := .seq (.seq (.reg 576 4 laws_eqKnownS.r4) (.cond (.t 14) (.skip) (.exit 0))) (.seq (.block 1 (.seq (.reg 832 10 laws_eqKnownS.r5) (.cond (.t 26) (.seq (.reg 1472 1 laws_eqKnownS.r6) (.ret)) (.skip)))) (.reg 1536 3 laws_eqKnownS.r7))
def laws_eqKnownS.r8 : List Ent := [
  E0 0 (some 4) none (.i (.mv (.k (.dat none (.bool true)))))]
def laws_eqKnownS.fi : FI := { res := [.t 4], code := .seq (.reg 64 1 laws_eqKnownS.r0) (.seq (.seq (.reg 128 5 laws_eqKnownS.r1) (.cond (.t 10) (.seq (.reg 448 1 laws_eqKnownS.r2) (.ret)) (.skip))) (.seq (.seq (.reg 512 1 laws_eqKnownS.r3) (.block 0 (.loop laws_eqKnownS.b0))) (.seq (.reg 1728 1 laws_eqKnownS.r8) (.ret)))) }
attribute [go_sem] laws_eqKnownS.r0 laws_eqKnownS.r1 laws_eqKnownS.r2 laws_eqKnownS.r3 laws_eqKnownS.r4 laws_eqKnownS.r5 laws_eqKnownS.r6 laws_eqKnownS.r7 laws_eqKnownS.r8
theorem laws_eqKnownS.ok : chkF prog F_laws_eqKnownS 2 laws_eqKnownS.fi = true := by kernel_rfl

/-! laws_eqBoolS -/
def laws_eqBoolS.r0 : List Ent := [
  E0 0 (some 4) none (.i (.mv (.k (.dat none (.bool false)))))]
def laws_eqBoolS.r1 : List Ent := [
  E0 0 (some 6) none (.i (.mv (.t 0))),
  E0 1 (some 7) none (.i (.len (.t 6))),
  E0 2 (some 8) none (.i (.mv (.t 1))),
  E0 3 (some 9) none (.i (.len (.t 8))),
  E0 4 (some 10) none (.i (.bin .neq (.t 7) (.t 9)))]
def laws_eqBoolS.r2 : List Ent := [
  E0 0 (some 4) none (.i (.mv (.k (.dat none (.bool false)))))]
def laws_eqBoolS.r3 : List Ent := [
  E0 0 (some 5) none (.i (.mv (.k (I64 0))))]
def laws_eqBoolS.r4 : List Ent := [
  E0 0 (some 11) none (.i (.mv (.t 5))),
  E0 1 (some 12) none (.i (.mv (.t 0))),
  E0 2 (some 13) none (.i (.len (.t 12))),
  E0 3 (some 14) none (.i (.bin .lss (.t 11) (.t 13)))]
def laws_eqBoolS.r5 : List Ent := [
  E0 0 (some 17) none (.i (.mv (.t 0))),
  E0 1 (some 18) none (.i (.mv (.t 5))),
  ER 2 (some 19) none (.iad 1 (.t 17) (.t 18)),
  ER 3 (some 20) none (.load false false 1 (.t 19)),
  E0 4 (some 21) none (.i (.mv (.t 1))),
  E0 5 (some 22) none (.i (.mv (.t 5))),
  ER 6 (some 23) none (.iad 1 (.t 21) (.t 22)),
  ER 7 (some 24) none (.load false false 1 (.t 23)),
  E0 8 (some 25) none (.i (.eqb true (.t 20) (.t 24)))]
def laws_eqBoolS.r6 : List Ent := [
  E0 0 (some 4) none (.i (.mv (.k (.dat none (.bool false)))))]
def laws_eqBoolS.r7 : List Ent := [
  E0 0 (some 15) none (.i (.mv (.t 5))),
  E0 1 (some 16) none (.i (.bin .add (.t 15) (.k (I64 1)))),
  E0 2 (some 5) none (.i (.mv (.t 16)))]
def laws_eqBoolS.b0 : KC := .seq (.seq (.reg 576 4 laws_eqBoolS.r4) (.cond (.t 14) (.skip) (.exit 0))) (.seq (.block 1 (.seq (.reg 832 9 laws_eqBoolS.r5) (.cond (.t 25) (.seq (.reg 1408 1 laws_eqBoolS.r6) (.ret)) (.skip)))) (.reg 1472 3 laws_eqBoolS.r7))
def laws_eqBoolS.r8 : List Ent := [
  E0 0 (some 4) none (.i (.mv (.k (.dat none (.bool true)))))]
def laws_eqBoolS.fi : FI := { res := [.t 4], code := .seq (.reg 64 1 laws_eqBoolS.r0) (.seq (.seq (.reg 128 5 laws_eqBoolS.r1) (.cond (.t 10) (.seq (.reg 448 1 laws_eqBoolS.r2) (.ret)) (.skip))) (.seq (.seq (.reg 512 1 laws_eqBoolS.r3) (.block 0 (.loop laws_eqBoolS.b0))) (.seq (.reg 1664 1 laws_eqBoolS.r8) (.ret)))) }
attribute [go_sem] laws_eqBoolS.r0 laws_eqBoolS.r1 laws_eqBoolS.r2 laws_eqBoolS.r3 laws_eqBoolS.r4 laws_eqBoolS.r5 laws_eqBoolS.r6 laws_eqBoolS.r7 laws_eqBoolS.r8
theorem laws_eqBoolS.ok : chkF prog F_laws_eqBoolS 2 laws_eqBoolS.fi = true := by kernel_rfl

/-! laws_eqMay -/
def laws_eqMay.r0 : List Ent := [
  E0 0 (some 2) none (.i (.box (.t 0))),
  E0 1 (some 3) none (.i (.box (.t 1))),
  E0 2 (some 4) none (.i (.mv (.k (.dat none (.bool false)))))]
def laws_eqMay.r1 : List Ent := [
  E0 0 (some 5) none (.i (.fad 0 (.t 2))),
  E0 1 (some 6) none (.i (.load false false 1 (.t 5))),
  E0 2 (some 7) none (.i (.fad 0 (.t 3))),
  E0 3 (some 8) none (.i (.load false false 1 (.t 7))),
  E0 4 (some 9) none (.call F_laws_eqStretchS false (roA [.t 6, .t 8])),
  E0 5 (some 10) none (.i (.un .not (.t 9)))]
def laws_eqMay.r2 : List Ent := [
  E0 0 (some 4) none (.i (.mv (.k (.dat none (.bool false)))))]
def laws_eqMay.r3 : List Ent := [
  E0 0 (some 11) none (.i (.fad 1 (.t 2))),
  E0 1 (some 12) none (.i (.load false false 1 (.t 11))),
  E0 2 (some 13) none (.i (.fad 1 (.t 3))),
  E0 3 (some 14) none (.i (.load false false 1 (.t 13))),
  E0 4 (some 15) none (.call F_laws_eqKnownS false (roA [.t 12, .t 14])),
  E0 5 (some 16) none (.i (.un .not (.t 15)))]
def laws_eqMay.r4 : List Ent := [
  E0 0 (some 4) none (.i (.mv (.k (.dat none (.bool false)))))]
def laws_eqMay.r5 : List Ent := [
  E0 0 (some 17) none (.i (.fad 2 (.t 2))),
  E0 1 (some 18) none (.i (.load false false 1 (.t 17))),
  E0 2 (some 19) none (.i (.fad 2 (.t 3))),
  E0 3 (some 20) none (.i (.load false false 1 (.t 19))),
  E0 4 (some 21) none (.call F_laws_eqStretchS false (roA [.t 18, .t 20])),
  E0 5 (some 22) none (.i (.un .not (.t 21)))]
def laws_eqMay.r6 : List Ent := [
  E0 0 (some 4) none (.i (.mv (.k (.dat none (.bool false)))))]
def laws_eqMay.r7 : List Ent := [
  E0 0 (some 23) none (.i (.fad 3 (.t 2))),
  E0 1 (some 24) none (.i (.load false false 1 (.t 23))),
  E0 2 (some 25) none (.i (.fad 3 (.t 3))),
  E0 3 (some 26) none (.i (.load false false 1 (.t 25))),
  E0 4 (some 27) none (.call F_laws_eqBoolS false (roA [.t 24, .t 26])),
  E0 5 (some 28) none (.i (.un .not (.t 27)))]
def laws_eqMay.r8 : List Ent := [
  E0 0 (some 4) none (.i (.mv (.k (.dat none (.bool false)))))]
def laws_eqMay.r9 : List Ent := [
  E0 0 (some 4) none (.i (.mv (.k (.dat none (.bool true)))))]
def laws_eqMay.fi : FI := { res := [.t 4], code := .seq (.reg 64 3 laws_eqMay.r0) (.seq (.seq (.reg 256 6 laws_eqMay.r1) (.cond (.t 10) (.seq (.reg 640 1 laws_eqMay.r2) (.ret)) (.skip))) (.seq (.seq (.reg 704 6 laws_eqMay.r3) (.cond (.t 16) (.seq (.reg 1088 1 laws_eqMay.r4) (.ret)) (.skip))) (.seq (.seq (.reg 1152 6 laws_eqMay.r5) (.cond (.t 22) (.seq (.reg 1536 1 laws_eqMay.r6) (.ret)) (.skip))) (.seq (.seq (.reg 1600 6 laws_eqMay.r7) (.cond (.t 28) (.seq (.reg 1984 1 laws_eqMay.r8) (.ret)) (.skip))) (.seq (.reg 2048 1 laws_eqMay.r9) (.ret)))))) }
attribute [go_sem] laws_eqMay.r0 laws_eqMay.r1 laws_eqMay.r2 laws_eqMay.r3 laws_eqMay.r4 laws_eqMay.r5 laws_eqMay.r6 laws_eqMay.r7 laws_eqMay.r8 laws_eqMay.r9
theorem laws_eqMay.ok : chkF prog F_laws_eqMay 2 laws_eqMay.fi = true := by kernel_rfl

/-! laws_markStretchS -/
def laws_markStretchS.r0 : List Ent := [
  E0 0 (some 4) none (.i (.mv (.k (I64 0))))]
def laws_markStretchS.r1 : List Ent := [
  E0 0 (some 5) none (.i (.mv (.k (I64 0))))]
def laws_markStretchS.r2 : List Ent := [
  E0 0 (some 6) none (.i (.mv (.t 5))),
  E0 1 (some 7) none (.i (.mv (.t 0))),
  E0 2 (some 8) none (.i (.len (.t 7))),
  E0 3 (some 9) none (.i (.bin .lss (.t 6) (.t 8)))]
def laws_markStretchS.r3 : List Ent := [
  E0 0 (some 12) none (.i (.mv (.t 0))),
  E0 1 (some 13) none (.i (.mv (.t 5))),
  E0 2 (some 14) none (.i (.mv (.t 1))),
  E0 3 (some 15) none (.i (.iad 2 (.t 12) (.t 13))),
  E0 4 (some 16) none (.i (.fad 0 (.t 15))),
  E0 5 none none (.i (.store 1 (.t 16) (.t 14)))]
def laws_markStretchS.r4 : List Ent := [
  E0 0 (some 17) none (.i (.mv (.t 1))),
  E0 1 (some 18) none (.i (.bin .add (.t 17) (.k (I64 1)))),
  E0 2 (some 1) none (.i (.mv (.t 18)))]
def laws_markStretchS.r5 : List Ent := [
  E0 0 (some 19) none (.i (.mv (.t 0))),
  E0 1 (some 20) none (.i (.mv (.t 5))),
  E0 2 (some 21) none (.i (.mv (.t 1))),
  E0 3 (some 22) none (.i (.iad 2 (.t 19) (.t 20))),
  E0 4 (some 23) none (.i (.fad 1 (.t 22))),
  E0 5 none none (.i (.store 1 (.t 23) (.t 21)))]
def laws_markStretchS.r6 : List Ent := [
  E0 0 (some 24) none (.i (.mv (.t 1))),
  E0 1 (some 25) none (.i (.bin .add (.t 24) (.k (I64 1)))),
  E0 2 (some 1) none (.i (.mv (.t 25)))]
def laws_markStretchS.r7 : List Ent := [
  E0 0 (some 10) none (.i (.mv (.t 5))),
  E0 1 (some 11) none (.i (.bin .add (.t 10) (.k (I64 1)))),
  E0 2 (some 5) none (.i (.mv (.t 11)))]
def laws_markStretchS.b0 : KC := .seq (.seq (.reg 192 4 laws_markStretchS.r2) (.cond (.t 9) (.skip) (.exit 0))) (.seq (.block 1 (.seq (.reg 448 6 laws_markStretchS.r3) (.seq (.reg 832 3 laws_markStretchS.r4) (.seq (.reg 1024 6 laws_markStretchS.r5) (.reg 1408 3 laws_markStretchS.r6))))) (.reg 1600 3 laws_markStretchS.r7))
def laws_markStretchS.r8 : List Ent := [
  E0 0 (some 26) none (.i (.mv (.t 1))),
  E0 1 (some 4) none (.i (.mv (.t 26)))]
def laws_markStretchS.fi : FI := { res := [.t 4], code := .seq (.reg 64 1 laws_markStretchS.r0) (.seq (.seq (.reg 128 1 laws_markStretchS.r1) (.block 0 (.loop laws_markStretchS.b0))) (.seq (.reg 1792 2 laws_markStretchS.r8) (.ret))) }
attribute [go_sem] laws_markStretchS.r0 laws_markStretchS.r1 laws_markStretchS.r2 laws_markStretchS.r3 laws_markStretchS.r4 laws_markStretchS.r5 laws_markStretchS.r6 laws_markStretchS.r7 laws_markStretchS.r8
theorem laws_markStretchS.ok : chkF prog F_laws_markStretchS 2 laws_markStretchS.fi = true := by kernel_rfl

/-! laws_markKnownS -/
def laws_markKnownS.r0 : List Ent := [
  E0 0 (some 4) none (.i (.mv (.k (I64 0))))]
def laws_markKnownS.r1 : List Ent := [
  E0 0 (some 5) none (.i (.mv (.k (I64 0))))]
def laws_markKnownS.r2 : List Ent := [
  E0 0 (some 6) none (.i (.mv (.t 5))),
  E0 1 (some 7) none (.i (.mv (.t 0))),
  E0 2 (some 8) none (.i (.len (.t 7))),
  E0 3 (some 9) none (.i (.bin .lss (.t 6) (.t 8)))]
def laws_markKnownS.r3 : List Ent := [
  E0 0 (some 12) none (.i (.mv (.t 0))),
  E0 1 (some 13) none (.i (.mv (.t 5))),
  E0 2 (some 14) none (.i (.mv (.t 1))),
  E0 3 (some 15) none (.i (.iad 2 (.t 12) (.t 13))),
  E0 4 (some 16) none (.i (.fad 0 (.t 15))),
  E0 5 none none (.i (.store 1 (.t 16) (.t 14)))]
def laws_markKnownS.r4 : List Ent := [
  E0 0 (some 17) none (.i (.mv (.t 1))),
  E0 1 (some 18) none (.i (.bin .add (.t 17) (.k (I64 1)))),
  E0 2 (some 1) none (.i (.mv (.t 18)))]
def laws_markKnownS.r5 : List Ent := [
  E0 0 (some 19) none (.i (.mv (.t 0))),
  E0 1 (some 20) none (.i (.mv (.t 5))),
  E0 2 (some 21) none (.i (.mv (.t 1))),
  E0 3 (some 22) none (.i (.iad 2 (.t 19) (.t 20))),
  E0 4 (some 23) none (.i (.fad 1 (.t 22))),
  E0 5 none none (.i (.store 1 (.t 23) (.t 21)))]
def laws_markKnownS.r6 : List Ent := [
  E0 0 (some 24) none (.i (.mv (.t 1))),
  E0 1 (some 25) none (.i (.bin .add (.t 24) (.k (I64 1)))),
  E0 2 (some 1) none (.i (.mv (.t 25)))]
def laws_markKnownS.r7 : List Ent := [
  E0 0 (some 10) none (.i (.mv (.t 5))),
  E0 1 (some 11) none (.i (.bin .add (.t 10) (.k (I64 1)))),
  E0 2 (some 5) none (.i (.mv (.t 11)))]
def laws_markKnownS.b0 : KC := .seq (.seq (.reg 192 4 laws_markKnownS.r2) (.cond (.t 9) (.skip) (.exit 0))) (.seq (.block 1 (.seq (.reg 448 6 laws_markKnownS.r3) (.seq (.reg 832 3 laws_markKnownS.r4) (.seq (.reg 1024 6 laws_markKnownS.r5) (.reg 1408 3 laws_markKnownS.r6))))) (.reg 1600 3 laws_markKnownS.r7))
def laws_markKnownS.r8 : List Ent := [
  E0 0 (some 26) none (.i (.mv (.t 1))),
  E0 1 (some 4) none (.i (.mv (.t 26)))]
def laws_markKnownS.fi : FI := { res := [.t 4], code := .seq (.reg 64 1 laws_markKnownS.r0) (.seq (.seq (.reg 128 1 laws_markKnownS.r1) (.block 0 (.loop laws_markKnownS.b0))) (.seq (.reg 1792 2 laws_markKnownS.r8) (.ret))) }
attribute [go_sem] laws_markKnownS.r0 laws_markKnownS.r1 laws_markKnownS.r2 laws_markKnownS.r3 laws_markKnownS.r4 laws_markKnownS.r5 laws_markKnownS.r6 laws_markKnownS.r7 laws_markKnownS.r8
theorem laws_markKnownS.ok : chkF prog F_laws_markKnownS 2 laws_markKnownS.fi = true := by kernel_rfl

/-! laws_markBoolS -/
def laws_markBoolS.r0 : List Ent := [
  E0 0 (some 4) none (.i (.mv (.k (I64 0))))]
def laws_markBoolS.r1 : List Ent := [
  E0 0 (some 5) none (.i (.mv (.k (I64 0))))]
def laws_markBoolS.r2 : List Ent := [
  E0 0 (some 6) none (.i (.mv (.t 5))),
  E0 1 (some 7) none (.i (.mv (.t 0))),
  E0 2 (some 8) none (.i (.len (.t 7))),
  E0 3 (some 9) none (.i (.bin .lss (.t 6) (.t 8)))]
def laws_markBoolS.r3 : List Ent := [
  E0 0 (some 12) none (.i (.mv (.t 0))),
  E0 1 (some 13) none (.i (.mv (.t 5))),
  E0 2 (some 14) none (.i (.mv (.t 1))),
  E0 3 (some 15) none (.i (.bin .rem (.t 14) (.k (I64 3)))),
  E0 4 (some 16) none (.i (.bin .eql (.t 15) (.k (I64 0)))),
  E0 5 (some 17) none (.i (.iad 1 (.t 12) (.t 13))),
  E0 6 none none (.i (.store 1 (.t 17) (.t 16)))]
def laws_markBoolS.r4 : List Ent := [
  E0 0 (some 18) none (.i (.mv (.t 1))),
  E0 1 (some 19) none (.i (.bin .add (.t 18) (.k (I64 1)))),
  E0 2 (some 1) none (.i (.mv (.t 19)))]
def laws_markBoolS.r5 : List Ent := [
  E0 0 (some 10) none (.i (.mv (.t 5))),
  E0 1 (some 11) none (.i (.bin .add (.t 10) (.k (I64 1)))),
  E0 2 (some 5) none (.i (.mv (.t 11)))]
def laws_markBoolS.b0 : KC := .seq (.seq (.reg 192 4 laws_markBoolS.r2) (.cond (.t 9) (.skip) (.exit 0))) (.seq (.block 1 (.seq (.reg 448 7 laws_markBoolS.r3) (.reg 896 3 laws_markBoolS.r4))) (.reg 1088 3 laws_markBoolS.r5))
def laws_markBoolS.r6 : List Ent := [
  E0 0 (some 20) none (.i (.mv (.t 1))),
  E0 1 (some 4) none (.i (.mv (.t 20)))]
def laws_markBoolS.fi : FI := { res := [.t 4], code := .seq (.reg 64 1 laws_markBoolS.r0) (.seq (.seq (.reg 128 1 laws_markBoolS.r1) (.block 0 (.loop laws_markBoolS.b0))) (.seq (.reg 1280 2 laws_markBoolS.r6) (.ret))) }
attribute [go_sem] laws_markBoolS.r0 laws_markBoolS.r1 laws_markBoolS.r2 laws_markBoolS.r3 laws_markBoolS.r4 laws_markBoolS.r5 laws_markBoolS.r6
theorem laws_markBoolS.ok : chkF prog F_laws_markBoolS 2 laws_markBoolS.fi = true := by kernel_rfl

/-! laws_markMay -/
def laws_markMay.r0 : List Ent := [
  E0 0 (some 2) none (.i (.box (.t 0))),
  E0 1 (some 4) none (.i (.mv (.k (I64 0))))]
def laws_markMay.r1 : List Ent := [
  E0 0 (some 5) none (.i (.fad 0 (.t 2))),
  E0 1 (some 6) none (.i (.load false false 1 (.t 5))),
  E0 2 (some 7) none (.i (.mv (.t 1))),
  E0 3 (some 8) none (.call F_laws_markStretchS false [(.io, .t 6), (.ro, .t 7)]),
  E0 4 (some 1) none (.i (.mv (.t 8)))]
def laws_markMay.r2 : List Ent := [
  E0 0 (some 9) none (.i (.fad 1 (.t 2))),
  E0 1 (some 10) none (.i (.load false false 1 (.t 9))),
  E0 2 (some 11) none (.i (.mv (.t 1))),
  E0 3 (some 12) none (.call F_laws_markKnownS false [(.io, .t 10), (.ro, .t 11)]),
  E0 4 (some 1) none (.i (.mv (.t 12)))]
def laws_markMay.r3 : List Ent := [
  E0 0 (some 13) none (.i (.fad 2 (.t 2))),
  E0 1 (some 14) none (.i (.load false false 1 (.t 13))),
  E0 2 (some 15) none (.i (.mv (.t 1))),
  E0 3 (some 16) none (.call F_laws_markStretchS false [(.io, .t 14), (.ro, .t 15)]),
  E0 4 (some 1) none (.i (.mv (.t 16)))]
def laws_markMay.r4 : List Ent := [
  E0 0 (some 17) none (.i (.fad 3 (.t 2))),
  E0 1 (some 18) none (.i (.load false false 1 (.t 17))),
  E0 2 (some 19) none (.i (.mv (.t 1))),
  E0 3 (some 20) none (.call F_laws_markBoolS false [(.io, .t 18), (.ro, .t 19)]),
  E0 4 (some 1) none (.i (.mv (.t 20)))]
def laws_markMay.r5 : List Ent := [
  E0 0 (some 21) none (.i (.mv (.t 1))),
  E0 1 (some 4) none (.i (.mv (.t 21)))]
def laws_markMay.fi : FI := { res := [.t 4], code := .seq (.reg 64 2 laws_markMay.r0) (.seq (.reg 192 5 laws_markMay.r1) (.seq (.reg 512 5 laws_markMay.r2) (.seq (.reg 832 5 laws_markMay.r3) (.seq (.reg 1152 5 laws_markMay.r4) (.seq (.reg 1472 2 laws_markMay.r5) (.ret)))))) }
attribute [go_sem] laws_markMay.r0 laws_markMay.r1 laws_markMay.r2 laws_markMay.r3 laws_markMay.r4 laws_markMay.r5
theorem laws_markMay.ok : chkF prog F_laws_markMay 2 laws_markMay.fi = true := by kernel_rfl

/-! laws_heldStretchS -/
def laws_heldStretchS.r0 : List Ent := [
  E0 0 (some 4) none (.i (.mv (.k (I64 0))))]
def laws_heldStretchS.r1 : List Ent := [
  E0 0 (some 5) none (.i (.mv (.k (I64 0))))]
def laws_heldStretchS.r2 : List Ent := [
  E0 0 (some 6) none (.i (.mv (.t 5))),
  E0 1 (some 7) none (.i (.mv (.t 0))),
  E0 2 (some 8) none (.i (.len (.t 7))),
  E0 3 (some 9) none (.i (.bin .lss (.t 6) (.t 8)))]
def laws_heldStretchS.r3 : List Ent := [
  E0 0 (some 12) none (.i (.mv (.t 0))),
  E0 1 (some 13) none (.i (.mv (.t 5))),
  E0 2 (some 14) none (.i (.iad 2 (.t 12) (.t 13))),
  E0 3 (some 15) none (.i (.fad 0 (.t 14))),
  E0 4 (some 16) none (.i (.load false false 1 (.t 15))),
  E0 5 (some 17) none (.i (.mv (.t 1))),
  E0 6 (some 18) none (.i (.bin .neq (.t 16) (.t 17)))]
def laws_heldStretchS.r4 : List Ent := [
  E0 0 (some 4) none (.i (.mv (.k (I64 (-1)))))]
def laws_heldStretchS.r5 : List Ent := [
  E0 0 (some 19) none (.i (.mv (.t 1))),
  E0 1 (some 20) none (.i (.bin .add (.t 19) (.k (I64 1)))),
  E0 2 (some 1) none (.i (.mv (.t 20)))]
def laws_heldStretchS.r6 : List Ent := [
  E0 0 (some 21) none (.i (.mv (.t 0))),
  E0 1 (some 22) none (.i (.mv (.t 5))),
  E0 2 (some 23) none (.i (.iad 2 (.t 21) (.t 22))),
  E0 3 (some 24) none (.i (.fad 1 (.t 23))),
  E0 4 (some 25) none (.i (.load false false 1 (.t 24))),
  E0 5 (some 26) none (.i (.mv (.t 1))),
  E0 6 (some 27) none (.i (.bin .neq (.t 25) (.t 26)))]
def laws_heldStretchS.r7 : List Ent := [
  E0 0 (some 4) none (.i (.mv (.k (I64 (-1)))))]
def laws_heldStretchS.r8 : List Ent := [
  E0 0 (some 28) none (.i (.mv (.t 1))),
  E0 1 (some 29) none (.i (.bin .add (.t 28) (.k (I64 1)))),
  E0 2 (some 1) none (.i (.mv (.t 29)))]
def laws_heldStretchS.r9 : List Ent := [
  E0 0 (some 10) none (.i (.mv (.t 5))),
  E0 1 (some 11) none (.i (.bin .add (.t 10) (.k (I64 1)))),
  E0 2 (some 5) none (.i (.mv (.t 11)))]
def laws_heldStretchS.b0 : KC := .seq (.seq (.reg 192 4 laws_heldStretchS.r2) (.cond (.t 9) (.skip) (.exit 0))) (.seq (.block 1 (.seq (.seq (.reg 448 7 laws_heldStretchS.r3) (.cond (.t 18) (.seq (.reg 896 1 laws_heldStretchS.r4) (.ret)) (.skip))) (.seq (.reg 960 3 laws_heldStretchS.r5) (.seq (.seq (.reg 1152 7 laws_heldStretchS.r6) (.cond (.t 27) (.seq (.reg 1600 1 laws_heldStretchS.r7) (.ret)) (.skip))) (.reg 1664 3 laws_heldStretchS.r8))))) (.reg 1856 3 laws_heldStretchS.r9))
def laws_heldStretchS.r10 : List Ent := [
  E0 0 (some 30) none (.i (.mv (.t 1))),
  E0 1 (some 4) none (.i (.mv (.t 30)))]
def laws_heldStretchS.fi : FI := { res := [.t 4], code := .seq (.reg 64 1 laws_heldStretchS.r0) (.seq (.seq (.reg 128 1 laws_heldStretchS.r1) (.block 0 (.loop laws_heldStretchS.b0))) (.seq (.reg 2048 2 laws_heldStretchS.r10) (.ret))) }
attribute [go_sem] laws_heldStretchS.r0 laws_heldStretchS.r1 laws_heldStretchS.r2 laws_heldStretchS.r3 laws_heldStretchS.r4 laws_heldStretchS.r5 laws_heldStretchS.r6 laws_heldStretchS.r7 laws_heldStretchS.r8 laws_heldStretchS.r9 laws_heldStretchS.r10
theorem laws_heldStretchS.ok : chkF prog F_laws_heldStretchS 2 laws_heldStretchS.fi = true := by kernel_rfl

/-! laws_heldKnownS -/
def laws_heldKnownS.r0 : List Ent := [
  E0 0 (some 4) none (.i (.mv (.k (I64 0))))]
def laws_heldKnownS.r1 : List Ent := [
  E0 0 (some 5) none (.i (.mv (.k (I64 0))))]
def laws_heldKnownS.r2 : List Ent := [
  E0 0 (some 6) none (.i (.mv (.t 5))),
  E0 1 (some 7) none (.i (.mv (.t 0))),
  E0 2 (some 8) none (.i (.len (.t 7))),
  E0 3 (some 9) none (.i (.bin .lss (.t 6) (.t 8)))]
def laws_heldKnownS.r3 : List Ent := [
  E0 0 (some 12) none (.i (.mv (.t 0))),
  E0 1 (some 13) none (.i (.mv (.t 5))),
  E0 2 (some 14) none (.i (.iad 2 (.t 12) (.t 13))),
  E0 3 (some 15) none (.i (.fad 0 (.t 14))),
  E0 4 (some 16) none (.i (.load false false 1 (.t 15))),
  E0 5 (some 17) none (.i (.mv (.t 1))),
  E0 6 (some 18) none (.i (.bin .neq (.t 16) (.t 17)))]
def laws_heldKnownS.r4 : List Ent := [
  E0 0 (some 4) none (.i (.mv (.k (I64 (-1)))))]
def laws_heldKnownS.r5 : List Ent := [
  E0 0 (some 19) none (.i (.mv (.t 1))),
  E0 1 (some 20) none (.i (.bin .add (.t 19) (.k (I64 1)))),
  E0 2 (some 1) none (.i (.mv (.t 20)))]
def laws_heldKnownS.r6 : List Ent := [
  E0 0 (some 21) none (.i (.mv (.t 0))),
  E0 1 (some 22) none (.i (.mv (.t 5))),
  E0 2 (some 23) none (.i (.iad 2 (.t 21) (.t 22))),
  E0 3 (some 24) none (.i (.fad 1 (.t 23))),
  E0 4 (some 25) none (.i (.load false false 1 (.t 24))),
  E0 5 (some 26) none (.i (.mv (.t 1))),
  E0 6 (some 27) none (.i (.bin .neq (.t 25) (.t 26)))]
def laws_heldKnownS.r7 : List Ent := [
  E0 0 (some 4) none (.i (.mv (.k (I64 (-1)))))]
def laws_heldKnownS.r8 : List Ent := [
  E0 0 (some 28) none (.i (.mv (.t 1))),
  E0 1 (some 29) none (.i (.bin .add (.t 28) (.k (I64 1)))),
  E0 2 (some 1) none (.i (.mv (.t 29)))]
def laws_heldKnownS.r9 : List Ent := [
  E0 0 (some 10) none (.i (.mv (.t 5))),
  E0 1 (some 11) none (.i (.bin .add (.t 10) (.k (I64 1)))),
  E0 2 (some 5) none (.i (.mv (.t 11)))]
def laws_heldKnownS.b0 : KC := .seq (.seq (.reg 192 4 laws_heldKnownS.r2) (.cond (.t 9) (.skip) (.exit 0))) (.seq (.block 1 (.seq (.seq (.reg 448 7 laws_heldKnownS.r3) (.cond (.t 18) (.seq (.reg 896 1 laws_heldKnownS.r4) (.ret)) (.skip))) (.seq (.reg 960 3 laws_heldKnownS.r5) (.seq (.seq (.reg 1152 7 laws_heldKnownS.r6) (.cond (.t 27) (.seq (.reg 1600 1 laws_heldKnownS.r7) (.ret)) (.skip))) (.reg 1664 3 laws_heldKnownS.r8))))) (.reg 1856 3 laws_heldKnownS.r9))
def laws_heldKnownS.r10 : List Ent := [
  E0 0 (some 30) none (.i (.mv (.t 1))),
  E0 1 (some 4) none (.i (.mv (.t 30)))]
def laws_heldKnownS.fi : FI := { res := [.t 4], code := .seq (.reg 64 1 laws_heldKnownS.r0) (.seq (.seq (.reg 128 1 laws_heldKnownS.r1) (.block 0 (.loop laws_heldKnownS.b0))) (.seq (.reg 2048 2 laws_heldKnownS.r10) (.ret))) }
attribute [go_sem] laws_heldKnownS.r0 laws_heldKnownS.r1 laws_heldKnownS.r2 laws_heldKnownS.r3 laws_heldKnownS.r4 laws_heldKnownS.r5 laws_heldKnownS.r6 laws_heldKnownS.r7 laws_heldKnownS.r8 laws_heldKnownS.r9 laws_heldKnownS.r10
theorem laws_heldKnownS.ok : chkF prog F_laws_heldKnownS 2 laws_heldKnownS.fi = true := by kernel_rfl

/-! laws_heldBoolS -/
def laws_heldBoolS.r0 : List Ent := [
  E0 0 (some 4) none (.i (.mv (.k (I64 0))))]
def laws_heldBoolS.r1 : List Ent := [
  E0 0 (some 5) none (.i (.mv (.k (I64 0))))]
def laws_heldBoolS.r2 : List Ent := [
  E0 0 (some 6) none (.i (.mv (.t 5))),
  E0 1 (some 7) none (.i (.mv (.t 0))),
  E0 2 (some 8) none (.i (.len (.t 7))),
  E0 3 (some 9) none (.i (.bin .lss (.t 6) (.t 8)))]
def laws_heldBoolS.r3 : List Ent := [
  E0 0 (some 12) none (.i (.mv (.t 0))),
  E0 1 (some 13) none (.i (.mv (.t 5))),
  E0 2 (some 14) none (.i (.iad 1 (.t 12) (.t 13))),
  E0 3 (some 15) none (.i (.load false false 1 (.t 14))),
  E0 4 (some 16) none (.i (.mv (.t 1))),
  E0 5 (some 17) none (.i (.bin .rem (.t 16) (.k (I64 3)))),
  E0 6 (some 18) none (.i (.bin .eql (.t 17) (.k (I64 0)))),
  E0 7 (some 19) none (.i (.eqb true (.t 15) (.t 18)))]
def laws_heldBoolS.r4 : List Ent := [
  E0 0 (some 4) none (.i (.mv (.k (I64 (-1)))))]
def laws_heldBoolS.r5 : List Ent := [
  E0 0 (some 20) none (.i (.mv (.t 1))),
  E0 1 (some 21) none (.i (.bin .add (.t 20) (.k (I64 1)))),
  E0 2 (some 1) none (.i (.mv (.t 21)))]
def laws_heldBoolS.r6 : List Ent := [
  E0 0 (some 10) none (.i (.mv (.t 5))),
  E0 1 (some 11) none (.i (.bin .add (.t 10) (.k (I64 1)))),
  E0 2 (some 5) none (.i (.mv (.t 11)))]
def laws_heldBoolS.b0 : KC := .seq (.seq (.reg 192 4 laws_heldBoolS.r2) (.cond (.t 9) (.skip) (.exit 0))) (.seq (.block 1 (.seq (.seq (.reg 448 8 laws_heldBoolS.r3) (.cond (.t 19) (.seq (.reg 960 1 laws_heldBoolS.r4) (.ret)) (.skip))) (.reg 1024 3 laws_heldBoolS.r5))) (.reg 1216 3 laws_heldBoolS.r6))
def laws_heldBoolS.r7 : List Ent := [
  E0 0 (some 22) none (.i (.mv (.t 1))),
  E0 1 (some 4) none (.i (.mv (.t 22)))]
def laws_heldBoolS.fi : FI := { res := [.t 4], code := .seq (.reg 64 1 laws_heldBoolS.r0) (.seq (.seq (.reg 128 1 laws_heldBoolS.r1) (.block 0 (.loop laws_heldBoolS.b0))) (.seq (.reg 1408 2 laws_heldBoolS.r7) (.ret))) }
attribute [go_sem] laws_heldBoolS.r0 laws_heldBoolS.r1 laws_heldBoolS.r2 laws_heldBoolS.r3 laws_heldBoolS.r4 laws_heldBoolS.r5 laws_heldBoolS.r6 laws_heldBoolS.r7
theorem laws_heldBoolS.ok : chkF prog F_laws_heldBoolS 2 laws_heldBoolS.fi = true := by kernel_rfl

/-! laws_heldMay -/
def laws_heldMay.r0 : List Ent := [
  E0 0 (some 2) none (.i (.box (.t 0))),
  E0 1 (some 4) none (.i (.mv (.k (I64 0))))]
def laws_heldMay.r1 : List Ent := [
  E0 0 (some 5) none (.i (.fad 0 (.t 2))),
  E0 1 (some 6) none (.i (.load false false 1 (.t 5))),
  E0 2 (some 7) none (.i (.mv (.t 1))),
  E0 3 (some 8) none (.call F_laws_heldStretchS false (roA [.t 6, .t 7])),
  E0 4 (some 1) none (.i (.mv (.t 8)))]
def laws_heldMay.r2 : List Ent := [
  E0 0 (some 9) none (.i (.mv (.t 1))),
  E0 1 (some 10) none (.i (.bin .lss (.t 9) (.k (I64 0))))]
def laws_heldMay.r3 : List Ent := [
  E0 0 (some 4) none (.i (.mv (.k (I64 (-1)))))]
def laws_heldMay.r4 : List Ent := [
  E0 0 (some 11) none (.i (.fad 1 (.t 2))),
  E0 1 (some 12) none (.i (.load false false 1 (.t 11))),
  E0 2 (some 13) none (.i (.mv (.t 1))),
  E0 3 (some 14) none (.call F_laws_heldKnownS false (roA [.t 12, .t 13])),
  E0 4 (some 1) none (.i (.mv (.t 14)))]
def laws_heldMay.r5 : List Ent := [
  E0 0 (some 15) none (.i (.mv (.t 1))),
  E0 1 (some 16) none (.i (.bin .lss (.t 15) (.k (I64 0))))]
def laws_heldMay.r6 : List Ent := [
  E0 0 (some 4) none (.i (.mv (.k (I64 (-1)))))]
def laws_heldMay.r7 : List Ent := [
  E0 0 (some 17) none (.i (.fad 2 (.t 2))),
  E0 1 (some 18) none (.i (.load false false 1 (.t 17))),
  E0 2 (some 19) none (.i (.mv (.t 1))),
  E0 3 (some 20) none (.call F_laws_heldStretchS false (roA [.t 18, .t 19])),
  E0 4 (some 1) none (.i (.mv (.t 20)))]
def laws_heldMay.r8 : List Ent := [
  E0 0 (some 21) none (.i (.mv (.t 1))),
  E0 1 (some 22) none (.i (.bin .lss (.t 21) (.k (I64 0))))]
def laws_heldMay.r9 : List Ent := [
  E0 0 (some 4) none (.i (.mv (.k (I64 (-1)))))]
def laws_heldMay.r10 : List Ent := [
  E0 0 (some 23) none (.i (.fad 3 (.t 2))),
  E0 1 (some 24) none (.i (.load false false 1 (.t 23))),
  E0 2 (some 25) none (.i (.mv (.t 1))),
  E0 3 (some 26) none (.call F_laws_heldBoolS false (roA [.t 24, .t 25])),
  E0 4 (some 1) none (.i (.mv (.t 26)))]
def laws_heldMay.r11 : List Ent := [
  E0 0 (some 27) none (.i (.mv (.t 1))),
  E0 1 (some 28) none (.i (.bin .lss (.t 27) (.k (I64 0))))]
def laws_heldMay.r12 : List Ent := [
  E0 0 (some 4) none (.i (.mv (.k (I64 (-1)))))]
def laws_heldMay.r13 : List Ent := [
  E0 0 (some 29) none (.i (.mv (.t 1))),
  E0 1 (some 4) none (.i (.mv (.t 29)))]
def laws_heldMay.fi : FI := { res := [.t 4], code := .seq (.reg 64 2 laws_heldMay.r0) (.seq (.reg 192 5 laws_heldMay.r1) (.seq (.seq (.reg 512 2 laws_heldMay.r2) (.cond (.t 10) (.seq (.reg 640 1 laws_heldMay.r3) (.ret)) (.skip))) (.seq (.reg 704 5 laws_heldMay.r4) (.seq (.seq (.reg 1024 2 laws_heldMay.r5) (.cond (.t 16) (.seq (.reg 1152 1 laws_heldMay.r6) (.ret)) (.skip))) (.seq (.reg 1216 5 laws_heldMay.r7) (.seq (.seq (.reg 1536 2 laws_heldMay.r8) (.cond (.t 22) (.seq (.reg 1664 1 laws_heldMay.r9) (.ret)) (.skip))) (.seq (.reg 1728 5 laws_heldMay.r10) (.seq (.seq (.reg 2048 2 laws_heldMay.r11) (.cond (.t 28) (.seq (.reg 2176 1 laws_heldMay.r12) (.ret)) (.skip))) (.seq (.reg 2240 2 laws_heldMay.r13) (.ret)))))))))) }
attribute [go_sem] laws_heldMay.r0 laws_heldMay.r1 laws_heldMay.r2 laws_heldMay.r3 laws_heldMay.r4 laws_heldMay.r5 laws_heldMay.r6 laws_heldMay.r7 laws_heldMay.r8 laws_heldMay.r9 laws_heldMay.r10 laws_heldMay.r11 laws_heldMay.r12 laws_heldMay.r13
theorem laws_heldMay.ok : chkF prog F_laws_heldMay 2 laws_heldMay.fi = true := by kernel_rfl

/-! spec_l13Own -/
def spec_l13Own.r0 : List Ent := [
  E0 0 (some 1) none (.i (.box (.t 0))),
  E0 1 (some 2) none (.i (.box (.k (.agg [.nil 2, .nil 2, .nil 2, .nil 1]))))]
def spec_l13Own.r1 : List Ent := [
  EX 0 (some 3) none (.i (.bsl false 2 [])) 1 [4, 8, 12] [] false,
  EX 1 (some 4) none (.i (.fad 0 (.t 1))) 2 [0, 4, 8, 12] [] false,
  EX 2 (some 5) none (.i (.load false false 1 (.t 4))) 2 [0, 4, 8, 12] [] false,
  EX 3 (some 6) none (.i (.app 2 16 (.t 3) (.t 5))) 0 [4, 8, 12] [] true,
  EX 4 (some 7) none (.i (.bsl false 2 [])) 1 [0, 8, 12] [3] false,
  EX 5 (some 8) none (.i (.fad 1 (.t 1))) 2 [0, 4, 8, 12] [3] false,
  EX 6 (some 9) none (.i (.load false false 1 (.t 8))) 2 [0, 4, 8, 12] [3] false,
  EX 7 (some 10) none (.i (.app 2 16 (.t 7) (.t 9))) 0 [8, 12] [] true,
  EX 8 (some 11) none (.i (.bsl false 2 [])) 1 [0, 4, 12] [3, 7] false,
  EX 9 (some 12) none (.i (.fad 2 (.t 1))) 2 [0, 4, 8, 12] [3, 7] false,
  EX 10 (some 13) none (.i (.load false false 1 (.t 12))) 2 [0, 4, 8, 12] [3, 7] false,
  EX 11 (some 14) none (.i (.app 2 16 (.t 11) (.t 13))) 0 [12] [] true,
  EX 12 (some 15) none (.i (.bsl false 1 [])) 1 [0, 4, 8] [3, 7, 11] false,
  EX 13 (some 16) none (.i (.fad 3 (.t 1))) 2 [0, 4, 8, 12] [3, 7, 11] false,
  EX 14 (some 17) none (.i (.load false false 1 (.t 16))) 2 [0, 4, 8, 12] [3, 7, 11] false,
  E0 15 (some 18) none (.i (.app 1 1 (.t 15) (.t 17))),
  E0 16 (some 19) none (.i (.bld [.t 6, .t 10, .t 14, .t 18])),
  E0 17 none none (.i (.store 4 (.t 2) (.t 19)))]
def spec_l13Own.fi : FI := { res := [.c 2 true 4], code := .seq (.reg 64 2 spec_l13Own.r0) (.seq (.reg 192 18 spec_l13Own.r1) (.ret)) }
attribute [go_sem] spec_l13Own.r0 spec_l13Own.r1
theorem spec_l13Own.ok : chkF prog F_spec_l13Own 1 spec_l13Own.fi = true := by kernel_rfl

/-! spec_l1Most -/
def spec_l1Most.r0 : List Ent := [
  E0 0 (some 4) none (.i (.mv (.k (I64 0))))]
def spec_l1Most.r1 : List Ent := [
  E0 0 (some 5) none (.i (.mv (.t 0))),
  E0 1 (some 6) none (.i (.mv (.t 1))),
  E0 2 (some 7) none (.i (.bin .gtr (.t 5) (.t 6)))]
def spec_l1Most.r2 : List Ent := [
  E0 0 (some 8) none (.i (.mv (.t 0))),
  E0 1 (some 4) none (.i (.mv (.t 8)))]
def spec_l1Most.r3 : List Ent := [
  E0 0 (some 9) none (.i (.mv (.t 1))),
  E0 1 (some 4) none (.i (.mv (.t 9)))]
def spec_l1Most.fi : FI := { res := [.t 4], code := .seq (.reg 64 1 spec_l1Most.r0) (.seq (.seq (.reg 128 3 spec_l1Most.r1) (.cond (.t 7) (.seq (.reg 320 2 spec_l1Most.r2) (.ret)) (.skip))) (.seq (.reg 448 2 spec_l1Most.r3) (.ret))) }
attribute [go_sem] spec_l1Most.r0 spec_l1Most.r1 spec_l1Most.r2 spec_l1Most.r3
theorem spec_l1Most.ok : chkF prog F_spec_l1Most 2 spec_l1Most.fi = true := by kernel_rfl

/-! spec_l1Least -/
def spec_l1Least.r0 : List Ent := [
  E0 0 (some 4) none (.i (.mv (.k (I64 0))))]
def spec_l1Least.r1 : List Ent := [
  E0 0 (some 5) none (.i (.mv (.t 0))),
  E0 1 (some 6) none (.i (.mv (.t 1))),
  E0 2 (some 7) none (.i (.bin .lss (.t 5) (.t 6)))]
def spec_l1Least.r2 : List Ent := [
  E0 0 (some 8) none (.i (.mv (.t 0))),
  E0 1 (some 4) none (.i (.mv (.t 8)))]
def spec_l1Least.r3 : List Ent := [
  E0 0 (some 9) none (.i (.mv (.t 1))),
  E0 1 (some 4) none (.i (.mv (.t 9)))]
def spec_l1Least.fi : FI := { res := [.t 4], code := .seq (.reg 64 1 spec_l1Least.r0) (.seq (.seq (.reg 128 3 spec_l1Least.r1) (.cond (.t 7) (.seq (.reg 320 2 spec_l1Least.r2) (.ret)) (.skip))) (.seq (.reg 448 2 spec_l1Least.r3) (.ret))) }
attribute [go_sem] spec_l1Least.r0 spec_l1Least.r1 spec_l1Least.r2 spec_l1Least.r3
theorem spec_l1Least.ok : chkF prog F_spec_l1Least 2 spec_l1Least.fi = true := by kernel_rfl

/-! spec_l9Join -/
def spec_l9Join.r0 : List Ent := [
  E0 0 (some 2) none (.i (.box (.t 0))),
  E0 1 (some 3) none (.i (.box (.t 1))),
  E0 2 (some 4) none (.i (.box (.k (.agg [.dat none (.int .i64 0), .dat none (.int .i64 0)]))))]
def spec_l9Join.r1 : List Ent := [
  ER 0 (some 5) none (.fad 0 (.t 2)),
  ER 1 (some 6) none (.load false false 1 (.t 5)),
  ER 2 (some 7) none (.fad 0 (.t 3)),
  ER 3 (some 8) none (.load false false 1 (.t 7)),
  E2 4 (some 9) none (.call F_spec_l1Least false (roA [.t 6, .t 8])),
  ER 5 (some 10) none (.fad 1 (.t 2)),
  ER 6 (some 11) none (.load false false 1 (.t 10)),
  ER 7 (some 12) none (.fad 1 (.t 3)),
  ER 8 (some 13) none (.load false false 1 (.t 12)),
  E0 9 (some 14) none (.call F_spec_l1Most false (roA [.t 11, .t 13])),
  E0 10 (some 15) none (.i (.bld [.t 9, .t 14])),
  E0 11 none none (.i (.store 2 (.t 4) (.t 15)))]
def spec_l9Join.fi : FI := { res := [.c 4 true 2], code := .seq (.reg 64 3 spec_l9Join.r0) (.seq (.reg 256 12 spec_l9Join.r1) (.ret)) }
attribute [go_sem] spec_l9Join.r0 spec_l9Join.r1
theorem spec_l9Join.ok : chkF prog F_spec_l9Join 2 spec_l9Join.fi = true := by kernel_rfl

/-! spec_l10Join -/
def spec_l10Join.r0 : List Ent := [
  E0 0 (some 2) none (.i (.box (.t 0))),
  E0 1 (some 3) none (.i (.box (.t 1))),
  E0 2 (some 4) none (.i (.box (.k (.agg [.dat none (.int .i64 0), .dat none (.int .i64 0)]))))]
def spec_l10Join.r1 : List Ent := [
  E0 0 (some 6) none (.i (.fad 1 (.t 2))),
  E0 1 (some 7) none (.i (.load false false 1 (.t 6))),
  E0 2 (some 8) none (.i (.fad 1 (.t 3))),
  E0 3 (some 9) none (.i (.load false false 1 (.t 8))),
  E0 4 (some 10) none (.i (.bin .or (.t 7) (.t 9))),
  E0 5 (some 11) none (.i (.fad 0 (.t 2))),
  E0 6 (some 12) none (.i (.load false false 1 (.t 11))),
  E0 7 (some 13) none (.i (.fad 0 (.t 3))),
  E0 8 (some 14) none (.i (.load false false 1 (.t 13))),
  E0 9 (some 15) none (.i (.bin .xor (.t 12) (.t 14))),
  E0 10 (some 16) none (.i (.bin .or (.t 10) (.t 15))),
  E0 11 (some 5) none (.i (.mv (.t 16)))]
def spec_l10Join.r2 : List Ent := [
  E0 0 (some 17) none (.i (.fad 0 (.t 2))),
  E0 1 (some 18) none (.i (.load false false 1 (.t 17))),
  E0 2 (some 19) none (.i (.mv (.t 5))),
  E0 3 (some 20) none (.i (.bin .andNot (.t 18) (.t 19))),
  E0 4 (some 21) none (.i (.mv (.t 5))),
  E0 5 (some 22) none (.i (.bld [.t 20, .t 21])),
  E0 6 none none (.i (.store 2 (.t 4) (.t 22)))]
def spec_l10Join.fi : FI := { res := [.c 4 true 2], code := .seq (.reg 64 3 spec_l10Join.r0) (.seq (.reg 256 12 spec_l10Join.r1) (.seq (.reg 1024 7 spec_l10Join.r2) (.ret))) }
attribute [go_sem] spec_l10Join.r0 spec_l10Join.r1 spec_l10Join.r2
theorem spec_l10Join.ok : chkF prog F_spec_l10Join 2 spec_l10Join.fi = true := by kernel_rfl

/-! spec_l13Join -/
def spec_l13Join.r0 : List Ent := [
  E0 0 (some 2) none (.i (.box (.t 0))),
  E0 1 (some 3) none (.i (.box (.t 1))),
  E0 2 (some 4) none (.i (.box (.k (.agg [.nil 2, .nil 2, .nil 2, .nil 1]))))]
def spec_l13Join.r1 : List Ent := [
  E0 0 (some 8) none (.i (.load false true 4 (.t 2))),
  E0 1 (some 9) none (.call F_spec_l13Own false (roA [.t 8])),
  E0 2 (some 5) none (.i (.box (.k (.agg [.nil 2, .nil 2, .nil 2, .nil 1])))),
  E0 3 none none (.i (.store 4 (.t 5) (.t 9)))]
def spec_l13Join.r2 : List Ent := [
  E0 0 (some 10) none (.i (.fad 0 (.t 5))),
  E0 1 (some 11) none (.i (.load false false 1 (.t 10))),
  E0 2 (some 12) none (.i (.len (.t 11))),
  E0 3 (some 13) none (.i (.mv (.k (I64 0))))]
def spec_l13Join.r3 : List Ent := [
  E0 0 (some 14) none (.i (.bin .lss (.t 13) (.t 12)))]
def spec_l13Join.r4 : List Ent := [
  E0 0 (some 15) none (.i (.mv (.t 13))),
  E0 1 (some 6) none (.i (.mv (.t 15)))]
def spec_l13Join.r5 : List Ent := [
  ER 0 (some 16) none (.fad 0 (.t 5)),
  ER 1 (some 17) none (.load false false 1 (.t 16)),
  E0 2 (some 18) none (.i (.mv (.t 6))),
  ER 3 (some 19) none (.fad 0 (.t 2)),
  ER 4 (some 20) none (.load false false 1 (.t 19)),
  E0 5 (some 21) none (.i (.mv (.t 6))),
  ER 6 (some 22) none (.iad 2 (.t 20) (.t 21)),
  ER 7 (some 23) none (.load false true 2 (.t 22)),
  ER 8 (some 24) none (.fad 0 (.t 3)),
  ER 9 (some 25) none (.load false false 1 (.t 24)),
  E0 10 (some 26) none (.i (.mv (.t 6))),
  ER 11 (some 27) none (.iad 2 (.t 25) (.t 26)),
  ER 12 (some 28) none (.load false true 2 (.t 27)),
  E2 13 (some 29) none (.call F_spec_l9Join false (roA [.t 23, .t 28])),
  E0 14 (some 30) none (.i (.iad 2 (.t 17) (.t 18))),
  E0 15 none none (.i (.store 2 (.t 30) (.t 29)))]
def spec_l13Join.r6 : List Ent := [
  ER 0 (some 31) none (.fad 1 (.t 5)),
  ER 1 (some 32) none (.load false false 1 (.t 31)),
  E0 2 (some 33) none (.i (.mv (.t 6))),
  ER 3 (some 34) none (.fad 1 (.t 2)),
  ER 4 (some 35) none (.load false false 1 (.t 34)),
  E0 5 (some 36) none (.i (.mv (.t 6))),
  ER 6 (some 37) none (.iad 2 (.t 35) (.t 36)),
  ER 7 (some 38) none (.load false true 2 (.t 37)),
  ER 8 (some 39) none (.fad 1 (.t 3)),
  ER 9 (some 40) none (.load false false 1 (.t 39)),
  E0 10 (some 41) none (.i (.mv (.t 6))),
  ER 11 (some 42) none (.iad 2 (.t 40) (.t 41)),
  ER 12 (some 43) none (.load false true 2 (.t 42)),
  E2 13 (some 44) none (.call F_spec_l10Join false (roA [.t 38, .t 43])),
  E0 14 (some 45) none (.i (.iad 2 (.t 32) (.t 33))),
  E0 15 none none (.i (.store 2 (.t 45) (.t 44)))]
def spec_l13Join.r7 : List Ent := [
  E0 0 (some 46) none (.i (.bin .add (.t 13) (.k (I64 1)))),
  E0 1 (some 13) none (.i (.mv (.t 46)))]
def spec_l13Join.b0 : KC := .seq (.reg 768 1 spec_l13Join.r3) (.seq (.cond (.t 14) (.skip) (.exit 0)) (.seq (.block 1 (.seq (.reg 832 2 spec_l13Join.r4) (.seq (.reg 960 16 spec_l13Join.r5) (.reg 1984 16 spec_l13Join.r6)))) (.reg 3008 2 spec_l13Join.r7)))
def spec_l13Join.r8 : List Ent := [
  E0 0 (some 47) none (.i (.fad 2 (.t 5))),
  E0 1 (some 48) none (.i (.load false false 1 (.t 47))),
  E0 2 (some 49) none (.i (.len (.t 48))),
  E0 3 (some 50) none (.i (.mv (.k (I64 0))))]
def spec_l13Join.r9 : List Ent := [
  E0 0 (some 51) none (.i (.bin .lss (.t 50) (.t 49)))]
def spec_l13Join.r10 : List Ent := [
  E0 0 (some 52) none (.i (.mv (.t 50))),
  E0 1 (some 7) none (.i (.mv (.t 52)))]
def spec_l13Join.r11 : List Ent := [
  ER 0 (some 53) none (.fad 2 (.t 5)),
  ER 1 (some 54) none (.load false false 1 (.t 53)),
  E0 2 (some 55) none (.i (.mv (.t 7))),
  ER 3 (some 56) none (.fad 2 (.t 2)),
  ER 4 (some 57) none (.load false false 1 (.t 56)),
  E0 5 (some 58) none (.i (.mv (.t 7))),
  ER 6 (some 59) none (.iad 2 (.t 57) (.t 58)),
  ER 7 (some 60) none (.load false true 2 (.t 59)),
  ER 8 (some 61) none (.fad 2 (.t 3)),
  ER 9 (some 62) none (.load false false 1 (.t 61)),
  E0 10 (some 63) none (.i (.mv (.t 7))),
  ER 11 (some 64) none (.iad 2 (.t 62) (.t 63)),
  ER 12 (some 65) none (.load false true 2 (.t 64)),
  E2 13 (some 66) none (.call F_spec_l9Join false (roA [.t 60, .t 65])),
  E0 14 (some 67) none (.i (.iad 2 (.t 54) (.t 55))),
  E0 15 none none (.i (.store 2 (.t 67) (.t 66)))]
def spec_l13Join.r12 : List Ent := [
  ER 0 (some 68) none (.fad 3 (.t 5)),
  ER 1 (some 69) none (.load false false 1 (.t 68)),
  E0 2 (some 70) none (.i (.mv (.t 7))),
  ER 3 (some 71) none (.fad 3 (.t 2)),
  ER 4 (some 72) none (.load false false 1 (.t 71)),
  E0 5 (some 73) none (.i (.mv (.t 7))),
  ER 6 (some 74) none (.iad 1 (.t 72) (.t 73)),
  ER 7 (some 75) none (.load false false 1 (.t 74)),
  E0 8 (some 76) none (.i (.mv (.t 75))),
  ER 9 (some 77) (some (76, true)) (.fad 3 (.t 3)),
  ER 10 (some 78) (some (76, true)) (.load false false 1 (.t 77)),
  E0 11 (some 79) (some (76, true)) (.i (.mv (.t 7))),
  ER 12 (some 80) (some (76, true)) (.iad 1 (.t 78) (.t 79)),
  ER 13 (some 81) (some (76, true)) (.load false false 1 (.t 80)),
  E0 14 (some 82) none (.i (.pick (.t 76) (.t 81) (.k (.dat none (.bool false))))),
  E0 15 (some 83) none (.i (.iad 1 (.t 69) (.t 70))),
  E0 16 none none (.i (.store 1 (.t 83) (.t 82)))]
def spec_l13Join.r13 : List Ent := [
  E0 0 (some 84) none (.i (.bin .add (.t 50) (.k (I64 1)))),
  E0 1 (some 50) none (.i (.mv (.t 84)))]
def spec_l13Join.b1 : KC := .seq (.reg 3392 1 spec_l13Join.r9) (.seq (.cond (.t 51) (.skip) (.exit 2)) (.seq (.block 3 (.seq (.reg 3456 2 spec_l13Join.r10) (.seq (.reg 3584 16 spec_l13Join.r11) (.reg 4608 17 spec_l13Join.r12)))) (.reg 5696 2 spec_l13Join.r13)))
def spec_l13Join.r14 : List Ent := [
  E0 0 (some 85) none (.i (.load false true 4 (.t 5))),
  E0 1 none none (.i (.store 4 (.t 4) (.t 85)))]
def spec_l13Join.fi : FI := { res := [.c 4 true 4], code := .seq (.reg 64 3 spec_l13Join.r0) (.seq (.reg 256 4 spec_l13Join.r1) (.seq (.seq (.reg 512 4 spec_l13Join.r2) (.block 0 (.loop spec_l13Join.b0))) (.seq (.seq (.reg 3136 4 spec_l13Join.r8) (.block 2 (.loop spec_l13Join.b1))) (.seq (.reg 5824 2 spec_l13Join.r14) (.ret))))) }
attribute [go_sem] spec_l13Join.r0 spec_l13Join.r1 spec_l13Join.r2 spec_l13Join.r3 spec_l13Join.r4 spec_l13Join.r5 spec_l13Join.r6 spec_l13Join.r7 spec_l13Join.r8 spec_l13Join.r9 spec_l13Join.r10 spec_l13Join.r11 spec_l13Join.r12 spec_l13Join.r13 spec_l13Join.r14
theorem spec_l13Join.ok : chkF prog F_spec_l13Join 2 spec_l13Join.fi = true := by kernel_rfl

/-! spec_JoinMay -/
def spec_JoinMay.r0 : List Ent := [
  E0 0 (some 2) none (.i (.box (.t 0))),
  E0 1 (some 3) none (.i (.box (.t 1))),
  E0 2 (some 4) none (.i (.box (.k (.agg [.nil 2, .nil 2, .nil 2, .nil 1])))),
  E0 3 (some 5) none (.i (.mv (.k (.dat none (.bool false)))))]
def spec_JoinMay.r1 : List Ent := [
  E0 0 (some 6) none (.i (.load false true 4 (.t 2))),
  E0 1 (some 7) none (.call F_spec_GoodMay false (roA [.t 6])),
  E0 2 (some 8) none (.i (.un .not (.t 7))),
  E0 3 (some 9) none (.i (.mv (.t 8))),
  E0 4 (some 10) (some (9, false)) (.i (.load false true 4 (.t 3))),
  E0 5 (some 11) (some (9, false)) (.call F_spec_GoodMay false (roA [.t 10])),
  E0 6 (some 12) (some (9, false)) (.i (.un .not (.t 11))),
  E0 7 (some 13) none (.i (.pick (.t 9) (.k (.dat none (.bool true))) (.t 12)))]
def spec_JoinMay.r2 : List Ent := [
  E0 0 (some 14) none (.i (.bld [.k (.nil 2), .k (.nil 2), .k (.nil 2), .k (.nil 1)])),
  E0 1 none none (.i (.store 4 (.t 4) (.t 14))),
  E0 2 (some 5) none (.i (.mv (.k (.dat none (.bool false)))))]
def spec_JoinMay.r3 : List Ent := [
  E0 0 (some 15) none (.i (.load false true 4 (.t 2))),
  E0 1 (some 16) none (.i (.load false true 4 (.t 3))),
  E0 2 (some 17) none (.call F_spec_l13Join false (roA [.t 15, .t 16])),
  E0 3 none none (.i (.store 4 (.t 4) (.t 17))),
  E0 4 (some 5) none (.i (.mv (.k (.dat none (.bool true)))))]
def spec_JoinMay.fi : FI := { res := [.c 4 true 4, .t 5], code := .seq (.reg 64 4 spec_JoinMay.r0) (.seq (.seq (.reg 320 8 spec_JoinMay.r1) (.cond (.t 13) (.seq (.reg 832 3 spec_JoinMay.r2) (.ret)) (.skip))) (.seq (.reg 1024 5 spec_JoinMay.r3) (.ret))) }
attribute [go_sem] spec_JoinMay.r0 spec_JoinMay.r1 spec_JoinMay.r2 spec_JoinMay.r3
theorem spec_JoinMay.ok : chkF prog F_spec_JoinMay 2 spec_JoinMay.fi = true := by kernel_rfl

/-! slices_Clone__sbool_bool -/
def slices_Clone__sbool_bool.r0 : List Ent := [
  E0 0 (some 2) none (.i (.mv (.k (.nil 1))))]
def slices_Clone__sbool_bool.r1 : List Ent := [
  E0 0 (some 3) none (.i (.mv (.t 0))),
  E0 1 (some 4) none (.i (.eqnil false (.t 3)))]
def slices_Clone__sbool_bool.r2 : List Ent := [
  E0 0 (some 2) none (.i (.mv (.k (.nil 1))))]
def slices_Clone__sbool_bool.r3 : List Ent := [
  E0 0 (some 5) none (.i (.bsl false 1 [])),
  E0 1 (some 6) none (.i (.mv (.t 0))),
  E0 2 (some 7) none (.i (.app 1 1 (.t 5) (.t 6))),
  E0 3 (some 2) none (.i (.mv (.t 7)))]
def slices_Clone__sbool_bool.fi : FI := { res := [.t 2], code := .seq (.reg 64 1 slices_Clone__sbool_bool.r0) (.seq (.seq (.reg 128 2 slices_Clone__sbool_bool.r1) (.cond (.t 4) (.seq (.reg 256 1 slices_Clone__sbool_bool.r2) (.ret)) (.skip))) (.seq (.reg 320 4 slices_Clone__sbool_bool.r3) (.ret))) }
attribute [go_sem] slices_Clone__sbool_bool.r0 slices_Clone__sbool_bool.r1 slices_Clone__sbool_bool.r2 slices_Clone__sbool_bool.r3
theorem slices_Clone__sbool_bool.ok : chkF prog F_slices_Clone__sbool_bool 1 slices_Clone__sbool_bool.fi = true := by kernel_rfl

/-! slices_Clone__sStretch_Stretch -/
def slices_Clone__sStretch_Stretch.r0 : List Ent := [
  E0 0 (some 2) none (.i (.mv (.k (.nil 2))))]
def slices_Clone__sStretch_Stretch.r1 : List Ent := [
  E0 0 (some 3) none (.i (.mv (.t 0))),
  E0 1 (some 4) none (.i (.eqnil false (.t 3)))]
def slices_Clone__sStretch_Stretch.r2 : List Ent := [
  E0 0 (some 2) none (.i (.mv (.k (.nil 2))))]
def slices_Clone__sStretch_Stretch.r3 : List Ent := [
  E0 0 (some 5) none (.i (.bsl false 2 [])),
  E0 1 (some 6) none (.i (.mv (.t 0))),
  E0 2 (some 7) none (.i (.app 2 16 (.t 5) (.t 6))),
  E0 3 (some 2) none (.i (.mv (.t 7)))]
def slices_Clone__sStretch_Stretch.fi : FI := { res := [.t 2], code := .seq (.reg 64 1 slices_Clone__sStretch_Stretch.r0) (.seq (.seq (.reg 128 2 slices_Clone__sStretch_Stretch.r1) (.cond (.t 4) (.seq (.reg 256 1 slices_Clone__sStretch_Stretch.r2) (.ret)) (.skip))) (.seq (.reg 320 4 slices_Clone__sStretch_Stretch.r3) (.ret))) }
attribute [go_sem] slices_Clone__sStretch_Stretch.r0 slices_Clone__sStretch_Stretch.r1 slices_Clone__sStretch_Stretch.r2 slices_Clone__sStretch_Stretch.r3
theorem slices_Clone__sStretch_Stretch.ok : chkF prog F_slices_Clone__sStretch_Stretch 1 slices_Clone__sStretch_Stretch.fi = true := by kernel_rfl

/-! slices_Clone__sKnown_Known -/
def slices_Clone__sKnown_Known.r0 : List Ent := [
  E0 0 (some 2) none (.i (.mv (.k (.nil 2))))]
def slices_Clone__sKnown_Known.r1 : List Ent := [
  E0 0 (some 3) none (.i (.mv (.t 0))),
  E0 1 (some 4) none (.i (.eqnil false (.t 3)))]
def slices_Clone__sKnown_Known.r2 : List Ent := [
  E0 0 (some 2) none (.i (.mv (.k (.nil 2))))]
def slices_Clone__sKnown_Known.r3 : List Ent := [
  E0 0 (some 5) none (.i (.bsl false 2 [])),
  E0 1 (some 6) none (.i (.mv (.t 0))),
  E0 2 (some 7) none (.i (.app 2 16 (.t 5) (.t 6))),
  E0 3 (some 2) none (.i (.mv (.t 7)))]
def slices_Clone__sKnown_Known.fi : FI := { res := [.t 2], code := .seq (.reg 64 1 slices_Clone__sKnown_Known.r0) (.seq (.seq (.reg 128 2 slices_Clone__sKnown_Known.r1) (.cond (.t 4) (.seq (.reg 256 1 slices_Clone__sKnown_Known.r2) (.ret)) (.skip))) (.seq (.reg 320 4 slices_Clone__sKnown_Known.r3) (.ret))) }
attribute [go_sem] slices_Clone__sKnown_Known.r0 slices_Clone__sKnown_Known.r1 slices_Clone__sKnown_Known.r2 slices_Clone__sKnown_Known.r3
theorem slices_Clone__sKnown_Known.ok : chkF prog F_slices_Clone__sKnown_Known 1 slices_Clone__sKnown_Known.fi = true := by kernel_rfl

/-! impl_May_own -/
def impl_May_own.r0 : List Ent := [
  E0 0 (some 1) none (.i (.box (.t 0))),
  E0 1 (some 2) none (.i (.box (.k (.agg [.nil 2, .nil 2, .nil 2, .nil 1]))))]
def impl_May_own.r1 : List Ent := [
  ER 0 (some 3) none (.fad 0 (.t 1)),
  ER 1 (some 4) none (.load false false 1 (.t 3)),
  EP 2 (some 5) none (.call F_slices_Clone__sStretch_Stretch false (roA [.t 4])) 1 false,
  EX 3 (some 6) none (.i (.fad 1 (.t 1))) 2 [2] [] false,
  EX 4 (some 7) none (.i (.load false false 1 (.t 6))) 2 [2] [] false,
  EP 5 (some 8) none (.call F_slices_Clone__sKnown_Known false (roA [.t 7])) 1 false,
  EX 6 (some 9) none (.i (.fad 2 (.t 1))) 2 [2, 5] [] false,
  EX 7 (some 10) none (.i (.load false false 1 (.t 9))) 2 [2, 5] [] false,
  EP 8 (some 11) none (.call F_slices_Clone__sStretch_Stretch false (roA [.t 10])) 1 false,
  EX 9 (some 12) none (.i (.fad 3 (.t 1))) 2 [2, 5, 8] [] false,
  EX 10 (some 13) none (.i (.load false false 1 (.t 12))) 2 [2, 5, 8] [] false,
  E0 11 (some 14) none (.call F_slices_Clone__sbool_bool false (roA [.t 13])),
  E0 12 (some 15) none (.i (.bld [.t 5, .t 8, .t 11, .t 14])),
  E0 13 none none (.i (.store 4 (.t 2) (.t 15)))]
def impl_May_own.fi : FI := { res := [.c 2 true 4], code := .seq (.reg 64 2 impl_May_own.r0) (.seq (.reg 192 14 impl_May_own.r1) (.ret)) }
attribute [go_sem] impl_May_own.r0 impl_May_own.r1
theorem impl_May_own.ok : chkF prog F_impl_May_own 1 impl_May_own.fi = true := by kernel_rfl

/-! impl_joinStretch -/
def impl_joinStretch.r0 : List Ent := [
  E0 0 (some 2) none (.i (.box (.t 0))),
  E0 1 (some 3) none (.i (.box (.t 1))),
  E0 2 (some 4) none (.i (.box (.k (.agg [.dat none (.int .i64 0), .dat none (.int .i64 0)]))))]
def impl_joinStretch.r1 : List Ent := [
  E0 0 (some 5) none (.i (.fad 0 (.t 2))),
  E0 1 (some 6) none (.i (.load false false 1 (.t 5))),
  E0 2 (some 7) none (.i (.fad 0 (.t 3))),
  E0 3 (some 8) none (.i (.load false false 1 (.t 7))),
  E0 4 (some 9) none (.i (.mnx false (.t 6) (.t 8))),
  E0 5 (some 10) none (.i (.fad 1 (.t 2))),
  E0 6 (some 11) none (.i (.load false false 1 (.t 10))),
  E0 7 (some 12) none (.i (.fad 1 (.t 3))),
  E0 8 (some 13) none (.i (.load false false 1 (.t 12))),
  E0 9 (some 14) none (.i (.mnx true (.t 11) (.t 13))),
  E0 10 (some 15) none (.i (.bld [.t 9, .t 14])),
  E0 11 none none (.i (.store 2 (.t 4) (.t 15)))]
def impl_joinStretch.fi : FI := { res := [.c 4 true 2], code := .seq (.reg 64 3 impl_joinStretch.r0) (.seq (.reg 256 12 impl_joinStretch.r1) (.ret)) }
attribute [go_sem] impl_joinStretch.r0 impl_joinStretch.r1
theorem impl_joinStretch.ok : chkF prog F_impl_joinStretch 2 impl_joinStretch.fi = true := by kernel_rfl

/-! impl_known -/
def impl_known.r0 : List Ent := [
  E0 0 (some 4) none (.i (.box (.k (.agg [.dat none (.int .i64 0), .dat none (.int .i64 0)]))))]
def impl_known.r1 : List Ent := [
  E0 0 (some 5) none (.i (.mv (.t 0))),
  E0 1 (some 6) none (.i (.mv (.t 1))),
  E0 2 (some 7) none (.i (.bin .andNot (.t 5) (.t 6))),
  E0 3 (some 8) none (.i (.mv (.t 1))),
  E0 4 (some 9) none (.i (.bld [.t 7, .t 8])),
  E0 5 none none (.i (.store 2 (.t 4) (.t 9)))]
def impl_known.fi : FI := { res := [.c 4 true 2], code := .seq (.reg 64 1 impl_known.r0) (.seq (.reg 128 6 impl_known.r1) (.ret)) }
attribute [go_sem] impl_known.r0 impl_known.r1
theorem impl_known.ok : chkF prog F_impl_known 2 impl_known.fi = true := by kernel_rfl

/-! impl_joinKnown -/
def impl_joinKnown.r0 : List Ent := [
  E0 0 (some 2) none (.i (.box (.t 0))),
  E0 1 (some 3) none (.i (.box (.t 1))),
  E0 2 (some 4) none (.i (.box (.k (.agg [.dat none (.int .i64 0), .dat none (.int .i64 0)]))))]
def impl_joinKnown.r1 : List Ent := [
  E0 0 (some 5) none (.i (.fad 0 (.t 2))),
  E0 1 (some 6) none (.i (.load false false 1 (.t 5))),
  E0 2 (some 7) none (.i (.fad 1 (.t 2))),
  E0 3 (some 8) none (.i (.load false false 1 (.t 7))),
  E0 4 (some 9) none (.i (.fad 1 (.t 3))),
  E0 5 (some 10) none (.i (.load false false 1 (.t 9))),
  E0 6 (some 11) none (.i (.bin .or (.t 8) (.t 10))),
  E0 7 (some 12) none (.i (.fad 0 (.t 2))),
  E0 8 (some 13) none (.i (.load false false 1 (.t 12))),
  E0 9 (some 14) none (.i (.fad 0 (.t 3))),
  E0 10 (some 15) none (.i (.load false false 1 (.t 14))),
  E0 11 (some 16) none (.i (.bin .xor (.t 13) (.t 15))),
  E0 12 (some 17) none (.i (.bin .or (.t 11) (.t 16))),
  E0 13 (some 18) none (.call F_impl_known false (roA [.t 6, .t 17])),
  E0 14 none none (.i (.store 2 (.t 4) (.t 18)))]
def impl_joinKnown.fi : FI := { res := [.c 4 true 2], code := .seq (.reg 64 3 impl_joinKnown.r0) (.seq (.reg 256 15 impl_joinKnown.r1) (.ret)) }
attribute [go_sem] impl_joinKnown.r0 impl_joinKnown.r1
theorem impl_joinKnown.ok : chkF prog F_impl_joinKnown 2 impl_joinKnown.fi = true := by kernel_rfl

/-! impl_joined -/
def impl_joined.r0 : List Ent := [
  E0 0 (some 2) none (.i (.box (.t 0))),
  E0 1 (some 3) none (.i (.box (.t 1))),
  E0 2 (some 4) none (.i (.box (.k (.agg [.nil 2, .nil 2, .nil 2, .nil 1]))))]
def impl_joined.r1 : List Ent := [
  E0 0 (some 8) none (.i (.load false true 4 (.t 2))),
  E0 1 (some 9) none (.call F_impl_May_own false (roA [.t 8])),
  E0 2 (some 5) none (.i (.box (.k (.agg [.nil 2, .nil 2, .nil 2, .nil 1])))),
  E0 3 none none (.i (.store 4 (.t 5) (.t 9)))]
def impl_joined.r2 : List Ent := [
  E0 0 (some 10) none (.i (.fad 0 (.t 5))),
  E0 1 (some 11) none (.i (.load false false 1 (.t 10))),
  E0 2 (some 12) none (.i (.len (.t 11))),
  E0 3 (some 13) none (.i (.mv (.k (I64 0))))]
def impl_joined.r3 : List Ent := [
  E0 0 (some 14) none (.i (.bin .lss (.t 13) (.t 12)))]
def impl_joined.r4 : List Ent := [
  E0 0 (some 15) none (.i (.mv (.t 13))),
  E0 1 (some 6) none (.i (.mv (.t 15)))]
def impl_joined.r5 : List Ent := [
  ER 0 (some 16) none (.fad 0 (.t 5)),
  ER 1 (some 17) none (.load false false 1 (.t 16)),
  E0 2 (some 18) none (.i (.mv (.t 6))),
  E0 5 (some 21) none (.i (.mv (.t 6))),
  ER 6 (some 22) none (.fad 0 (.t 2)),
  ER 7 (some 23) none (.load false false 1 (.t 22)),
  E0 8 (some 24) none (.i (.mv (.t 6))),
  ER 9 (some 25) none (.iad 2 (.t 23) (.t 24)),
  ER 10 (some 26) none (.load false true 2 (.t 25)),
  ER 11 (some 27) none (.fad 0 (.t 3)),
  ER 12 (some 28) none (.load false false 1 (.t 27)),
  E0 13 (some 29) none (.i (.mv (.t 6))),
  ER 14 (some 30) none (.iad 2 (.t 28) (.t 29)),
  ER 15 (some 31) none (.load false true 2 (.t 30)),
  E2 16 (some 32) none (.call F_impl_joinStretch false (roA [.t 26, .t 31])),
  ER 17 (some 33) none (.fad 1 (.t 2)),
  ER 18 (some 34) none (.load false false 1 (.t 33)),
  E0 19 (some 35) none (.i (.mv (.t 6))),
  ER 20 (some 36) none (.iad 2 (.t 34) (.t 35)),
  ER 21 (some 37) none (.load false true 2 (.t 36)),
  ER 22 (some 38) none (.fad 1 (.t 3)),
  ER 23 (some 39) none (.load false false 1 (.t 38)),
  E0 24 (some 40) none (.i (.mv (.t 6))),
  ER 25 (some 41) none (.iad 2 (.t 39) (.t 40)),
  ER 26 (some 42) none (.load false true 2 (.t 41)),
  E2 27 (some 43) none (.call F_impl_joinKnown false (roA [.t 37, .t 42])),
  ER 28 (some 44) none (.iad 2 (.t 17) (.t 18)),
  EP 29 none none (.i (.store 2 (.t 44) (.t 32))) 0 true,
  EX 3 (some 19) none (.i (.fad 1 (.t 5))) 2 [] [29] false,
  EX 4 (some 20) none (.i (.load false false 1 (.t 19))) 2 [] [29] false,
  E0 30 (some 45) none (.i (.iad 2 (.t 20) (.t 21))),
  E0 31 none none (.i (.store 2 (.t 45) (.t 43)))]
def impl_joined.r6 : List Ent := [
  E0 0 (some 46) none (.i (.bin .add (.t 13) (.k (I64 1)))),
  E0 1 (some 13) none (.i (.mv (.t 46)))]
def impl_joined.b0 : KC := .seq (.reg 768 1 impl_joined.r3) (.seq (.cond (.t 14) (.skip) (.exit 0)) (.seq (.block 1 (.seq (.reg 832 2 impl_joined.r4) (.reg 960 32 impl_joined.r5))) (.reg 3008 2 impl_joined.r6)))
def impl_joined.r7 : List Ent := [
  E0 0 (some 47) none (.i (.fad 2 (.t 5))),
  E0 1 (some 48) none (.i (.load false false 1 (.t 47))),
  E0 2 (some 49) none (.i (.len (.t 48))),
  E0 3 (some 50) none (.i (.mv (.k (I64 0))))]
def impl_joined.r8 : List Ent := [
  E0 0 (some 51) none (.i (.bin .lss (.t 50) (.t 49)))]
def impl_joined.r9 : List Ent := [
  E0 0 (some 52) none (.i (.mv (.t 50))),
  E0 1 (some 7) none (.i (.mv (.t 52)))]
def impl_joined.r10 : List Ent := [
  ER 0 (some 53) none (.fad 2 (.t 5)),
  ER 1 (some 54) none (.load false false 1 (.t 53)),
  E0 2 (some 55) none (.i (.mv (.t 7))),
  E0 5 (some 58) none (.i (.mv (.t 7))),
  ER 6 (some 59) none (.fad 2 (.t 2)),
  ER 7 (some 60) none (.load false false 1 (.t 59)),
  E0 8 (some 61) none (.i (.mv (.t 7))),
  ER 9 (some 62) none (.iad 2 (.t 60) (.t 61)),
  ER 10 (some 63) none (.load false true 2 (.t 62)),
  ER 11 (some 64) none (.fad 2 (.t 3)),
  ER 12 (some 65) none (.load false false 1 (.t 64)),
  E0 13 (some 66) none (.i (.mv (.t 7))),
  ER 14 (some 67) none (.iad 2 (.t 65) (.t 66)),
  ER 15 (some 68) none (.load false true 2 (.t 67)),
  E2 16 (some 69) none (.call F_impl_joinStretch false (roA [.t 63, .t 68])),
  ER 17 (some 70) none (.fad 3 (.t 2)),
  ER 18 (some 71) none (.load false false 1 (.t 70)),
  E0 19 (some 72) none (.i (.mv (.t 7))),
  ER 20 (some 73) none (.iad 1 (.t 71) (.t 72)),
  ER 21 (some 74) none (.load false false 1 (.t 73)),
  E0 22 (some 75) none (.i (.mv (.t 74))),
  ER 23 (some 76) (some (75, true)) (.fad 3 (.t 3)),
  ER 24 (some 77) (some (75, true)) (.load false false 1 (.t 76)),
  E0 25 (some 78) (some (75, true)) (.i (.mv (.t 7))),
  ER 26 (some 79) (some (75, true)) (.iad 1 (.t 77) (.t 78)),
  ER 27 (some 80) (some (75, true)) (.load false false 1 (.t 79)),
  E0 28 (some 81) none (.i (.pick (.t 75) (.t 80) (.k (.dat none (.bool false))))),
  ER 29 (some 82) none (.iad 2 (.t 54) (.t 55)),
  EP 30 none none (.i (.store 2 (.t 82) (.t 69))) 0 true,
  EX 3 (some 56) none (.i (.fad 3 (.t 5))) 2 [] [30] false,
  EX 4 (some 57) none (.i (.load false false 1 (.t 56))) 2 [] [30] false,
  E0 31 (some 83) none (.i (.iad 1 (.t 57) (.t 58))),
  E0 32 none none (.i (.store 1 (.t 83) (.t 81)))]
def impl_joined.r11 : List Ent := [
  E0 0 (some 84) none (.i (.bin .add (.t 50) (.k (I64 1)))),
  E0 1 (some 50) none (.i (.mv (.t 84)))]
def impl_joined.b1 : KC := .seq (.reg 3392 1 impl_joined.r8) (.seq (.cond (.t 51) (.skip) (.exit 2)) (.seq (.block 3 (.seq (.reg 3456 2 impl_joined.r9) (.reg 3584 33 impl_joined.r10))) (.reg 5696 2 impl_joined.r11)))
def impl_joined.r12 : List Ent := [
  E0 0 (some 85) none (.i (.load false true 4 (.t 5))),
  E0 1 none none (.i (.store 4 (.t 4) (.t 85)))]
def impl_joined.fi : FI := { res := [.c 4 true 4], code := .seq (.reg 64 3 impl_joined.r0) (.seq (.reg 256 4 impl_joined.r1) (.seq (.seq (.reg 512 4 impl_joined.r2) (.block 0 (.loop impl_joined.b0))) (.seq (.seq (.reg 3136 4 impl_joined.r7) (.block 2 (.loop impl_joined.b1))) (.seq (.reg 5824 2 impl_joined.r12) (.ret))))) }
attribute [go_sem] impl_joined.r0 impl_joined.r1 impl_joined.r2 impl_joined.r3 impl_joined.r4 impl_joined.r5 impl_joined.r6 impl_joined.r7 impl_joined.r8 impl_joined.r9 impl_joined.r10 impl_joined.r11 impl_joined.r12
theorem impl_joined.ok : chkF prog F_impl_joined 2 impl_joined.fi = true := by kernel_rfl

/-! impl_JoinMay -/
def impl_JoinMay.r0 : List Ent := [
  E0 0 (some 2) none (.i (.box (.t 0))),
  E0 1 (some 3) none (.i (.box (.t 1))),
  E0 2 (some 4) none (.i (.box (.k (.agg [.nil 2, .nil 2, .nil 2, .nil 1])))),
  E0 3 (some 5) none (.i (.mv (.k (.dat none (.bool false)))))]
def impl_JoinMay.r1 : List Ent := [
  E0 0 (some 6) none (.i (.load false true 4 (.t 2))),
  E0 1 (some 7) none (.call F_impl_GoodMay false (roA [.t 6])),
  E0 2 (some 8) none (.i (.un .not (.t 7))),
  E0 3 (some 9) none (.i (.mv (.t 8))),
  E0 4 (some 10) (some (9, false)) (.i (.load false true 4 (.t 3))),
  E0 5 (some 11) (some (9, false)) (.call F_impl_GoodMay false (roA [.t 10])),
  E0 6 (some 12) (some (9, false)) (.i (.un .not (.t 11))),
  E0 7 (some 13) none (.i (.pick (.t 9) (.k (.dat none (.bool true))) (.t 12)))]
def impl_JoinMay.r2 : List Ent := [
  E0 0 (some 14) none (.i (.bld [.k (.nil 2), .k (.nil 2), .k (.nil 2), .k (.nil 1)])),
  E0 1 none none (.i (.store 4 (.t 4) (.t 14))),
  E0 2 (some 5) none (.i (.mv (.k (.dat none (.bool false)))))]
def impl_JoinMay.r3 : List Ent := [
  E0 0 (some 15) none (.i (.load false true 4 (.t 2))),
  E0 1 (some 16) none (.i (.load false true 4 (.t 3))),
  E0 2 (some 17) none (.call F_impl_joined false (roA [.t 15, .t 16])),
  E0 3 none none (.i (.store 4 (.t 4) (.t 17))),
  E0 4 (some 5) none (.i (.mv (.k (.dat none (.bool true)))))]
def impl_JoinMay.fi : FI := { res := [.c 4 true 4, .t 5], code := .seq (.reg 64 4 impl_JoinMay.r0) (.seq (.seq (.reg 320 8 impl_JoinMay.r1) (.cond (.t 13) (.seq (.reg 832 3 impl_JoinMay.r2) (.ret)) (.skip))) (.seq (.reg 1024 5 impl_JoinMay.r3) (.ret))) }
attribute [go_sem] impl_JoinMay.r0 impl_JoinMay.r1 impl_JoinMay.r2 impl_JoinMay.r3
theorem impl_JoinMay.ok : chkF prog F_impl_JoinMay 2 impl_JoinMay.fi = true := by kernel_rfl

/-! laws_FnExactJoinMay -/
def laws_FnExactJoinMay.r0 : List Ent := [
  E0 0 (some 2) none (.i (.box (.t 0))),
  E0 1 (some 3) none (.i (.box (.t 1))),
  E0 2 (some 4) none (.i (.mv (.k (.dat none (.bool false)))))]
def laws_FnExactJoinMay.r1 : List Ent := [
  E0 0 (some 5) none (.i (.mv (.k (I64 1048576))))]
def laws_FnExactJoinMay.r2 : List Ent := [
  E0 0 (some 17) none (.i (.load false true 4 (.t 2))),
  E0 1 (some 18) none (.i (.mv (.t 5))),
  E0 2 (some 19) none (.call F_laws_szMay false (roA [.t 17, .t 18])),
  E0 3 (some 5) none (.i (.mv (.t 19)))]
def laws_FnExactJoinMay.r3 : List Ent := [
  E0 0 (some 20) none (.i (.mv (.t 5))),
  E0 1 (some 21) none (.i (.bin .lss (.t 20) (.k (I64 0))))]
def laws_FnExactJoinMay.r4 : List Ent := [
  E0 0 (some 4) none (.i (.mv (.k (.dat none (.bool true)))))]
def laws_FnExactJoinMay.r5 : List Ent := [
  E0 0 (some 22) none (.i (.load false true 4 (.t 3))),
  E0 1 (some 23) none (.i (.mv (.t 5))),
  E0 2 (some 24) none (.call F_laws_szMay false (roA [.t 22, .t 23])),
  E0 3 (some 5) none (.i (.mv (.t 24)))]
def laws_FnExactJoinMay.r6 : List Ent := [
  E0 0 (some 25) none (.i (.mv (.t 5))),
  E0 1 (some 26) none (.i (.bin .lss (.t 25) (.k (I64 0))))]
def laws_FnExactJoinMay.r7 : List Ent := [
  E0 0 (some 4) none (.i (.mv (.k (.dat none (.bool true)))))]
def laws_FnExactJoinMay.r8 : List Ent := [
  EX 0 (some 28) none (.i (.load false true 4 (.t 2))) 2 [8] [] false,
  EX 1 (some 29) none (.call F_laws_toMay false (roA [.t 28])) 1 [8] [] false,
  EX 2 (some 30) none (.i (.load false true 4 (.t 3))) 2 [1, 8] [] false,
  EX 3 (some 31) none (.call F_laws_toMay false (roA [.t 30])) 1 [8] [] false,
  EX 4 (some 32) none (.call F_spec_JoinMay false (roA [.t 29, .t 31])) 1 [8] [] false,
  E0 5 (some 27) none (.i (.mv (.t 32))),
  EX 6 (some 33) none (.i (.ext 0 (.t 27))) 2 [8] [] false,
  EX 8 (some 6) none (.i (.box (.k (.agg [.nil 2, .nil 2, .nil 2, .nil 1])))) 1 [1, 3, 4] [] false,
  EP 9 none none (.i (.store 4 (.t 6) (.t 33))) 0 true,
  EX 7 (some 34) none (.i (.ext 1 (.t 27))) 2 [8] [9] false,
  E0 10 (some 7) none (.i (.mv (.t 34)))]
def laws_FnExactJoinMay.r9 : List Ent := [
  E0 0 (some 35) none (.i (.load false true 4 (.t 2))),
  E0 1 (some 36) none (.call F_laws_toMay false (roA [.t 35])),
  E0 2 (some 8) none (.i (.box (.k (.agg [.nil 2, .nil 2, .nil 2, .nil 1])))),
  E0 3 none none (.i (.store 4 (.t 8) (.t 36)))]
def laws_FnExactJoinMay.r10 : List Ent := [
  E0 0 (some 37) none (.i (.load false true 4 (.t 3))),
  E0 1 (some 38) none (.call F_laws_toMay false (roA [.t 37])),
  E0 2 (some 9) none (.i (.box (.k (.agg [.nil 2, .nil 2, .nil 2, .nil 1])))),
  E0 3 none none (.i (.store 4 (.t 9) (.t 38)))]
def laws_FnExactJoinMay.r11 : List Ent := [
  E0 0 (some 40) none (.i (.load false true 4 (.t 8))),
  E0 1 (some 41) none (.i (.load false true 4 (.t 9))),
  E0 2 (some 42) none (.call F_impl_JoinMay false (roA [.t 40, .t 41])),
  E0 3 (some 39) none (.i (.mv (.t 42))),
  E0 4 (some 43) none (.i (.ext 0 (.t 39))),
  E0 5 (some 44) none (.i (.ext 1 (.t 39))),
  E0 6 (some 10) none (.i (.box (.k (.agg [.nil 2, .nil 2, .nil 2, .nil 1])))),
  E0 7 none none (.i (.store 4 (.t 10) (.t 43))),
  E0 8 (some 11) none (.i (.mv (.t 44)))]
def laws_FnExactJoinMay.r12 : List Ent := [
  E0 0 (some 45) none (.i (.load false true 4 (.t 10))),
  E0 1 (some 46) none (.i (.load false true 4 (.t 6))),
  E0 2 (some 47) none (.call F_laws_eqMay false (roA [.t 45, .t 46])),
  E0 3 (some 48) none (.i (.un .not (.t 47))),
  E0 4 (some 49) none (.i (.mv (.t 48))),
  E0 5 (some 50) (some (49, false)) (.i (.mv (.t 11))),
  E0 6 (some 51) (some (49, false)) (.i (.mv (.t 7))),
  E0 7 (some 52) (some (49, false)) (.i (.eqb true (.t 50) (.t 51))),
  E0 8 (some 53) none (.i (.pick (.t 49) (.k (.dat none (.bool true))) (.t 52)))]
def laws_FnExactJoinMay.r13 : List Ent := [
  E0 0 (some 4) none (.i (.mv (.k (.dat none (.bool false)))))]
def laws_FnExactJoinMay.r14 : List Ent := [
  EX 0 (some 54) none (.i (.load false true 4 (.t 8))) 2 [2] [] false,
  ER 1 (some 55) none (.load false true 4 (.t 2)),
  EP 2 (some 56) none (.call F_laws_toMay false (roA [.t 55])) 1 false,
  E0 3 (some 57) none (.call F_laws_eqMay false (roA [.t 54, .t 56])),
  E0 4 (some 58) none (.i (.un .not (.t 57)))]
def laws_FnExactJoinMay.r15 : List Ent := [
  E0 0 (some 4) none (.i (.mv (.k (.dat none (.bool false)))))]
def laws_FnExactJoinMay.r16 : List Ent := [
  EX 0 (some 59) none (.i (.load false true 4 (.t 9))) 2 [2] [] false,
  ER 1 (some 60) none (.load false true 4 (.t 3)),
  EP 2 (some 61) none (.call F_laws_toMay false (roA [.t 60])) 1 false,
  E0 3 (some 62) none (.call F_laws_eqMay false (roA [.t 59, .t 61])),
  E0 4 (some 63) none (.i (.un .not (.t 62)))]
def laws_FnExactJoinMay.r17 : List Ent := [
  E0 0 (some 4) none (.i (.mv (.k (.dat none (.bool false)))))]
def laws_FnExactJoinMay.r18 : List Ent := [
  E0 0 (some 12) none (.i (.mv (.k (I64 1))))]
def laws_FnExactJoinMay.r19 : List Ent := [
  E0 0 (some 64) none (.i (.load false true 4 (.t 8))),
  E0 1 (some 65) none (.i (.mv (.t 12))),
  E0 2 (some 66) none (.call F_laws_markMay false [(.io, .t 64), (.ro, .t 65)]),
  E0 3 (some 12) none (.i (.mv (.t 66)))]
def laws_FnExactJoinMay.r20 : List Ent := [
  E0 0 (some 67) none (.i (.load false true 4 (.t 9))),
  E0 1 (some 68) none (.i (.mv (.t 12))),
  E0 2 (some 69) none (.call F_laws_markMay false [(.io, .t 67), (.ro, .t 68)]),
  E0 3 (some 12) none (.i (.mv (.t 69)))]
def laws_FnExactJoinMay.r21 : List Ent := [
  E0 0 (some 70) none (.i (.mv (.t 12))),
  E0 1 (some 71) none (.i (.bin .lss (.t 70) (.k (I64 0)))),
  E0 2 (some 72) none (.i (.mv (.t 71))),
  E0 3 (some 73) (some (72, false)) (.i (.load false true 4 (.t 10))),
  E0 4 (some 74) (some (72, false)) (.i (.load false true 4 (.t 6))),
  E0 5 (some 75) (some (72, false)) (.call F_laws_eqMay false (roA [.t 73, .t 74])),
  E0 6 (some 76) (some (72, false)) (.i (.un .not (.t 75))),
  E0 7 (some 77) none (.i (.pick (.t 72) (.k (.dat none (.bool true))) (.t 76))),
  E0 8 (some 78) none (.i (.mv (.t 77))),
  E0 9 (some 79) (some (78, false)) (.i (.mv (.t 11))),
  E0 10 (some 80) (some (78, false)) (.i (.mv (.t 7))),
  E0 11 (some 81) (some (78, false)) (.i (.eqb true (.t 79) (.t 80))),
  E0 12 (some 82) none (.i (.pick (.t 78) (.k (.dat none (.bool true))) (.t 81)))]
def laws_FnExactJoinMay.r22 : List Ent := [
  E0 0 (some 4) none (.i (.mv (.k (.dat none (.bool false)))))]
def laws_FnExactJoinMay.r23 : List Ent := [
  E0 0 (some 13) none (.i (.mv (.k (I64 1))))]
def laws_FnExactJoinMay.r24 : List Ent := [
  E0 0 (some 83) none (.i (.load false true 4 (.t 10))),
  E0 1 (some 84) none (.i (.mv (.t 13))),
  E0 2 (some 85) none (.call F_laws_markMay false [(.io, .t 83), (.ro, .t 84)]),
  E0 3 (some 13) none (.i (.mv (.t 85)))]
def laws_FnExactJoinMay.r25 : List Ent := [
  E0 0 (some 14) none (.i (.mv (.k (I64 1))))]
def laws_FnExactJoinMay.r26 : List Ent := [
  E0 0 (some 86) none (.i (.load false true 4 (.t 10))),
  E0 1 (some 87) none (.i (.mv (.t 14))),
  E0 2 (some 88) none (.call F_laws_heldMay false (roA [.t 86, .t 87])),
  E0 3 (some 14) none (.i (.mv (.t 88)))]
def laws_FnExactJoinMay.r27 : List Ent := [
  E0 0 (some 89) none (.i (.mv (.t 14))),
  E0 1 (some 90) none (.i (.bin .lss (.t 89) (.k (I64 0))))]
def laws_FnExactJoinMay.r28 : List Ent := [
  E0 0 (some 4) none (.i (.mv (.k (.dat none (.bool false)))))]
def laws_FnExactJoinMay.r29 : List Ent := [
  E0 0 (some 91) none (.i (.mv (.t 14))),
  E0 1 (some 92) none (.i (.mv (.t 13))),
  E0 2 (some 93) none (.i (.bin .neq (.t 91) (.t 92)))]
def laws_FnExactJoinMay.r30 : List Ent := [
  E0 0 (some 4) none (.i (.mv (.k (.dat none (.bool false)))))]
def laws_FnExactJoinMay.r31 : List Ent := [
  EX 0 (some 95) none (.i (.load false true 4 (.t 2))) 2 [8] [] false,
  EX 1 (some 96) none (.call F_laws_toMay false (roA [.t 95])) 1 [8] [] false,
  EX 2 (some 97) none (.i (.load false true 4 (.t 3))) 2 [1, 8] [] false,
  EX 3 (some 98) none (.call F_laws_toMay false (roA [.t 97])) 1 [8] [] false,
  EX 4 (some 99) none (.call F_impl_JoinMay false (roA [.t 96, .t 98])) 1 [8] [] false,
  E0 5 (some 94) none (.i (.mv (.t 99))),
  EX 6 (some 100) none (.i (.ext 0 (.t 94))) 2 [8] [] false,
  EX 8 (some 15) none (.i (.box (.k (.agg [.nil 2, .nil 2, .nil 2, .nil 1])))) 1 [1, 3, 4] [] false,
  EP 9 none none (.i (.store 4 (.t 15) (.t 100))) 0 true,
  EX 7 (some 101) none (.i (.ext 1 (.t 94))) 2 [8] [9] false,
  E0 10 (some 16) none (.i (.mv (.t 101)))]
def laws_FnExactJoinMay.r32 : List Ent := [
  E0 0 (some 102) none (.i (.load false true 4 (.t 15))),
  E0 1 (some 103) none (.i (.load false true 4 (.t 6))),
  E0 2 (some 104) none (.call F_laws_eqMay false (roA [.t 102, .t 103])),
  E0 3 (some 105) none (.i (.un .not (.t 104))),
  E0 4 (some 106) none (.i (.mv (.t 105))),
  E0 5 (some 107) (some (106, false)) (.i (.mv (.t 16))),
  E0 6 (some 108) (some (106, false)) (.i (.mv (.t 7))),
  E0 7 (some 109) (some (106, false)) (.i (.eqb true (.t 107) (.t 108))),
  E0 8 (some 110) none (.i (.pick (.t 106) (.k (.dat none (.bool true))) (.t 109)))]
def laws_FnExactJoinMay.r33 : List Ent := [
  E0 0 (some 4) none (.i (.mv (.k (.dat none (.bool false)))))]
def laws_FnExactJoinMay.r34 : List Ent := [
  E0 0 (some 14) none (.i (.mv (.k (I64 1))))]
def laws_FnExactJoinMay.r35 : List Ent := [
  E0 0 (some 111) none (.i (.load false true 4 (.t 10))),
  E0 1 (some 112) none (.i (.mv (.t 14))),
  E0 2 (some 113) none (.call F_laws_heldMay false (roA [.t 111, .t 112])),
  E0 3 (some 14) none (.i (.mv (.t 113)))]
def laws_FnExactJoinMay.r36 : List Ent := [
  E0 0 (some 114) none (.i (.mv (.t 14))),
  E0 1 (some 115) none (.i (.bin .lss (.t 114) (.k (I64 0))))]
def laws_FnExactJoinMay.r37 : List Ent := [
  E0 0 (some 4) none (.i (.mv (.k (.dat none (.bool false)))))]
def laws_FnExactJoinMay.r38 : List Ent := [
  E0 0 (some 116) none (.i (.mv (.t 14))),
  E0 1 (some 117) none (.i (.mv (.t 13))),
  E0 2 (some 118) none (.i (.bin .neq (.t 116) (.t 117)))]
def laws_FnExactJoinMay.r39 : List Ent := [
  E0 0 (some 4) none (.i (.mv (.k (.dat none (.bool false)))))]
def laws_FnExactJoinMay.r40 : List Ent := [
  E0 0 (some 4) none (.i (.mv (.k (.dat none (.bool true)))))]
def laws_FnExactJoinMay.fi : FI := { res := [.t 4], code := .seq (.reg 64 3 laws_FnExactJoinMay.r0) (.seq (.reg 256 1 laws_FnExactJoinMay.r1) (.seq (.reg 320 4 laws_FnExactJoinMay.r2) (.seq (.seq (.reg 576 2 laws_FnExactJoinMay.r3) (.cond (.t 21) (.seq (.reg 704 1 laws_FnExactJoinMay.r4) (.ret)) (.skip))) (.seq (.reg 768 4 laws_FnExactJoinMay.r5) (.seq (.seq (.reg 1024 2 laws_FnExactJoinMay.r6) (.cond (.t 26) (.seq (.reg 1152 1 laws_FnExactJoinMay.r7) (.ret)) (.skip))) (.seq (.reg 1216 11 laws_FnExactJoinMay.r8) (.seq (.reg 1920 4 laws_FnExactJoinMay.r9) (.seq (.reg 2176 4 laws_FnExactJoinMay.r10) (.seq (.reg 2432 9 laws_FnExactJoinMay.r11) (.seq (.seq (.reg 3008 9 laws_FnExactJoinMay.r12) (.cond (.t 53) (.seq (.reg 3584 1 laws_FnExactJoinMay.r13) (.ret)) (.skip))) (.seq (.seq (.reg 3648 5 laws_FnExactJoinMay.r14) (.cond (.t 58) (.seq (.reg 3968 1 laws_FnExactJoinMay.r15) (.ret)) (.skip))) (.seq (.seq (.reg 4032 5 laws_FnExactJoinMay.r16) (.cond (.t 63) (.seq (.reg 4352 1 laws_FnExactJoinMay.r17) (.ret)) (.skip))) (.seq (.reg 4416 1 laws_FnExactJoinMay.r18) (.seq (.reg 4480 4 laws_FnExactJoinMay.r19) (.seq (.reg 4736 4 laws_FnExactJoinMay.r20) (.seq (.seq (.reg 4992 13 laws_FnExactJoinMay.r21) (.cond (.t 82) (.seq (.reg 5824 1 laws_FnExactJoinMay.r22) (.ret)) (.skip))) (.seq (.reg 5888 1 laws_FnExactJoinMay.r23) (.seq (.reg 5952 4 laws_FnExactJoinMay.r24) (.seq (.reg 6208 1 laws_FnExactJoinMay.r25) (.seq (.reg 6272 4 laws_FnExactJoinMay.r26) (.seq (.seq (.reg 6528 2 laws_FnExactJoinMay.r27) (.cond (.t 90) (.seq (.reg 6656 1 laws_FnExactJoinMay.r28) (.ret)) (.skip))) (.seq (.seq (.reg 6720 3 laws_FnExactJoinMay.r29) (.cond (.t 93) (.seq (.reg 6912 1 laws_FnExactJoinMay.r30) (.ret)) (.skip))) (.seq (.reg 6976 11 laws_FnExactJoinMay.r31) (.seq (.seq (.reg 7680 9 laws_FnExactJoinMay.r32) (.cond (.t 110) (.seq (.reg 8256 1 laws_FnExactJoinMay.r33) (.ret)) (.skip))) (.seq (.reg 8320 1 laws_FnExactJoinMay.r34) (.seq (.reg 8384 4 laws_FnExactJoinMay.r35) (.seq (.seq (.reg 8640 2 laws_FnExactJoinMay.r36) (.cond (.t 115) (.seq (.reg 8768 1 laws_FnExactJoinMay.r37) (.ret)) (.skip))) (.seq (.seq (.reg 8832 3 laws_FnExactJoinMay.r38) (.cond (.t 118) (.seq (.reg 9024 1 laws_FnExactJoinMay.r39) (.ret)) (.skip))) (.seq (.reg 9088 1 laws_FnExactJoinMay.r40) (.ret)))))))))))))))))))))))))))))) }
attribute [go_sem] laws_FnExactJoinMay.r0 laws_FnExactJoinMay.r1 laws_FnExactJoinMay.r2 laws_FnExactJoinMay.r3 laws_FnExactJoinMay.r4 laws_FnExactJoinMay.r5 laws_FnExactJoinMay.r6 laws_FnExactJoinMay.r7 laws_FnExactJoinMay.r8 laws_FnExactJoinMay.r9 laws_FnExactJoinMay.r10 laws_FnExactJoinMay.r11 laws_FnExactJoinMay.r12 laws_FnExactJoinMay.r13 laws_FnExactJoinMay.r14 laws_FnExactJoinMay.r15 laws_FnExactJoinMay.r16 laws_FnExactJoinMay.r17 laws_FnExactJoinMay.r18 laws_FnExactJoinMay.r19 laws_FnExactJoinMay.r20 laws_FnExactJoinMay.r21 laws_FnExactJoinMay.r22 laws_FnExactJoinMay.r23 laws_FnExactJoinMay.r24 laws_FnExactJoinMay.r25 laws_FnExactJoinMay.r26 laws_FnExactJoinMay.r27 laws_FnExactJoinMay.r28 laws_FnExactJoinMay.r29 laws_FnExactJoinMay.r30 laws_FnExactJoinMay.r31 laws_FnExactJoinMay.r32 laws_FnExactJoinMay.r33 laws_FnExactJoinMay.r34 laws_FnExactJoinMay.r35 laws_FnExactJoinMay.r36 laws_FnExactJoinMay.r37 laws_FnExactJoinMay.r38 laws_FnExactJoinMay.r39 laws_FnExactJoinMay.r40
theorem laws_FnExactJoinMay.ok : chkF prog F_laws_FnExactJoinMay 2 laws_FnExactJoinMay.fi = true := by kernel_rfl
end Go.Vm.Ytmicgdfekpoajaa
