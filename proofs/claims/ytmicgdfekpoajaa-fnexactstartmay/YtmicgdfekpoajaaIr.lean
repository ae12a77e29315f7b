/- The functions that the law reaches, in the text of the interpreter, and that this text fits them (no condition). -/
import Derived.Test.YtmicgdfekpoajaaVmc
import Derived.Test.YtmicgdfekpoajaaProg
import Derived.KernelRfl
/- PRINTED BY irgen.py, a program of this claim's author: the functions that the claim reaches, in the text of the interpreter, and that they fit. -/
namespace Go.Vm.Ytmicgdfekpoajaa
open Go Go.Vm
set_option linter.unusedVariables false
set_option maxRecDepth 100000
noncomputable abbrev prog : Program := Go.Proofs.Try.prog
abbrev F_laws_FnExactGoodMay : FuncId := 3
abbrev F_laws_FnExactStartMay : FuncId := 4
abbrev F_laws_FnExactInMay : FuncId := 5
abbrev F_laws_FnExactJoinMay : FuncId := 6
abbrev F_laws_FnExactHeedJump : FuncId := 7
abbrev F_laws_FnExactStepMay : FuncId := 8
abbrev F_laws_FnHeeded : FuncId := 9
abbrev F_laws_FnExactDoStep : FuncId := 10
abbrev F_laws_FnSteps : FuncId := 11
abbrev F_laws_FnMachine : FuncId := 12
abbrev F_laws_FnExactTriesFor : FuncId := 13
abbrev F_laws_szMay : FuncId := 14
abbrev F_spec_GoodMay : FuncId := 15
abbrev F_laws_toMay : FuncId := 16
abbrev F_impl_GoodMay : FuncId := 17
abbrev F_laws_eqMay : FuncId := 18
abbrev F_spec_StartMay : FuncId := 19
abbrev F_impl_StartMay : FuncId := 20
abbrev F_laws_markMay : FuncId := 21
abbrev F_laws_heldMay : FuncId := 22
abbrev F_laws_szMachine : FuncId := 23
abbrev F_spec_InMay : FuncId := 24
abbrev F_laws_toMachine : FuncId := 25
abbrev F_impl_InMay : FuncId := 26
abbrev F_laws_eqMachine : FuncId := 27
abbrev F_spec_JoinMay : FuncId := 28
abbrev F_impl_JoinMay : FuncId := 29
abbrev F_spec_HeedJump : FuncId := 30
abbrev F_laws_toStep : FuncId := 31
abbrev F_impl_HeedJump : FuncId := 32
abbrev F_spec_StepMay : FuncId := 33
abbrev F_impl_StepMay : FuncId := 34
abbrev F_spec_DrawReduceBoth : FuncId := 35
abbrev F_impl_ReduceBoth : FuncId := 36
abbrev F_spec_ReduceBoth : FuncId := 37
abbrev F_impl_GoodStretch : FuncId := 38
abbrev F_impl_GoodKnown : FuncId := 39
abbrev F_impl_WordOf : FuncId := 40
abbrev F_laws_numberOf : FuncId := 41
abbrev F_impl_InStretch : FuncId := 42
abbrev F_impl_MayBe : FuncId := 43
abbrev F_spec_DrawHeedJump : FuncId := 44
abbrev F_spec_DrawStepMay : FuncId := 45
abbrev F_laws_sameMay : FuncId := 46
abbrev F_laws_szStepS : FuncId := 47
abbrev F_spec_DoStep : FuncId := 48
abbrev F_laws_toStepS : FuncId := 49
abbrev F_laws_toIntS : FuncId := 50
abbrev F_impl_DoStep : FuncId := 51
abbrev F_laws_eqStepS : FuncId := 52
abbrev F_laws_eqIntS : FuncId := 53
abbrev F_laws_markStepS : FuncId := 54
abbrev F_laws_markIntS : FuncId := 55
abbrev F_laws_markMachine : FuncId := 56
abbrev F_laws_heldMachine : FuncId := 57
abbrev F_spec_DrawDoStep : FuncId := 58
abbrev F_laws_sameMachine : FuncId := 59
abbrev F_impl_GoodMachine : FuncId := 60
abbrev F_spec_GoodMachine : FuncId := 61
abbrev F_impl_NextsOf : FuncId := 62
abbrev F_laws_has : FuncId := 63
abbrev F_spec_DrawFaultFree : FuncId := 64
abbrev F_impl_FaultFree : FuncId := 65
abbrev F_spec_FaultFree : FuncId := 66
abbrev F_impl_NewMachine : FuncId := 67
abbrev F_spec_NewMachine : FuncId := 68
abbrev F_spec_DrawTraceOf : FuncId := 69
abbrev F_impl_TraceOf : FuncId := 70
abbrev F_spec_TraceOf : FuncId := 71
abbrev F_laws_sameInts : FuncId := 72
abbrev F_impl_RunProgram : FuncId := 73
abbrev F_spec_DrawRunProgram : FuncId := 74
abbrev F_spec_RunProgram : FuncId := 75
abbrev F_spec_TriesFor : FuncId := 76
abbrev F_impl_TriesFor : FuncId := 77
abbrev F_laws_eqIntSS : FuncId := 78
abbrev F_laws_markIntSS : FuncId := 79
abbrev F_laws_heldIntSS : FuncId := 80
abbrev F_laws_szStretchS : FuncId := 81
abbrev F_laws_szKnownS : FuncId := 82
abbrev F_laws_szBoolS : FuncId := 83
abbrev F_spec_GoodStretch : FuncId := 84
abbrev F_spec_GoodKnown : FuncId := 85
abbrev F_laws_toStretchS : FuncId := 86
abbrev F_laws_toKnownS : FuncId := 87
abbrev F_laws_toBoolS : FuncId := 88
abbrev F_impl_GoodMay_c1 : FuncId := 89
abbrev F_slices_ContainsFunc__sStretch_Stretch : FuncId := 90
abbrev F_slices_ContainsFunc__sKnown_Known : FuncId := 91
abbrev F_impl_GoodMay_c2 : FuncId := 92
abbrev F_laws_eqStretchS : FuncId := 93
abbrev F_laws_eqKnownS : FuncId := 94
abbrev F_laws_eqBoolS : FuncId := 95
abbrev F_spec_l13Const : FuncId := 96
abbrev F_spec_l9All : FuncId := 97
abbrev F_slices_Repeat__sStretch_Stretch : FuncId := 98
abbrev F_impl_allWords : FuncId := 99
abbrev F_laws_markStretchS : FuncId := 100
abbrev F_laws_markKnownS : FuncId := 101
abbrev F_laws_markBoolS : FuncId := 102
abbrev F_laws_heldStretchS : FuncId := 103
abbrev F_laws_heldKnownS : FuncId := 104
abbrev F_laws_heldBoolS : FuncId := 105
abbrev F_laws_szIntS : FuncId := 106
abbrev F_spec_l1In : FuncId := 107
abbrev F_spec_l10May : FuncId := 108
abbrev F_impl_in : FuncId := 109
abbrev F_impl_Known_matches : FuncId := 110
abbrev F_spec_l13Join : FuncId := 111
abbrev F_impl_joined : FuncId := 112
abbrev F_spec_l2Step : FuncId := 113
abbrev F_spec_l13Heed : FuncId := 114
abbrev F_spec_l13Own : FuncId := 115
abbrev F_impl_Step_valid : FuncId := 116
abbrev F_impl_heedJump : FuncId := 117
abbrev F_spec_l13Step : FuncId := 118
abbrev F_impl_stepMay : FuncId := 119
abbrev F_spec_pl1Cur_stretch : FuncId := 120
abbrev F_spec_pl1Cur_known : FuncId := 121
abbrev F_impl_reduceBoth : FuncId := 122
abbrev F_spec_l13Reduce : FuncId := 123
abbrev F_impl_isWord : FuncId := 124
abbrev F_spec_pl1Cur_among : FuncId := 125
abbrev F_spec_pl1Cur_pick : FuncId := 126
abbrev F_spec_pl1Cur_may : FuncId := 127
abbrev F_spec_pl1Cur_one : FuncId := 128
abbrev F_spec_pl1Cur_step : FuncId := 129
abbrev F_laws_sameBools : FuncId := 130
abbrev F_spec_GoodProgram : FuncId := 131
abbrev F_spec_l3Ctx : FuncId := 132
abbrev F_spec_l3Do : FuncId := 133
abbrev F_spec_l3Own : FuncId := 134
abbrev F_impl_GoodProgram : FuncId := 135
abbrev F_impl_isContext : FuncId := 136
abbrev F_impl_Machine_own : FuncId := 137
abbrev F_impl_pMachine_step : FuncId := 138
abbrev F_laws_eqStep : FuncId := 139
abbrev F_laws_heldIntS : FuncId := 140
abbrev F_spec_pl1Cur_program : FuncId := 141
abbrev F_spec_pl1Cur_ctx : FuncId := 142
abbrev F_spec_pl1Cur_machine : FuncId := 143
abbrev F_impl_areWords : FuncId := 144
abbrev F_spec_l1All : FuncId := 145
abbrev F_impl_nexts : FuncId := 146
abbrev F_impl_run : FuncId := 147
abbrev F_spec_l3Run : FuncId := 148
abbrev F_spec_l17Tries : FuncId := 149
abbrev F_impl_tries : FuncId := 150
abbrev F_spec_l1Word : FuncId := 151
abbrev F_laws_toStretch : FuncId := 152
abbrev F_laws_toKnown : FuncId := 153
abbrev F_slices_IndexFunc__sStretch_Stretch : FuncId := 154
abbrev F_slices_IndexFunc__sKnown_Known : FuncId := 155
abbrev F_laws_eqStretch : FuncId := 156
abbrev F_laws_eqKnown : FuncId := 157
abbrev F_bits_Mul : FuncId := 158
abbrev F_spec_l9Join : FuncId := 159
abbrev F_spec_l10Join : FuncId := 160
abbrev F_impl_May_own : FuncId := 161
abbrev F_impl_joinStretch : FuncId := 162
abbrev F_impl_joinKnown : FuncId := 163
abbrev F_spec_l2Reg : FuncId := 164
abbrev F_spec_l2Zero : FuncId := 165
abbrev F_spec_l9Meet : FuncId := 166
abbrev F_spec_l10Meet : FuncId := 167
abbrev F_spec_l9Less : FuncId := 168
abbrev F_spec_l1Most : FuncId := 169
abbrev F_spec_l1Least : FuncId := 170
abbrev F_impl_fields : FuncId := 171
abbrev F_impl_Step_ranges : FuncId := 172
abbrev F_impl_pStep_field : FuncId := 173
abbrev F_impl_meetStretch : FuncId := 174
abbrev F_impl_meetKnown : FuncId := 175
abbrev F_impl_splitLess : FuncId := 176
abbrev F_spec_l13Set : FuncId := 177
abbrev F_spec_l9Do : FuncId := 178
abbrev F_spec_l10Do : FuncId := 179
abbrev F_impl_pMay_put : FuncId := 180
abbrev F_impl_stretched : FuncId := 181
abbrev F_impl_doKnown : FuncId := 182
abbrev F_impl_exact : FuncId := 183
abbrev F_impl_unknown : FuncId := 184
abbrev F_spec_pl1Cur_word : FuncId := 185
abbrev F_spec_pl1Cur_rawWord : FuncId := 186
abbrev F_spec_l10Not : FuncId := 187
abbrev F_spec_pl1Cur_next : FuncId := 188
abbrev F_spec_l1Do : FuncId := 189
abbrev F_impl_Step_jumps : FuncId := 190
abbrev F_slices_ContainsFunc__sint_int : FuncId := 191
abbrev F_impl_isContext_c1 : FuncId := 192
abbrev F_slices_Clone__sint_int : FuncId := 193
abbrev F_slices_Clone__sbool_bool : FuncId := 194
abbrev F_impl_do : FuncId := 195
abbrev F_impl_areWords_c1 : FuncId := 196
abbrev F_spec_l17Full : FuncId := 197
abbrev F_spec_l1Has : FuncId := 198
abbrev F_impl_alone : FuncId := 199
abbrev F_slices_Contains__sint_int : FuncId := 200
abbrev F_bits_Mul32 : FuncId := 201
abbrev F_bits_Mul64 : FuncId := 202
abbrev F_slices_Clone__sStretch_Stretch : FuncId := 203
abbrev F_slices_Clone__sKnown_Known : FuncId := 204
abbrev F_impl_known : FuncId := 205
abbrev F_spec_l9Ends : FuncId := 206
abbrev F_spec_l9Mod : FuncId := 207
abbrev F_spec_l9Ones : FuncId := 208
abbrev F_spec_l9Shift : FuncId := 209
abbrev F_spec_l10Bits : FuncId := 210
abbrev F_spec_l1Wrap : FuncId := 211
abbrev F_impl_wrap : FuncId := 212
abbrev F_impl_ones : FuncId := 213
abbrev F_impl_bitwise : FuncId := 214
abbrev F_slices_IndexFunc__sint_int : FuncId := 215
abbrev F_slices_Repeat__sint_int : FuncId := 216
abbrev F_slices_Index__sint_int : FuncId := 217
abbrev F_spec_l9Floor : FuncId := 218
abbrev F_impl_Known_may : FuncId := 219
abbrev F_runtime_boundsError_Error : FuncId := 220
abbrev F_runtime_boundsError_RuntimeError : FuncId := 221
abbrev F_runtime_errorString_Error : FuncId := 222
abbrev F_runtime_errorString_RuntimeError : FuncId := 223
abbrev F_runtime_plainError_Error : FuncId := 224
abbrev F_runtime_plainError_RuntimeError : FuncId := 225
abbrev F_runtime_errorAddressString_Error : FuncId := 226
abbrev F_runtime_errorAddressString_RuntimeError : FuncId := 227
abbrev F_runtime_pTypeAssertionError_Error : FuncId := 228
abbrev F_runtime_pTypeAssertionError_RuntimeError : FuncId := 229
abbrev F_runtime_pPanicNilError_Error : FuncId := 230
abbrev F_runtime_pPanicNilError_RuntimeError : FuncId := 231
abbrev F_abi_pType_Align : FuncId := 232
abbrev F_maps_unhashableTypeError_Error : FuncId := 233
abbrev F_maps_unhashableTypeError_RuntimeError : FuncId := 234
abbrev F_impl_Step_branches : FuncId := 235
abbrev F_abi_Kind_String : FuncId := 236

/-! laws_eqStretch -/
def laws_eqStretch.r0 : List Ent := [
  E0 0 (some 2) none (.i (.box (.t 0))),
  E0 1 (some 3) none (.i (.box (.t 1))),
  E0 2 (some 4) none (.i (.mv (.k (.dat none (.bool false)))))]
def laws_eqStretch.r1 : List Ent := [
  E0 0 (some 5) none (.i (.fad 0 (.t 2))),
  E0 1 (some 6) none (.i (.load false false 1 (.t 5))),
  E0 2 (some 7) none (.i (.fad 0 (.t 3))),
  E0 3 (some 8) none (.i (.load false false 1 (.t 7))),
  E0 4 (some 9) none (.i (.bin .neq (.t 6) (.t 8)))]
def laws_eqStretch.r2 : List Ent := [
  E0 0 (some 4) none (.i (.mv (.k (.dat none (.bool false)))))]
def laws_eqStretch.r3 : List Ent := [
  E0 0 (some 10) none (.i (.fad 1 (.t 2))),
  E0 1 (some 11) none (.i (.load false false 1 (.t 10))),
  E0 2 (some 12) none (.i (.fad 1 (.t 3))),
  E0 3 (some 13) none (.i (.load false false 1 (.t 12))),
  E0 4 (some 14) none (.i (.bin .neq (.t 11) (.t 13)))]
def laws_eqStretch.r4 : List Ent := [
  E0 0 (some 4) none (.i (.mv (.k (.dat none (.bool false)))))]
def laws_eqStretch.r5 : List Ent := [
  E0 0 (some 4) none (.i (.mv (.k (.dat none (.bool true)))))]
def laws_eqStretch.fi : FI := { res := [.t 4], code := .seq (.reg 64 3 laws_eqStretch.r0) (.seq (.seq (.reg 256 5 laws_eqStretch.r1) (.cond (.t 9) (.seq (.reg 576 1 laws_eqStretch.r2) (.ret)) (.skip))) (.seq (.seq (.reg 640 5 laws_eqStretch.r3) (.cond (.t 14) (.seq (.reg 960 1 laws_eqStretch.r4) (.ret)) (.skip))) (.seq (.reg 1024 1 laws_eqStretch.r5) (.ret)))) }
attribute [go_sem] laws_eqStretch.r0 laws_eqStretch.r1 laws_eqStretch.r2 laws_eqStretch.r3 laws_eqStretch.r4 laws_eqStretch.r5
theorem laws_eqStretch.ok : chkF prog F_laws_eqStretch 2 laws_eqStretch.fi = true := by kernel_rfl

/-! laws_eqStretchS -/
def laws_eqStretchS.r0 : List Ent := [
  E0 0 (some 4) none (.i (.mv (.k (.dat none (.bool false)))))]
def laws_eqStretchS.r1 : List Ent := [
  E0 0 (some 6) none (.i (.mv (.t 0))),
  E0 1 (some 7) none (.i (.len (.t 6))),
  E0 2 (some 8) none (.i (.mv (.t 1))),
  E0 3 (some 9) none (.i (.len (.t 8))),
  E0 4 (some 10) none (.i (.bin .neq (.t 7) (.t 9)))]
def laws_eqStretchS.r2 : List Ent := [
  E0 0 (some 4) none (.i (.mv (.k (.dat none (.bool false)))))]
def laws_eqStretchS.r3 : List Ent := [
  E0 0 (some 5) none (.i (.mv (.k (I64 0))))]
def laws_eqStretchS.r4 : List Ent := [
  E0 0 (some 11) none (.i (.mv (.t 5))),
  E0 1 (some 12) none (.i (.mv (.t 0))),
  E0 2 (some 13) none (.i (.len (.t 12))),
  E0 3 (some 14) none (.i (.bin .lss (.t 11) (.t 13)))]
def laws_eqStretchS.r5 : List Ent := [
  E0 0 (some 17) none (.i (.mv (.t 0))),
  E0 1 (some 18) none (.i (.mv (.t 5))),
  ER 2 (some 19) none (.iad 2 (.t 17) (.t 18)),
  ER 3 (some 20) none (.load false true 2 (.t 19)),
  E0 4 (some 21) none (.i (.mv (.t 1))),
  E0 5 (some 22) none (.i (.mv (.t 5))),
  ER 6 (some 23) none (.iad 2 (.t 21) (.t 22)),
  ER 7 (some 24) none (.load false true 2 (.t 23)),
  E0 8 (some 25) none (.call F_laws_eqStretch false (roA [.t 20, .t 24])),
  E0 9 (some 26) none (.i (.un .not (.t 25)))]
def laws_eqStretchS.r6 : List Ent := [
  E0 0 (some 4) none (.i (.mv (.k (.dat none (.bool false)))))]
def laws_eqStretchS.r7 : List Ent := [
  E0 0 (some 15) none (.i (.mv (.t 5))),
  E0 1 (some 16) none (.i (.bin .add (.t 15) (.k (I64 1)))),
  E0 2 (some 5) none (.i (.mv (.t 16)))]
def laws_eqStretchS.b0 : KC := .seq (.seq (.reg 576 4 laws_eqStretchS.r4) (.cond (.t 14) (.skip) (.exit 0))) (.seq (.block 1 (.seq (.reg 832 10 laws_eqStretchS.r5) (.cond (.t 26) (.seq (.reg 1472 1 laws_eqStretchS.r6) (.ret)) (.skip)))) (.reg 1536 3 laws_eqStretchS.r7))
def laws_eqStretchS.r8 : List Ent := [
  E0 0 (some 4) none (.i (.mv (.k (.dat none (.bool true)))))]
def laws_eqStretchS.fi : FI := { res := [.t 4], code := .seq (.reg 64 1 laws_eqStretchS.r0) (.seq (.seq (.reg 128 5 laws_eqStretchS.r1) (.cond (.t 10) (.seq (.reg 448 1 laws_eqStretchS.r2) (.ret)) (.skip))) (.seq (.seq (.reg 512 1 laws_eqStretchS.r3) (.block 0 (.loop laws_eqStretchS.b0))) (.seq (.reg 1728 1 laws_eqStretchS.r8) (.ret)))) }
attribute [go_sem] laws_eqStretchS.r0 laws_eqStretchS.r1 laws_eqStretchS.r2 laws_eqStretchS.r3 laws_eqStretchS.r4 laws_eqStretchS.r5 laws_eqStretchS.r6 laws_eqStretchS.r7 laws_eqStretchS.r8
theorem laws_eqStretchS.ok : chkF prog F_laws_eqStretchS 2 laws_eqStretchS.fi = true := by kernel_rfl

/-! laws_eqKnown -/
def laws_eqKnown.r0 : List Ent := [
  E0 0 (some 2) none (.i (.box (.t 0))),
  E0 1 (some 3) none (.i (.box (.t 1))),
  E0 2 (some 4) none (.i (.mv (.k (.dat none (.bool false)))))]
def laws_eqKnown.r1 : List Ent := [
  E0 0 (some 5) none (.i (.fad 0 (.t 2))),
  E0 1 (some 6) none (.i (.load false false 1 (.t 5))),
  E0 2 (some 7) none (.i (.fad 0 (.t 3))),
  E0 3 (some 8) none (.i (.load false false 1 (.t 7))),
  E0 4 (some 9) none (.i (.bin .neq (.t 6) (.t 8)))]
def laws_eqKnown.r2 : List Ent := [
  E0 0 (some 4) none (.i (.mv (.k (.dat none (.bool false)))))]
def laws_eqKnown.r3 : List Ent := [
  E0 0 (some 10) none (.i (.fad 1 (.t 2))),
  E0 1 (some 11) none (.i (.load false false 1 (.t 10))),
  E0 2 (some 12) none (.i (.fad 1 (.t 3))),
  E0 3 (some 13) none (.i (.load false false 1 (.t 12))),
  E0 4 (some 14) none (.i (.bin .neq (.t 11) (.t 13)))]
def laws_eqKnown.r4 : List Ent := [
  E0 0 (some 4) none (.i (.mv (.k (.dat none (.bool false)))))]
def laws_eqKnown.r5 : List Ent := [
  E0 0 (some 4) none (.i (.mv (.k (.dat none (.bool true)))))]
def laws_eqKnown.fi : FI := { res := [.t 4], code := .seq (.reg 64 3 laws_eqKnown.r0) (.seq (.seq (.reg 256 5 laws_eqKnown.r1) (.cond (.t 9) (.seq (.reg 576 1 laws_eqKnown.r2) (.ret)) (.skip))) (.seq (.seq (.reg 640 5 laws_eqKnown.r3) (.cond (.t 14) (.seq (.reg 960 1 laws_eqKnown.r4) (.ret)) (.skip))) (.seq (.reg 1024 1 laws_eqKnown.r5) (.ret)))) }
attribute [go_sem] laws_eqKnown.r0 laws_eqKnown.r1 laws_eqKnown.r2 laws_eqKnown.r3 laws_eqKnown.r4 laws_eqKnown.r5
theorem laws_eqKnown.ok : chkF prog F_laws_eqKnown 2 laws_eqKnown.fi = true := by kernel_rfl

/-! laws_eqKnownS -/
def laws_eqKnownS.r0 : List Ent := [
  E0 0 (some 4) none (.i (.mv (.k (.dat none (.bool false)))))]
def laws_eqKnownS.r1 : List Ent := [
  E0 0 (some 6) none (.i (.mv (.t 0))),
  E0 1 (some 7) none (.i (.len (.t 6))),
  E0 2 (some 8) none (.i (.mv (.t 1))),
  E0 3 (some 9) none (.i (.len (.t 8))),
  E0 4 (some 10) none (.i (.bin .neq (.t 7) (.t 9)))]
def laws_eqKnownS.r2 : List Ent := [
  E0 0 (some 4) none (.i (.mv (.k (.dat none (.bool false)))))]
def laws_eqKnownS.r3 : List Ent := [
  E0 0 (some 5) none (.i (.mv (.k (I64 0))))]
def laws_eqKnownS.r4 : List Ent := [
  E0 0 (some 11) none (.i (.mv (.t 5))),
  E0 1 (some 12) none (.i (.mv (.t 0))),
  E0 2 (some 13) none (.i (.len (.t 12))),
  E0 3 (some 14) none (.i (.bin .lss (.t 11) (.t 13)))]
def laws_eqKnownS.r5 : List Ent := [
  E0 0 (some 17) none (.i (.mv (.t 0))),
  E0 1 (some 18) none (.i (.mv (.t 5))),
  ER 2 (some 19) none (.iad 2 (.t 17) (.t 18)),
  ER 3 (some 20) none (.load false true 2 (.t 19)),
  E0 4 (some 21) none (.i (.mv (.t 1))),
  E0 5 (some 22) none (.i (.mv (.t 5))),
  ER 6 (some 23) none (.iad 2 (.t 21) (.t 22)),
  ER 7 (some 24) none (.load false true 2 (.t 23)),
  E0 8 (some 25) none (.call F_laws_eqKnown false (roA [.t 20, .t 24])),
  E0 9 (some 26) none (.i (.un .not (.t 25)))]
def laws_eqKnownS.r6 : List Ent := [
  E0 0 (some 4) none (.i (.mv (.k (.dat none (.bool false)))))]
def laws_eqKnownS.r7 : List Ent := [
  E0 0 (some 15) none (.i (.mv (.t 5))),
  E0 1 (some 16) none (.i (.bin .add (.t 15) (.k (I64 1)))),
  E0 2 (some 5) none (.i (.mv (.t 16)))]
def laws_eqKnownS.b0 : KC := .seq (.seq (.reg 576 4 laws_eqKnownS.r4) (.cond (.t 14) (.skip) (.exit 0))) (.seq (.block 1 (.seq (.reg 832 10 laws_eqKnownS.r5) (.cond (.t 26) (.seq (.reg 1472 1 laws_eqKnownS.r6) (.ret)) (.skip)))) (.reg 1536 3 laws_eqKnownS.r7))
def laws_eqKnownS.r8 : List Ent := [
  E0 0 (some 4) none (.i (.mv (.k (.dat none (.bool true)))))]
def laws_eqKnownS.fi : FI := { res := [.t 4], code := .seq (.reg 64 1 laws_eqKnownS.r0) (.seq (.seq (.reg 128 5 laws_eqKnownS.r1) (.cond (.t 10) (.seq (.reg 448 1 laws_eqKnownS.r2) (.ret)) (.skip))) (.seq (.seq (.reg 512 1 laws_eqKnownS.r3) (.block 0 (.loop laws_eqKnownS.b0))) (.seq (.reg 1728 1 laws_eqKnownS.r8) (.ret)))) }
attribute [go_sem] laws_eqKnownS.r0 laws_eqKnownS.r1 laws_eqKnownS.r2 laws_eqKnownS.r3 laws_eqKnownS.r4 laws_eqKnownS.r5 laws_eqKnownS.r6 laws_eqKnownS.r7 laws_eqKnownS.r8
theorem laws_eqKnownS.ok : chkF prog F_laws_eqKnownS 2 laws_eqKnownS.fi = true := by kernel_rfl

/-! laws_eqBoolS -/
def laws_eqBoolS.r0 : List Ent := [
  E0 0 (some 4) none (.i (.mv (.k (.dat none (.bool false)))))]
def laws_eqBoolS.r1 : List Ent := [
  E0 0 (some 6) none (.i (.mv (.t 0))),
  E0 1 (some 7) none (.i (.len (.t 6))),
  E0 2 (some 8) none (.i (.mv (.t 1))),
  E0 3 (some 9) none (.i (.len (.t 8))),
  E0 4 (some 10) none (.i (.bin .neq (.t 7) (.t 9)))]
def laws_eqBoolS.r2 : List Ent := [
  E0 0 (some 4) none (.i (.mv (.k (.dat none (.bool false)))))]
def laws_eqBoolS.r3 : List Ent := [
  E0 0 (some 5) none (.i (.mv (.k (I64 0))))]
def laws_eqBoolS.r4 : List Ent := [
  E0 0 (some 11) none (.i (.mv (.t 5))),
  E0 1 (some 12) none (.i (.mv (.t 0))),
  E0 2 (some 13) none (.i (.len (.t 12))),
  E0 3 (some 14) none (.i (.bin .lss (.t 11) (.t 13)))]
def laws_eqBoolS.r5 : List Ent := [
  E0 0 (some 17) none (.i (.mv (.t 0))),
  E0 1 (some 18) none (.i (.mv (.t 5))),
  ER 2 (some 19) none (.iad 1 (.t 17) (.t 18)),
  ER 3 (some 20) none (.load false false 1 (.t 19)),
  E0 4 (some 21) none (.i (.mv (.t 1))),
  E0 5 (some 22) none (.i (.mv (.t 5))),
  ER 6 (some 23) none (.iad 1 (.t 21) (.t 22)),
  ER 7 (some 24) none (.load false false 1 (.t 23)),
  E0 8 (some 25) none (.i (.eqb true (.t 20) (.t 24)))]
def laws_eqBoolS.r6 : List Ent := [
  E0 0 (some 4) none (.i (.mv (.k (.dat none (.bool false)))))]
def laws_eqBoolS.r7 : List Ent := [
  E0 0 (some 15) none (.i (.mv (.t 5))),
  E0 1 (some 16) none (.i (.bin .add (.t 15) (.k (I64 1)))),
  E0 2 (some 5) none (.i (.mv (.t 16)))]
def laws_eqBoolS.b0 : KC := .seq (.seq (.reg 576 4 laws_eqBoolS.r4) (.cond (.t 14) (.skip) (.exit 0))) (.seq (.block 1 (.seq (.reg 832 9 laws_eqBoolS.r5) (.cond (.t 25) (.seq (.reg 1408 1 laws_eqBoolS.r6) (.ret)) (.skip)))) (.reg 1472 3 laws_eqBoolS.r7))
def laws_eqBoolS.r8 : List Ent := [
  E0 0 (some 4) none (.i (.mv (.k (.dat none (.bool true)))))]
def laws_eqBoolS.fi : FI := { res := [.t 4], code := .seq (.reg 64 1 laws_eqBoolS.r0) (.seq (.seq (.reg 128 5 laws_eqBoolS.r1) (.cond (.t 10) (.seq (.reg 448 1 laws_eqBoolS.r2) (.ret)) (.skip))) (.seq (.seq (.reg 512 1 laws_eqBoolS.r3) (.block 0 (.loop laws_eqBoolS.b0))) (.seq (.reg 1664 1 laws_eqBoolS.r8) (.ret)))) }
attribute [go_sem] laws_eqBoolS.r0 laws_eqBoolS.r1 laws_eqBoolS.r2 laws_eqBoolS.r3 laws_eqBoolS.r4 laws_eqBoolS.r5 laws_eqBoolS.r6 laws_eqBoolS.r7 laws_eqBoolS.r8
theorem laws_eqBoolS.ok : chkF prog F_laws_eqBoolS 2 laws_eqBoolS.fi = true := by kernel_rfl

/-! laws_eqMay -/
def laws_eqMay.r0 : List Ent := [
  E0 0 (some 2) none (.i (.box (.t 0))),
  E0 1 (some 3) none (.i (.box (.t 1))),
  E0 2 (some 4) none (.i (.mv (.k (.dat none (.bool false)))))]
def laws_eqMay.r1 : List Ent := [
  E0 0 (some 5) none (.i (.fad 0 (.t 2))),
  E0 1 (some 6) none (.i (.load false false 1 (.t 5))),
  E0 2 (some 7) none (.i (.fad 0 (.t 3))),
  E0 3 (some 8) none (.i (.load false false 1 (.t 7))),
  E0 4 (some 9) none (.call F_laws_eqStretchS false (roA [.t 6, .t 8])),
  E0 5 (some 10) none (.i (.un .not (.t 9)))]
def laws_eqMay.r2 : List Ent := [
  E0 0 (some 4) none (.i (.mv (.k (.dat none (.bool false)))))]
def laws_eqMay.r3 : List Ent := [
  E0 0 (some 11) none (.i (.fad 1 (.t 2))),
  E0 1 (some 12) none (.i (.load false false 1 (.t 11))),
  E0 2 (some 13) none (.i (.fad 1 (.t 3))),
  E0 3 (some 14) none (.i (.load false false 1 (.t 13))),
  E0 4 (some 15) none (.call F_laws_eqKnownS false (roA [.t 12, .t 14])),
  E0 5 (some 16) none (.i (.un .not (.t 15)))]
def laws_eqMay.r4 : List Ent := [
  E0 0 (some 4) none (.i (.mv (.k (.dat none (.bool false)))))]
def laws_eqMay.r5 : List Ent := [
  E0 0 (some 17) none (.i (.fad 2 (.t 2))),
  E0 1 (some 18) none (.i (.load false false 1 (.t 17))),
  E0 2 (some 19) none (.i (.fad 2 (.t 3))),
  E0 3 (some 20) none (.i (.load false false 1 (.t 19))),
  E0 4 (some 21) none (.call F_laws_eqStretchS false (roA [.t 18, .t 20])),
  E0 5 (some 22) none (.i (.un .not (.t 21)))]
def laws_eqMay.r6 : List Ent := [
  E0 0 (some 4) none (.i (.mv (.k (.dat none (.bool false)))))]
def laws_eqMay.r7 : List Ent := [
  E0 0 (some 23) none (.i (.fad 3 (.t 2))),
  E0 1 (some 24) none (.i (.load false false 1 (.t 23))),
  E0 2 (some 25) none (.i (.fad 3 (.t 3))),
  E0 3 (some 26) none (.i (.load false false 1 (.t 25))),
  E0 4 (some 27) none (.call F_laws_eqBoolS false (roA [.t 24, .t 26])),
  E0 5 (some 28) none (.i (.un .not (.t 27)))]
def laws_eqMay.r8 : List Ent := [
  E0 0 (some 4) none (.i (.mv (.k (.dat none (.bool false)))))]
def laws_eqMay.r9 : List Ent := [
  E0 0 (some 4) none (.i (.mv (.k (.dat none (.bool true)))))]
def laws_eqMay.fi : FI := { res := [.t 4], code := .seq (.reg 64 3 laws_eqMay.r0) (.seq (.seq (.reg 256 6 laws_eqMay.r1) (.cond (.t 10) (.seq (.reg 640 1 laws_eqMay.r2) (.ret)) (.skip))) (.seq (.seq (.reg 704 6 laws_eqMay.r3) (.cond (.t 16) (.seq (.reg 1088 1 laws_eqMay.r4) (.ret)) (.skip))) (.seq (.seq (.reg 1152 6 laws_eqMay.r5) (.cond (.t 22) (.seq (.reg 1536 1 laws_eqMay.r6) (.ret)) (.skip))) (.seq (.seq (.reg 1600 6 laws_eqMay.r7) (.cond (.t 28) (.seq (.reg 1984 1 laws_eqMay.r8) (.ret)) (.skip))) (.seq (.reg 2048 1 laws_eqMay.r9) (.ret)))))) }
attribute [go_sem] laws_eqMay.r0 laws_eqMay.r1 laws_eqMay.r2 laws_eqMay.r3 laws_eqMay.r4 laws_eqMay.r5 laws_eqMay.r6 laws_eqMay.r7 laws_eqMay.r8 laws_eqMay.r9
theorem laws_eqMay.ok : chkF prog F_laws_eqMay 2 laws_eqMay.fi = true := by kernel_rfl

/-! spec_l13Const -/
def spec_l13Const.r0 : List Ent := [
  E0 0 (some 2) none (.i (.box (.k (.agg [.dat none (.int .i64 0), .dat none (.int .i64 0)])))),
  E0 1 (some 3) none (.i (.box (.k (.agg [.dat none (.int .i64 0), .dat none (.int .i64 0)]))))]
def spec_l13Const.r1 : List Ent := [
  E0 0 (some 4) none (.i (.mv (.t 0))),
  E0 1 (some 5) none (.i (.mv (.t 0))),
  E0 2 (some 6) none (.i (.bld [.t 4, .t 5])),
  E0 3 (some 7) none (.i (.mv (.t 0))),
  E0 4 (some 8) none (.i (.bld [.t 7, .k (.dat none (.int .i64 0))])),
  E0 5 none none (.i (.store 2 (.t 2) (.t 6))),
  E0 6 none none (.i (.store 2 (.t 3) (.t 8)))]
def spec_l13Const.fi : FI := { res := [.c 2 true 2, .c 3 true 2], code := .seq (.reg 64 2 spec_l13Const.r0) (.seq (.reg 192 7 spec_l13Const.r1) (.ret)) }
attribute [go_sem] spec_l13Const.r0 spec_l13Const.r1
theorem spec_l13Const.ok : chkF prog F_spec_l13Const 1 spec_l13Const.fi = true := by kernel_rfl

/-! spec_l9All -/
def spec_l9All.r0 : List Ent := [
  E0 0 (some 0) none (.i (.box (.k (.agg [.dat none (.int .i64 0), .dat none (.int .i64 0)]))))]
def spec_l9All.r1 : List Ent := [
  E0 0 (some 1) none (.i (.bld [.k (.dat none (.int .i64 0)), .k (I64 65535)])),
  E0 1 none none (.i (.store 2 (.t 0) (.t 1)))]
def spec_l9All.fi : FI := { res := [.c 0 true 2], code := .seq (.reg 64 1 spec_l9All.r0) (.seq (.reg 128 2 spec_l9All.r1) (.ret)) }
attribute [go_sem] spec_l9All.r0 spec_l9All.r1
theorem spec_l9All.ok : chkF prog F_spec_l9All 0 spec_l9All.fi = true := by kernel_rfl

/-! spec_StartMay -/
def spec_StartMay.r0 : List Ent := [
  E0 0 (some 0) none (.i (.box (.k (.agg [.nil 2, .nil 2, .nil 2, .nil 1]))))]
def spec_StartMay.r1 : List Ent := [
  E0 0 (some 1) none (.i (.box (.k (.agg [.nil 2, .nil 2, .nil 2, .nil 1]))))]
def spec_StartMay.r2 : List Ent := [
  E0 0 (some 2) none (.i (.mv (.k (I64 0))))]
def spec_StartMay.r3 : List Ent := [
  E0 0 (some 6) none (.i (.mv (.t 2))),
  E0 1 (some 7) none (.i (.bin .lss (.t 6) (.k (I64 6))))]
def spec_StartMay.r4 : List Ent := [
  E0 0 (some 11) none (.call F_spec_l13Const false (roA [.k (I64 0)])),
  E0 1 (some 10) none (.i (.mv (.t 11))),
  E0 2 (some 12) none (.i (.ext 0 (.t 10))),
  E0 3 (some 13) none (.i (.ext 1 (.t 10))),
  E0 4 (some 3) none (.i (.box (.k (.agg [.dat none (.int .i64 0), .dat none (.int .i64 0)])))),
  E0 5 (some 4) none (.i (.box (.k (.agg [.dat none (.int .i64 0), .dat none (.int .i64 0)])))),
  E0 6 none none (.i (.store 2 (.t 3) (.t 12))),
  E0 7 none none (.i (.store 2 (.t 4) (.t 13)))]
def spec_StartMay.r5 : List Ent := [
  E0 0 (some 14) none (.i (.fad 0 (.t 1))),
  E0 1 (some 15) none (.i (.load false false 1 (.t 14))),
  E0 2 (some 16) none (.i (.load false true 2 (.t 3))),
  E0 3 (some 17) none (.i (.bsl true 2 [.t 16])),
  E0 4 (some 18) none (.i (.app 2 16 (.t 15) (.t 17))),
  E0 5 (some 19) none (.i (.fad 0 (.t 1))),
  E0 6 none none (.i (.store 1 (.t 19) (.t 18)))]
def spec_StartMay.r6 : List Ent := [
  E0 0 (some 20) none (.i (.fad 1 (.t 1))),
  E0 1 (some 21) none (.i (.load false false 1 (.t 20))),
  E0 2 (some 22) none (.i (.load false true 2 (.t 4))),
  E0 3 (some 23) none (.i (.bsl true 2 [.t 22])),
  E0 4 (some 24) none (.i (.app 2 16 (.t 21) (.t 23))),
  E0 5 (some 25) none (.i (.fad 1 (.t 1))),
  E0 6 none none (.i (.store 1 (.t 25) (.t 24)))]
def spec_StartMay.r7 : List Ent := [
  E0 0 (some 8) none (.i (.mv (.t 2))),
  E0 1 (some 9) none (.i (.bin .add (.t 8) (.k (I64 1)))),
  E0 2 (some 2) none (.i (.mv (.t 9)))]
def spec_StartMay.b0 : KC := .seq (.seq (.reg 256 2 spec_StartMay.r3) (.cond (.t 7) (.skip) (.exit 0))) (.seq (.block 1 (.seq (.reg 384 8 spec_StartMay.r4) (.seq (.reg 896 7 spec_StartMay.r5) (.reg 1344 7 spec_StartMay.r6)))) (.reg 1792 3 spec_StartMay.r7))
def spec_StartMay.r8 : List Ent := [
  E0 0 (some 5) none (.i (.mv (.k (I64 0))))]
def spec_StartMay.r9 : List Ent := [
  E0 0 (some 26) none (.i (.mv (.t 5))),
  E0 1 (some 27) none (.i (.bin .lss (.t 26) (.k (I64 16))))]
def spec_StartMay.r10 : List Ent := [
  EX 0 (some 30) none (.i (.fad 2 (.t 1))) 2 [3] [] false,
  EX 1 (some 31) none (.i (.load false false 1 (.t 30))) 2 [3] [] false,
  E2 2 (some 32) none (.call F_spec_l9All false (roA [])),
  EP 3 (some 33) none (.i (.bsl true 2 [.t 32])) 1 false,
  E0 4 (some 34) none (.i (.app 2 16 (.t 31) (.t 33))),
  E0 5 (some 35) none (.i (.fad 2 (.t 1))),
  E0 6 none none (.i (.store 1 (.t 35) (.t 34)))]
def spec_StartMay.r11 : List Ent := [
  E0 0 (some 36) none (.i (.fad 3 (.t 1))),
  E0 1 (some 37) none (.i (.load false false 1 (.t 36))),
  E0 2 (some 38) none (.i (.bsl true 1 [.k (.dat none (.bool false))])),
  E0 3 (some 39) none (.i (.app 1 1 (.t 37) (.t 38))),
  E0 4 (some 40) none (.i (.fad 3 (.t 1))),
  E0 5 none none (.i (.store 1 (.t 40) (.t 39)))]
def spec_StartMay.r12 : List Ent := [
  E0 0 (some 28) none (.i (.mv (.t 5))),
  E0 1 (some 29) none (.i (.bin .add (.t 28) (.k (I64 1)))),
  E0 2 (some 5) none (.i (.mv (.t 29)))]
def spec_StartMay.b1 : KC := .seq (.seq (.reg 2048 2 spec_StartMay.r9) (.cond (.t 27) (.skip) (.exit 2))) (.seq (.block 3 (.seq (.reg 2176 7 spec_StartMay.r10) (.reg 2624 6 spec_StartMay.r11))) (.reg 3008 3 spec_StartMay.r12))
def spec_StartMay.r13 : List Ent := [
  E0 0 (some 41) none (.i (.load false true 4 (.t 1))),
  E0 1 none none (.i (.store 4 (.t 0) (.t 41)))]
def spec_StartMay.fi : FI := { res := [.c 0 true 4], code := .seq (.reg 64 1 spec_StartMay.r0) (.seq (.reg 128 1 spec_StartMay.r1) (.seq (.seq (.reg 192 1 spec_StartMay.r2) (.block 0 (.loop spec_StartMay.b0))) (.seq (.seq (.reg 1984 1 spec_StartMay.r8) (.block 2 (.loop spec_StartMay.b1))) (.seq (.reg 3200 2 spec_StartMay.r13) (.ret))))) }
attribute [go_sem] spec_StartMay.r0 spec_StartMay.r1 spec_StartMay.r2 spec_StartMay.r3 spec_StartMay.r4 spec_StartMay.r5 spec_StartMay.r6 spec_StartMay.r7 spec_StartMay.r8 spec_StartMay.r9 spec_StartMay.r10 spec_StartMay.r11 spec_StartMay.r12 spec_StartMay.r13
theorem spec_StartMay.ok : chkF prog F_spec_StartMay 0 spec_StartMay.fi = true := by kernel_rfl

/-! bits_Mul64 -/
def bits_Mul64.r0 : List Ent := [
  E0 0 (some 4) none (.i (.mv (.k (.dat none (.int .u64 0))))),
  E0 1 (some 5) none (.i (.mv (.k (.dat none (.int .u64 0)))))]
def bits_Mul64.r1 : List Ent := [
  E0 0 (some 14) none (.i (.mv (.t 0))),
  E0 1 (some 15) none (.i (.bin .and (.t 14) (.k (.dat none (.int .u64 4294967295))))),
  E0 2 (some 6) none (.i (.mv (.t 15)))]
def bits_Mul64.r2 : List Ent := [
  E0 0 (some 16) none (.i (.mv (.t 0))),
  E0 1 (some 17) none (.i (.bin .shr (.t 16) (.k (.dat none (.int .u64 32))))),
  E0 2 (some 7) none (.i (.mv (.t 17)))]
def bits_Mul64.r3 : List Ent := [
  E0 0 (some 18) none (.i (.mv (.t 1))),
  E0 1 (some 19) none (.i (.bin .and (.t 18) (.k (.dat none (.int .u64 4294967295))))),
  E0 2 (some 8) none (.i (.mv (.t 19)))]
def bits_Mul64.r4 : List Ent := [
  E0 0 (some 20) none (.i (.mv (.t 1))),
  E0 1 (some 21) none (.i (.bin .shr (.t 20) (.k (.dat none (.int .u64 32))))),
  E0 2 (some 9) none (.i (.mv (.t 21)))]
def bits_Mul64.r5 : List Ent := [
  E0 0 (some 22) none (.i (.mv (.t 6))),
  E0 1 (some 23) none (.i (.mv (.t 8))),
  E0 2 (some 24) none (.i (.bin .mul (.t 22) (.t 23))),
  E0 3 (some 10) none (.i (.mv (.t 24)))]
def bits_Mul64.r6 : List Ent := [
  E0 0 (some 25) none (.i (.mv (.t 7))),
  E0 1 (some 26) none (.i (.mv (.t 8))),
  E0 2 (some 27) none (.i (.bin .mul (.t 25) (.t 26))),
  E0 3 (some 28) none (.i (.mv (.t 10))),
  E0 4 (some 29) none (.i (.bin .shr (.t 28) (.k (.dat none (.int .u64 32))))),
  E0 5 (some 30) none (.i (.bin .add (.t 27) (.t 29))),
  E0 6 (some 11) none (.i (.mv (.t 30)))]
def bits_Mul64.r7 : List Ent := [
  E0 0 (some 31) none (.i (.mv (.t 11))),
  E0 1 (some 32) none (.i (.bin .and (.t 31) (.k (.dat none (.int .u64 4294967295))))),
  E0 2 (some 12) none (.i (.mv (.t 32)))]
def bits_Mul64.r8 : List Ent := [
  E0 0 (some 33) none (.i (.mv (.t 11))),
  E0 1 (some 34) none (.i (.bin .shr (.t 33) (.k (.dat none (.int .u64 32))))),
  E0 2 (some 13) none (.i (.mv (.t 34)))]
def bits_Mul64.r9 : List Ent := [
  E0 0 (some 35) none (.i (.mv (.t 12))),
  E0 1 (some 36) none (.i (.mv (.t 6))),
  E0 2 (some 37) none (.i (.mv (.t 9))),
  E0 3 (some 38) none (.i (.bin .mul (.t 36) (.t 37))),
  E0 4 (some 39) none (.i (.bin .add (.t 35) (.t 38))),
  E0 5 (some 12) none (.i (.mv (.t 39)))]
def bits_Mul64.r10 : List Ent := [
  E0 0 (some 40) none (.i (.mv (.t 7))),
  E0 1 (some 41) none (.i (.mv (.t 9))),
  E0 2 (some 42) none (.i (.bin .mul (.t 40) (.t 41))),
  E0 3 (some 43) none (.i (.mv (.t 13))),
  E0 4 (some 44) none (.i (.bin .add (.t 42) (.t 43))),
  E0 5 (some 45) none (.i (.mv (.t 12))),
  E0 6 (some 46) none (.i (.bin .shr (.t 45) (.k (.dat none (.int .u64 32))))),
  E0 7 (some 47) none (.i (.bin .add (.t 44) (.t 46))),
  E0 8 (some 4) none (.i (.mv (.t 47)))]
def bits_Mul64.r11 : List Ent := [
  E0 0 (some 48) none (.i (.mv (.t 0))),
  E0 1 (some 49) none (.i (.mv (.t 1))),
  E0 2 (some 50) none (.i (.bin .mul (.t 48) (.t 49))),
  E0 3 (some 5) none (.i (.mv (.t 50)))]
def bits_Mul64.fi : FI := { res := [.t 4, .t 5], code := .seq (.reg 64 2 bits_Mul64.r0) (.seq (.reg 192 3 bits_Mul64.r1) (.seq (.reg 384 3 bits_Mul64.r2) (.seq (.reg 576 3 bits_Mul64.r3) (.seq (.reg 768 3 bits_Mul64.r4) (.seq (.reg 960 4 bits_Mul64.r5) (.seq (.reg 1216 7 bits_Mul64.r6) (.seq (.reg 1664 3 bits_Mul64.r7) (.seq (.reg 1856 3 bits_Mul64.r8) (.seq (.reg 2048 6 bits_Mul64.r9) (.seq (.reg 2432 9 bits_Mul64.r10) (.seq (.reg 3008 4 bits_Mul64.r11) (.ret)))))))))))) }
attribute [go_sem] bits_Mul64.r0 bits_Mul64.r1 bits_Mul64.r2 bits_Mul64.r3 bits_Mul64.r4 bits_Mul64.r5 bits_Mul64.r6 bits_Mul64.r7 bits_Mul64.r8 bits_Mul64.r9 bits_Mul64.r10 bits_Mul64.r11
theorem bits_Mul64.ok : chkF prog F_bits_Mul64 2 bits_Mul64.fi = true := by kernel_rfl

/-! bits_Mul -/
def bits_Mul.r0 : List Ent := [
  E0 0 (some 4) none (.i (.mv (.k (.dat none (.int .u64 0))))),
  E0 1 (some 5) none (.i (.mv (.k (.dat none (.int .u64 0)))))]
def bits_Mul.r1 : List Ent := [
  E0 0 (some 11) none (.i (.mv (.t 0))),
  E0 1 (some 12) none (.i (.cnv .u32 (.t 11))),
  E0 2 (some 13) none (.i (.mv (.t 1))),
  E0 3 (some 14) none (.i (.cnv .u32 (.t 13))),
  E0 4 (some 15) none (.call F_bits_Mul32 false (roA [.t 12, .t 14])),
  E0 5 (some 10) none (.i (.mv (.t 15))),
  E0 6 (some 16) none (.i (.ext 0 (.t 10))),
  E0 7 (some 17) none (.i (.ext 1 (.t 10))),
  E0 8 (some 6) none (.i (.mv (.t 16))),
  E0 9 (some 7) none (.i (.mv (.t 17)))]
def bits_Mul.r2 : List Ent := [
  E0 0 (some 18) none (.i (.mv (.t 6))),
  E0 1 (some 19) none (.i (.cnv .u64 (.t 18))),
  E0 2 (some 20) none (.i (.mv (.t 7))),
  E0 3 (some 21) none (.i (.cnv .u64 (.t 20))),
  E0 4 (some 4) none (.i (.mv (.t 19))),
  E0 5 (some 5) none (.i (.mv (.t 21)))]
def bits_Mul.r3 : List Ent := [
  E0 0 (some 23) none (.i (.mv (.t 0))),
  E0 1 (some 24) none (.i (.mv (.t 1))),
  E0 2 (some 25) none (.call F_bits_Mul64 false (roA [.t 23, .t 24])),
  E0 3 (some 22) none (.i (.mv (.t 25))),
  E0 4 (some 26) none (.i (.ext 0 (.t 22))),
  E0 5 (some 27) none (.i (.ext 1 (.t 22))),
  E0 6 (some 8) none (.i (.mv (.t 26))),
  E0 7 (some 9) none (.i (.mv (.t 27)))]
def bits_Mul.r4 : List Ent := [
  E0 0 (some 28) none (.i (.mv (.t 8))),
  E0 1 (some 29) none (.i (.mv (.t 9))),
  E0 2 (some 4) none (.i (.mv (.t 28))),
  E0 3 (some 5) none (.i (.mv (.t 29)))]
def bits_Mul.fi : FI := { res := [.t 4, .t 5], code := .seq (.reg 64 2 bits_Mul.r0) (.seq (.cond (.k (.dat none (.bool false))) (.seq (.reg 192 10 bits_Mul.r1) (.seq (.reg 832 6 bits_Mul.r2) (.ret))) (.skip)) (.seq (.reg 1216 8 bits_Mul.r3) (.seq (.reg 1728 4 bits_Mul.r4) (.ret)))) }
attribute [go_sem] bits_Mul.r0 bits_Mul.r1 bits_Mul.r2 bits_Mul.r3 bits_Mul.r4
theorem bits_Mul.ok : chkF prog F_bits_Mul 2 bits_Mul.fi = true := by kernel_rfl

/-! slices_Repeat__sStretch_Stretch -/
def slices_Repeat__sStretch_Stretch.r0 : List Ent := [
  E0 0 (some 4) none (.i (.mv (.k (.nil 2))))]
def slices_Repeat__sStretch_Stretch.r1 : List Ent := [
  E0 0 (some 9) none (.i (.mv (.t 1))),
  E0 1 (some 10) none (.i (.bin .lss (.t 9) (.k (I64 0))))]
def slices_Repeat__sStretch_Stretch.r2 : List Ent := [
  E0 0 (some 11) none (.i (.no)),
  E0 1 none none (.i (.no))]
def slices_Repeat__sStretch_Stretch.r3 : List Ent := [
  E0 0 (some 13) none (.i (.mv (.t 0))),
  E0 1 (some 14) none (.i (.len (.t 13))),
  E0 2 (some 15) none (.i (.cnv .u64 (.t 14))),
  E0 3 (some 16) none (.i (.mv (.t 1))),
  E0 4 (some 17) none (.i (.cnv .u64 (.t 16))),
  E0 5 (some 18) none (.call F_bits_Mul false (roA [.t 15, .t 17])),
  E0 6 (some 12) none (.i (.mv (.t 18))),
  E0 7 (some 19) none (.i (.ext 0 (.t 12))),
  E0 8 (some 20) none (.i (.ext 1 (.t 12))),
  E0 9 (some 5) none (.i (.mv (.t 19))),
  E0 10 (some 6) none (.i (.mv (.t 20)))]
def slices_Repeat__sStretch_Stretch.r4 : List Ent := [
  E0 0 (some 21) none (.i (.mv (.t 5))),
  E0 1 (some 22) none (.i (.bin .gtr (.t 21) (.k (.dat none (.int .u64 0))))),
  E0 2 (some 23) none (.i (.mv (.t 22))),
  E0 3 (some 24) (some (23, false)) (.i (.mv (.t 6))),
  E0 4 (some 25) (some (23, false)) (.i (.bin .gtr (.t 24) (.k (.dat none (.int .u64 9223372036854775807))))),
  E0 5 (some 26) none (.i (.pick (.t 23) (.k (.dat none (.bool true))) (.t 25)))]
def slices_Repeat__sStretch_Stretch.r5 : List Ent := [
  E0 0 (some 27) none (.i (.no)),
  E0 1 none none (.i (.no))]
def slices_Repeat__sStretch_Stretch.r6 : List Ent := [
  E0 0 (some 28) none (.i (.mv (.t 6))),
  E0 1 (some 29) none (.i (.cnv .i64 (.t 28))),
  E0 2 (some 30) none (.i (.mks 2 16 (.agg [.int .i64 0, .int .i64 0]) (.t 29) (.t 29))),
  E0 3 (some 7) none (.i (.mv (.t 30)))]
def slices_Repeat__sStretch_Stretch.r7 : List Ent := [
  E0 0 (some 31) none (.i (.mv (.t 7))),
  E0 1 (some 32) none (.i (.mv (.t 0))),
  E0 2 (some 33) none (.i (.cpy 2 (.t 31) (.t 32))),
  E0 3 (some 8) none (.i (.mv (.t 33)))]
def slices_Repeat__sStretch_Stretch.r8 : List Ent := [
  E0 0 (some 34) none (.i (.mv (.t 8))),
  E0 1 (some 35) none (.i (.mv (.t 7))),
  E0 2 (some 36) none (.i (.len (.t 35))),
  E0 3 (some 37) none (.i (.bin .lss (.t 34) (.t 36)))]
def slices_Repeat__sStretch_Stretch.r9 : List Ent := [
  E0 0 (some 38) none (.i (.mv (.t 8))),
  E0 1 (some 39) none (.i (.mv (.t 7))),
  E0 2 (some 40) none (.i (.mv (.t 8))),
  ER 3 (some 41) none (.slc 2 (.t 39) (some (.t 40)) (none)),
  E0 4 (some 42) none (.i (.mv (.t 7))),
  E0 5 (some 43) none (.i (.mv (.t 8))),
  ER 6 (some 44) none (.slc 2 (.t 42) (none) (some (.t 43))),
  E0 7 (some 45) none (.i (.cpy 2 (.t 41) (.t 44))),
  E0 8 (some 46) none (.i (.bin .add (.t 38) (.t 45))),
  E0 9 (some 8) none (.i (.mv (.t 46)))]
def slices_Repeat__sStretch_Stretch.b0 : KC := .seq (.seq (.reg 2112 4 slices_Repeat__sStretch_Stretch.r8) (.cond (.t 37) (.skip) (.exit 0))) (.block 1 (.reg 2368 10 slices_Repeat__sStretch_Stretch.r9))
def slices_Repeat__sStretch_Stretch.r10 : List Ent := [
  E0 0 (some 47) none (.i (.mv (.t 7))),
  E0 1 (some 4) none (.i (.mv (.t 47)))]
def slices_Repeat__sStretch_Stretch.fi : FI := { res := [.t 4], code := .seq (.reg 64 1 slices_Repeat__sStretch_Stretch.r0) (.seq (.seq (.reg 128 2 slices_Repeat__sStretch_Stretch.r1) (.cond (.t 10) (.reg 256 2 slices_Repeat__sStretch_Stretch.r2) (.skip))) (.seq (.reg 384 11 slices_Repeat__sStretch_Stretch.r3) (.seq (.seq (.reg 1088 6 slices_Repeat__sStretch_Stretch.r4) (.cond (.t 26) (.reg 1472 2 slices_Repeat__sStretch_Stretch.r5) (.skip))) (.seq (.reg 1600 4 slices_Repeat__sStretch_Stretch.r6) (.seq (.reg 1856 4 slices_Repeat__sStretch_Stretch.r7) (.seq (.block 0 (.loop slices_Repeat__sStretch_Stretch.b0)) (.seq (.reg 3008 2 slices_Repeat__sStretch_Stretch.r10) (.ret)))))))) }
attribute [go_sem] slices_Repeat__sStretch_Stretch.r0 slices_Repeat__sStretch_Stretch.r1 slices_Repeat__sStretch_Stretch.r2 slices_Repeat__sStretch_Stretch.r3 slices_Repeat__sStretch_Stretch.r4 slices_Repeat__sStretch_Stretch.r5 slices_Repeat__sStretch_Stretch.r6 slices_Repeat__sStretch_Stretch.r7 slices_Repeat__sStretch_Stretch.r8 slices_Repeat__sStretch_Stretch.r9 slices_Repeat__sStretch_Stretch.r10
theorem slices_Repeat__sStretch_Stretch.ok : chkF prog F_slices_Repeat__sStretch_Stretch 2 slices_Repeat__sStretch_Stretch.fi = true := by kernel_rfl

/-! impl_allWords -/
def impl_allWords.r0 : List Ent := [
  E0 0 (some 0) none (.i (.box (.k (.agg [.dat none (.int .i64 0), .dat none (.int .i64 0)]))))]
def impl_allWords.r1 : List Ent := [
  E0 0 (some 1) none (.i (.bld [.k (I64 0), .k (I64 65535)])),
  E0 1 none none (.i (.store 2 (.t 0) (.t 1)))]
def impl_allWords.fi : FI := { res := [.c 0 true 2], code := .seq (.reg 64 1 impl_allWords.r0) (.seq (.reg 128 2 impl_allWords.r1) (.ret)) }
attribute [go_sem] impl_allWords.r0 impl_allWords.r1
theorem impl_allWords.ok : chkF prog F_impl_allWords 0 impl_allWords.fi = true := by kernel_rfl

/-! impl_StartMay -/
def impl_StartMay.r0 : List Ent := [
  E0 0 (some 0) none (.i (.box (.k (.agg [.nil 2, .nil 2, .nil 2, .nil 1]))))]
def impl_StartMay.r1 : List Ent := [
  EX 0 (some 1) none (.i (.mks 2 16 (.agg [.int .i64 0, .int .i64 0]) (.k (I64 6)) (.k (I64 6)))) 1 [1, 3, 4, 5] [] false,
  EX 1 (some 2) none (.i (.mks 2 16 (.agg [.int .i64 0, .int .i64 0]) (.k (I64 6)) (.k (I64 6)))) 1 [0, 3, 4, 5] [] false,
  EX 2 (some 3) none (.call F_impl_allWords false (roA [])) 2 [0, 1, 5] [] false,
  EX 3 (some 4) none (.i (.bsl false 2 [.t 3])) 1 [0, 1, 5] [] false,
  EX 4 (some 5) none (.call F_slices_Repeat__sStretch_Stretch false (roA [.t 4, .k (I64 16)])) 1 [0, 1, 5] [] false,
  EX 5 (some 6) none (.i (.mks 1 1 (.bool false) (.k (I64 16)) (.k (I64 16)))) 1 [0, 1, 3, 4] [] false,
  E0 6 (some 7) none (.i (.bld [.t 1, .t 2, .t 5, .t 6])),
  E0 7 none none (.i (.store 4 (.t 0) (.t 7)))]
def impl_StartMay.fi : FI := { res := [.c 0 true 4], code := .seq (.reg 64 1 impl_StartMay.r0) (.seq (.reg 128 8 impl_StartMay.r1) (.ret)) }
attribute [go_sem] impl_StartMay.r0 impl_StartMay.r1
theorem impl_StartMay.ok : chkF prog F_impl_StartMay 0 impl_StartMay.fi = true := by kernel_rfl

/-! laws_markStretchS -/
def laws_markStretchS.r0 : List Ent := [
  E0 0 (some 4) none (.i (.mv (.k (I64 0))))]
def laws_markStretchS.r1 : List Ent := [
  E0 0 (some 5) none (.i (.mv (.k (I64 0))))]
def laws_markStretchS.r2 : List Ent := [
  E0 0 (some 6) none (.i (.mv (.t 5))),
  E0 1 (some 7) none (.i (.mv (.t 0))),
  E0 2 (some 8) none (.i (.len (.t 7))),
  E0 3 (some 9) none (.i (.bin .lss (.t 6) (.t 8)))]
def laws_markStretchS.r3 : List Ent := [
  E0 0 (some 12) none (.i (.mv (.t 0))),
  E0 1 (some 13) none (.i (.mv (.t 5))),
  E0 2 (some 14) none (.i (.mv (.t 1))),
  E0 3 (some 15) none (.i (.iad 2 (.t 12) (.t 13))),
  E0 4 (some 16) none (.i (.fad 0 (.t 15))),
  E0 5 none none (.i (.store 1 (.t 16) (.t 14)))]
def laws_markStretchS.r4 : List Ent := [
  E0 0 (some 17) none (.i (.mv (.t 1))),
  E0 1 (some 18) none (.i (.bin .add (.t 17) (.k (I64 1)))),
  E0 2 (some 1) none (.i (.mv (.t 18)))]
def laws_markStretchS.r5 : List Ent := [
  E0 0 (some 19) none (.i (.mv (.t 0))),
  E0 1 (some 20) none (.i (.mv (.t 5))),
  E0 2 (some 21) none (.i (.mv (.t 1))),
  E0 3 (some 22) none (.i (.iad 2 (.t 19) (.t 20))),
  E0 4 (some 23) none (.i (.fad 1 (.t 22))),
  E0 5 none none (.i (.store 1 (.t 23) (.t 21)))]
def laws_markStretchS.r6 : List Ent := [
  E0 0 (some 24) none (.i (.mv (.t 1))),
  E0 1 (some 25) none (.i (.bin .add (.t 24) (.k (I64 1)))),
  E0 2 (some 1) none (.i (.mv (.t 25)))]
def laws_markStretchS.r7 : List Ent := [
  E0 0 (some 10) none (.i (.mv (.t 5))),
  E0 1 (some 11) none (.i (.bin .add (.t 10) (.k (I64 1)))),
  E0 2 (some 5) none (.i (.mv (.t 11)))]
def laws_markStretchS.b0 : KC := .seq (.seq (.reg 192 4 laws_markStretchS.r2) (.cond (.t 9) (.skip) (.exit 0))) (.seq (.block 1 (.seq (.reg 448 6 laws_markStretchS.r3) (.seq (.reg 832 3 laws_markStretchS.r4) (.seq (.reg 1024 6 laws_markStretchS.r5) (.reg 1408 3 laws_markStretchS.r6))))) (.reg 1600 3 laws_markStretchS.r7))
def laws_markStretchS.r8 : List Ent := [
  E0 0 (some 26) none (.i (.mv (.t 1))),
  E0 1 (some 4) none (.i (.mv (.t 26)))]
def laws_markStretchS.fi : FI := { res := [.t 4], code := .seq (.reg 64 1 laws_markStretchS.r0) (.seq (.seq (.reg 128 1 laws_markStretchS.r1) (.block 0 (.loop laws_markStretchS.b0))) (.seq (.reg 1792 2 laws_markStretchS.r8) (.ret))) }
attribute [go_sem] laws_markStretchS.r0 laws_markStretchS.r1 laws_markStretchS.r2 laws_markStretchS.r3 laws_markStretchS.r4 laws_markStretchS.r5 laws_markStretchS.r6 laws_markStretchS.r7 laws_markStretchS.r8
theorem laws_markStretchS.ok : chkF prog F_laws_markStretchS 2 laws_markStretchS.fi = true := by kernel_rfl

/-! laws_markKnownS -/
def laws_markKnownS.r0 : List Ent := [
  E0 0 (some 4) none (.i (.mv (.k (I64 0))))]
def laws_markKnownS.r1 : List Ent := [
  E0 0 (some 5) none (.i (.mv (.k (I64 0))))]
def laws_markKnownS.r2 : List Ent := [
  E0 0 (some 6) none (.i (.mv (.t 5))),
  E0 1 (some 7) none (.i (.mv (.t 0))),
  E0 2 (some 8) none (.i (.len (.t 7))),
  E0 3 (some 9) none (.i (.bin .lss (.t 6) (.t 8)))]
def laws_markKnownS.r3 : List Ent := [
  E0 0 (some 12) none (.i (.mv (.t 0))),
  E0 1 (some 13) none (.i (.mv (.t 5))),
  E0 2 (some 14) none (.i (.mv (.t 1))),
  E0 3 (some 15) none (.i (.iad 2 (.t 12) (.t 13))),
  E0 4 (some 16) none (.i (.fad 0 (.t 15))),
  E0 5 none none (.i (.store 1 (.t 16) (.t 14)))]
def laws_markKnownS.r4 : List Ent := [
  E0 0 (some 17) none (.i (.mv (.t 1))),
  E0 1 (some 18) none (.i (.bin .add (.t 17) (.k (I64 1)))),
  E0 2 (some 1) none (.i (.mv (.t 18)))]
def laws_markKnownS.r5 : List Ent := [
  E0 0 (some 19) none (.i (.mv (.t 0))),
  E0 1 (some 20) none (.i (.mv (.t 5))),
  E0 2 (some 21) none (.i (.mv (.t 1))),
  E0 3 (some 22) none (.i (.iad 2 (.t 19) (.t 20))),
  E0 4 (some 23) none (.i (.fad 1 (.t 22))),
  E0 5 none none (.i (.store 1 (.t 23) (.t 21)))]
def laws_markKnownS.r6 : List Ent := [
  E0 0 (some 24) none (.i (.mv (.t 1))),
  E0 1 (some 25) none (.i (.bin .add (.t 24) (.k (I64 1)))),
  E0 2 (some 1) none (.i (.mv (.t 25)))]
def laws_markKnownS.r7 : List Ent := [
  E0 0 (some 10) none (.i (.mv (.t 5))),
  E0 1 (some 11) none (.i (.bin .add (.t 10) (.k (I64 1)))),
  E0 2 (some 5) none (.i (.mv (.t 11)))]
def laws_markKnownS.b0 : KC := .seq (.seq (.reg 192 4 laws_markKnownS.r2) (.cond (.t 9) (.skip) (.exit 0))) (.seq (.block 1 (.seq (.reg 448 6 laws_markKnownS.r3) (.seq (.reg 832 3 laws_markKnownS.r4) (.seq (.reg 1024 6 laws_markKnownS.r5) (.reg 1408 3 laws_markKnownS.r6))))) (.reg 1600 3 laws_markKnownS.r7))
def laws_markKnownS.r8 : List Ent := [
  E0 0 (some 26) none (.i (.mv (.t 1))),
  E0 1 (some 4) none (.i (.mv (.t 26)))]
def laws_markKnownS.fi : FI := { res := [.t 4], code := .seq (.reg 64 1 laws_markKnownS.r0) (.seq (.seq (.reg 128 1 laws_markKnownS.r1) (.block 0 (.loop laws_markKnownS.b0))) (.seq (.reg 1792 2 laws_markKnownS.r8) (.ret))) }
attribute [go_sem] laws_markKnownS.r0 laws_markKnownS.r1 laws_markKnownS.r2 laws_markKnownS.r3 laws_markKnownS.r4 laws_markKnownS.r5 laws_markKnownS.r6 laws_markKnownS.r7 laws_markKnownS.r8
theorem laws_markKnownS.ok : chkF prog F_laws_markKnownS 2 laws_markKnownS.fi = true := by kernel_rfl

/-! laws_markBoolS -/
def laws_markBoolS.r0 : List Ent := [
  E0 0 (some 4) none (.i (.mv (.k (I64 0))))]
def laws_markBoolS.r1 : List Ent := [
  E0 0 (some 5) none (.i (.mv (.k (I64 0))))]
def laws_markBoolS.r2 : List Ent := [
  E0 0 (some 6) none (.i (.mv (.t 5))),
  E0 1 (some 7) none (.i (.mv (.t 0))),
  E0 2 (some 8) none (.i (.len (.t 7))),
  E0 3 (some 9) none (.i (.bin .lss (.t 6) (.t 8)))]
def laws_markBoolS.r3 : List Ent := [
  E0 0 (some 12) none (.i (.mv (.t 0))),
  E0 1 (some 13) none (.i (.mv (.t 5))),
  E0 2 (some 14) none (.i (.mv (.t 1))),
  E0 3 (some 15) none (.i (.bin .rem (.t 14) (.k (I64 3)))),
  E0 4 (some 16) none (.i (.bin .eql (.t 15) (.k (I64 0)))),
  E0 5 (some 17) none (.i (.iad 1 (.t 12) (.t 13))),
  E0 6 none none (.i (.store 1 (.t 17) (.t 16)))]
def laws_markBoolS.r4 : List Ent := [
  E0 0 (some 18) none (.i (.mv (.t 1))),
  E0 1 (some 19) none (.i (.bin .add (.t 18) (.k (I64 1)))),
  E0 2 (some 1) none (.i (.mv (.t 19)))]
def laws_markBoolS.r5 : List Ent := [
  E0 0 (some 10) none (.i (.mv (.t 5))),
  E0 1 (some 11) none (.i (.bin .add (.t 10) (.k (I64 1)))),
  E0 2 (some 5) none (.i (.mv (.t 11)))]
def laws_markBoolS.b0 : KC := .seq (.seq (.reg 192 4 laws_markBoolS.r2) (.cond (.t 9) (.skip) (.exit 0))) (.seq (.block 1 (.seq (.reg 448 7 laws_markBoolS.r3) (.reg 896 3 laws_markBoolS.r4))) (.reg 1088 3 laws_markBoolS.r5))
def laws_markBoolS.r6 : List Ent := [
  E0 0 (some 20) none (.i (.mv (.t 1))),
  E0 1 (some 4) none (.i (.mv (.t 20)))]
def laws_markBoolS.fi : FI := { res := [.t 4], code := .seq (.reg 64 1 laws_markBoolS.r0) (.seq (.seq (.reg 128 1 laws_markBoolS.r1) (.block 0 (.loop laws_markBoolS.b0))) (.seq (.reg 1280 2 laws_markBoolS.r6) (.ret))) }
attribute [go_sem] laws_markBoolS.r0 laws_markBoolS.r1 laws_markBoolS.r2 laws_markBoolS.r3 laws_markBoolS.r4 laws_markBoolS.r5 laws_markBoolS.r6
theorem laws_markBoolS.ok : chkF prog F_laws_markBoolS 2 laws_markBoolS.fi = true := by kernel_rfl

/-! laws_markMay -/
def laws_markMay.r0 : List Ent := [
  E0 0 (some 2) none (.i (.box (.t 0))),
  E0 1 (some 4) none (.i (.mv (.k (I64 0))))]
def laws_markMay.r1 : List Ent := [
  E0 0 (some 5) none (.i (.fad 0 (.t 2))),
  E0 1 (some 6) none (.i (.load false false 1 (.t 5))),
  E0 2 (some 7) none (.i (.mv (.t 1))),
  E0 3 (some 8) none (.call F_laws_markStretchS false [(.io, .t 6), (.ro, .t 7)]),
  E0 4 (some 1) none (.i (.mv (.t 8)))]
def laws_markMay.r2 : List Ent := [
  E0 0 (some 9) none (.i (.fad 1 (.t 2))),
  E0 1 (some 10) none (.i (.load false false 1 (.t 9))),
  E0 2 (some 11) none (.i (.mv (.t 1))),
  E0 3 (some 12) none (.call F_laws_markKnownS false [(.io, .t 10), (.ro, .t 11)]),
  E0 4 (some 1) none (.i (.mv (.t 12)))]
def laws_markMay.r3 : List Ent := [
  E0 0 (some 13) none (.i (.fad 2 (.t 2))),
  E0 1 (some 14) none (.i (.load false false 1 (.t 13))),
  E0 2 (some 15) none (.i (.mv (.t 1))),
  E0 3 (some 16) none (.call F_laws_markStretchS false [(.io, .t 14), (.ro, .t 15)]),
  E0 4 (some 1) none (.i (.mv (.t 16)))]
def laws_markMay.r4 : List Ent := [
  E0 0 (some 17) none (.i (.fad 3 (.t 2))),
  E0 1 (some 18) none (.i (.load false false 1 (.t 17))),
  E0 2 (some 19) none (.i (.mv (.t 1))),
  E0 3 (some 20) none (.call F_laws_markBoolS false [(.io, .t 18), (.ro, .t 19)]),
  E0 4 (some 1) none (.i (.mv (.t 20)))]
def laws_markMay.r5 : List Ent := [
  E0 0 (some 21) none (.i (.mv (.t 1))),
  E0 1 (some 4) none (.i (.mv (.t 21)))]
def laws_markMay.fi : FI := { res := [.t 4], code := .seq (.reg 64 2 laws_markMay.r0) (.seq (.reg 192 5 laws_markMay.r1) (.seq (.reg 512 5 laws_markMay.r2) (.seq (.reg 832 5 laws_markMay.r3) (.seq (.reg 1152 5 laws_markMay.r4) (.seq (.reg 1472 2 laws_markMay.r5) (.ret)))))) }
attribute [go_sem] laws_markMay.r0 laws_markMay.r1 laws_markMay.r2 laws_markMay.r3 laws_markMay.r4 laws_markMay.r5
theorem laws_markMay.ok : chkF prog F_laws_markMay 2 laws_markMay.fi = true := by kernel_rfl

/-! laws_heldStretchS -/
def laws_heldStretchS.r0 : List Ent := [
  E0 0 (some 4) none (.i (.mv (.k (I64 0))))]
def laws_heldStretchS.r1 : List Ent := [
  E0 0 (some 5) none (.i (.mv (.k (I64 0))))]
def laws_heldStretchS.r2 : List Ent := [
  E0 0 (some 6) none (.i (.mv (.t 5))),
  E0 1 (some 7) none (.i (.mv (.t 0))),
  E0 2 (some 8) none (.i (.len (.t 7))),
  E0 3 (some 9) none (.i (.bin .lss (.t 6) (.t 8)))]
def laws_heldStretchS.r3 : List Ent := [
  E0 0 (some 12) none (.i (.mv (.t 0))),
  E0 1 (some 13) none (.i (.mv (.t 5))),
  E0 2 (some 14) none (.i (.iad 2 (.t 12) (.t 13))),
  E0 3 (some 15) none (.i (.fad 0 (.t 14))),
  E0 4 (some 16) none (.i (.load false false 1 (.t 15))),
  E0 5 (some 17) none (.i (.mv (.t 1))),
  E0 6 (some 18) none (.i (.bin .neq (.t 16) (.t 17)))]
def laws_heldStretchS.r4 : List Ent := [
  E0 0 (some 4) none (.i (.mv (.k (I64 (-1)))))]
def laws_heldStretchS.r5 : List Ent := [
  E0 0 (some 19) none (.i (.mv (.t 1))),
  E0 1 (some 20) none (.i (.bin .add (.t 19) (.k (I64 1)))),
  E0 2 (some 1) none (.i (.mv (.t 20)))]
def laws_heldStretchS.r6 : List Ent := [
  E0 0 (some 21) none (.i (.mv (.t 0))),
  E0 1 (some 22) none (.i (.mv (.t 5))),
  E0 2 (some 23) none (.i (.iad 2 (.t 21) (.t 22))),
  E0 3 (some 24) none (.i (.fad 1 (.t 23))),
  E0 4 (some 25) none (.i (.load false false 1 (.t 24))),
  E0 5 (some 26) none (.i (.mv (.t 1))),
  E0 6 (some 27) none (.i (.bin .neq (.t 25) (.t 26)))]
def laws_heldStretchS.r7 : List Ent := [
  E0 0 (some 4) none (.i (.mv (.k (I64 (-1)))))]
def laws_heldStretchS.r8 : List Ent := [
  E0 0 (some 28) none (.i (.mv (.t 1))),
  E0 1 (some 29) none (.i (.bin .add (.t 28) (.k (I64 1)))),
  E0 2 (some 1) none (.i (.mv (.t 29)))]
def laws_heldStretchS.r9 : List Ent := [
  E0 0 (some 10) none (.i (.mv (.t 5))),
  E0 1 (some 11) none (.i (.bin .add (.t 10) (.k (I64 1)))),
  E0 2 (some 5) none (.i (.mv (.t 11)))]
def laws_heldStretchS.b0 : KC := .seq (.seq (.reg 192 4 laws_heldStretchS.r2) (.cond (.t 9) (.skip) (.exit 0))) (.seq (.block 1 (.seq (.seq (.reg 448 7 laws_heldStretchS.r3) (.cond (.t 18) (.seq (.reg 896 1 laws_heldStretchS.r4) (.ret)) (.skip))) (.seq (.reg 960 3 laws_heldStretchS.r5) (.seq (.seq (.reg 1152 7 laws_heldStretchS.r6) (.cond (.t 27) (.seq (.reg 1600 1 laws_heldStretchS.r7) (.ret)) (.skip))) (.reg 1664 3 laws_heldStretchS.r8))))) (.reg 1856 3 laws_heldStretchS.r9))
def laws_heldStretchS.r10 : List Ent := [
  E0 0 (some 30) none (.i (.mv (.t 1))),
  E0 1 (some 4) none (.i (.mv (.t 30)))]
def laws_heldStretchS.fi : FI := { res := [.t 4], code := .seq (.reg 64 1 laws_heldStretchS.r0) (.seq (.seq (.reg 128 1 laws_heldStretchS.r1) (.block 0 (.loop laws_heldStretchS.b0))) (.seq (.reg 2048 2 laws_heldStretchS.r10) (.ret))) }
attribute [go_sem] laws_heldStretchS.r0 laws_heldStretchS.r1 laws_heldStretchS.r2 laws_heldStretchS.r3 laws_heldStretchS.r4 laws_heldStretchS.r5 laws_heldStretchS.r6 laws_heldStretchS.r7 laws_heldStretchS.r8 laws_heldStretchS.r9 laws_heldStretchS.r10
theorem laws_heldStretchS.ok : chkF prog F_laws_heldStretchS 2 laws_heldStretchS.fi = true := by kernel_rfl

/-! laws_heldKnownS -/
def laws_heldKnownS.r0 : List Ent := [
  E0 0 (some 4) none (.i (.mv (.k (I64 0))))]
def laws_heldKnownS.r1 : List Ent := [
  E0 0 (some 5) none (.i (.mv (.k (I64 0))))]
def laws_heldKnownS.r2 : List Ent := [
  E0 0 (some 6) none (.i (.mv (.t 5))),
  E0 1 (some 7) none (.i (.mv (.t 0))),
  E0 2 (some 8) none (.i (.len (.t 7))),
  E0 3 (some 9) none (.i (.bin .lss (.t 6) (.t 8)))]
def laws_heldKnownS.r3 : List Ent := [
  E0 0 (some 12) none (.i (.mv (.t 0))),
  E0 1 (some 13) none (.i (.mv (.t 5))),
  E0 2 (some 14) none (.i (.iad 2 (.t 12) (.t 13))),
  E0 3 (some 15) none (.i (.fad 0 (.t 14))),
  E0 4 (some 16) none (.i (.load false false 1 (.t 15))),
  E0 5 (some 17) none (.i (.mv (.t 1))),
  E0 6 (some 18) none (.i (.bin .neq (.t 16) (.t 17)))]
def laws_heldKnownS.r4 : List Ent := [
  E0 0 (some 4) none (.i (.mv (.k (I64 (-1)))))]
def laws_heldKnownS.r5 : List Ent := [
  E0 0 (some 19) none (.i (.mv (.t 1))),
  E0 1 (some 20) none (.i (.bin .add (.t 19) (.k (I64 1)))),
  E0 2 (some 1) none (.i (.mv (.t 20)))]
def laws_heldKnownS.r6 : List Ent := [
  E0 0 (some 21) none (.i (.mv (.t 0))),
  E0 1 (some 22) none (.i (.mv (.t 5))),
  E0 2 (some 23) none (.i (.iad 2 (.t 21) (.t 22))),
  E0 3 (some 24) none (.i (.fad 1 (.t 23))),
  E0 4 (some 25) none (.i (.load false false 1 (.t 24))),
  E0 5 (some 26) none (.i (.mv (.t 1))),
  E0 6 (some 27) none (.i (.bin .neq (.t 25) (.t 26)))]
def laws_heldKnownS.r7 : List Ent := [
  E0 0 (some 4) none (.i (.mv (.k (I64 (-1)))))]
def laws_heldKnownS.r8 : List Ent := [
  E0 0 (some 28) none (.i (.mv (.t 1))),
  E0 1 (some 29) none (.i (.bin .add (.t 28) (.k (I64 1)))),
  E0 2 (some 1) none (.i (.mv (.t 29)))]
def laws_heldKnownS.r9 : List Ent := [
  E0 0 (some 10) none (.i (.mv (.t 5))),
  E0 1 (some 11) none (.i (.bin .add (.t 10) (.k (I64 1)))),
  E0 2 (some 5) none (.i (.mv (.t 11)))]
def laws_heldKnownS.b0 : KC := .seq (.seq (.reg 192 4 laws_heldKnownS.r2) (.cond (.t 9) (.skip) (.exit 0))) (.seq (.block 1 (.seq (.seq (.reg 448 7 laws_heldKnownS.r3) (.cond (.t 18) (.seq (.reg 896 1 laws_heldKnownS.r4) (.ret)) (.skip))) (.seq (.reg 960 3 laws_heldKnownS.r5) (.seq (.seq (.reg 1152 7 laws_heldKnownS.r6) (.cond (.t 27) (.seq (.reg 1600 1 laws_heldKnownS.r7) (.ret)) (.skip))) (.reg 1664 3 laws_heldKnownS.r8))))) (.reg 1856 3 laws_heldKnownS.r9))
def laws_heldKnownS.r10 : List Ent := [
  E0 0 (some 30) none (.i (.mv (.t 1))),
  E0 1 (some 4) none (.i (.mv (.t 30)))]
def laws_heldKnownS.fi : FI := { res := [.t 4], code := .seq (.reg 64 1 laws_heldKnownS.r0) (.seq (.seq (.reg 128 1 laws_heldKnownS.r1) (.block 0 (.loop laws_heldKnownS.b0))) (.seq (.reg 2048 2 laws_heldKnownS.r10) (.ret))) }
attribute [go_sem] laws_heldKnownS.r0 laws_heldKnownS.r1 laws_heldKnownS.r2 laws_heldKnownS.r3 laws_heldKnownS.r4 laws_heldKnownS.r5 laws_heldKnownS.r6 laws_heldKnownS.r7 laws_heldKnownS.r8 laws_heldKnownS.r9 laws_heldKnownS.r10
theorem laws_heldKnownS.ok : chkF prog F_laws_heldKnownS 2 laws_heldKnownS.fi = true := by kernel_rfl

/-! laws_heldBoolS -/
def laws_heldBoolS.r0 : List Ent := [
  E0 0 (some 4) none (.i (.mv (.k (I64 0))))]
def laws_heldBoolS.r1 : List Ent := [
  E0 0 (some 5) none (.i (.mv (.k (I64 0))))]
def laws_heldBoolS.r2 : List Ent := [
  E0 0 (some 6) none (.i (.mv (.t 5))),
  E0 1 (some 7) none (.i (.mv (.t 0))),
  E0 2 (some 8) none (.i (.len (.t 7))),
  E0 3 (some 9) none (.i (.bin .lss (.t 6) (.t 8)))]
def laws_heldBoolS.r3 : List Ent := [
  E0 0 (some 12) none (.i (.mv (.t 0))),
  E0 1 (some 13) none (.i (.mv (.t 5))),
  E0 2 (some 14) none (.i (.iad 1 (.t 12) (.t 13))),
  E0 3 (some 15) none (.i (.load false false 1 (.t 14))),
  E0 4 (some 16) none (.i (.mv (.t 1))),
  E0 5 (some 17) none (.i (.bin .rem (.t 16) (.k (I64 3)))),
  E0 6 (some 18) none (.i (.bin .eql (.t 17) (.k (I64 0)))),
  E0 7 (some 19) none (.i (.eqb true (.t 15) (.t 18)))]
def laws_heldBoolS.r4 : List Ent := [
  E0 0 (some 4) none (.i (.mv (.k (I64 (-1)))))]
def laws_heldBoolS.r5 : List Ent := [
  E0 0 (some 20) none (.i (.mv (.t 1))),
  E0 1 (some 21) none (.i (.bin .add (.t 20) (.k (I64 1)))),
  E0 2 (some 1) none (.i (.mv (.t 21)))]
def laws_heldBoolS.r6 : List Ent := [
  E0 0 (some 10) none (.i (.mv (.t 5))),
  E0 1 (some 11) none (.i (.bin .add (.t 10) (.k (I64 1)))),
  E0 2 (some 5) none (.i (.mv (.t 11)))]
def laws_heldBoolS.b0 : KC := .seq (.seq (.reg 192 4 laws_heldBoolS.r2) (.cond (.t 9) (.skip) (.exit 0))) (.seq (.block 1 (.seq (.seq (.reg 448 8 laws_heldBoolS.r3) (.cond (.t 19) (.seq (.reg 960 1 laws_heldBoolS.r4) (.ret)) (.skip))) (.reg 1024 3 laws_heldBoolS.r5))) (.reg 1216 3 laws_heldBoolS.r6))
def laws_heldBoolS.r7 : List Ent := [
  E0 0 (some 22) none (.i (.mv (.t 1))),
  E0 1 (some 4) none (.i (.mv (.t 22)))]
def laws_heldBoolS.fi : FI := { res := [.t 4], code := .seq (.reg 64 1 laws_heldBoolS.r0) (.seq (.seq (.reg 128 1 laws_heldBoolS.r1) (.block 0 (.loop laws_heldBoolS.b0))) (.seq (.reg 1408 2 laws_heldBoolS.r7) (.ret))) }
attribute [go_sem] laws_heldBoolS.r0 laws_heldBoolS.r1 laws_heldBoolS.r2 laws_heldBoolS.r3 laws_heldBoolS.r4 laws_heldBoolS.r5 laws_heldBoolS.r6 laws_heldBoolS.r7
theorem laws_heldBoolS.ok : chkF prog F_laws_heldBoolS 2 laws_heldBoolS.fi = true := by kernel_rfl

/-! laws_heldMay -/
def laws_heldMay.r0 : List Ent := [
  E0 0 (some 2) none (.i (.box (.t 0))),
  E0 1 (some 4) none (.i (.mv (.k (I64 0))))]
def laws_heldMay.r1 : List Ent := [
  E0 0 (some 5) none (.i (.fad 0 (.t 2))),
  E0 1 (some 6) none (.i (.load false false 1 (.t 5))),
  E0 2 (some 7) none (.i (.mv (.t 1))),
  E0 3 (some 8) none (.call F_laws_heldStretchS false (roA [.t 6, .t 7])),
  E0 4 (some 1) none (.i (.mv (.t 8)))]
def laws_heldMay.r2 : List Ent := [
  E0 0 (some 9) none (.i (.mv (.t 1))),
  E0 1 (some 10) none (.i (.bin .lss (.t 9) (.k (I64 0))))]
def laws_heldMay.r3 : List Ent := [
  E0 0 (some 4) none (.i (.mv (.k (I64 (-1)))))]
def laws_heldMay.r4 : List Ent := [
  E0 0 (some 11) none (.i (.fad 1 (.t 2))),
  E0 1 (some 12) none (.i (.load false false 1 (.t 11))),
  E0 2 (some 13) none (.i (.mv (.t 1))),
  E0 3 (some 14) none (.call F_laws_heldKnownS false (roA [.t 12, .t 13])),
  E0 4 (some 1) none (.i (.mv (.t 14)))]
def laws_heldMay.r5 : List Ent := [
  E0 0 (some 15) none (.i (.mv (.t 1))),
  E0 1 (some 16) none (.i (.bin .lss (.t 15) (.k (I64 0))))]
def laws_heldMay.r6 : List Ent := [
  E0 0 (some 4) none (.i (.mv (.k (I64 (-1)))))]
def laws_heldMay.r7 : List Ent := [
  E0 0 (some 17) none (.i (.fad 2 (.t 2))),
  E0 1 (some 18) none (.i (.load false false 1 (.t 17))),
  E0 2 (some 19) none (.i (.mv (.t 1))),
  E0 3 (some 20) none (.call F_laws_heldStretchS false (roA [.t 18, .t 19])),
  E0 4 (some 1) none (.i (.mv (.t 20)))]
def laws_heldMay.r8 : List Ent := [
  E0 0 (some 21) none (.i (.mv (.t 1))),
  E0 1 (some 22) none (.i (.bin .lss (.t 21) (.k (I64 0))))]
def laws_heldMay.r9 : List Ent := [
  E0 0 (some 4) none (.i (.mv (.k (I64 (-1)))))]
def laws_heldMay.r10 : List Ent := [
  E0 0 (some 23) none (.i (.fad 3 (.t 2))),
  E0 1 (some 24) none (.i (.load false false 1 (.t 23))),
  E0 2 (some 25) none (.i (.mv (.t 1))),
  E0 3 (some 26) none (.call F_laws_heldBoolS false (roA [.t 24, .t 25])),
  E0 4 (some 1) none (.i (.mv (.t 26)))]
def laws_heldMay.r11 : List Ent := [
  E0 0 (some 27) none (.i (.mv (.t 1))),
  E0 1 (some 28) none (.i (.bin .lss (.t 27) (.k (I64 0))))]
def laws_heldMay.r12 : List Ent := [
  E0 0 (some 4) none (.i (.mv (.k (I64 (-1)))))]
def laws_heldMay.r13 : List Ent := [
  E0 0 (some 29) none (.i (.mv (.t 1))),
  E0 1 (some 4) none (.i (.mv (.t 29)))]
def laws_heldMay.fi : FI := { res := [.t 4], code := .seq (.reg 64 2 laws_heldMay.r0) (.seq (.reg 192 5 laws_heldMay.r1) (.seq (.seq (.reg 512 2 laws_heldMay.r2) (.cond (.t 10) (.seq (.reg 640 1 laws_heldMay.r3) (.ret)) (.skip))) (.seq (.reg 704 5 laws_heldMay.r4) (.seq (.seq (.reg 1024 2 laws_heldMay.r5) (.cond (.t 16) (.seq (.reg 1152 1 laws_heldMay.r6) (.ret)) (.skip))) (.seq (.reg 1216 5 laws_heldMay.r7) (.seq (.seq (.reg 1536 2 laws_heldMay.r8) (.cond (.t 22) (.seq (.reg 1664 1 laws_heldMay.r9) (.ret)) (.skip))) (.seq (.reg 1728 5 laws_heldMay.r10) (.seq (.seq (.reg 2048 2 laws_heldMay.r11) (.cond (.t 28) (.seq (.reg 2176 1 laws_heldMay.r12) (.ret)) (.skip))) (.seq (.reg 2240 2 laws_heldMay.r13) (.ret)))))))))) }
attribute [go_sem] laws_heldMay.r0 laws_heldMay.r1 laws_heldMay.r2 laws_heldMay.r3 laws_heldMay.r4 laws_heldMay.r5 laws_heldMay.r6 laws_heldMay.r7 laws_heldMay.r8 laws_heldMay.r9 laws_heldMay.r10 laws_heldMay.r11 laws_heldMay.r12 laws_heldMay.r13
theorem laws_heldMay.ok : chkF prog F_laws_heldMay 2 laws_heldMay.fi = true := by kernel_rfl

/-! laws_FnExactStartMay -/
def laws_FnExactStartMay.r0 : List Ent := [
  E0 0 (some 0) none (.i (.mv (.k (.dat none (.bool false)))))]
def laws_FnExactStartMay.r1 : List Ent := [
  E0 0 (some 6) none (.call F_spec_StartMay false (roA [])),
  E0 1 (some 1) none (.i (.box (.k (.agg [.nil 2, .nil 2, .nil 2, .nil 1])))),
  E0 2 none none (.i (.store 4 (.t 1) (.t 6)))]
def laws_FnExactStartMay.r2 : List Ent := [
  E0 0 (some 7) none (.call F_impl_StartMay false (roA [])),
  E0 1 (some 2) none (.i (.box (.k (.agg [.nil 2, .nil 2, .nil 2, .nil 1])))),
  E0 2 none none (.i (.store 4 (.t 2) (.t 7)))]
def laws_FnExactStartMay.r3 : List Ent := [
  E0 0 (some 8) none (.i (.load false true 4 (.t 2))),
  E0 1 (some 9) none (.i (.load false true 4 (.t 1))),
  E0 2 (some 10) none (.call F_laws_eqMay false (roA [.t 8, .t 9])),
  E0 3 (some 11) none (.i (.un .not (.t 10)))]
def laws_FnExactStartMay.r4 : List Ent := [
  E0 0 (some 0) none (.i (.mv (.k (.dat none (.bool false)))))]
def laws_FnExactStartMay.r5 : List Ent := [
  E0 0 (some 3) none (.i (.mv (.k (I64 1))))]
def laws_FnExactStartMay.r6 : List Ent := [
  E0 0 (some 12) none (.i (.load false true 4 (.t 2))),
  E0 1 (some 13) none (.i (.mv (.t 3))),
  E0 2 (some 14) none (.call F_laws_markMay false [(.io, .t 12), (.ro, .t 13)]),
  E0 3 (some 3) none (.i (.mv (.t 14)))]
def laws_FnExactStartMay.r7 : List Ent := [
  E0 0 (some 4) none (.i (.mv (.k (I64 1))))]
def laws_FnExactStartMay.r8 : List Ent := [
  E0 0 (some 15) none (.i (.load false true 4 (.t 2))),
  E0 1 (some 16) none (.i (.mv (.t 4))),
  E0 2 (some 17) none (.call F_laws_heldMay false (roA [.t 15, .t 16])),
  E0 3 (some 4) none (.i (.mv (.t 17)))]
def laws_FnExactStartMay.r9 : List Ent := [
  E0 0 (some 18) none (.i (.mv (.t 4))),
  E0 1 (some 19) none (.i (.bin .lss (.t 18) (.k (I64 0))))]
def laws_FnExactStartMay.r10 : List Ent := [
  E0 0 (some 0) none (.i (.mv (.k (.dat none (.bool false)))))]
def laws_FnExactStartMay.r11 : List Ent := [
  E0 0 (some 20) none (.i (.mv (.t 4))),
  E0 1 (some 21) none (.i (.mv (.t 3))),
  E0 2 (some 22) none (.i (.bin .neq (.t 20) (.t 21)))]
def laws_FnExactStartMay.r12 : List Ent := [
  E0 0 (some 0) none (.i (.mv (.k (.dat none (.bool false)))))]
def laws_FnExactStartMay.r13 : List Ent := [
  E0 0 (some 23) none (.call F_impl_StartMay false (roA [])),
  E0 1 (some 5) none (.i (.box (.k (.agg [.nil 2, .nil 2, .nil 2, .nil 1])))),
  E0 2 none none (.i (.store 4 (.t 5) (.t 23)))]
def laws_FnExactStartMay.r14 : List Ent := [
  E0 0 (some 24) none (.i (.load false true 4 (.t 5))),
  E0 1 (some 25) none (.i (.load false true 4 (.t 1))),
  E0 2 (some 26) none (.call F_laws_eqMay false (roA [.t 24, .t 25])),
  E0 3 (some 27) none (.i (.un .not (.t 26)))]
def laws_FnExactStartMay.r15 : List Ent := [
  E0 0 (some 0) none (.i (.mv (.k (.dat none (.bool false)))))]
def laws_FnExactStartMay.r16 : List Ent := [
  E0 0 (some 4) none (.i (.mv (.k (I64 1))))]
def laws_FnExactStartMay.r17 : List Ent := [
  E0 0 (some 28) none (.i (.load false true 4 (.t 2))),
  E0 1 (some 29) none (.i (.mv (.t 4))),
  E0 2 (some 30) none (.call F_laws_heldMay false (roA [.t 28, .t 29])),
  E0 3 (some 4) none (.i (.mv (.t 30)))]
def laws_FnExactStartMay.r18 : List Ent := [
  E0 0 (some 31) none (.i (.mv (.t 4))),
  E0 1 (some 32) none (.i (.bin .lss (.t 31) (.k (I64 0))))]
def laws_FnExactStartMay.r19 : List Ent := [
  E0 0 (some 0) none (.i (.mv (.k (.dat none (.bool false)))))]
def laws_FnExactStartMay.r20 : List Ent := [
  E0 0 (some 33) none (.i (.mv (.t 4))),
  E0 1 (some 34) none (.i (.mv (.t 3))),
  E0 2 (some 35) none (.i (.bin .neq (.t 33) (.t 34)))]
def laws_FnExactStartMay.r21 : List Ent := [
  E0 0 (some 0) none (.i (.mv (.k (.dat none (.bool false)))))]
def laws_FnExactStartMay.r22 : List Ent := [
  E0 0 (some 0) none (.i (.mv (.k (.dat none (.bool true)))))]
def laws_FnExactStartMay.fi : FI := { res := [.t 0], code := .seq (.reg 64 1 laws_FnExactStartMay.r0) (.seq (.reg 128 3 laws_FnExactStartMay.r1) (.seq (.reg 320 3 laws_FnExactStartMay.r2) (.seq (.seq (.reg 512 4 laws_FnExactStartMay.r3) (.cond (.t 11) (.seq (.reg 768 1 laws_FnExactStartMay.r4) (.ret)) (.skip))) (.seq (.reg 832 1 laws_FnExactStartMay.r5) (.seq (.reg 896 4 laws_FnExactStartMay.r6) (.seq (.reg 1152 1 laws_FnExactStartMay.r7) (.seq (.reg 1216 4 laws_FnExactStartMay.r8) (.seq (.seq (.reg 1472 2 laws_FnExactStartMay.r9) (.cond (.t 19) (.seq (.reg 1600 1 laws_FnExactStartMay.r10) (.ret)) (.skip))) (.seq (.seq (.reg 1664 3 laws_FnExactStartMay.r11) (.cond (.t 22) (.seq (.reg 1856 1 laws_FnExactStartMay.r12) (.ret)) (.skip))) (.seq (.reg 1920 3 laws_FnExactStartMay.r13) (.seq (.seq (.reg 2112 4 laws_FnExactStartMay.r14) (.cond (.t 27) (.seq (.reg 2368 1 laws_FnExactStartMay.r15) (.ret)) (.skip))) (.seq (.reg 2432 1 laws_FnExactStartMay.r16) (.seq (.reg 2496 4 laws_FnExactStartMay.r17) (.seq (.seq (.reg 2752 2 laws_FnExactStartMay.r18) (.cond (.t 32) (.seq (.reg 2880 1 laws_FnExactStartMay.r19) (.ret)) (.skip))) (.seq (.seq (.reg 2944 3 laws_FnExactStartMay.r20) (.cond (.t 35) (.seq (.reg 3136 1 laws_FnExactStartMay.r21) (.ret)) (.skip))) (.seq (.reg 3200 1 laws_FnExactStartMay.r22) (.ret))))))))))))))))) }
attribute [go_sem] laws_FnExactStartMay.r0 laws_FnExactStartMay.r1 laws_FnExactStartMay.r2 laws_FnExactStartMay.r3 laws_FnExactStartMay.r4 laws_FnExactStartMay.r5 laws_FnExactStartMay.r6 laws_FnExactStartMay.r7 laws_FnExactStartMay.r8 laws_FnExactStartMay.r9 laws_FnExactStartMay.r10 laws_FnExactStartMay.r11 laws_FnExactStartMay.r12 laws_FnExactStartMay.r13 laws_FnExactStartMay.r14 laws_FnExactStartMay.r15 laws_FnExactStartMay.r16 laws_FnExactStartMay.r17 laws_FnExactStartMay.r18 laws_FnExactStartMay.r19 laws_FnExactStartMay.r20 laws_FnExactStartMay.r21 laws_FnExactStartMay.r22
theorem laws_FnExactStartMay.ok : chkF prog F_laws_FnExactStartMay 0 laws_FnExactStartMay.fi = true := by kernel_rfl
end Go.Vm.Ytmicgdfekpoajaa
