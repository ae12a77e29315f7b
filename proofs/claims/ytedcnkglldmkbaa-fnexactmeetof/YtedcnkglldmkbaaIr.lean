/- The functions that the law reaches, in the text of the interpreter, and that this text fits them (no condition). -/
import Derived.Test.YtedcnkglldmkbaaVmc
import Derived.Test.YtedcnkglldmkbaaProg
import Derived.KernelRfl
/- PRINTED BY irgen.py, a program of this claim's author: the functions that the claim reaches, in the text of the interpreter, and that they fit. -/
namespace Go.Vm.Ytedcnkglldmkbaa
open Go Go.Vm
set_option linter.unusedVariables false
set_option maxRecDepth 100000
noncomputable abbrev prog : Program := Go.Proofs.Try.prog
abbrev F_laws_FnExactReduceBoth : FuncId := 3
abbrev F_laws_FnExactGoodRules : FuncId := 4
abbrev F_laws_FnExactMeetOf : FuncId := 5
abbrev F_laws_FnExactIsTwo : FuncId := 6
abbrev F_laws_FnExactTwoOf : FuncId := 7
abbrev F_laws_FnExactHoldsIn : FuncId := 8
abbrev F_laws_FnExactIsHorn : FuncId := 9
abbrev F_laws_FnExactReachWithin : FuncId := 10
abbrev F_laws_FnExactBackArcs : FuncId := 11
abbrev F_laws_FnExactWhyOf : FuncId := 12
abbrev F_laws_FnExactLeastOf : FuncId := 13
abbrev F_laws_FnExactRulesAsClauses : FuncId := 14
abbrev F_spec_ReduceBoth : FuncId := 15
abbrev F_laws_toStretch : FuncId := 16
abbrev F_laws_toKnown : FuncId := 17
abbrev F_impl_ReduceBoth : FuncId := 18
abbrev F_laws_eqStretch : FuncId := 19
abbrev F_laws_eqKnown : FuncId := 20
abbrev F_laws_szRuleS : FuncId := 21
abbrev F_spec_GoodRules : FuncId := 22
abbrev F_laws_toRuleS : FuncId := 23
abbrev F_impl_GoodRules : FuncId := 24
abbrev F_laws_eqRuleS : FuncId := 25
abbrev F_spec_MeetOf : FuncId := 26
abbrev F_laws_toIntS : FuncId := 27
abbrev F_impl_MeetOf : FuncId := 28
abbrev F_laws_eqIntS : FuncId := 29
abbrev F_laws_markIntS : FuncId := 30
abbrev F_laws_heldIntS : FuncId := 31
abbrev F_laws_szIntSS : FuncId := 32
abbrev F_spec_IsTwo : FuncId := 33
abbrev F_laws_toIntSS : FuncId := 34
abbrev F_impl_IsTwo : FuncId := 35
abbrev F_laws_eqIntSS : FuncId := 36
abbrev F_spec_TwoOf : FuncId := 37
abbrev F_impl_TwoOf : FuncId := 38
abbrev F_laws_markIntSS : FuncId := 39
abbrev F_laws_heldIntSS : FuncId := 40
abbrev F_spec_HoldsIn : FuncId := 41
abbrev F_impl_HoldsIn : FuncId := 42
abbrev F_spec_IsHorn : FuncId := 43
abbrev F_impl_IsHorn : FuncId := 44
abbrev F_laws_szArcS : FuncId := 45
abbrev F_spec_ReachWithin : FuncId := 46
abbrev F_laws_toArcS : FuncId := 47
abbrev F_impl_ReachWithin : FuncId := 48
abbrev F_laws_eqArcS : FuncId := 49
abbrev F_laws_markArcS : FuncId := 50
abbrev F_spec_BackArcs : FuncId := 51
abbrev F_impl_BackArcs : FuncId := 52
abbrev F_spec_WhyOf : FuncId := 53
abbrev F_impl_WhyOf : FuncId := 54
abbrev F_laws_markRuleS : FuncId := 55
abbrev F_spec_LeastOf : FuncId := 56
abbrev F_impl_LeastOf : FuncId := 57
abbrev F_spec_RulesAsClauses : FuncId := 58
abbrev F_impl_RulesAsClauses : FuncId := 59
abbrev F_spec_GoodStretch : FuncId := 60
abbrev F_spec_GoodKnown : FuncId := 61
abbrev F_spec_l13Reduce : FuncId := 62
abbrev F_impl_GoodStretch : FuncId := 63
abbrev F_impl_GoodKnown : FuncId := 64
abbrev F_impl_reduceBoth : FuncId := 65
abbrev F_laws_szRule : FuncId := 66
abbrev F_spec_l16Facts : FuncId := 67
abbrev F_spec_l1In : FuncId := 68
abbrev F_laws_toRule : FuncId := 69
abbrev F_impl_in : FuncId := 70
abbrev F_slices_ContainsFunc__sRule_Rule : FuncId := 71
abbrev F_impl_GoodRules_c1 : FuncId := 72
abbrev F_impl_areFacts : FuncId := 73
abbrev F_laws_eqRule : FuncId := 74
abbrev F_spec_l1Has : FuncId := 75
abbrev F_slices_DeleteFunc__sint_int : FuncId := 76
abbrev F_slices_Clone__sint_int : FuncId := 77
abbrev F_impl_MeetOf_c1 : FuncId := 78
abbrev F_slices_Contains__sint_int : FuncId := 79
abbrev F_laws_szIntS : FuncId := 80
abbrev F_spec_GoodClauses : FuncId := 81
abbrev F_impl_GoodClauses : FuncId := 82
abbrev F_slices_ContainsFunc__ssint_sint : FuncId := 83
abbrev F_impl_IsTwo_c1 : FuncId := 84
abbrev F_spec_l4Clause : FuncId := 85
abbrev F_impl_isClause : FuncId := 86
abbrev F_spec_l16All : FuncId := 87
abbrev F_impl_HoldsIn_c1 : FuncId := 88
abbrev F_impl_Rule_met : FuncId := 89
abbrev F_impl_IsHorn_c1 : FuncId := 90
abbrev F_spec_GoodArcs : FuncId := 91
abbrev F_spec_l12Reach : FuncId := 92
abbrev F_laws_toArc : FuncId := 93
abbrev F_impl_GoodArcs : FuncId := 94
abbrev F_impl_within : FuncId := 95
abbrev F_impl_list : FuncId := 96
abbrev F_impl_ReachWithin_c1 : FuncId := 97
abbrev F_laws_eqArc : FuncId := 98
abbrev F_impl_BackArcs_c1 : FuncId := 99
abbrev F_spec_l16Least : FuncId := 100
abbrev F_impl_least : FuncId := 101
abbrev F_slices_IndexFunc__sint_int : FuncId := 102
abbrev F_impl_WhyOf_c1 : FuncId := 103
abbrev F_impl_LeastOf_c1 : FuncId := 104
abbrev F_impl_LeastOf_c2 : FuncId := 105
abbrev F_spec_l5Negate : FuncId := 106
abbrev F_impl_learn : FuncId := 107
abbrev F_spec_l1Word : FuncId := 108
abbrev F_spec_l1Most : FuncId := 109
abbrev F_spec_l1Least : FuncId := 110
abbrev F_spec_l10May : FuncId := 111
abbrev F_impl_isWord : FuncId := 112
abbrev F_impl_Known_matches : FuncId := 113
abbrev F_impl_exact : FuncId := 114
abbrev F_spec_l1Rising : FuncId := 115
abbrev F_slices_IndexFunc__sRule_Rule : FuncId := 116
abbrev F_slices_Index__sint_int : FuncId := 117
abbrev F_spec_l4Good : FuncId := 118
abbrev F_impl_areClauses : FuncId := 119
abbrev F_slices_IndexFunc__ssint_sint : FuncId := 120
abbrev F_impl_isLiteral : FuncId := 121
abbrev F_slices_ContainsFunc__sint_int : FuncId := 122
abbrev F_impl_isClause_c1 : FuncId := 123
abbrev F_impl_variable : FuncId := 124
abbrev F_impl_Rule_met_c1 : FuncId := 125
abbrev F_spec_l1Put : FuncId := 126
abbrev F_impl_isSpots : FuncId := 127
abbrev F_slices_Clone__sbool_bool : FuncId := 128
abbrev F_impl_least_c1 : FuncId := 129
abbrev F_impl_areClauses_c1 : FuncId := 130
abbrev F_runtime_boundsError_Error : FuncId := 131
abbrev F_runtime_boundsError_RuntimeError : FuncId := 132
abbrev F_runtime_errorString_Error : FuncId := 133
abbrev F_runtime_errorString_RuntimeError : FuncId := 134
abbrev F_runtime_plainError_Error : FuncId := 135
abbrev F_runtime_plainError_RuntimeError : FuncId := 136
abbrev F_runtime_errorAddressString_Error : FuncId := 137
abbrev F_runtime_errorAddressString_RuntimeError : FuncId := 138
abbrev F_runtime_pTypeAssertionError_Error : FuncId := 139
abbrev F_runtime_pTypeAssertionError_RuntimeError : FuncId := 140
abbrev F_runtime_pPanicNilError_Error : FuncId := 141
abbrev F_runtime_pPanicNilError_RuntimeError : FuncId := 142
abbrev F_abi_pType_Align : FuncId := 143
abbrev F_maps_unhashableTypeError_Error : FuncId := 144
abbrev F_maps_unhashableTypeError_RuntimeError : FuncId := 145
abbrev F_abi_Kind_String : FuncId := 146

/-! spec_l1In -/
def spec_l1In.r0 : List Ent := [
  E0 0 (some 6) none (.i (.mv (.k (.dat none (.bool false)))))]
def spec_l1In.r1 : List Ent := [
  E0 0 (some 7) none (.i (.mv (.t 0))),
  E0 1 (some 8) none (.i (.mv (.t 1))),
  E0 2 (some 9) none (.i (.bin .geq (.t 7) (.t 8))),
  E0 3 (some 10) none (.i (.mv (.t 9))),
  E0 4 (some 11) (some (10, true)) (.i (.mv (.t 0))),
  E0 5 (some 12) (some (10, true)) (.i (.mv (.t 2))),
  E0 6 (some 13) (some (10, true)) (.i (.bin .leq (.t 11) (.t 12))),
  E0 7 (some 14) none (.i (.pick (.t 10) (.t 13) (.k (.dat none (.bool false))))),
  E0 8 (some 6) none (.i (.mv (.t 14)))]
def spec_l1In.fi : FI := { res := [.t 6], code := .seq (.reg 64 1 spec_l1In.r0) (.seq (.reg 128 9 spec_l1In.r1) (.ret)) }
attribute [go_sem] spec_l1In.r0 spec_l1In.r1
theorem spec_l1In.ok : chkF prog F_spec_l1In 3 spec_l1In.fi = true := by kernel_rfl

/-! impl_in -/
def impl_in.r0 : List Ent := [
  E0 0 (some 6) none (.i (.mv (.k (.dat none (.bool false)))))]
def impl_in.r1 : List Ent := [
  E0 0 (some 7) none (.i (.mv (.t 0))),
  E0 1 (some 8) none (.i (.mv (.t 1))),
  E0 2 (some 9) none (.i (.bin .geq (.t 7) (.t 8))),
  E0 3 (some 10) none (.i (.mv (.t 9))),
  E0 4 (some 11) (some (10, true)) (.i (.mv (.t 0))),
  E0 5 (some 12) (some (10, true)) (.i (.mv (.t 2))),
  E0 6 (some 13) (some (10, true)) (.i (.bin .leq (.t 11) (.t 12))),
  E0 7 (some 14) none (.i (.pick (.t 10) (.t 13) (.k (.dat none (.bool false))))),
  E0 8 (some 6) none (.i (.mv (.t 14)))]
def impl_in.fi : FI := { res := [.t 6], code := .seq (.reg 64 1 impl_in.r0) (.seq (.reg 128 9 impl_in.r1) (.ret)) }
attribute [go_sem] impl_in.r0 impl_in.r1
theorem impl_in.ok : chkF prog F_impl_in 3 impl_in.fi = true := by kernel_rfl

/-! spec_l1Rising -/
def spec_l1Rising.r0 : List Ent := [
  E0 0 (some 6) none (.i (.mv (.k (.dat none (.bool false)))))]
def spec_l1Rising.r1 : List Ent := [
  E0 0 (some 9) none (.i (.mv (.t 0))),
  E0 1 (some 10) none (.i (.len (.t 9))),
  E0 2 (some 11) none (.i (.mv (.k (I64 0))))]
def spec_l1Rising.r2 : List Ent := [
  E0 0 (some 12) none (.i (.bin .lss (.t 11) (.t 10)))]
def spec_l1Rising.r3 : List Ent := [
  E0 0 (some 13) none (.i (.mv (.t 11))),
  E0 1 (some 14) none (.i (.iad 1 (.t 9) (.t 11))),
  E0 2 (some 15) none (.i (.load false false 1 (.t 14))),
  E0 3 (some 7) none (.i (.mv (.t 13))),
  E0 4 (some 8) none (.i (.mv (.t 15)))]
def spec_l1Rising.r4 : List Ent := [
  E0 0 (some 16) none (.i (.mv (.t 8))),
  E0 1 (some 17) none (.i (.mv (.t 1))),
  E0 2 (some 18) none (.i (.mv (.t 2))),
  E0 3 (some 19) none (.call F_spec_l1In false (roA [.t 16, .t 17, .t 18])),
  E0 4 (some 20) none (.i (.un .not (.t 19))),
  E0 5 (some 21) none (.i (.mv (.t 20))),
  E0 6 (some 22) (some (21, false)) (.i (.mv (.t 7))),
  E0 7 (some 23) (some (21, false)) (.i (.bin .gtr (.t 22) (.k (I64 0)))),
  E0 8 (some 24) (some (21, false)) (.i (.mv (.t 23))),
  E0 9 (some 25) (some (24, true)) (.i (.mv (.t 0))),
  E0 10 (some 26) (some (24, true)) (.i (.mv (.t 7))),
  E0 11 (some 27) (some (24, true)) (.i (.bin .sub (.t 26) (.k (I64 1)))),
  E0 12 (some 28) (some (24, true)) (.i (.iad 1 (.t 25) (.t 27))),
  E0 13 (some 29) (some (24, true)) (.i (.load false false 1 (.t 28))),
  E0 14 (some 30) (some (24, true)) (.i (.mv (.t 8))),
  E0 15 (some 31) (some (24, true)) (.i (.bin .geq (.t 29) (.t 30))),
  E0 16 (some 32) (some (21, false)) (.i (.pick (.t 24) (.t 31) (.k (.dat none (.bool false))))),
  E0 17 (some 33) none (.i (.pick (.t 21) (.k (.dat none (.bool true))) (.t 32)))]
def spec_l1Rising.r5 : List Ent := [
  E0 0 (some 6) none (.i (.mv (.k (.dat none (.bool false)))))]
def spec_l1Rising.r6 : List Ent := [
  E0 0 (some 34) none (.i (.bin .add (.t 11) (.k (I64 1)))),
  E0 1 (some 11) none (.i (.mv (.t 34)))]
def spec_l1Rising.b0 : KC := .seq (.reg 320 1 spec_l1Rising.r2) (.seq (.cond (.t 12) (.skip) (.exit 0)) (.seq (.block 1 (.seq (.reg 384 5 spec_l1Rising.r3) (.seq (.reg 704 18 spec_l1Rising.r4) (.cond (.t 33) (.seq (.reg 1856 1 spec_l1Rising.r5) (.ret)) (.skip))))) (.reg 1920 2 spec_l1Rising.r6)))
def spec_l1Rising.r7 : List Ent := [
  E0 0 (some 6) none (.i (.mv (.k (.dat none (.bool true)))))]
def spec_l1Rising.fi : FI := { res := [.t 6], code := .seq (.reg 64 1 spec_l1Rising.r0) (.seq (.seq (.reg 128 3 spec_l1Rising.r1) (.block 0 (.loop spec_l1Rising.b0))) (.seq (.reg 2048 1 spec_l1Rising.r7) (.ret))) }
attribute [go_sem] spec_l1Rising.r0 spec_l1Rising.r1 spec_l1Rising.r2 spec_l1Rising.r3 spec_l1Rising.r4 spec_l1Rising.r5 spec_l1Rising.r6 spec_l1Rising.r7
theorem spec_l1Rising.ok : chkF prog F_spec_l1Rising 3 spec_l1Rising.fi = true := by kernel_rfl

/-! spec_l16Facts -/
def spec_l16Facts.r0 : List Ent := [
  E0 0 (some 4) none (.i (.mv (.k (.dat none (.bool false)))))]
def spec_l16Facts.r1 : List Ent := [
  E0 0 (some 5) none (.i (.mv (.t 1))),
  E0 1 (some 6) none (.i (.mv (.t 0))),
  E0 2 (some 7) none (.call F_spec_l1Rising false (roA [.t 5, .k (I64 1), .t 6])),
  E0 3 (some 4) none (.i (.mv (.t 7)))]
def spec_l16Facts.fi : FI := { res := [.t 4], code := .seq (.reg 64 1 spec_l16Facts.r0) (.seq (.reg 128 4 spec_l16Facts.r1) (.ret)) }
attribute [go_sem] spec_l16Facts.r0 spec_l16Facts.r1
theorem spec_l16Facts.ok : chkF prog F_spec_l16Facts 2 spec_l16Facts.fi = true := by kernel_rfl

/-! laws_toIntS -/
def laws_toIntS.r0 : List Ent := [
  E0 0 (some 2) none (.i (.mv (.k (.nil 1))))]
def laws_toIntS.r1 : List Ent := [
  E0 0 (some 5) none (.i (.mv (.t 0))),
  E0 1 (some 6) none (.i (.len (.t 5))),
  E0 2 (some 7) none (.i (.mks 1 8 (.int .i64 0) (.t 6) (.t 6))),
  E0 3 (some 3) none (.i (.mv (.t 7)))]
def laws_toIntS.r2 : List Ent := [
  E0 0 (some 4) none (.i (.mv (.k (I64 0))))]
def laws_toIntS.r3 : List Ent := [
  E0 0 (some 8) none (.i (.mv (.t 4))),
  E0 1 (some 9) none (.i (.mv (.t 0))),
  E0 2 (some 10) none (.i (.len (.t 9))),
  E0 3 (some 11) none (.i (.bin .lss (.t 8) (.t 10)))]
def laws_toIntS.r4 : List Ent := [
  E0 0 (some 14) none (.i (.mv (.t 3))),
  E0 1 (some 15) none (.i (.mv (.t 4))),
  E0 2 (some 16) none (.i (.mv (.t 0))),
  E0 3 (some 17) none (.i (.mv (.t 4))),
  E0 4 (some 18) none (.i (.iad 1 (.t 16) (.t 17))),
  E0 5 (some 19) none (.i (.load false false 1 (.t 18))),
  E0 6 (some 20) none (.i (.iad 1 (.t 14) (.t 15))),
  E0 7 none none (.i (.store 1 (.t 20) (.t 19)))]
def laws_toIntS.r5 : List Ent := [
  E0 0 (some 12) none (.i (.mv (.t 4))),
  E0 1 (some 13) none (.i (.bin .add (.t 12) (.k (I64 1)))),
  E0 2 (some 4) none (.i (.mv (.t 13)))]
def laws_toIntS.b0 : KC := .seq (.seq (.reg 448 4 laws_toIntS.r3) (.cond (.t 11) (.skip) (.exit 0))) (.seq (.block 1 (.reg 704 8 laws_toIntS.r4)) (.reg 1216 3 laws_toIntS.r5))
def laws_toIntS.r6 : List Ent := [
  E0 0 (some 21) none (.i (.mv (.t 3))),
  E0 1 (some 2) none (.i (.mv (.t 21)))]
def laws_toIntS.fi : FI := { res := [.t 2], code := .seq (.reg 64 1 laws_toIntS.r0) (.seq (.reg 128 4 laws_toIntS.r1) (.seq (.seq (.reg 384 1 laws_toIntS.r2) (.block 0 (.loop laws_toIntS.b0))) (.seq (.reg 1408 2 laws_toIntS.r6) (.ret)))) }
attribute [go_sem] laws_toIntS.r0 laws_toIntS.r1 laws_toIntS.r2 laws_toIntS.r3 laws_toIntS.r4 laws_toIntS.r5 laws_toIntS.r6
theorem laws_toIntS.ok : chkF prog F_laws_toIntS 1 laws_toIntS.fi = true := by kernel_rfl

/-! impl_areFacts -/
def impl_areFacts.r0 : List Ent := [
  E0 0 (some 4) none (.i (.mv (.k (.dat none (.bool false)))))]
def impl_areFacts.r1 : List Ent := [
  E0 0 (some 7) none (.i (.mv (.t 0))),
  E0 1 (some 8) none (.i (.len (.t 7))),
  E0 2 (some 9) none (.i (.mv (.k (I64 0))))]
def impl_areFacts.r2 : List Ent := [
  E0 0 (some 10) none (.i (.bin .lss (.t 9) (.t 8)))]
def impl_areFacts.r3 : List Ent := [
  E0 0 (some 11) none (.i (.mv (.t 9))),
  E0 1 (some 12) none (.i (.iad 1 (.t 7) (.t 9))),
  E0 2 (some 13) none (.i (.load false false 1 (.t 12))),
  E0 3 (some 5) none (.i (.mv (.t 11))),
  E0 4 (some 6) none (.i (.mv (.t 13)))]
def impl_areFacts.r4 : List Ent := [
  E0 0 (some 14) none (.i (.mv (.t 6))),
  E0 1 (some 15) none (.i (.mv (.t 1))),
  E0 2 (some 16) none (.call F_impl_in false (roA [.t 14, .k (I64 1), .t 15])),
  E0 3 (some 17) none (.i (.un .not (.t 16))),
  E0 4 (some 18) none (.i (.mv (.t 17))),
  E0 5 (some 19) (some (18, false)) (.i (.mv (.t 5))),
  E0 6 (some 20) (some (18, false)) (.i (.bin .gtr (.t 19) (.k (I64 0)))),
  E0 7 (some 21) (some (18, false)) (.i (.mv (.t 20))),
  E0 8 (some 22) (some (21, true)) (.i (.mv (.t 0))),
  E0 9 (some 23) (some (21, true)) (.i (.mv (.t 5))),
  E0 10 (some 24) (some (21, true)) (.i (.bin .sub (.t 23) (.k (I64 1)))),
  E0 11 (some 25) (some (21, true)) (.i (.iad 1 (.t 22) (.t 24))),
  E0 12 (some 26) (some (21, true)) (.i (.load false false 1 (.t 25))),
  E0 13 (some 27) (some (21, true)) (.i (.mv (.t 6))),
  E0 14 (some 28) (some (21, true)) (.i (.bin .geq (.t 26) (.t 27))),
  E0 15 (some 29) (some (18, false)) (.i (.pick (.t 21) (.t 28) (.k (.dat none (.bool false))))),
  E0 16 (some 30) none (.i (.pick (.t 18) (.k (.dat none (.bool true))) (.t 29)))]
def impl_areFacts.r5 : List Ent := [
  E0 0 (some 4) none (.i (.mv (.k (.dat none (.bool false)))))]
def impl_areFacts.r6 : List Ent := [
  E0 0 (some 31) none (.i (.bin .add (.t 9) (.k (I64 1)))),
  E0 1 (some 9) none (.i (.mv (.t 31)))]
def impl_areFacts.b0 : KC := .seq (.reg 320 1 impl_areFacts.r2) (.seq (.cond (.t 10) (.skip) (.exit 0)) (.seq (.block 1 (.seq (.reg 384 5 impl_areFacts.r3) (.seq (.reg 704 17 impl_areFacts.r4) (.cond (.t 30) (.seq (.reg 1792 1 impl_areFacts.r5) (.ret)) (.skip))))) (.reg 1856 2 impl_areFacts.r6)))
def impl_areFacts.r7 : List Ent := [
  E0 0 (some 4) none (.i (.mv (.k (.dat none (.bool true)))))]
def impl_areFacts.fi : FI := { res := [.t 4], code := .seq (.reg 64 1 impl_areFacts.r0) (.seq (.seq (.reg 128 3 impl_areFacts.r1) (.block 0 (.loop impl_areFacts.b0))) (.seq (.reg 1984 1 impl_areFacts.r7) (.ret))) }
attribute [go_sem] impl_areFacts.r0 impl_areFacts.r1 impl_areFacts.r2 impl_areFacts.r3 impl_areFacts.r4 impl_areFacts.r5 impl_areFacts.r6 impl_areFacts.r7
theorem impl_areFacts.ok : chkF prog F_impl_areFacts 2 impl_areFacts.fi = true := by kernel_rfl

/-! laws_eqIntS -/
def laws_eqIntS.r0 : List Ent := [
  E0 0 (some 4) none (.i (.mv (.k (.dat none (.bool false)))))]
def laws_eqIntS.r1 : List Ent := [
  E0 0 (some 6) none (.i (.mv (.t 0))),
  E0 1 (some 7) none (.i (.len (.t 6))),
  E0 2 (some 8) none (.i (.mv (.t 1))),
  E0 3 (some 9) none (.i (.len (.t 8))),
  E0 4 (some 10) none (.i (.bin .neq (.t 7) (.t 9)))]
def laws_eqIntS.r2 : List Ent := [
  E0 0 (some 4) none (.i (.mv (.k (.dat none (.bool false)))))]
def laws_eqIntS.r3 : List Ent := [
  E0 0 (some 5) none (.i (.mv (.k (I64 0))))]
def laws_eqIntS.r4 : List Ent := [
  E0 0 (some 11) none (.i (.mv (.t 5))),
  E0 1 (some 12) none (.i (.mv (.t 0))),
  E0 2 (some 13) none (.i (.len (.t 12))),
  E0 3 (some 14) none (.i (.bin .lss (.t 11) (.t 13)))]
def laws_eqIntS.r5 : List Ent := [
  E0 0 (some 17) none (.i (.mv (.t 0))),
  E0 1 (some 18) none (.i (.mv (.t 5))),
  ER 2 (some 19) none (.iad 1 (.t 17) (.t 18)),
  ER 3 (some 20) none (.load false false 1 (.t 19)),
  E0 4 (some 21) none (.i (.mv (.t 1))),
  E0 5 (some 22) none (.i (.mv (.t 5))),
  ER 6 (some 23) none (.iad 1 (.t 21) (.t 22)),
  ER 7 (some 24) none (.load false false 1 (.t 23)),
  E0 8 (some 25) none (.i (.bin .neq (.t 20) (.t 24)))]
def laws_eqIntS.r6 : List Ent := [
  E0 0 (some 4) none (.i (.mv (.k (.dat none (.bool false)))))]
def laws_eqIntS.r7 : List Ent := [
  E0 0 (some 15) none (.i (.mv (.t 5))),
  E0 1 (some 16) none (.i (.bin .add (.t 15) (.k (I64 1)))),
  E0 2 (some 5) none (.i (.mv (.t 16)))]
def laws_eqIntS.b0 : KC := .seq (.seq (.reg 576 4 laws_eqIntS.r4) (.cond (.t 14) (.skip) (.exit 0))) (.seq (.block 1 (.seq (.reg 832 9 laws_eqIntS.r5) (.cond (.t 25) (.seq (.reg 1408 1 laws_eqIntS.r6) (.ret)) (.skip)))) (.reg 1472 3 laws_eqIntS.r7))
def laws_eqIntS.r8 : List Ent := [
  E0 0 (some 4) none (.i (.mv (.k (.dat none (.bool true)))))]
def laws_eqIntS.fi : FI := { res := [.t 4], code := .seq (.reg 64 1 laws_eqIntS.r0) (.seq (.seq (.reg 128 5 laws_eqIntS.r1) (.cond (.t 10) (.seq (.reg 448 1 laws_eqIntS.r2) (.ret)) (.skip))) (.seq (.seq (.reg 512 1 laws_eqIntS.r3) (.block 0 (.loop laws_eqIntS.b0))) (.seq (.reg 1664 1 laws_eqIntS.r8) (.ret)))) }
attribute [go_sem] laws_eqIntS.r0 laws_eqIntS.r1 laws_eqIntS.r2 laws_eqIntS.r3 laws_eqIntS.r4 laws_eqIntS.r5 laws_eqIntS.r6 laws_eqIntS.r7 laws_eqIntS.r8
theorem laws_eqIntS.ok : chkF prog F_laws_eqIntS 2 laws_eqIntS.fi = true := by kernel_rfl

/-! spec_l1Has -/
def spec_l1Has.r0 : List Ent := [
  E0 0 (some 4) none (.i (.mv (.k (.dat none (.bool false)))))]
def spec_l1Has.r1 : List Ent := [
  E0 0 (some 7) none (.i (.mv (.t 0))),
  E0 1 (some 8) none (.i (.len (.t 7))),
  E0 2 (some 9) none (.i (.mv (.k (I64 0))))]
def spec_l1Has.r2 : List Ent := [
  E0 0 (some 10) none (.i (.bin .lss (.t 9) (.t 8)))]
def spec_l1Has.r3 : List Ent := [
  E0 0 (some 11) none (.i (.iad 1 (.t 7) (.t 9))),
  E0 1 (some 12) none (.i (.load false false 1 (.t 11))),
  E0 2 (some 6) none (.i (.mv (.t 12)))]
def spec_l1Has.r4 : List Ent := [
  E0 0 (some 13) none (.i (.mv (.t 6))),
  E0 1 (some 14) none (.i (.mv (.t 1))),
  E0 2 (some 15) none (.i (.bin .eql (.t 13) (.t 14)))]
def spec_l1Has.r5 : List Ent := [
  E0 0 (some 4) none (.i (.mv (.k (.dat none (.bool true)))))]
def spec_l1Has.r6 : List Ent := [
  E0 0 (some 16) none (.i (.bin .add (.t 9) (.k (I64 1)))),
  E0 1 (some 9) none (.i (.mv (.t 16)))]
def spec_l1Has.b0 : KC := .seq (.reg 320 1 spec_l1Has.r2) (.seq (.cond (.t 10) (.skip) (.exit 0)) (.seq (.block 1 (.seq (.reg 384 3 spec_l1Has.r3) (.seq (.reg 576 3 spec_l1Has.r4) (.cond (.t 15) (.seq (.reg 768 1 spec_l1Has.r5) (.ret)) (.skip))))) (.reg 832 2 spec_l1Has.r6)))
def spec_l1Has.r7 : List Ent := [
  E0 0 (some 4) none (.i (.mv (.k (.dat none (.bool false)))))]
def spec_l1Has.fi : FI := { res := [.t 4], code := .seq (.reg 64 1 spec_l1Has.r0) (.seq (.seq (.reg 128 3 spec_l1Has.r1) (.block 0 (.loop spec_l1Has.b0))) (.seq (.reg 960 1 spec_l1Has.r7) (.ret))) }
attribute [go_sem] spec_l1Has.r0 spec_l1Has.r1 spec_l1Has.r2 spec_l1Has.r3 spec_l1Has.r4 spec_l1Has.r5 spec_l1Has.r6 spec_l1Has.r7
theorem spec_l1Has.ok : chkF prog F_spec_l1Has 2 spec_l1Has.fi = true := by kernel_rfl

/-! spec_MeetOf -/
def spec_MeetOf.r0 : List Ent := [
  E0 0 (some 4) none (.i (.mv (.k (.nil 1)))),
  E0 1 (some 5) none (.i (.mv (.k (.dat none (.bool false)))))]
def spec_MeetOf.r1 : List Ent := [
  E0 0 (some 9) none (.i (.mv (.t 0))),
  E0 1 (some 10) none (.call F_spec_l16Facts false (roA [.k (I64 12), .t 9])),
  E0 2 (some 11) none (.i (.un .not (.t 10))),
  E0 3 (some 12) none (.i (.mv (.t 11))),
  E0 4 (some 13) (some (12, false)) (.i (.mv (.t 1))),
  E0 5 (some 14) (some (12, false)) (.call F_spec_l16Facts false (roA [.k (I64 12), .t 13])),
  E0 6 (some 15) (some (12, false)) (.i (.un .not (.t 14))),
  E0 7 (some 16) none (.i (.pick (.t 12) (.k (.dat none (.bool true))) (.t 15)))]
def spec_MeetOf.r2 : List Ent := [
  E0 0 (some 4) none (.i (.mv (.k (.nil 1)))),
  E0 1 (some 5) none (.i (.mv (.k (.dat none (.bool false)))))]
def spec_MeetOf.r3 : List Ent := [
  E0 0 (some 6) none (.i (.mv (.k (.nil 1))))]
def spec_MeetOf.r4 : List Ent := [
  E0 0 (some 17) none (.i (.mv (.t 0))),
  E0 1 (some 18) none (.i (.len (.t 17))),
  E0 2 (some 19) none (.i (.mv (.k (I64 0))))]
def spec_MeetOf.r5 : List Ent := [
  E0 0 (some 20) none (.i (.bin .lss (.t 19) (.t 18)))]
def spec_MeetOf.r6 : List Ent := [
  E0 0 (some 21) none (.i (.iad 1 (.t 17) (.t 19))),
  E0 1 (some 22) none (.i (.load false false 1 (.t 21))),
  E0 2 (some 8) none (.i (.mv (.t 22)))]
def spec_MeetOf.r7 : List Ent := [
  E0 0 (some 23) none (.i (.mv (.t 1))),
  E0 1 (some 24) none (.i (.mv (.t 8))),
  E0 2 (some 25) none (.call F_spec_l1Has false (roA [.t 23, .t 24]))]
def spec_MeetOf.r8 : List Ent := [
  E0 0 (some 26) none (.i (.mv (.t 6))),
  E0 1 (some 27) none (.i (.mv (.t 8))),
  E0 2 (some 28) none (.i (.bsl true 1 [.t 27])),
  E0 3 (some 29) none (.i (.app 1 8 (.t 26) (.t 28))),
  E0 4 (some 6) none (.i (.mv (.t 29)))]
def spec_MeetOf.r9 : List Ent := [
  E0 0 (some 30) none (.i (.bin .add (.t 19) (.k (I64 1)))),
  E0 1 (some 19) none (.i (.mv (.t 30)))]
def spec_MeetOf.b0 : KC := .seq (.reg 1088 1 spec_MeetOf.r5) (.seq (.cond (.t 20) (.skip) (.exit 0)) (.seq (.block 1 (.seq (.reg 1152 3 spec_MeetOf.r6) (.seq (.reg 1344 3 spec_MeetOf.r7) (.cond (.t 25) (.reg 1536 5 spec_MeetOf.r8) (.skip))))) (.reg 1856 2 spec_MeetOf.r9)))
def spec_MeetOf.r10 : List Ent := [
  E0 0 (some 31) none (.i (.mv (.t 6))),
  E0 1 (some 4) none (.i (.mv (.t 31))),
  E0 2 (some 5) none (.i (.mv (.k (.dat none (.bool true)))))]
def spec_MeetOf.fi : FI := { res := [.t 4, .t 5], code := .seq (.reg 64 2 spec_MeetOf.r0) (.seq (.seq (.reg 192 8 spec_MeetOf.r1) (.cond (.t 16) (.seq (.reg 704 2 spec_MeetOf.r2) (.ret)) (.skip))) (.seq (.reg 832 1 spec_MeetOf.r3) (.seq (.seq (.reg 896 3 spec_MeetOf.r4) (.nrm 6 1728 1 (.block 0 (.loop spec_MeetOf.b0)))) (.seq (.reg 1984 3 spec_MeetOf.r10) (.ret))))) }
attribute [go_sem] spec_MeetOf.r0 spec_MeetOf.r1 spec_MeetOf.r2 spec_MeetOf.r3 spec_MeetOf.r4 spec_MeetOf.r5 spec_MeetOf.r6 spec_MeetOf.r7 spec_MeetOf.r8 spec_MeetOf.r9 spec_MeetOf.r10
theorem spec_MeetOf.ok : chkF prog F_spec_MeetOf 2 spec_MeetOf.fi = true := by kernel_rfl

/-! slices_IndexFunc__sint_int -/
def slices_IndexFunc__sint_int.r0 : List Ent := [
  E0 0 (some 4) none (.i (.mv (.k (I64 0))))]
def slices_IndexFunc__sint_int.r1 : List Ent := [
  E0 0 (some 6) none (.i (.mv (.t 0))),
  E0 1 (some 7) none (.i (.len (.t 6))),
  E0 2 (some 8) none (.i (.mv (.k (I64 0))))]
def slices_IndexFunc__sint_int.r2 : List Ent := [
  E0 0 (some 9) none (.i (.bin .lss (.t 8) (.t 7)))]
def slices_IndexFunc__sint_int.r3 : List Ent := [
  E0 0 (some 10) none (.i (.mv (.t 8))),
  E0 1 (some 5) none (.i (.mv (.t 10)))]
def slices_IndexFunc__sint_int.r4 : List Ent := [
  E0 0 (some 11) none (.i (.mv (.t 1))),
  E0 1 (some 12) none (.i (.mv (.t 0))),
  E0 2 (some 13) none (.i (.mv (.t 5))),
  E0 3 (some 14) none (.i (.iad 1 (.t 12) (.t 13))),
  E0 4 (some 15) none (.i (.load false false 1 (.t 14))),
  E0 5 (some 16) none (.ccl (.t 11) false [.t 15])]
def slices_IndexFunc__sint_int.r5 : List Ent := [
  E0 0 (some 17) none (.i (.mv (.t 5))),
  E0 1 (some 4) none (.i (.mv (.t 17)))]
def slices_IndexFunc__sint_int.r6 : List Ent := [
  E0 0 (some 18) none (.i (.bin .add (.t 8) (.k (I64 1)))),
  E0 1 (some 8) none (.i (.mv (.t 18)))]
def slices_IndexFunc__sint_int.b0 : KC := .seq (.reg 320 1 slices_IndexFunc__sint_int.r2) (.seq (.cond (.t 9) (.skip) (.exit 0)) (.seq (.block 1 (.seq (.reg 384 2 slices_IndexFunc__sint_int.r3) (.seq (.reg 512 6 slices_IndexFunc__sint_int.r4) (.cond (.t 16) (.seq (.reg 896 2 slices_IndexFunc__sint_int.r5) (.ret)) (.skip))))) (.reg 1024 2 slices_IndexFunc__sint_int.r6)))
def slices_IndexFunc__sint_int.r7 : List Ent := [
  E0 0 (some 4) none (.i (.mv (.k (I64 (-1)))))]
def slices_IndexFunc__sint_int.fi : FI := { res := [.t 4], code := .seq (.reg 64 1 slices_IndexFunc__sint_int.r0) (.seq (.seq (.reg 128 3 slices_IndexFunc__sint_int.r1) (.block 0 (.loop slices_IndexFunc__sint_int.b0))) (.seq (.reg 1152 1 slices_IndexFunc__sint_int.r7) (.ret))) }
attribute [go_sem] slices_IndexFunc__sint_int.r0 slices_IndexFunc__sint_int.r1 slices_IndexFunc__sint_int.r2 slices_IndexFunc__sint_int.r3 slices_IndexFunc__sint_int.r4 slices_IndexFunc__sint_int.r5 slices_IndexFunc__sint_int.r6 slices_IndexFunc__sint_int.r7
theorem slices_IndexFunc__sint_int.ok : chkF prog F_slices_IndexFunc__sint_int 2 slices_IndexFunc__sint_int.fi = true := by kernel_rfl

/-! slices_DeleteFunc__sint_int -/
def slices_DeleteFunc__sint_int.r0 : List Ent := [
  E0 0 (some 4) none (.i (.mv (.k (.nil 1))))]
def slices_DeleteFunc__sint_int.r1 : List Ent := [
  E0 0 (some 8) none (.i (.mv (.t 0))),
  E0 1 (some 9) none (.i (.mv (.t 1))),
  E0 2 (some 10) none (.call F_slices_IndexFunc__sint_int false (roA [.t 8, .t 9])),
  E0 3 (some 5) none (.i (.mv (.t 10)))]
def slices_DeleteFunc__sint_int.r2 : List Ent := [
  E0 0 (some 11) none (.i (.mv (.t 5))),
  E0 1 (some 12) none (.i (.bin .eql (.t 11) (.k (I64 (-1)))))]
def slices_DeleteFunc__sint_int.r3 : List Ent := [
  E0 0 (some 13) none (.i (.mv (.t 0))),
  E0 1 (some 4) none (.i (.mv (.t 13)))]
def slices_DeleteFunc__sint_int.r4 : List Ent := [
  E0 0 (some 14) none (.i (.mv (.t 5))),
  E0 1 (some 15) none (.i (.bin .add (.t 14) (.k (I64 1)))),
  E0 2 (some 6) none (.i (.mv (.t 15)))]
def slices_DeleteFunc__sint_int.r5 : List Ent := [
  E0 0 (some 16) none (.i (.mv (.t 6))),
  E0 1 (some 17) none (.i (.mv (.t 0))),
  E0 2 (some 18) none (.i (.len (.t 17))),
  E0 3 (some 19) none (.i (.bin .lss (.t 16) (.t 18)))]
def slices_DeleteFunc__sint_int.r6 : List Ent := [
  E0 0 (some 22) none (.i (.mv (.t 0))),
  E0 1 (some 23) none (.i (.mv (.t 6))),
  E0 2 (some 24) none (.i (.iad 1 (.t 22) (.t 23))),
  E0 3 (some 25) none (.i (.load false false 1 (.t 24))),
  E0 4 (some 7) none (.i (.mv (.t 25)))]
def slices_DeleteFunc__sint_int.r7 : List Ent := [
  E0 0 (some 26) none (.i (.mv (.t 1))),
  E0 1 (some 27) none (.i (.mv (.t 7))),
  E0 2 (some 28) none (.ccl (.t 26) false [.t 27]),
  E0 3 (some 29) none (.i (.un .not (.t 28)))]
def slices_DeleteFunc__sint_int.r8 : List Ent := [
  E0 0 (some 30) none (.i (.mv (.t 0))),
  E0 1 (some 31) none (.i (.mv (.t 5))),
  E0 2 (some 32) none (.i (.mv (.t 7))),
  E0 3 (some 33) none (.i (.iad 1 (.t 30) (.t 31))),
  E0 4 none none (.i (.store 1 (.t 33) (.t 32)))]
def slices_DeleteFunc__sint_int.r9 : List Ent := [
  E0 0 (some 34) none (.i (.mv (.t 5))),
  E0 1 (some 35) none (.i (.bin .add (.t 34) (.k (I64 1)))),
  E0 2 (some 5) none (.i (.mv (.t 35)))]
def slices_DeleteFunc__sint_int.r10 : List Ent := [
  E0 0 (some 20) none (.i (.mv (.t 6))),
  E0 1 (some 21) none (.i (.bin .add (.t 20) (.k (I64 1)))),
  E0 2 (some 6) none (.i (.mv (.t 21)))]
def slices_DeleteFunc__sint_int.b0 : KC := .seq (.seq (.reg 832 4 slices_DeleteFunc__sint_int.r5) (.cond (.t 19) (.skip) (.exit 0))) (.seq (.block 1 (.seq (.reg 1088 5 slices_DeleteFunc__sint_int.r6) (.seq (.reg 1408 4 slices_DeleteFunc__sint_int.r7) (.cond (.t 29) (.seq (.reg 1664 5 slices_DeleteFunc__sint_int.r8) (.reg 1984 3 slices_DeleteFunc__sint_int.r9)) (.skip))))) (.reg 2176 3 slices_DeleteFunc__sint_int.r10))
def slices_DeleteFunc__sint_int.r11 : List Ent := [
  E0 0 (some 36) none (.i (.mv (.t 0))),
  E0 1 (some 37) none (.i (.mv (.t 5))),
  E0 2 (some 38) none (.i (.slc 1 (.t 36) (some (.t 37)) (none))),
  E0 3 none none (.i (.clr 1 (.int .i64 0) (.t 38)))]
def slices_DeleteFunc__sint_int.r12 : List Ent := [
  E0 0 (some 39) none (.i (.mv (.t 0))),
  E0 1 (some 40) none (.i (.mv (.t 5))),
  E0 2 (some 41) none (.i (.slc 1 (.t 39) (none) (some (.t 40)))),
  E0 3 (some 4) none (.i (.mv (.t 41)))]
def slices_DeleteFunc__sint_int.fi : FI := { res := [.t 4], code := .seq (.reg 64 1 slices_DeleteFunc__sint_int.r0) (.seq (.reg 128 4 slices_DeleteFunc__sint_int.r1) (.seq (.seq (.reg 384 2 slices_DeleteFunc__sint_int.r2) (.cond (.t 12) (.seq (.reg 512 2 slices_DeleteFunc__sint_int.r3) (.ret)) (.skip))) (.seq (.seq (.reg 640 3 slices_DeleteFunc__sint_int.r4) (.block 0 (.loop slices_DeleteFunc__sint_int.b0))) (.seq (.reg 2368 4 slices_DeleteFunc__sint_int.r11) (.seq (.reg 2624 4 slices_DeleteFunc__sint_int.r12) (.ret)))))) }
attribute [go_sem] slices_DeleteFunc__sint_int.r0 slices_DeleteFunc__sint_int.r1 slices_DeleteFunc__sint_int.r2 slices_DeleteFunc__sint_int.r3 slices_DeleteFunc__sint_int.r4 slices_DeleteFunc__sint_int.r5 slices_DeleteFunc__sint_int.r6 slices_DeleteFunc__sint_int.r7 slices_DeleteFunc__sint_int.r8 slices_DeleteFunc__sint_int.r9 slices_DeleteFunc__sint_int.r10 slices_DeleteFunc__sint_int.r11 slices_DeleteFunc__sint_int.r12
theorem slices_DeleteFunc__sint_int.ok : chkF prog F_slices_DeleteFunc__sint_int 2 slices_DeleteFunc__sint_int.fi = true := by kernel_rfl

/-! slices_Clone__sint_int -/
def slices_Clone__sint_int.r0 : List Ent := [
  E0 0 (some 2) none (.i (.mv (.k (.nil 1))))]
def slices_Clone__sint_int.r1 : List Ent := [
  E0 0 (some 3) none (.i (.mv (.t 0))),
  E0 1 (some 4) none (.i (.eqnil false (.t 3)))]
def slices_Clone__sint_int.r2 : List Ent := [
  E0 0 (some 2) none (.i (.mv (.k (.nil 1))))]
def slices_Clone__sint_int.r3 : List Ent := [
  E0 0 (some 5) none (.i (.bsl false 1 [])),
  E0 1 (some 6) none (.i (.mv (.t 0))),
  E0 2 (some 7) none (.i (.app 1 8 (.t 5) (.t 6))),
  E0 3 (some 2) none (.i (.mv (.t 7)))]
def slices_Clone__sint_int.fi : FI := { res := [.t 2], code := .seq (.reg 64 1 slices_Clone__sint_int.r0) (.seq (.seq (.reg 128 2 slices_Clone__sint_int.r1) (.cond (.t 4) (.seq (.reg 256 1 slices_Clone__sint_int.r2) (.ret)) (.skip))) (.seq (.reg 320 4 slices_Clone__sint_int.r3) (.ret))) }
attribute [go_sem] slices_Clone__sint_int.r0 slices_Clone__sint_int.r1 slices_Clone__sint_int.r2 slices_Clone__sint_int.r3
theorem slices_Clone__sint_int.ok : chkF prog F_slices_Clone__sint_int 1 slices_Clone__sint_int.fi = true := by kernel_rfl

/-! slices_Index__sint_int -/
def slices_Index__sint_int.r0 : List Ent := [
  E0 0 (some 4) none (.i (.mv (.k (I64 0))))]
def slices_Index__sint_int.r1 : List Ent := [
  E0 0 (some 6) none (.i (.mv (.t 0))),
  E0 1 (some 7) none (.i (.len (.t 6))),
  E0 2 (some 8) none (.i (.mv (.k (I64 0))))]
def slices_Index__sint_int.r2 : List Ent := [
  E0 0 (some 9) none (.i (.bin .lss (.t 8) (.t 7)))]
def slices_Index__sint_int.r3 : List Ent := [
  E0 0 (some 10) none (.i (.mv (.t 8))),
  E0 1 (some 5) none (.i (.mv (.t 10)))]
def slices_Index__sint_int.r4 : List Ent := [
  E0 0 (some 11) none (.i (.mv (.t 1))),
  E0 1 (some 12) none (.i (.mv (.t 0))),
  E0 2 (some 13) none (.i (.mv (.t 5))),
  E0 3 (some 14) none (.i (.iad 1 (.t 12) (.t 13))),
  E0 4 (some 15) none (.i (.load false false 1 (.t 14))),
  E0 5 (some 16) none (.i (.bin .eql (.t 11) (.t 15)))]
def slices_Index__sint_int.r5 : List Ent := [
  E0 0 (some 17) none (.i (.mv (.t 5))),
  E0 1 (some 4) none (.i (.mv (.t 17)))]
def slices_Index__sint_int.r6 : List Ent := [
  E0 0 (some 18) none (.i (.bin .add (.t 8) (.k (I64 1)))),
  E0 1 (some 8) none (.i (.mv (.t 18)))]
def slices_Index__sint_int.b0 : KC := .seq (.reg 320 1 slices_Index__sint_int.r2) (.seq (.cond (.t 9) (.skip) (.exit 0)) (.seq (.block 1 (.seq (.reg 384 2 slices_Index__sint_int.r3) (.seq (.reg 512 6 slices_Index__sint_int.r4) (.cond (.t 16) (.seq (.reg 896 2 slices_Index__sint_int.r5) (.ret)) (.skip))))) (.reg 1024 2 slices_Index__sint_int.r6)))
def slices_Index__sint_int.r7 : List Ent := [
  E0 0 (some 4) none (.i (.mv (.k (I64 (-1)))))]
def slices_Index__sint_int.fi : FI := { res := [.t 4], code := .seq (.reg 64 1 slices_Index__sint_int.r0) (.seq (.seq (.reg 128 3 slices_Index__sint_int.r1) (.block 0 (.loop slices_Index__sint_int.b0))) (.seq (.reg 1152 1 slices_Index__sint_int.r7) (.ret))) }
attribute [go_sem] slices_Index__sint_int.r0 slices_Index__sint_int.r1 slices_Index__sint_int.r2 slices_Index__sint_int.r3 slices_Index__sint_int.r4 slices_Index__sint_int.r5 slices_Index__sint_int.r6 slices_Index__sint_int.r7
theorem slices_Index__sint_int.ok : chkF prog F_slices_Index__sint_int 2 slices_Index__sint_int.fi = true := by kernel_rfl

/-! slices_Contains__sint_int -/
def slices_Contains__sint_int.r0 : List Ent := [
  E0 0 (some 4) none (.i (.mv (.k (.dat none (.bool false)))))]
def slices_Contains__sint_int.r1 : List Ent := [
  E0 0 (some 5) none (.i (.mv (.t 0))),
  E0 1 (some 6) none (.i (.mv (.t 1))),
  E0 2 (some 7) none (.call F_slices_Index__sint_int false (roA [.t 5, .t 6])),
  E0 3 (some 8) none (.i (.bin .geq (.t 7) (.k (I64 0)))),
  E0 4 (some 4) none (.i (.mv (.t 8)))]
def slices_Contains__sint_int.fi : FI := { res := [.t 4], code := .seq (.reg 64 1 slices_Contains__sint_int.r0) (.seq (.reg 128 5 slices_Contains__sint_int.r1) (.ret)) }
attribute [go_sem] slices_Contains__sint_int.r0 slices_Contains__sint_int.r1
theorem slices_Contains__sint_int.ok : chkF prog F_slices_Contains__sint_int 2 slices_Contains__sint_int.fi = true := by kernel_rfl

/-! impl_MeetOf_c1 -/
def impl_MeetOf_c1.r0 : List Ent := [
  E0 0 (some 3) none (.i (.mv (.k (.dat none (.bool false)))))]
def impl_MeetOf_c1.r1 : List Ent := [
  E0 0 (some 4) none (.i (.load false false 1 (.t 1))),
  E0 1 (some 5) none (.i (.mv (.t 0))),
  E0 2 (some 6) none (.call F_slices_Contains__sint_int false (roA [.t 4, .t 5])),
  E0 3 (some 7) none (.i (.un .not (.t 6))),
  E0 4 (some 3) none (.i (.mv (.t 7)))]
def impl_MeetOf_c1.fi : FI := { res := [.t 3], code := .seq (.reg 64 1 impl_MeetOf_c1.r0) (.seq (.reg 128 5 impl_MeetOf_c1.r1) (.ret)) }
attribute [go_sem] impl_MeetOf_c1.r0 impl_MeetOf_c1.r1
theorem impl_MeetOf_c1.ok : chkF prog F_impl_MeetOf_c1 2 impl_MeetOf_c1.fi = true := by kernel_rfl

/-! impl_MeetOf -/
def impl_MeetOf.r0 : List Ent := [
  E0 0 (some 3) none (.i (.box (.t 1))),
  E0 1 (some 4) none (.i (.mv (.k (.nil 1)))),
  E0 2 (some 5) none (.i (.mv (.k (.dat none (.bool false)))))]
def impl_MeetOf.r1 : List Ent := [
  E0 0 (some 6) none (.i (.mv (.t 0))),
  E0 1 (some 7) none (.call F_impl_areFacts false (roA [.t 6, .k (I64 12)])),
  E0 2 (some 8) none (.i (.un .not (.t 7))),
  E0 3 (some 9) none (.i (.mv (.t 8))),
  E0 4 (some 10) (some (9, false)) (.i (.load false false 1 (.t 3))),
  E0 5 (some 11) (some (9, false)) (.call F_impl_areFacts false (roA [.t 10, .k (I64 12)])),
  E0 6 (some 12) (some (9, false)) (.i (.un .not (.t 11))),
  E0 7 (some 13) none (.i (.pick (.t 9) (.k (.dat none (.bool true))) (.t 12)))]
def impl_MeetOf.r2 : List Ent := [
  E0 0 (some 4) none (.i (.mv (.k (.nil 1)))),
  E0 1 (some 5) none (.i (.mv (.k (.dat none (.bool false)))))]
def impl_MeetOf.r3 : List Ent := [
  E0 0 (some 14) none (.i (.mv (.t 0))),
  E0 1 (some 15) none (.call F_slices_Clone__sint_int false (roA [.t 14])),
  E0 2 (some 16) none (.i (.mkf F_impl_MeetOf_c1 [.t 3])),
  E0 3 (some 17) none (.call F_slices_DeleteFunc__sint_int false [(.co, .t 15), (.ro, .t 16)]),
  E0 4 (some 4) none (.i (.mv (.t 17))),
  E0 5 (some 5) none (.i (.mv (.k (.dat none (.bool true)))))]
def impl_MeetOf.fi : FI := { res := [.t 4, .t 5], code := .seq (.reg 64 3 impl_MeetOf.r0) (.seq (.seq (.reg 256 8 impl_MeetOf.r1) (.cond (.t 13) (.seq (.reg 768 2 impl_MeetOf.r2) (.ret)) (.skip))) (.seq (.reg 896 6 impl_MeetOf.r3) (.ret))) }
attribute [go_sem] impl_MeetOf.r0 impl_MeetOf.r1 impl_MeetOf.r2 impl_MeetOf.r3
theorem impl_MeetOf.ok : chkF prog F_impl_MeetOf 2 impl_MeetOf.fi = true := by kernel_rfl

/-! laws_markIntS -/
def laws_markIntS.r0 : List Ent := [
  E0 0 (some 4) none (.i (.mv (.k (I64 0))))]
def laws_markIntS.r1 : List Ent := [
  E0 0 (some 5) none (.i (.mv (.k (I64 0))))]
def laws_markIntS.r2 : List Ent := [
  E0 0 (some 6) none (.i (.mv (.t 5))),
  E0 1 (some 7) none (.i (.mv (.t 0))),
  E0 2 (some 8) none (.i (.len (.t 7))),
  E0 3 (some 9) none (.i (.bin .lss (.t 6) (.t 8)))]
def laws_markIntS.r3 : List Ent := [
  E0 0 (some 12) none (.i (.mv (.t 0))),
  E0 1 (some 13) none (.i (.mv (.t 5))),
  E0 2 (some 14) none (.i (.mv (.t 1))),
  E0 3 (some 15) none (.i (.iad 1 (.t 12) (.t 13))),
  E0 4 none none (.i (.store 1 (.t 15) (.t 14)))]
def laws_markIntS.r4 : List Ent := [
  E0 0 (some 16) none (.i (.mv (.t 1))),
  E0 1 (some 17) none (.i (.bin .add (.t 16) (.k (I64 1)))),
  E0 2 (some 1) none (.i (.mv (.t 17)))]
def laws_markIntS.r5 : List Ent := [
  E0 0 (some 10) none (.i (.mv (.t 5))),
  E0 1 (some 11) none (.i (.bin .add (.t 10) (.k (I64 1)))),
  E0 2 (some 5) none (.i (.mv (.t 11)))]
def laws_markIntS.b0 : KC := .seq (.seq (.reg 192 4 laws_markIntS.r2) (.cond (.t 9) (.skip) (.exit 0))) (.seq (.block 1 (.seq (.reg 448 5 laws_markIntS.r3) (.reg 768 3 laws_markIntS.r4))) (.reg 960 3 laws_markIntS.r5))
def laws_markIntS.r6 : List Ent := [
  E0 0 (some 18) none (.i (.mv (.t 1))),
  E0 1 (some 4) none (.i (.mv (.t 18)))]
def laws_markIntS.fi : FI := { res := [.t 4], code := .seq (.reg 64 1 laws_markIntS.r0) (.seq (.seq (.reg 128 1 laws_markIntS.r1) (.block 0 (.loop laws_markIntS.b0))) (.seq (.reg 1152 2 laws_markIntS.r6) (.ret))) }
attribute [go_sem] laws_markIntS.r0 laws_markIntS.r1 laws_markIntS.r2 laws_markIntS.r3 laws_markIntS.r4 laws_markIntS.r5 laws_markIntS.r6
theorem laws_markIntS.ok : chkF prog F_laws_markIntS 2 laws_markIntS.fi = true := by kernel_rfl

/-! laws_heldIntS -/
def laws_heldIntS.r0 : List Ent := [
  E0 0 (some 4) none (.i (.mv (.k (I64 0))))]
def laws_heldIntS.r1 : List Ent := [
  E0 0 (some 5) none (.i (.mv (.k (I64 0))))]
def laws_heldIntS.r2 : List Ent := [
  E0 0 (some 6) none (.i (.mv (.t 5))),
  E0 1 (some 7) none (.i (.mv (.t 0))),
  E0 2 (some 8) none (.i (.len (.t 7))),
  E0 3 (some 9) none (.i (.bin .lss (.t 6) (.t 8)))]
def laws_heldIntS.r3 : List Ent := [
  E0 0 (some 12) none (.i (.mv (.t 0))),
  E0 1 (some 13) none (.i (.mv (.t 5))),
  E0 2 (some 14) none (.i (.iad 1 (.t 12) (.t 13))),
  E0 3 (some 15) none (.i (.load false false 1 (.t 14))),
  E0 4 (some 16) none (.i (.mv (.t 1))),
  E0 5 (some 17) none (.i (.bin .neq (.t 15) (.t 16)))]
def laws_heldIntS.r4 : List Ent := [
  E0 0 (some 4) none (.i (.mv (.k (I64 (-1)))))]
def laws_heldIntS.r5 : List Ent := [
  E0 0 (some 18) none (.i (.mv (.t 1))),
  E0 1 (some 19) none (.i (.bin .add (.t 18) (.k (I64 1)))),
  E0 2 (some 1) none (.i (.mv (.t 19)))]
def laws_heldIntS.r6 : List Ent := [
  E0 0 (some 10) none (.i (.mv (.t 5))),
  E0 1 (some 11) none (.i (.bin .add (.t 10) (.k (I64 1)))),
  E0 2 (some 5) none (.i (.mv (.t 11)))]
def laws_heldIntS.b0 : KC := .seq (.seq (.reg 192 4 laws_heldIntS.r2) (.cond (.t 9) (.skip) (.exit 0))) (.seq (.block 1 (.seq (.seq (.reg 448 6 laws_heldIntS.r3) (.cond (.t 17) (.seq (.reg 832 1 laws_heldIntS.r4) (.ret)) (.skip))) (.reg 896 3 laws_heldIntS.r5))) (.reg 1088 3 laws_heldIntS.r6))
def laws_heldIntS.r7 : List Ent := [
  E0 0 (some 20) none (.i (.mv (.t 1))),
  E0 1 (some 4) none (.i (.mv (.t 20)))]
def laws_heldIntS.fi : FI := { res := [.t 4], code := .seq (.reg 64 1 laws_heldIntS.r0) (.seq (.seq (.reg 128 1 laws_heldIntS.r1) (.block 0 (.loop laws_heldIntS.b0))) (.seq (.reg 1280 2 laws_heldIntS.r7) (.ret))) }
attribute [go_sem] laws_heldIntS.r0 laws_heldIntS.r1 laws_heldIntS.r2 laws_heldIntS.r3 laws_heldIntS.r4 laws_heldIntS.r5 laws_heldIntS.r6 laws_heldIntS.r7
theorem laws_heldIntS.ok : chkF prog F_laws_heldIntS 2 laws_heldIntS.fi = true := by kernel_rfl

/-! laws_FnExactMeetOf -/
def laws_FnExactMeetOf.r0 : List Ent := [
  E0 0 (some 4) none (.i (.mv (.k (.dat none (.bool false)))))]
def laws_FnExactMeetOf.r1 : List Ent := [
  E0 0 (some 16) none (.i (.mv (.t 0))),
  E0 1 (some 17) none (.i (.len (.t 16))),
  E0 2 (some 18) none (.i (.bin .gtr (.t 17) (.k (I64 1048576))))]
def laws_FnExactMeetOf.r2 : List Ent := [
  E0 0 (some 4) none (.i (.mv (.k (.dat none (.bool true)))))]
def laws_FnExactMeetOf.r3 : List Ent := [
  E0 0 (some 19) none (.i (.mv (.t 1))),
  E0 1 (some 20) none (.i (.len (.t 19))),
  E0 2 (some 21) none (.i (.bin .gtr (.t 20) (.k (I64 1048576))))]
def laws_FnExactMeetOf.r4 : List Ent := [
  E0 0 (some 4) none (.i (.mv (.k (.dat none (.bool true)))))]
def laws_FnExactMeetOf.r5 : List Ent := [
  E0 0 (some 23) none (.i (.mv (.t 0))),
  E0 1 (some 24) none (.call F_laws_toIntS false (roA [.t 23])),
  E0 2 (some 25) none (.i (.mv (.t 1))),
  E0 3 (some 26) none (.call F_laws_toIntS false (roA [.t 25])),
  E0 4 (some 27) none (.call F_spec_MeetOf false (roA [.t 24, .t 26])),
  E0 5 (some 22) none (.i (.mv (.t 27))),
  E0 6 (some 28) none (.i (.ext 0 (.t 22))),
  E0 7 (some 29) none (.i (.ext 1 (.t 22))),
  E0 8 (some 5) none (.i (.mv (.t 28))),
  E0 9 (some 6) none (.i (.mv (.t 29)))]
def laws_FnExactMeetOf.r6 : List Ent := [
  E0 0 (some 30) none (.i (.mv (.t 0))),
  E0 1 (some 31) none (.call F_laws_toIntS false (roA [.t 30])),
  E0 2 (some 7) none (.i (.mv (.t 31)))]
def laws_FnExactMeetOf.r7 : List Ent := [
  E0 0 (some 32) none (.i (.mv (.t 1))),
  E0 1 (some 33) none (.call F_laws_toIntS false (roA [.t 32])),
  E0 2 (some 8) none (.i (.mv (.t 33)))]
def laws_FnExactMeetOf.r8 : List Ent := [
  E0 0 (some 35) none (.i (.mv (.t 7))),
  E0 1 (some 36) none (.i (.mv (.t 8))),
  E0 2 (some 37) none (.call F_impl_MeetOf false (roA [.t 35, .t 36])),
  E0 3 (some 34) none (.i (.mv (.t 37))),
  E0 4 (some 38) none (.i (.ext 0 (.t 34))),
  E0 5 (some 39) none (.i (.ext 1 (.t 34))),
  E0 6 (some 9) none (.i (.mv (.t 38))),
  E0 7 (some 10) none (.i (.mv (.t 39)))]
def laws_FnExactMeetOf.r9 : List Ent := [
  E0 0 (some 40) none (.i (.mv (.t 9))),
  E0 1 (some 41) none (.i (.mv (.t 5))),
  E0 2 (some 42) none (.call F_laws_eqIntS false (roA [.t 40, .t 41])),
  E0 3 (some 43) none (.i (.un .not (.t 42))),
  E0 4 (some 44) none (.i (.mv (.t 43))),
  E0 5 (some 45) (some (44, false)) (.i (.mv (.t 10))),
  E0 6 (some 46) (some (44, false)) (.i (.mv (.t 6))),
  E0 7 (some 47) (some (44, false)) (.i (.eqb true (.t 45) (.t 46))),
  E0 8 (some 48) none (.i (.pick (.t 44) (.k (.dat none (.bool true))) (.t 47)))]
def laws_FnExactMeetOf.r10 : List Ent := [
  E0 0 (some 4) none (.i (.mv (.k (.dat none (.bool false)))))]
def laws_FnExactMeetOf.r11 : List Ent := [
  E0 0 (some 49) none (.i (.mv (.t 7))),
  E0 1 (some 50) none (.i (.mv (.t 0))),
  E0 2 (some 51) none (.call F_laws_toIntS false (roA [.t 50])),
  E0 3 (some 52) none (.call F_laws_eqIntS false (roA [.t 49, .t 51])),
  E0 4 (some 53) none (.i (.un .not (.t 52)))]
def laws_FnExactMeetOf.r12 : List Ent := [
  E0 0 (some 4) none (.i (.mv (.k (.dat none (.bool false)))))]
def laws_FnExactMeetOf.r13 : List Ent := [
  E0 0 (some 54) none (.i (.mv (.t 8))),
  E0 1 (some 55) none (.i (.mv (.t 1))),
  E0 2 (some 56) none (.call F_laws_toIntS false (roA [.t 55])),
  E0 3 (some 57) none (.call F_laws_eqIntS false (roA [.t 54, .t 56])),
  E0 4 (some 58) none (.i (.un .not (.t 57)))]
def laws_FnExactMeetOf.r14 : List Ent := [
  E0 0 (some 4) none (.i (.mv (.k (.dat none (.bool false)))))]
def laws_FnExactMeetOf.r15 : List Ent := [
  E0 0 (some 11) none (.i (.mv (.k (I64 1))))]
def laws_FnExactMeetOf.r16 : List Ent := [
  E0 0 (some 59) none (.i (.mv (.t 7))),
  E0 1 (some 60) none (.i (.mv (.t 11))),
  E0 2 (some 61) none (.call F_laws_markIntS false [(.io, .t 59), (.ro, .t 60)]),
  E0 3 (some 11) none (.i (.mv (.t 61)))]
def laws_FnExactMeetOf.r17 : List Ent := [
  E0 0 (some 62) none (.i (.mv (.t 8))),
  E0 1 (some 63) none (.i (.mv (.t 11))),
  E0 2 (some 64) none (.call F_laws_markIntS false [(.io, .t 62), (.ro, .t 63)]),
  E0 3 (some 11) none (.i (.mv (.t 64)))]
def laws_FnExactMeetOf.r18 : List Ent := [
  E0 0 (some 65) none (.i (.mv (.t 11))),
  E0 1 (some 66) none (.i (.bin .lss (.t 65) (.k (I64 0)))),
  E0 2 (some 67) none (.i (.mv (.t 66))),
  E0 3 (some 68) (some (67, false)) (.i (.mv (.t 9))),
  E0 4 (some 69) (some (67, false)) (.i (.mv (.t 5))),
  E0 5 (some 70) (some (67, false)) (.call F_laws_eqIntS false (roA [.t 68, .t 69])),
  E0 6 (some 71) (some (67, false)) (.i (.un .not (.t 70))),
  E0 7 (some 72) none (.i (.pick (.t 67) (.k (.dat none (.bool true))) (.t 71))),
  E0 8 (some 73) none (.i (.mv (.t 72))),
  E0 9 (some 74) (some (73, false)) (.i (.mv (.t 10))),
  E0 10 (some 75) (some (73, false)) (.i (.mv (.t 6))),
  E0 11 (some 76) (some (73, false)) (.i (.eqb true (.t 74) (.t 75))),
  E0 12 (some 77) none (.i (.pick (.t 73) (.k (.dat none (.bool true))) (.t 76)))]
def laws_FnExactMeetOf.r19 : List Ent := [
  E0 0 (some 4) none (.i (.mv (.k (.dat none (.bool false)))))]
def laws_FnExactMeetOf.r20 : List Ent := [
  E0 0 (some 12) none (.i (.mv (.k (I64 1))))]
def laws_FnExactMeetOf.r21 : List Ent := [
  E0 0 (some 78) none (.i (.mv (.t 9))),
  E0 1 (some 79) none (.i (.mv (.t 12))),
  E0 2 (some 80) none (.call F_laws_markIntS false [(.io, .t 78), (.ro, .t 79)]),
  E0 3 (some 12) none (.i (.mv (.t 80)))]
def laws_FnExactMeetOf.r22 : List Ent := [
  E0 0 (some 13) none (.i (.mv (.k (I64 1))))]
def laws_FnExactMeetOf.r23 : List Ent := [
  E0 0 (some 81) none (.i (.mv (.t 9))),
  E0 1 (some 82) none (.i (.mv (.t 13))),
  E0 2 (some 83) none (.call F_laws_heldIntS false (roA [.t 81, .t 82])),
  E0 3 (some 13) none (.i (.mv (.t 83)))]
def laws_FnExactMeetOf.r24 : List Ent := [
  E0 0 (some 84) none (.i (.mv (.t 13))),
  E0 1 (some 85) none (.i (.bin .lss (.t 84) (.k (I64 0))))]
def laws_FnExactMeetOf.r25 : List Ent := [
  E0 0 (some 4) none (.i (.mv (.k (.dat none (.bool false)))))]
def laws_FnExactMeetOf.r26 : List Ent := [
  E0 0 (some 86) none (.i (.mv (.t 13))),
  E0 1 (some 87) none (.i (.mv (.t 12))),
  E0 2 (some 88) none (.i (.bin .neq (.t 86) (.t 87)))]
def laws_FnExactMeetOf.r27 : List Ent := [
  E0 0 (some 4) none (.i (.mv (.k (.dat none (.bool false)))))]
def laws_FnExactMeetOf.r28 : List Ent := [
  E0 0 (some 90) none (.i (.mv (.t 0))),
  E0 1 (some 91) none (.call F_laws_toIntS false (roA [.t 90])),
  E0 2 (some 92) none (.i (.mv (.t 1))),
  E0 3 (some 93) none (.call F_laws_toIntS false (roA [.t 92])),
  E0 4 (some 94) none (.call F_impl_MeetOf false (roA [.t 91, .t 93])),
  E0 5 (some 89) none (.i (.mv (.t 94))),
  E0 6 (some 95) none (.i (.ext 0 (.t 89))),
  E0 7 (some 96) none (.i (.ext 1 (.t 89))),
  E0 8 (some 14) none (.i (.mv (.t 95))),
  E0 9 (some 15) none (.i (.mv (.t 96)))]
def laws_FnExactMeetOf.r29 : List Ent := [
  E0 0 (some 97) none (.i (.mv (.t 14))),
  E0 1 (some 98) none (.i (.mv (.t 5))),
  E0 2 (some 99) none (.call F_laws_eqIntS false (roA [.t 97, .t 98])),
  E0 3 (some 100) none (.i (.un .not (.t 99))),
  E0 4 (some 101) none (.i (.mv (.t 100))),
  E0 5 (some 102) (some (101, false)) (.i (.mv (.t 15))),
  E0 6 (some 103) (some (101, false)) (.i (.mv (.t 6))),
  E0 7 (some 104) (some (101, false)) (.i (.eqb true (.t 102) (.t 103))),
  E0 8 (some 105) none (.i (.pick (.t 101) (.k (.dat none (.bool true))) (.t 104)))]
def laws_FnExactMeetOf.r30 : List Ent := [
  E0 0 (some 4) none (.i (.mv (.k (.dat none (.bool false)))))]
def laws_FnExactMeetOf.r31 : List Ent := [
  E0 0 (some 13) none (.i (.mv (.k (I64 1))))]
def laws_FnExactMeetOf.r32 : List Ent := [
  E0 0 (some 106) none (.i (.mv (.t 9))),
  E0 1 (some 107) none (.i (.mv (.t 13))),
  E0 2 (some 108) none (.call F_laws_heldIntS false (roA [.t 106, .t 107])),
  E0 3 (some 13) none (.i (.mv (.t 108)))]
def laws_FnExactMeetOf.r33 : List Ent := [
  E0 0 (some 109) none (.i (.mv (.t 13))),
  E0 1 (some 110) none (.i (.bin .lss (.t 109) (.k (I64 0))))]
def laws_FnExactMeetOf.r34 : List Ent := [
  E0 0 (some 4) none (.i (.mv (.k (.dat none (.bool false)))))]
def laws_FnExactMeetOf.r35 : List Ent := [
  E0 0 (some 111) none (.i (.mv (.t 13))),
  E0 1 (some 112) none (.i (.mv (.t 12))),
  E0 2 (some 113) none (.i (.bin .neq (.t 111) (.t 112)))]
def laws_FnExactMeetOf.r36 : List Ent := [
  E0 0 (some 4) none (.i (.mv (.k (.dat none (.bool false)))))]
def laws_FnExactMeetOf.r37 : List Ent := [
  E0 0 (some 4) none (.i (.mv (.k (.dat none (.bool true)))))]
def laws_FnExactMeetOf.fi : FI := { res := [.t 4], code := .seq (.reg 64 1 laws_FnExactMeetOf.r0) (.seq (.seq (.reg 128 3 laws_FnExactMeetOf.r1) (.cond (.t 18) (.seq (.reg 320 1 laws_FnExactMeetOf.r2) (.ret)) (.skip))) (.seq (.seq (.reg 384 3 laws_FnExactMeetOf.r3) (.cond (.t 21) (.seq (.reg 576 1 laws_FnExactMeetOf.r4) (.ret)) (.skip))) (.seq (.reg 640 10 laws_FnExactMeetOf.r5) (.seq (.reg 1280 3 laws_FnExactMeetOf.r6) (.seq (.reg 1472 3 laws_FnExactMeetOf.r7) (.seq (.reg 1664 8 laws_FnExactMeetOf.r8) (.seq (.seq (.reg 2176 9 laws_FnExactMeetOf.r9) (.cond (.t 48) (.seq (.reg 2752 1 laws_FnExactMeetOf.r10) (.ret)) (.skip))) (.seq (.seq (.reg 2816 5 laws_FnExactMeetOf.r11) (.cond (.t 53) (.seq (.reg 3136 1 laws_FnExactMeetOf.r12) (.ret)) (.skip))) (.seq (.seq (.reg 3200 5 laws_FnExactMeetOf.r13) (.cond (.t 58) (.seq (.reg 3520 1 laws_FnExactMeetOf.r14) (.ret)) (.skip))) (.seq (.reg 3584 1 laws_FnExactMeetOf.r15) (.seq (.reg 3648 4 laws_FnExactMeetOf.r16) (.seq (.reg 3904 4 laws_FnExactMeetOf.r17) (.seq (.seq (.reg 4160 13 laws_FnExactMeetOf.r18) (.cond (.t 77) (.seq (.reg 4992 1 laws_FnExactMeetOf.r19) (.ret)) (.skip))) (.seq (.reg 5056 1 laws_FnExactMeetOf.r20) (.seq (.reg 5120 4 laws_FnExactMeetOf.r21) (.seq (.reg 5376 1 laws_FnExactMeetOf.r22) (.seq (.reg 5440 4 laws_FnExactMeetOf.r23) (.seq (.seq (.reg 5696 2 laws_FnExactMeetOf.r24) (.cond (.t 85) (.seq (.reg 5824 1 laws_FnExactMeetOf.r25) (.ret)) (.skip))) (.seq (.seq (.reg 5888 3 laws_FnExactMeetOf.r26) (.cond (.t 88) (.seq (.reg 6080 1 laws_FnExactMeetOf.r27) (.ret)) (.skip))) (.seq (.reg 6144 10 laws_FnExactMeetOf.r28) (.seq (.seq (.reg 6784 9 laws_FnExactMeetOf.r29) (.cond (.t 105) (.seq (.reg 7360 1 laws_FnExactMeetOf.r30) (.ret)) (.skip))) (.seq (.reg 7424 1 laws_FnExactMeetOf.r31) (.seq (.reg 7488 4 laws_FnExactMeetOf.r32) (.seq (.seq (.reg 7744 2 laws_FnExactMeetOf.r33) (.cond (.t 110) (.seq (.reg 7872 1 laws_FnExactMeetOf.r34) (.ret)) (.skip))) (.seq (.seq (.reg 7936 3 laws_FnExactMeetOf.r35) (.cond (.t 113) (.seq (.reg 8128 1 laws_FnExactMeetOf.r36) (.ret)) (.skip))) (.seq (.reg 8192 1 laws_FnExactMeetOf.r37) (.ret))))))))))))))))))))))))))) }
attribute [go_sem] laws_FnExactMeetOf.r0 laws_FnExactMeetOf.r1 laws_FnExactMeetOf.r2 laws_FnExactMeetOf.r3 laws_FnExactMeetOf.r4 laws_FnExactMeetOf.r5 laws_FnExactMeetOf.r6 laws_FnExactMeetOf.r7 laws_FnExactMeetOf.r8 laws_FnExactMeetOf.r9 laws_FnExactMeetOf.r10 laws_FnExactMeetOf.r11 laws_FnExactMeetOf.r12 laws_FnExactMeetOf.r13 laws_FnExactMeetOf.r14 laws_FnExactMeetOf.r15 laws_FnExactMeetOf.r16 laws_FnExactMeetOf.r17 laws_FnExactMeetOf.r18 laws_FnExactMeetOf.r19 laws_FnExactMeetOf.r20 laws_FnExactMeetOf.r21 laws_FnExactMeetOf.r22 laws_FnExactMeetOf.r23 laws_FnExactMeetOf.r24 laws_FnExactMeetOf.r25 laws_FnExactMeetOf.r26 laws_FnExactMeetOf.r27 laws_FnExactMeetOf.r28 laws_FnExactMeetOf.r29 laws_FnExactMeetOf.r30 laws_FnExactMeetOf.r31 laws_FnExactMeetOf.r32 laws_FnExactMeetOf.r33 laws_FnExactMeetOf.r34 laws_FnExactMeetOf.r35 laws_FnExactMeetOf.r36 laws_FnExactMeetOf.r37
theorem laws_FnExactMeetOf.ok : chkF prog F_laws_FnExactMeetOf 2 laws_FnExactMeetOf.fi = true := by kernel_rfl
end Go.Vm.Ytedcnkglldmkbaa
