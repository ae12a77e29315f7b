/- The functions that the law reaches, in the text of the interpreter, and that this text fits them (no condition). -/
import Derived.Test.YtedcnkglldmkbaaVmc
import Derived.Test.YtedcnkglldmkbaaProg
import Derived.KernelRfl
/- PRINTED BY irgen.py, a program of this claim's author: the functions that the claim reaches, in the text of the interpreter, and that they fit. -/
namespace Go.Vm.Ytedcnkglldmkbaa
open Go Go.Vm
set_option linter.unusedVariables false
set_option maxRecDepth 100000
noncomputable abbrev prog : Program := Go.Proofs.Try.prog
abbrev F_laws_FnExactReduceBoth : FuncId := 3
abbrev F_laws_FnExactGoodRules : FuncId := 4
abbrev F_laws_FnExactMeetOf : FuncId := 5
abbrev F_laws_FnExactIsTwo : FuncId := 6
abbrev F_laws_FnExactTwoOf : FuncId := 7
abbrev F_laws_FnExactHoldsIn : FuncId := 8
abbrev F_laws_FnExactIsHorn : FuncId := 9
abbrev F_laws_FnExactReachWithin : FuncId := 10
abbrev F_laws_FnExactBackArcs : FuncId := 11
abbrev F_laws_FnExactWhyOf : FuncId := 12
abbrev F_laws_FnExactLeastOf : FuncId := 13
abbrev F_laws_FnExactRulesAsClauses : FuncId := 14
abbrev F_spec_ReduceBoth : FuncId := 15
abbrev F_laws_toStretch : FuncId := 16
abbrev F_laws_toKnown : FuncId := 17
abbrev F_impl_ReduceBoth : FuncId := 18
abbrev F_laws_eqStretch : FuncId := 19
abbrev F_laws_eqKnown : FuncId := 20
abbrev F_laws_szRuleS : FuncId := 21
abbrev F_spec_GoodRules : FuncId := 22
abbrev F_laws_toRuleS : FuncId := 23
abbrev F_impl_GoodRules : FuncId := 24
abbrev F_laws_eqRuleS : FuncId := 25
abbrev F_spec_MeetOf : FuncId := 26
abbrev F_laws_toIntS : FuncId := 27
abbrev F_impl_MeetOf : FuncId := 28
abbrev F_laws_eqIntS : FuncId := 29
abbrev F_laws_markIntS : FuncId := 30
abbrev F_laws_heldIntS : FuncId := 31
abbrev F_laws_szIntSS : FuncId := 32
abbrev F_spec_IsTwo : FuncId := 33
abbrev F_laws_toIntSS : FuncId := 34
abbrev F_impl_IsTwo : FuncId := 35
abbrev F_laws_eqIntSS : FuncId := 36
abbrev F_spec_TwoOf : FuncId := 37
abbrev F_impl_TwoOf : FuncId := 38
abbrev F_laws_markIntSS : FuncId := 39
abbrev F_laws_heldIntSS : FuncId := 40
abbrev F_spec_HoldsIn : FuncId := 41
abbrev F_impl_HoldsIn : FuncId := 42
abbrev F_spec_IsHorn : FuncId := 43
abbrev F_impl_IsHorn : FuncId := 44
abbrev F_laws_szArcS : FuncId := 45
abbrev F_spec_ReachWithin : FuncId := 46
abbrev F_laws_toArcS : FuncId := 47
abbrev F_impl_ReachWithin : FuncId := 48
abbrev F_laws_eqArcS : FuncId := 49
abbrev F_laws_markArcS : FuncId := 50
abbrev F_spec_BackArcs : FuncId := 51
abbrev F_impl_BackArcs : FuncId := 52
abbrev F_spec_WhyOf : FuncId := 53
abbrev F_impl_WhyOf : FuncId := 54
abbrev F_laws_markRuleS : FuncId := 55
abbrev F_spec_LeastOf : FuncId := 56
abbrev F_impl_LeastOf : FuncId := 57
abbrev F_spec_RulesAsClauses : FuncId := 58
abbrev F_impl_RulesAsClauses : FuncId := 59
abbrev F_spec_GoodStretch : FuncId := 60
abbrev F_spec_GoodKnown : FuncId := 61
abbrev F_spec_l13Reduce : FuncId := 62
abbrev F_impl_GoodStretch : FuncId := 63
abbrev F_impl_GoodKnown : FuncId := 64
abbrev F_impl_reduceBoth : FuncId := 65
abbrev F_laws_szRule : FuncId := 66
abbrev F_spec_l16Facts : FuncId := 67
abbrev F_spec_l1In : FuncId := 68
abbrev F_laws_toRule : FuncId := 69
abbrev F_impl_in : FuncId := 70
abbrev F_slices_ContainsFunc__sRule_Rule : FuncId := 71
abbrev F_impl_GoodRules_c1 : FuncId := 72
abbrev F_impl_areFacts : FuncId := 73
abbrev F_laws_eqRule : FuncId := 74
abbrev F_spec_l1Has : FuncId := 75
abbrev F_slices_DeleteFunc__sint_int : FuncId := 76
abbrev F_slices_Clone__sint_int : FuncId := 77
abbrev F_impl_MeetOf_c1 : FuncId := 78
abbrev F_slices_Contains__sint_int : FuncId := 79
abbrev F_laws_szIntS : FuncId := 80
abbrev F_spec_GoodClauses : FuncId := 81
abbrev F_impl_GoodClauses : FuncId := 82
abbrev F_slices_ContainsFunc__ssint_sint : FuncId := 83
abbrev F_impl_IsTwo_c1 : FuncId := 84
abbrev F_spec_l4Clause : FuncId := 85
abbrev F_impl_isClause : FuncId := 86
abbrev F_spec_l16All : FuncId := 87
abbrev F_impl_HoldsIn_c1 : FuncId := 88
abbrev F_impl_Rule_met : FuncId := 89
abbrev F_impl_IsHorn_c1 : FuncId := 90
abbrev F_spec_GoodArcs : FuncId := 91
abbrev F_spec_l12Reach : FuncId := 92
abbrev F_laws_toArc : FuncId := 93
abbrev F_impl_GoodArcs : FuncId := 94
abbrev F_impl_within : FuncId := 95
abbrev F_impl_list : FuncId := 96
abbrev F_impl_ReachWithin_c1 : FuncId := 97
abbrev F_laws_eqArc : FuncId := 98
abbrev F_impl_BackArcs_c1 : FuncId := 99
abbrev F_spec_l16Least : FuncId := 100
abbrev F_impl_least : FuncId := 101
abbrev F_slices_IndexFunc__sint_int : FuncId := 102
abbrev F_impl_WhyOf_c1 : FuncId := 103
abbrev F_impl_LeastOf_c1 : FuncId := 104
abbrev F_impl_LeastOf_c2 : FuncId := 105
abbrev F_spec_l5Negate : FuncId := 106
abbrev F_impl_learn : FuncId := 107
abbrev F_spec_l1Word : FuncId := 108
abbrev F_spec_l1Most : FuncId := 109
abbrev F_spec_l1Least : FuncId := 110
abbrev F_spec_l10May : FuncId := 111
abbrev F_impl_isWord : FuncId := 112
abbrev F_impl_Known_matches : FuncId := 113
abbrev F_impl_exact : FuncId := 114
abbrev F_spec_l1Rising : FuncId := 115
abbrev F_slices_IndexFunc__sRule_Rule : FuncId := 116
abbrev F_slices_Index__sint_int : FuncId := 117
abbrev F_spec_l4Good : FuncId := 118
abbrev F_impl_areClauses : FuncId := 119
abbrev F_slices_IndexFunc__ssint_sint : FuncId := 120
abbrev F_impl_isLiteral : FuncId := 121
abbrev F_slices_ContainsFunc__sint_int : FuncId := 122
abbrev F_impl_isClause_c1 : FuncId := 123
abbrev F_impl_variable : FuncId := 124
abbrev F_impl_Rule_met_c1 : FuncId := 125
abbrev F_spec_l1Put : FuncId := 126
abbrev F_impl_isSpots : FuncId := 127
abbrev F_slices_Clone__sbool_bool : FuncId := 128
abbrev F_impl_least_c1 : FuncId := 129
abbrev F_impl_areClauses_c1 : FuncId := 130
abbrev F_runtime_boundsError_Error : FuncId := 131
abbrev F_runtime_boundsError_RuntimeError : FuncId := 132
abbrev F_runtime_errorString_Error : FuncId := 133
abbrev F_runtime_errorString_RuntimeError : FuncId := 134
abbrev F_runtime_plainError_Error : FuncId := 135
abbrev F_runtime_plainError_RuntimeError : FuncId := 136
abbrev F_runtime_errorAddressString_Error : FuncId := 137
abbrev F_runtime_errorAddressString_RuntimeError : FuncId := 138
abbrev F_runtime_pTypeAssertionError_Error : FuncId := 139
abbrev F_runtime_pTypeAssertionError_RuntimeError : FuncId := 140
abbrev F_runtime_pPanicNilError_Error : FuncId := 141
abbrev F_runtime_pPanicNilError_RuntimeError : FuncId := 142
abbrev F_abi_pType_Align : FuncId := 143
abbrev F_maps_unhashableTypeError_Error : FuncId := 144
abbrev F_maps_unhashableTypeError_RuntimeError : FuncId := 145
abbrev F_abi_Kind_String : FuncId := 146

/-! spec_l1In -/
def spec_l1In.r0 : List Ent := [
  E0 0 (some 6) none (.i (.mv (.k (.dat none (.bool false)))))]
def spec_l1In.r1 : List Ent := [
  E0 0 (some 7) none (.i (.mv (.t 0))),
  E0 1 (some 8) none (.i (.mv (.t 1))),
  E0 2 (some 9) none (.i (.bin .geq (.t 7) (.t 8))),
  E0 3 (some 10) none (.i (.mv (.t 9))),
  E0 4 (some 11) (some (10, true)) (.i (.mv (.t 0))),
  E0 5 (some 12) (some (10, true)) (.i (.mv (.t 2))),
  E0 6 (some 13) (some (10, true)) (.i (.bin .leq (.t 11) (.t 12))),
  E0 7 (some 14) none (.i (.pick (.t 10) (.t 13) (.k (.dat none (.bool false))))),
  E0 8 (some 6) none (.i (.mv (.t 14)))]
def spec_l1In.fi : FI := { res := [.t 6], code := .seq (.reg 64 1 spec_l1In.r0) (.seq (.reg 128 9 spec_l1In.r1) (.ret)) }
attribute [go_sem] spec_l1In.r0 spec_l1In.r1
theorem spec_l1In.ok : chkF prog F_spec_l1In 3 spec_l1In.fi = true := by kernel_rfl

/-! impl_in -/
def impl_in.r0 : List Ent := [
  E0 0 (some 6) none (.i (.mv (.k (.dat none (.bool false)))))]
def impl_in.r1 : List Ent := [
  E0 0 (some 7) none (.i (.mv (.t 0))),
  E0 1 (some 8) none (.i (.mv (.t 1))),
  E0 2 (some 9) none (.i (.bin .geq (.t 7) (.t 8))),
  E0 3 (some 10) none (.i (.mv (.t 9))),
  E0 4 (some 11) (some (10, true)) (.i (.mv (.t 0))),
  E0 5 (some 12) (some (10, true)) (.i (.mv (.t 2))),
  E0 6 (some 13) (some (10, true)) (.i (.bin .leq (.t 11) (.t 12))),
  E0 7 (some 14) none (.i (.pick (.t 10) (.t 13) (.k (.dat none (.bool false))))),
  E0 8 (some 6) none (.i (.mv (.t 14)))]
def impl_in.fi : FI := { res := [.t 6], code := .seq (.reg 64 1 impl_in.r0) (.seq (.reg 128 9 impl_in.r1) (.ret)) }
attribute [go_sem] impl_in.r0 impl_in.r1
theorem impl_in.ok : chkF prog F_impl_in 3 impl_in.fi = true := by kernel_rfl

/-! laws_szIntS -/
def laws_szIntS.r0 : List Ent := [
  E0 0 (some 4) none (.i (.mv (.k (I64 0))))]
def laws_szIntS.r1 : List Ent := [
  E0 0 (some 5) none (.i (.mv (.t 1))),
  E0 1 (some 6) none (.i (.mv (.t 0))),
  E0 2 (some 7) none (.i (.len (.t 6))),
  E0 3 (some 8) none (.i (.bin .sub (.t 5) (.t 7))),
  E0 4 (some 1) none (.i (.mv (.t 8)))]
def laws_szIntS.r2 : List Ent := [
  E0 0 (some 9) none (.i (.mv (.t 1))),
  E0 1 (some 10) none (.i (.bin .lss (.t 9) (.k (I64 0))))]
def laws_szIntS.r3 : List Ent := [
  E0 0 (some 4) none (.i (.mv (.k (I64 (-1)))))]
def laws_szIntS.r4 : List Ent := [
  E0 0 (some 11) none (.i (.mv (.t 1))),
  E0 1 (some 4) none (.i (.mv (.t 11)))]
def laws_szIntS.fi : FI := { res := [.t 4], code := .seq (.reg 64 1 laws_szIntS.r0) (.seq (.reg 128 5 laws_szIntS.r1) (.seq (.seq (.reg 448 2 laws_szIntS.r2) (.cond (.t 10) (.seq (.reg 576 1 laws_szIntS.r3) (.ret)) (.skip))) (.seq (.reg 640 2 laws_szIntS.r4) (.ret)))) }
attribute [go_sem] laws_szIntS.r0 laws_szIntS.r1 laws_szIntS.r2 laws_szIntS.r3 laws_szIntS.r4
theorem laws_szIntS.ok : chkF prog F_laws_szIntS 2 laws_szIntS.fi = true := by kernel_rfl

/-! laws_szRule -/
def laws_szRule.r0 : List Ent := [
  E0 0 (some 2) none (.i (.box (.t 0))),
  E0 1 (some 4) none (.i (.mv (.k (I64 0))))]
def laws_szRule.r1 : List Ent := [
  E0 0 (some 5) none (.i (.fad 0 (.t 2))),
  E0 1 (some 6) none (.i (.load false false 1 (.t 5))),
  E0 2 (some 7) none (.i (.mv (.t 1))),
  E0 3 (some 8) none (.call F_laws_szIntS false (roA [.t 6, .t 7])),
  E0 4 (some 1) none (.i (.mv (.t 8)))]
def laws_szRule.r2 : List Ent := [
  E0 0 (some 9) none (.i (.mv (.t 1))),
  E0 1 (some 10) none (.i (.bin .lss (.t 9) (.k (I64 0))))]
def laws_szRule.r3 : List Ent := [
  E0 0 (some 4) none (.i (.mv (.k (I64 (-1)))))]
def laws_szRule.r4 : List Ent := [
  E0 0 (some 11) none (.i (.mv (.t 1))),
  E0 1 (some 4) none (.i (.mv (.t 11)))]
def laws_szRule.fi : FI := { res := [.t 4], code := .seq (.reg 64 2 laws_szRule.r0) (.seq (.reg 192 5 laws_szRule.r1) (.seq (.seq (.reg 512 2 laws_szRule.r2) (.cond (.t 10) (.seq (.reg 640 1 laws_szRule.r3) (.ret)) (.skip))) (.seq (.reg 704 2 laws_szRule.r4) (.ret)))) }
attribute [go_sem] laws_szRule.r0 laws_szRule.r1 laws_szRule.r2 laws_szRule.r3 laws_szRule.r4
theorem laws_szRule.ok : chkF prog F_laws_szRule 2 laws_szRule.fi = true := by kernel_rfl

/-! laws_szRuleS -/
def laws_szRuleS.r0 : List Ent := [
  E0 0 (some 4) none (.i (.mv (.k (I64 0))))]
def laws_szRuleS.r1 : List Ent := [
  E0 0 (some 6) none (.i (.mv (.t 1))),
  E0 1 (some 7) none (.i (.mv (.t 0))),
  E0 2 (some 8) none (.i (.len (.t 7))),
  E0 3 (some 9) none (.i (.bin .sub (.t 6) (.t 8))),
  E0 4 (some 1) none (.i (.mv (.t 9)))]
def laws_szRuleS.r2 : List Ent := [
  E0 0 (some 10) none (.i (.mv (.t 1))),
  E0 1 (some 11) none (.i (.bin .lss (.t 10) (.k (I64 0))))]
def laws_szRuleS.r3 : List Ent := [
  E0 0 (some 4) none (.i (.mv (.k (I64 (-1)))))]
def laws_szRuleS.r4 : List Ent := [
  E0 0 (some 5) none (.i (.mv (.k (I64 0))))]
def laws_szRuleS.r5 : List Ent := [
  E0 0 (some 12) none (.i (.mv (.t 5))),
  E0 1 (some 13) none (.i (.mv (.t 0))),
  E0 2 (some 14) none (.i (.len (.t 13))),
  E0 3 (some 15) none (.i (.bin .lss (.t 12) (.t 14)))]
def laws_szRuleS.r6 : List Ent := [
  E0 0 (some 18) none (.i (.mv (.t 0))),
  E0 1 (some 19) none (.i (.mv (.t 5))),
  E0 2 (some 20) none (.i (.iad 2 (.t 18) (.t 19))),
  E0 3 (some 21) none (.i (.load false true 2 (.t 20))),
  E0 4 (some 22) none (.i (.mv (.t 1))),
  E0 5 (some 23) none (.call F_laws_szRule false (roA [.t 21, .t 22])),
  E0 6 (some 1) none (.i (.mv (.t 23)))]
def laws_szRuleS.r7 : List Ent := [
  E0 0 (some 24) none (.i (.mv (.t 1))),
  E0 1 (some 25) none (.i (.bin .lss (.t 24) (.k (I64 0))))]
def laws_szRuleS.r8 : List Ent := [
  E0 0 (some 4) none (.i (.mv (.k (I64 (-1)))))]
def laws_szRuleS.r9 : List Ent := [
  E0 0 (some 16) none (.i (.mv (.t 5))),
  E0 1 (some 17) none (.i (.bin .add (.t 16) (.k (I64 1)))),
  E0 2 (some 5) none (.i (.mv (.t 17)))]
def laws_szRuleS.b0 : KC := .seq (.seq (.reg 704 4 laws_szRuleS.r5) (.cond (.t 15) (.skip) (.exit 0))) (.seq (.block 1 (.seq (.reg 960 7 laws_szRuleS.r6) (.seq (.reg 1408 2 laws_szRuleS.r7) (.cond (.t 25) (.seq (.reg 1536 1 laws_szRuleS.r8) (.ret)) (.skip))))) (.reg 1600 3 laws_szRuleS.r9))
def laws_szRuleS.r10 : List Ent := [
  E0 0 (some 26) none (.i (.mv (.t 1))),
  E0 1 (some 4) none (.i (.mv (.t 26)))]
def laws_szRuleS.fi : FI := { res := [.t 4], code := .seq (.reg 64 1 laws_szRuleS.r0) (.seq (.reg 128 5 laws_szRuleS.r1) (.seq (.seq (.reg 448 2 laws_szRuleS.r2) (.cond (.t 11) (.seq (.reg 576 1 laws_szRuleS.r3) (.ret)) (.skip))) (.seq (.seq (.reg 640 1 laws_szRuleS.r4) (.block 0 (.loop laws_szRuleS.b0))) (.seq (.reg 1792 2 laws_szRuleS.r10) (.ret))))) }
attribute [go_sem] laws_szRuleS.r0 laws_szRuleS.r1 laws_szRuleS.r2 laws_szRuleS.r3 laws_szRuleS.r4 laws_szRuleS.r5 laws_szRuleS.r6 laws_szRuleS.r7 laws_szRuleS.r8 laws_szRuleS.r9 laws_szRuleS.r10
theorem laws_szRuleS.ok : chkF prog F_laws_szRuleS 2 laws_szRuleS.fi = true := by kernel_rfl

/-! spec_l1Rising -/
def spec_l1Rising.r0 : List Ent := [
  E0 0 (some 6) none (.i (.mv (.k (.dat none (.bool false)))))]
def spec_l1Rising.r1 : List Ent := [
  E0 0 (some 9) none (.i (.mv (.t 0))),
  E0 1 (some 10) none (.i (.len (.t 9))),
  E0 2 (some 11) none (.i (.mv (.k (I64 0))))]
def spec_l1Rising.r2 : List Ent := [
  E0 0 (some 12) none (.i (.bin .lss (.t 11) (.t 10)))]
def spec_l1Rising.r3 : List Ent := [
  E0 0 (some 13) none (.i (.mv (.t 11))),
  E0 1 (some 14) none (.i (.iad 1 (.t 9) (.t 11))),
  E0 2 (some 15) none (.i (.load false false 1 (.t 14))),
  E0 3 (some 7) none (.i (.mv (.t 13))),
  E0 4 (some 8) none (.i (.mv (.t 15)))]
def spec_l1Rising.r4 : List Ent := [
  E0 0 (some 16) none (.i (.mv (.t 8))),
  E0 1 (some 17) none (.i (.mv (.t 1))),
  E0 2 (some 18) none (.i (.mv (.t 2))),
  E0 3 (some 19) none (.call F_spec_l1In false (roA [.t 16, .t 17, .t 18])),
  E0 4 (some 20) none (.i (.un .not (.t 19))),
  E0 5 (some 21) none (.i (.mv (.t 20))),
  E0 6 (some 22) (some (21, false)) (.i (.mv (.t 7))),
  E0 7 (some 23) (some (21, false)) (.i (.bin .gtr (.t 22) (.k (I64 0)))),
  E0 8 (some 24) (some (21, false)) (.i (.mv (.t 23))),
  E0 9 (some 25) (some (24, true)) (.i (.mv (.t 0))),
  E0 10 (some 26) (some (24, true)) (.i (.mv (.t 7))),
  E0 11 (some 27) (some (24, true)) (.i (.bin .sub (.t 26) (.k (I64 1)))),
  E0 12 (some 28) (some (24, true)) (.i (.iad 1 (.t 25) (.t 27))),
  E0 13 (some 29) (some (24, true)) (.i (.load false false 1 (.t 28))),
  E0 14 (some 30) (some (24, true)) (.i (.mv (.t 8))),
  E0 15 (some 31) (some (24, true)) (.i (.bin .geq (.t 29) (.t 30))),
  E0 16 (some 32) (some (21, false)) (.i (.pick (.t 24) (.t 31) (.k (.dat none (.bool false))))),
  E0 17 (some 33) none (.i (.pick (.t 21) (.k (.dat none (.bool true))) (.t 32)))]
def spec_l1Rising.r5 : List Ent := [
  E0 0 (some 6) none (.i (.mv (.k (.dat none (.bool false)))))]
def spec_l1Rising.r6 : List Ent := [
  E0 0 (some 34) none (.i (.bin .add (.t 11) (.k (I64 1)))),
  E0 1 (some 11) none (.i (.mv (.t 34)))]
def spec_l1Rising.b0 : KC := .seq (.reg 320 1 spec_l1Rising.r2) (.seq (.cond (.t 12) (.skip) (.exit 0)) (.seq (.block 1 (.seq (.reg 384 5 spec_l1Rising.r3) (.seq (.reg 704 18 spec_l1Rising.r4) (.cond (.t 33) (.seq (.reg 1856 1 spec_l1Rising.r5) (.ret)) (.skip))))) (.reg 1920 2 spec_l1Rising.r6)))
def spec_l1Rising.r7 : List Ent := [
  E0 0 (some 6) none (.i (.mv (.k (.dat none (.bool true)))))]
def spec_l1Rising.fi : FI := { res := [.t 6], code := .seq (.reg 64 1 spec_l1Rising.r0) (.seq (.seq (.reg 128 3 spec_l1Rising.r1) (.block 0 (.loop spec_l1Rising.b0))) (.seq (.reg 2048 1 spec_l1Rising.r7) (.ret))) }
attribute [go_sem] spec_l1Rising.r0 spec_l1Rising.r1 spec_l1Rising.r2 spec_l1Rising.r3 spec_l1Rising.r4 spec_l1Rising.r5 spec_l1Rising.r6 spec_l1Rising.r7
theorem spec_l1Rising.ok : chkF prog F_spec_l1Rising 3 spec_l1Rising.fi = true := by kernel_rfl

/-! spec_l16Facts -/
def spec_l16Facts.r0 : List Ent := [
  E0 0 (some 4) none (.i (.mv (.k (.dat none (.bool false)))))]
def spec_l16Facts.r1 : List Ent := [
  E0 0 (some 5) none (.i (.mv (.t 1))),
  E0 1 (some 6) none (.i (.mv (.t 0))),
  E0 2 (some 7) none (.call F_spec_l1Rising false (roA [.t 5, .k (I64 1), .t 6])),
  E0 3 (some 4) none (.i (.mv (.t 7)))]
def spec_l16Facts.fi : FI := { res := [.t 4], code := .seq (.reg 64 1 spec_l16Facts.r0) (.seq (.reg 128 4 spec_l16Facts.r1) (.ret)) }
attribute [go_sem] spec_l16Facts.r0 spec_l16Facts.r1
theorem spec_l16Facts.ok : chkF prog F_spec_l16Facts 2 spec_l16Facts.fi = true := by kernel_rfl

/-! spec_GoodRules -/
def spec_GoodRules.r0 : List Ent := [
  E0 0 (some 4) none (.i (.mv (.k (.dat none (.bool false)))))]
def spec_GoodRules.r1 : List Ent := [
  E0 0 (some 7) none (.i (.mv (.t 1))),
  E0 1 (some 8) none (.i (.len (.t 7))),
  E0 2 (some 9) none (.i (.mv (.k (I64 0))))]
def spec_GoodRules.r2 : List Ent := [
  E0 0 (some 10) none (.i (.bin .lss (.t 9) (.t 8)))]
def spec_GoodRules.r3 : List Ent := [
  E0 0 (some 11) none (.i (.iad 2 (.t 7) (.t 9))),
  E0 1 (some 12) none (.i (.load false true 2 (.t 11))),
  E0 2 (some 6) none (.i (.box (.k (.agg [.nil 1, .dat none (.int .i64 0)])))),
  E0 3 none none (.i (.store 2 (.t 6) (.t 12)))]
def spec_GoodRules.r4 : List Ent := [
  E0 0 (some 13) none (.i (.mv (.t 0))),
  E0 1 (some 14) none (.i (.fad 0 (.t 6))),
  E0 2 (some 15) none (.i (.load false false 1 (.t 14))),
  E0 3 (some 16) none (.call F_spec_l16Facts false (roA [.t 13, .t 15])),
  E0 4 (some 17) none (.i (.un .not (.t 16))),
  E0 5 (some 18) none (.i (.mv (.t 17))),
  E0 6 (some 19) (some (18, false)) (.i (.fad 1 (.t 6))),
  E0 7 (some 20) (some (18, false)) (.i (.load false false 1 (.t 19))),
  E0 8 (some 21) (some (18, false)) (.i (.mv (.t 0))),
  E0 9 (some 22) (some (18, false)) (.call F_spec_l1In false (roA [.t 20, .k (I64 0), .t 21])),
  E0 10 (some 23) (some (18, false)) (.i (.un .not (.t 22))),
  E0 11 (some 24) none (.i (.pick (.t 18) (.k (.dat none (.bool true))) (.t 23)))]
def spec_GoodRules.r5 : List Ent := [
  E0 0 (some 4) none (.i (.mv (.k (.dat none (.bool false)))))]
def spec_GoodRules.r6 : List Ent := [
  E0 0 (some 25) none (.i (.bin .add (.t 9) (.k (I64 1)))),
  E0 1 (some 9) none (.i (.mv (.t 25)))]
def spec_GoodRules.b0 : KC := .seq (.reg 320 1 spec_GoodRules.r2) (.seq (.cond (.t 10) (.skip) (.exit 0)) (.seq (.block 1 (.seq (.reg 384 4 spec_GoodRules.r3) (.seq (.reg 640 12 spec_GoodRules.r4) (.cond (.t 24) (.seq (.reg 1408 1 spec_GoodRules.r5) (.ret)) (.skip))))) (.reg 1472 2 spec_GoodRules.r6)))
def spec_GoodRules.r7 : List Ent := [
  E0 0 (some 26) none (.i (.mv (.t 0))),
  E0 1 (some 27) none (.call F_spec_l1In false (roA [.t 26, .k (I64 1), .k (I64 12)])),
  E0 2 (some 28) none (.i (.mv (.t 27))),
  E0 3 (some 29) (some (28, true)) (.i (.mv (.t 1))),
  E0 4 (some 30) (some (28, true)) (.i (.len (.t 29))),
  E0 5 (some 31) (some (28, true)) (.i (.bin .leq (.t 30) (.k (I64 30)))),
  E0 6 (some 32) none (.i (.pick (.t 28) (.t 31) (.k (.dat none (.bool false))))),
  E0 7 (some 4) none (.i (.mv (.t 32)))]
def spec_GoodRules.fi : FI := { res := [.t 4], code := .seq (.reg 64 1 spec_GoodRules.r0) (.seq (.seq (.reg 128 3 spec_GoodRules.r1) (.block 0 (.loop spec_GoodRules.b0))) (.seq (.reg 1600 8 spec_GoodRules.r7) (.ret))) }
attribute [go_sem] spec_GoodRules.r0 spec_GoodRules.r1 spec_GoodRules.r2 spec_GoodRules.r3 spec_GoodRules.r4 spec_GoodRules.r5 spec_GoodRules.r6 spec_GoodRules.r7
theorem spec_GoodRules.ok : chkF prog F_spec_GoodRules 2 spec_GoodRules.fi = true := by kernel_rfl

/-! laws_toIntS -/
def laws_toIntS.r0 : List Ent := [
  E0 0 (some 2) none (.i (.mv (.k (.nil 1))))]
def laws_toIntS.r1 : List Ent := [
  E0 0 (some 5) none (.i (.mv (.t 0))),
  E0 1 (some 6) none (.i (.len (.t 5))),
  E0 2 (some 7) none (.i (.mks 1 8 (.int .i64 0) (.t 6) (.t 6))),
  E0 3 (some 3) none (.i (.mv (.t 7)))]
def laws_toIntS.r2 : List Ent := [
  E0 0 (some 4) none (.i (.mv (.k (I64 0))))]
def laws_toIntS.r3 : List Ent := [
  E0 0 (some 8) none (.i (.mv (.t 4))),
  E0 1 (some 9) none (.i (.mv (.t 0))),
  E0 2 (some 10) none (.i (.len (.t 9))),
  E0 3 (some 11) none (.i (.bin .lss (.t 8) (.t 10)))]
def laws_toIntS.r4 : List Ent := [
  E0 0 (some 14) none (.i (.mv (.t 3))),
  E0 1 (some 15) none (.i (.mv (.t 4))),
  E0 2 (some 16) none (.i (.mv (.t 0))),
  E0 3 (some 17) none (.i (.mv (.t 4))),
  E0 4 (some 18) none (.i (.iad 1 (.t 16) (.t 17))),
  E0 5 (some 19) none (.i (.load false false 1 (.t 18))),
  E0 6 (some 20) none (.i (.iad 1 (.t 14) (.t 15))),
  E0 7 none none (.i (.store 1 (.t 20) (.t 19)))]
def laws_toIntS.r5 : List Ent := [
  E0 0 (some 12) none (.i (.mv (.t 4))),
  E0 1 (some 13) none (.i (.bin .add (.t 12) (.k (I64 1)))),
  E0 2 (some 4) none (.i (.mv (.t 13)))]
def laws_toIntS.b0 : KC := .seq (.seq (.reg 448 4 laws_toIntS.r3) (.cond (.t 11) (.skip) (.exit 0))) (.seq (.block 1 (.reg 704 8 laws_toIntS.r4)) (.reg 1216 3 laws_toIntS.r5))
def laws_toIntS.r6 : List Ent := [
  E0 0 (some 21) none (.i (.mv (.t 3))),
  E0 1 (some 2) none (.i (.mv (.t 21)))]
def laws_toIntS.fi : FI := { res := [.t 2], code := .seq (.reg 64 1 laws_toIntS.r0) (.seq (.reg 128 4 laws_toIntS.r1) (.seq (.seq (.reg 384 1 laws_toIntS.r2) (.block 0 (.loop laws_toIntS.b0))) (.seq (.reg 1408 2 laws_toIntS.r6) (.ret)))) }
attribute [go_sem] laws_toIntS.r0 laws_toIntS.r1 laws_toIntS.r2 laws_toIntS.r3 laws_toIntS.r4 laws_toIntS.r5 laws_toIntS.r6
theorem laws_toIntS.ok : chkF prog F_laws_toIntS 1 laws_toIntS.fi = true := by kernel_rfl

/-! laws_toRule -/
def laws_toRule.r0 : List Ent := [
  E0 0 (some 1) none (.i (.box (.t 0))),
  E0 1 (some 2) none (.i (.box (.k (.agg [.nil 1, .dat none (.int .i64 0)]))))]
def laws_toRule.r1 : List Ent := [
  E0 0 (some 3) none (.i (.box (.k (.agg [.nil 1, .dat none (.int .i64 0)]))))]
def laws_toRule.r2 : List Ent := [
  E0 0 (some 4) none (.i (.fad 0 (.t 1))),
  E0 1 (some 5) none (.i (.load false false 1 (.t 4))),
  E0 2 (some 6) none (.call F_laws_toIntS false (roA [.t 5])),
  E0 3 (some 7) none (.i (.fad 0 (.t 3))),
  E0 4 none none (.i (.store 1 (.t 7) (.t 6)))]
def laws_toRule.r3 : List Ent := [
  E0 0 (some 8) none (.i (.fad 1 (.t 1))),
  E0 1 (some 9) none (.i (.load false false 1 (.t 8))),
  E0 2 (some 10) none (.i (.fad 1 (.t 3))),
  E0 3 none none (.i (.store 1 (.t 10) (.t 9)))]
def laws_toRule.r4 : List Ent := [
  E0 0 (some 11) none (.i (.load false true 2 (.t 3))),
  E0 1 none none (.i (.store 2 (.t 2) (.t 11)))]
def laws_toRule.fi : FI := { res := [.c 2 true 2], code := .seq (.reg 64 2 laws_toRule.r0) (.seq (.reg 192 1 laws_toRule.r1) (.seq (.reg 256 5 laws_toRule.r2) (.seq (.reg 576 4 laws_toRule.r3) (.seq (.reg 832 2 laws_toRule.r4) (.ret))))) }
attribute [go_sem] laws_toRule.r0 laws_toRule.r1 laws_toRule.r2 laws_toRule.r3 laws_toRule.r4
theorem laws_toRule.ok : chkF prog F_laws_toRule 1 laws_toRule.fi = true := by kernel_rfl

/-! laws_toRuleS -/
def laws_toRuleS.r0 : List Ent := [
  E0 0 (some 2) none (.i (.mv (.k (.nil 2))))]
def laws_toRuleS.r1 : List Ent := [
  E0 0 (some 5) none (.i (.mv (.t 0))),
  E0 1 (some 6) none (.i (.len (.t 5))),
  E0 2 (some 7) none (.i (.mks 2 32 (.agg [.sl 1 [], .int .i64 0]) (.t 6) (.t 6))),
  E0 3 (some 3) none (.i (.mv (.t 7)))]
def laws_toRuleS.r2 : List Ent := [
  E0 0 (some 4) none (.i (.mv (.k (I64 0))))]
def laws_toRuleS.r3 : List Ent := [
  E0 0 (some 8) none (.i (.mv (.t 4))),
  E0 1 (some 9) none (.i (.mv (.t 0))),
  E0 2 (some 10) none (.i (.len (.t 9))),
  E0 3 (some 11) none (.i (.bin .lss (.t 8) (.t 10)))]
def laws_toRuleS.r4 : List Ent := [
  E0 0 (some 14) none (.i (.mv (.t 3))),
  E0 1 (some 15) none (.i (.mv (.t 4))),
  E0 2 (some 16) none (.i (.mv (.t 0))),
  E0 3 (some 17) none (.i (.mv (.t 4))),
  E0 4 (some 18) none (.i (.iad 2 (.t 16) (.t 17))),
  E0 5 (some 19) none (.i (.load false true 2 (.t 18))),
  E0 6 (some 20) none (.call F_laws_toRule false (roA [.t 19])),
  E0 7 (some 21) none (.i (.iad 2 (.t 14) (.t 15))),
  E0 8 none none (.i (.store 2 (.t 21) (.t 20)))]
def laws_toRuleS.r5 : List Ent := [
  E0 0 (some 12) none (.i (.mv (.t 4))),
  E0 1 (some 13) none (.i (.bin .add (.t 12) (.k (I64 1)))),
  E0 2 (some 4) none (.i (.mv (.t 13)))]
def laws_toRuleS.b0 : KC := .seq (.seq (.reg 448 4 laws_toRuleS.r3) (.cond (.t 11) (.skip) (.exit 0))) (.seq (.block 1 (.reg 704 9 laws_toRuleS.r4)) (.reg 1280 3 laws_toRuleS.r5))
def laws_toRuleS.r6 : List Ent := [
  E0 0 (some 22) none (.i (.mv (.t 3))),
  E0 1 (some 2) none (.i (.mv (.t 22)))]
def laws_toRuleS.fi : FI := { res := [.t 2], code := .seq (.reg 64 1 laws_toRuleS.r0) (.seq (.reg 128 4 laws_toRuleS.r1) (.seq (.seq (.reg 384 1 laws_toRuleS.r2) (.block 0 (.loop laws_toRuleS.b0))) (.seq (.reg 1472 2 laws_toRuleS.r6) (.ret)))) }
attribute [go_sem] laws_toRuleS.r0 laws_toRuleS.r1 laws_toRuleS.r2 laws_toRuleS.r3 laws_toRuleS.r4 laws_toRuleS.r5 laws_toRuleS.r6
theorem laws_toRuleS.ok : chkF prog F_laws_toRuleS 1 laws_toRuleS.fi = true := by kernel_rfl

/-! slices_IndexFunc__sRule_Rule -/
def slices_IndexFunc__sRule_Rule.r0 : List Ent := [
  E0 0 (some 4) none (.i (.mv (.k (I64 0))))]
def slices_IndexFunc__sRule_Rule.r1 : List Ent := [
  E0 0 (some 6) none (.i (.mv (.t 0))),
  E0 1 (some 7) none (.i (.len (.t 6))),
  E0 2 (some 8) none (.i (.mv (.k (I64 0))))]
def slices_IndexFunc__sRule_Rule.r2 : List Ent := [
  E0 0 (some 9) none (.i (.bin .lss (.t 8) (.t 7)))]
def slices_IndexFunc__sRule_Rule.r3 : List Ent := [
  E0 0 (some 10) none (.i (.mv (.t 8))),
  E0 1 (some 5) none (.i (.mv (.t 10)))]
def slices_IndexFunc__sRule_Rule.r4 : List Ent := [
  E0 0 (some 11) none (.i (.mv (.t 1))),
  E0 1 (some 12) none (.i (.mv (.t 0))),
  E0 2 (some 13) none (.i (.mv (.t 5))),
  E0 3 (some 14) none (.i (.iad 2 (.t 12) (.t 13))),
  E0 4 (some 15) none (.i (.load false true 2 (.t 14))),
  E0 5 (some 16) none (.ccl (.t 11) false [.t 15])]
def slices_IndexFunc__sRule_Rule.r5 : List Ent := [
  E0 0 (some 17) none (.i (.mv (.t 5))),
  E0 1 (some 4) none (.i (.mv (.t 17)))]
def slices_IndexFunc__sRule_Rule.r6 : List Ent := [
  E0 0 (some 18) none (.i (.bin .add (.t 8) (.k (I64 1)))),
  E0 1 (some 8) none (.i (.mv (.t 18)))]
def slices_IndexFunc__sRule_Rule.b0 : KC := .seq (.reg 320 1 slices_IndexFunc__sRule_Rule.r2) (.seq (.cond (.t 9) (.skip) (.exit 0)) (.seq (.block 1 (.seq (.reg 384 2 slices_IndexFunc__sRule_Rule.r3) (.seq (.reg 512 6 slices_IndexFunc__sRule_Rule.r4) (.cond (.t 16) (.seq (.reg 896 2 slices_IndexFunc__sRule_Rule.r5) (.ret)) (.skip))))) (.reg 1024 2 slices_IndexFunc__sRule_Rule.r6)))
def slices_IndexFunc__sRule_Rule.r7 : List Ent := [
  E0 0 (some 4) none (.i (.mv (.k (I64 (-1)))))]
def slices_IndexFunc__sRule_Rule.fi : FI := { res := [.t 4], code := .seq (.reg 64 1 slices_IndexFunc__sRule_Rule.r0) (.seq (.seq (.reg 128 3 slices_IndexFunc__sRule_Rule.r1) (.block 0 (.loop slices_IndexFunc__sRule_Rule.b0))) (.seq (.reg 1152 1 slices_IndexFunc__sRule_Rule.r7) (.ret))) }
attribute [go_sem] slices_IndexFunc__sRule_Rule.r0 slices_IndexFunc__sRule_Rule.r1 slices_IndexFunc__sRule_Rule.r2 slices_IndexFunc__sRule_Rule.r3 slices_IndexFunc__sRule_Rule.r4 slices_IndexFunc__sRule_Rule.r5 slices_IndexFunc__sRule_Rule.r6 slices_IndexFunc__sRule_Rule.r7
theorem slices_IndexFunc__sRule_Rule.ok : chkF prog F_slices_IndexFunc__sRule_Rule 2 slices_IndexFunc__sRule_Rule.fi = true := by kernel_rfl

/-! slices_ContainsFunc__sRule_Rule -/
def slices_ContainsFunc__sRule_Rule.r0 : List Ent := [
  E0 0 (some 4) none (.i (.mv (.k (.dat none (.bool false)))))]
def slices_ContainsFunc__sRule_Rule.r1 : List Ent := [
  E0 0 (some 5) none (.i (.mv (.t 0))),
  E0 1 (some 6) none (.i (.mv (.t 1))),
  E0 2 (some 7) none (.call F_slices_IndexFunc__sRule_Rule false (roA [.t 5, .t 6])),
  E0 3 (some 8) none (.i (.bin .geq (.t 7) (.k (I64 0)))),
  E0 4 (some 4) none (.i (.mv (.t 8)))]
def slices_ContainsFunc__sRule_Rule.fi : FI := { res := [.t 4], code := .seq (.reg 64 1 slices_ContainsFunc__sRule_Rule.r0) (.seq (.reg 128 5 slices_ContainsFunc__sRule_Rule.r1) (.ret)) }
attribute [go_sem] slices_ContainsFunc__sRule_Rule.r0 slices_ContainsFunc__sRule_Rule.r1
theorem slices_ContainsFunc__sRule_Rule.ok : chkF prog F_slices_ContainsFunc__sRule_Rule 2 slices_ContainsFunc__sRule_Rule.fi = true := by kernel_rfl

/-! impl_areFacts -/
def impl_areFacts.r0 : List Ent := [
  E0 0 (some 4) none (.i (.mv (.k (.dat none (.bool false)))))]
def impl_areFacts.r1 : List Ent := [
  E0 0 (some 7) none (.i (.mv (.t 0))),
  E0 1 (some 8) none (.i (.len (.t 7))),
  E0 2 (some 9) none (.i (.mv (.k (I64 0))))]
def impl_areFacts.r2 : List Ent := [
  E0 0 (some 10) none (.i (.bin .lss (.t 9) (.t 8)))]
def impl_areFacts.r3 : List Ent := [
  E0 0 (some 11) none (.i (.mv (.t 9))),
  E0 1 (some 12) none (.i (.iad 1 (.t 7) (.t 9))),
  E0 2 (some 13) none (.i (.load false false 1 (.t 12))),
  E0 3 (some 5) none (.i (.mv (.t 11))),
  E0 4 (some 6) none (.i (.mv (.t 13)))]
def impl_areFacts.r4 : List Ent := [
  E0 0 (some 14) none (.i (.mv (.t 6))),
  E0 1 (some 15) none (.i (.mv (.t 1))),
  E0 2 (some 16) none (.call F_impl_in false (roA [.t 14, .k (I64 1), .t 15])),
  E0 3 (some 17) none (.i (.un .not (.t 16))),
  E0 4 (some 18) none (.i (.mv (.t 17))),
  E0 5 (some 19) (some (18, false)) (.i (.mv (.t 5))),
  E0 6 (some 20) (some (18, false)) (.i (.bin .gtr (.t 19) (.k (I64 0)))),
  E0 7 (some 21) (some (18, false)) (.i (.mv (.t 20))),
  E0 8 (some 22) (some (21, true)) (.i (.mv (.t 0))),
  E0 9 (some 23) (some (21, true)) (.i (.mv (.t 5))),
  E0 10 (some 24) (some (21, true)) (.i (.bin .sub (.t 23) (.k (I64 1)))),
  E0 11 (some 25) (some (21, true)) (.i (.iad 1 (.t 22) (.t 24))),
  E0 12 (some 26) (some (21, true)) (.i (.load false false 1 (.t 25))),
  E0 13 (some 27) (some (21, true)) (.i (.mv (.t 6))),
  E0 14 (some 28) (some (21, true)) (.i (.bin .geq (.t 26) (.t 27))),
  E0 15 (some 29) (some (18, false)) (.i (.pick (.t 21) (.t 28) (.k (.dat none (.bool false))))),
  E0 16 (some 30) none (.i (.pick (.t 18) (.k (.dat none (.bool true))) (.t 29)))]
def impl_areFacts.r5 : List Ent := [
  E0 0 (some 4) none (.i (.mv (.k (.dat none (.bool false)))))]
def impl_areFacts.r6 : List Ent := [
  E0 0 (some 31) none (.i (.bin .add (.t 9) (.k (I64 1)))),
  E0 1 (some 9) none (.i (.mv (.t 31)))]
def impl_areFacts.b0 : KC := .seq (.reg 320 1 impl_areFacts.r2) (.seq (.cond (.t 10) (.skip) (.exit 0)) (.seq (.block 1 (.seq (.reg 384 5 impl_areFacts.r3) (.seq (.reg 704 17 impl_areFacts.r4) (.cond (.t 30) (.seq (.reg 1792 1 impl_areFacts.r5) (.ret)) (.skip))))) (.reg 1856 2 impl_areFacts.r6)))
def impl_areFacts.r7 : List Ent := [
  E0 0 (some 4) none (.i (.mv (.k (.dat none (.bool true)))))]
def impl_areFacts.fi : FI := { res := [.t 4], code := .seq (.reg 64 1 impl_areFacts.r0) (.seq (.seq (.reg 128 3 impl_areFacts.r1) (.block 0 (.loop impl_areFacts.b0))) (.seq (.reg 1984 1 impl_areFacts.r7) (.ret))) }
attribute [go_sem] impl_areFacts.r0 impl_areFacts.r1 impl_areFacts.r2 impl_areFacts.r3 impl_areFacts.r4 impl_areFacts.r5 impl_areFacts.r6 impl_areFacts.r7
theorem impl_areFacts.ok : chkF prog F_impl_areFacts 2 impl_areFacts.fi = true := by kernel_rfl

/-! impl_GoodRules_c1 -/
def impl_GoodRules_c1.r0 : List Ent := [
  E0 0 (some 2) none (.i (.box (.t 0))),
  E0 1 (some 3) none (.i (.mv (.k (.dat none (.bool false)))))]
def impl_GoodRules_c1.r1 : List Ent := [
  E0 0 (some 4) none (.i (.fad 0 (.t 2))),
  E0 1 (some 5) none (.i (.load false false 1 (.t 4))),
  E0 2 (some 6) none (.i (.load false false 1 (.t 1))),
  E0 3 (some 7) none (.call F_impl_areFacts false (roA [.t 5, .t 6])),
  E0 4 (some 8) none (.i (.un .not (.t 7))),
  E0 5 (some 9) none (.i (.mv (.t 8))),
  E0 6 (some 10) (some (9, false)) (.i (.fad 1 (.t 2))),
  E0 7 (some 11) (some (9, false)) (.i (.load false false 1 (.t 10))),
  E0 8 (some 12) (some (9, false)) (.i (.load false false 1 (.t 1))),
  E0 9 (some 13) (some (9, false)) (.call F_impl_in false (roA [.t 11, .k (I64 0), .t 12])),
  E0 10 (some 14) (some (9, false)) (.i (.un .not (.t 13))),
  E0 11 (some 15) none (.i (.pick (.t 9) (.k (.dat none (.bool true))) (.t 14))),
  E0 12 (some 3) none (.i (.mv (.t 15)))]
def impl_GoodRules_c1.fi : FI := { res := [.t 3], code := .seq (.reg 64 2 impl_GoodRules_c1.r0) (.seq (.reg 192 13 impl_GoodRules_c1.r1) (.ret)) }
attribute [go_sem] impl_GoodRules_c1.r0 impl_GoodRules_c1.r1
theorem impl_GoodRules_c1.ok : chkF prog F_impl_GoodRules_c1 2 impl_GoodRules_c1.fi = true := by kernel_rfl

/-! impl_GoodRules -/
def impl_GoodRules.r0 : List Ent := [
  E0 0 (some 2) none (.i (.box (.t 0))),
  E0 1 (some 4) none (.i (.mv (.k (.dat none (.bool false)))))]
def impl_GoodRules.r1 : List Ent := [
  E0 0 (some 5) none (.i (.load false false 1 (.t 2))),
  E0 1 (some 6) none (.call F_impl_in false (roA [.t 5, .k (I64 1), .k (I64 12)])),
  E0 2 (some 7) none (.i (.mv (.t 6))),
  E0 3 (some 8) (some (7, true)) (.i (.mv (.t 1))),
  E0 4 (some 9) (some (7, true)) (.i (.len (.t 8))),
  E0 5 (some 10) (some (7, true)) (.i (.bin .leq (.t 9) (.k (I64 30)))),
  E0 6 (some 11) none (.i (.pick (.t 7) (.t 10) (.k (.dat none (.bool false))))),
  E0 7 (some 12) none (.i (.mv (.t 11))),
  E0 8 (some 13) (some (12, true)) (.i (.mv (.t 1))),
  E0 9 (some 14) (some (12, true)) (.i (.mkf F_impl_GoodRules_c1 [.t 2])),
  E0 10 (some 15) (some (12, true)) (.call F_slices_ContainsFunc__sRule_Rule false (roA [.t 13, .t 14])),
  E0 11 (some 16) (some (12, true)) (.i (.un .not (.t 15))),
  E0 12 (some 17) none (.i (.pick (.t 12) (.t 16) (.k (.dat none (.bool false))))),
  E0 13 (some 4) none (.i (.mv (.t 17)))]
def impl_GoodRules.fi : FI := { res := [.t 4], code := .seq (.reg 64 2 impl_GoodRules.r0) (.seq (.reg 192 14 impl_GoodRules.r1) (.ret)) }
attribute [go_sem] impl_GoodRules.r0 impl_GoodRules.r1
theorem impl_GoodRules.ok : chkF prog F_impl_GoodRules 2 impl_GoodRules.fi = true := by kernel_rfl

/-! laws_eqIntS -/
def laws_eqIntS.r0 : List Ent := [
  E0 0 (some 4) none (.i (.mv (.k (.dat none (.bool false)))))]
def laws_eqIntS.r1 : List Ent := [
  E0 0 (some 6) none (.i (.mv (.t 0))),
  E0 1 (some 7) none (.i (.len (.t 6))),
  E0 2 (some 8) none (.i (.mv (.t 1))),
  E0 3 (some 9) none (.i (.len (.t 8))),
  E0 4 (some 10) none (.i (.bin .neq (.t 7) (.t 9)))]
def laws_eqIntS.r2 : List Ent := [
  E0 0 (some 4) none (.i (.mv (.k (.dat none (.bool false)))))]
def laws_eqIntS.r3 : List Ent := [
  E0 0 (some 5) none (.i (.mv (.k (I64 0))))]
def laws_eqIntS.r4 : List Ent := [
  E0 0 (some 11) none (.i (.mv (.t 5))),
  E0 1 (some 12) none (.i (.mv (.t 0))),
  E0 2 (some 13) none (.i (.len (.t 12))),
  E0 3 (some 14) none (.i (.bin .lss (.t 11) (.t 13)))]
def laws_eqIntS.r5 : List Ent := [
  E0 0 (some 17) none (.i (.mv (.t 0))),
  E0 1 (some 18) none (.i (.mv (.t 5))),
  ER 2 (some 19) none (.iad 1 (.t 17) (.t 18)),
  ER 3 (some 20) none (.load false false 1 (.t 19)),
  E0 4 (some 21) none (.i (.mv (.t 1))),
  E0 5 (some 22) none (.i (.mv (.t 5))),
  ER 6 (some 23) none (.iad 1 (.t 21) (.t 22)),
  ER 7 (some 24) none (.load false false 1 (.t 23)),
  E0 8 (some 25) none (.i (.bin .neq (.t 20) (.t 24)))]
def laws_eqIntS.r6 : List Ent := [
  E0 0 (some 4) none (.i (.mv (.k (.dat none (.bool false)))))]
def laws_eqIntS.r7 : List Ent := [
  E0 0 (some 15) none (.i (.mv (.t 5))),
  E0 1 (some 16) none (.i (.bin .add (.t 15) (.k (I64 1)))),
  E0 2 (some 5) none (.i (.mv (.t 16)))]
def laws_eqIntS.b0 : KC := .seq (.seq (.reg 576 4 laws_eqIntS.r4) (.cond (.t 14) (.skip) (.exit 0))) (.seq (.block 1 (.seq (.reg 832 9 laws_eqIntS.r5) (.cond (.t 25) (.seq (.reg 1408 1 laws_eqIntS.r6) (.ret)) (.skip)))) (.reg 1472 3 laws_eqIntS.r7))
def laws_eqIntS.r8 : List Ent := [
  E0 0 (some 4) none (.i (.mv (.k (.dat none (.bool true)))))]
def laws_eqIntS.fi : FI := { res := [.t 4], code := .seq (.reg 64 1 laws_eqIntS.r0) (.seq (.seq (.reg 128 5 laws_eqIntS.r1) (.cond (.t 10) (.seq (.reg 448 1 laws_eqIntS.r2) (.ret)) (.skip))) (.seq (.seq (.reg 512 1 laws_eqIntS.r3) (.block 0 (.loop laws_eqIntS.b0))) (.seq (.reg 1664 1 laws_eqIntS.r8) (.ret)))) }
attribute [go_sem] laws_eqIntS.r0 laws_eqIntS.r1 laws_eqIntS.r2 laws_eqIntS.r3 laws_eqIntS.r4 laws_eqIntS.r5 laws_eqIntS.r6 laws_eqIntS.r7 laws_eqIntS.r8
theorem laws_eqIntS.ok : chkF prog F_laws_eqIntS 2 laws_eqIntS.fi = true := by kernel_rfl

/-! laws_eqRule -/
def laws_eqRule.r0 : List Ent := [
  E0 0 (some 2) none (.i (.box (.t 0))),
  E0 1 (some 3) none (.i (.box (.t 1))),
  E0 2 (some 4) none (.i (.mv (.k (.dat none (.bool false)))))]
def laws_eqRule.r1 : List Ent := [
  E0 0 (some 5) none (.i (.fad 0 (.t 2))),
  E0 1 (some 6) none (.i (.load false false 1 (.t 5))),
  E0 2 (some 7) none (.i (.fad 0 (.t 3))),
  E0 3 (some 8) none (.i (.load false false 1 (.t 7))),
  E0 4 (some 9) none (.call F_laws_eqIntS false (roA [.t 6, .t 8])),
  E0 5 (some 10) none (.i (.un .not (.t 9)))]
def laws_eqRule.r2 : List Ent := [
  E0 0 (some 4) none (.i (.mv (.k (.dat none (.bool false)))))]
def laws_eqRule.r3 : List Ent := [
  E0 0 (some 11) none (.i (.fad 1 (.t 2))),
  E0 1 (some 12) none (.i (.load false false 1 (.t 11))),
  E0 2 (some 13) none (.i (.fad 1 (.t 3))),
  E0 3 (some 14) none (.i (.load false false 1 (.t 13))),
  E0 4 (some 15) none (.i (.bin .neq (.t 12) (.t 14)))]
def laws_eqRule.r4 : List Ent := [
  E0 0 (some 4) none (.i (.mv (.k (.dat none (.bool false)))))]
def laws_eqRule.r5 : List Ent := [
  E0 0 (some 4) none (.i (.mv (.k (.dat none (.bool true)))))]
def laws_eqRule.fi : FI := { res := [.t 4], code := .seq (.reg 64 3 laws_eqRule.r0) (.seq (.seq (.reg 256 6 laws_eqRule.r1) (.cond (.t 10) (.seq (.reg 640 1 laws_eqRule.r2) (.ret)) (.skip))) (.seq (.seq (.reg 704 5 laws_eqRule.r3) (.cond (.t 15) (.seq (.reg 1024 1 laws_eqRule.r4) (.ret)) (.skip))) (.seq (.reg 1088 1 laws_eqRule.r5) (.ret)))) }
attribute [go_sem] laws_eqRule.r0 laws_eqRule.r1 laws_eqRule.r2 laws_eqRule.r3 laws_eqRule.r4 laws_eqRule.r5
theorem laws_eqRule.ok : chkF prog F_laws_eqRule 2 laws_eqRule.fi = true := by kernel_rfl

/-! laws_eqRuleS -/
def laws_eqRuleS.r0 : List Ent := [
  E0 0 (some 4) none (.i (.mv (.k (.dat none (.bool false)))))]
def laws_eqRuleS.r1 : List Ent := [
  E0 0 (some 6) none (.i (.mv (.t 0))),
  E0 1 (some 7) none (.i (.len (.t 6))),
  E0 2 (some 8) none (.i (.mv (.t 1))),
  E0 3 (some 9) none (.i (.len (.t 8))),
  E0 4 (some 10) none (.i (.bin .neq (.t 7) (.t 9)))]
def laws_eqRuleS.r2 : List Ent := [
  E0 0 (some 4) none (.i (.mv (.k (.dat none (.bool false)))))]
def laws_eqRuleS.r3 : List Ent := [
  E0 0 (some 5) none (.i (.mv (.k (I64 0))))]
def laws_eqRuleS.r4 : List Ent := [
  E0 0 (some 11) none (.i (.mv (.t 5))),
  E0 1 (some 12) none (.i (.mv (.t 0))),
  E0 2 (some 13) none (.i (.len (.t 12))),
  E0 3 (some 14) none (.i (.bin .lss (.t 11) (.t 13)))]
def laws_eqRuleS.r5 : List Ent := [
  E0 0 (some 17) none (.i (.mv (.t 0))),
  E0 1 (some 18) none (.i (.mv (.t 5))),
  ER 2 (some 19) none (.iad 2 (.t 17) (.t 18)),
  ER 3 (some 20) none (.load false true 2 (.t 19)),
  E0 4 (some 21) none (.i (.mv (.t 1))),
  E0 5 (some 22) none (.i (.mv (.t 5))),
  ER 6 (some 23) none (.iad 2 (.t 21) (.t 22)),
  ER 7 (some 24) none (.load false true 2 (.t 23)),
  E0 8 (some 25) none (.call F_laws_eqRule false (roA [.t 20, .t 24])),
  E0 9 (some 26) none (.i (.un .not (.t 25)))]
def laws_eqRuleS.r6 : List Ent := [
  E0 0 (some 4) none (.i (.mv (.k (.dat none (.bool false)))))]
def laws_eqRuleS.r7 : List Ent := [
  E0 0 (some 15) none (.i (.mv (.t 5))),
  E0 1 (some 16) none (.i (.bin .add (.t 15) (.k (I64 1)))),
  E0 2 (some 5) none (.i (.mv (.t 16)))]
def laws_eqRuleS.b0 : KC := .seq (.seq (.reg 576 4 laws_eqRuleS.r4) (.cond (.t 14) (.skip) (.exit 0))) (.seq (.block 1 (.seq (.reg 832 10 laws_eqRuleS.r5) (.cond (.t 26) (.seq (.reg 1472 1 laws_eqRuleS.r6) (.ret)) (.skip)))) (.reg 1536 3 laws_eqRuleS.r7))
def laws_eqRuleS.r8 : List Ent := [
  E0 0 (some 4) none (.i (.mv (.k (.dat none (.bool true)))))]
def laws_eqRuleS.fi : FI := { res := [.t 4], code := .seq (.reg 64 1 laws_eqRuleS.r0) (.seq (.seq (.reg 128 5 laws_eqRuleS.r1) (.cond (.t 10) (.seq (.reg 448 1 laws_eqRuleS.r2) (.ret)) (.skip))) (.seq (.seq (.reg 512 1 laws_eqRuleS.r3) (.block 0 (.loop laws_eqRuleS.b0))) (.seq (.reg 1728 1 laws_eqRuleS.r8) (.ret)))) }
attribute [go_sem] laws_eqRuleS.r0 laws_eqRuleS.r1 laws_eqRuleS.r2 laws_eqRuleS.r3 laws_eqRuleS.r4 laws_eqRuleS.r5 laws_eqRuleS.r6 laws_eqRuleS.r7 laws_eqRuleS.r8
theorem laws_eqRuleS.ok : chkF prog F_laws_eqRuleS 2 laws_eqRuleS.fi = true := by kernel_rfl

/-! spec_l1Has -/
def spec_l1Has.r0 : List Ent := [
  E0 0 (some 4) none (.i (.mv (.k (.dat none (.bool false)))))]
def spec_l1Has.r1 : List Ent := [
  E0 0 (some 7) none (.i (.mv (.t 0))),
  E0 1 (some 8) none (.i (.len (.t 7))),
  E0 2 (some 9) none (.i (.mv (.k (I64 0))))]
def spec_l1Has.r2 : List Ent := [
  E0 0 (some 10) none (.i (.bin .lss (.t 9) (.t 8)))]
def spec_l1Has.r3 : List Ent := [
  E0 0 (some 11) none (.i (.iad 1 (.t 7) (.t 9))),
  E0 1 (some 12) none (.i (.load false false 1 (.t 11))),
  E0 2 (some 6) none (.i (.mv (.t 12)))]
def spec_l1Has.r4 : List Ent := [
  E0 0 (some 13) none (.i (.mv (.t 6))),
  E0 1 (some 14) none (.i (.mv (.t 1))),
  E0 2 (some 15) none (.i (.bin .eql (.t 13) (.t 14)))]
def spec_l1Has.r5 : List Ent := [
  E0 0 (some 4) none (.i (.mv (.k (.dat none (.bool true)))))]
def spec_l1Has.r6 : List Ent := [
  E0 0 (some 16) none (.i (.bin .add (.t 9) (.k (I64 1)))),
  E0 1 (some 9) none (.i (.mv (.t 16)))]
def spec_l1Has.b0 : KC := .seq (.reg 320 1 spec_l1Has.r2) (.seq (.cond (.t 10) (.skip) (.exit 0)) (.seq (.block 1 (.seq (.reg 384 3 spec_l1Has.r3) (.seq (.reg 576 3 spec_l1Has.r4) (.cond (.t 15) (.seq (.reg 768 1 spec_l1Has.r5) (.ret)) (.skip))))) (.reg 832 2 spec_l1Has.r6)))
def spec_l1Has.r7 : List Ent := [
  E0 0 (some 4) none (.i (.mv (.k (.dat none (.bool false)))))]
def spec_l1Has.fi : FI := { res := [.t 4], code := .seq (.reg 64 1 spec_l1Has.r0) (.seq (.seq (.reg 128 3 spec_l1Has.r1) (.block 0 (.loop spec_l1Has.b0))) (.seq (.reg 960 1 spec_l1Has.r7) (.ret))) }
attribute [go_sem] spec_l1Has.r0 spec_l1Has.r1 spec_l1Has.r2 spec_l1Has.r3 spec_l1Has.r4 spec_l1Has.r5 spec_l1Has.r6 spec_l1Has.r7
theorem spec_l1Has.ok : chkF prog F_spec_l1Has 2 spec_l1Has.fi = true := by kernel_rfl

/-! slices_Index__sint_int -/
def slices_Index__sint_int.r0 : List Ent := [
  E0 0 (some 4) none (.i (.mv (.k (I64 0))))]
def slices_Index__sint_int.r1 : List Ent := [
  E0 0 (some 6) none (.i (.mv (.t 0))),
  E0 1 (some 7) none (.i (.len (.t 6))),
  E0 2 (some 8) none (.i (.mv (.k (I64 0))))]
def slices_Index__sint_int.r2 : List Ent := [
  E0 0 (some 9) none (.i (.bin .lss (.t 8) (.t 7)))]
def slices_Index__sint_int.r3 : List Ent := [
  E0 0 (some 10) none (.i (.mv (.t 8))),
  E0 1 (some 5) none (.i (.mv (.t 10)))]
def slices_Index__sint_int.r4 : List Ent := [
  E0 0 (some 11) none (.i (.mv (.t 1))),
  E0 1 (some 12) none (.i (.mv (.t 0))),
  E0 2 (some 13) none (.i (.mv (.t 5))),
  E0 3 (some 14) none (.i (.iad 1 (.t 12) (.t 13))),
  E0 4 (some 15) none (.i (.load false false 1 (.t 14))),
  E0 5 (some 16) none (.i (.bin .eql (.t 11) (.t 15)))]
def slices_Index__sint_int.r5 : List Ent := [
  E0 0 (some 17) none (.i (.mv (.t 5))),
  E0 1 (some 4) none (.i (.mv (.t 17)))]
def slices_Index__sint_int.r6 : List Ent := [
  E0 0 (some 18) none (.i (.bin .add (.t 8) (.k (I64 1)))),
  E0 1 (some 8) none (.i (.mv (.t 18)))]
def slices_Index__sint_int.b0 : KC := .seq (.reg 320 1 slices_Index__sint_int.r2) (.seq (.cond (.t 9) (.skip) (.exit 0)) (.seq (.block 1 (.seq (.reg 384 2 slices_Index__sint_int.r3) (.seq (.reg 512 6 slices_Index__sint_int.r4) (.cond (.t 16) (.seq (.reg 896 2 slices_Index__sint_int.r5) (.ret)) (.skip))))) (.reg 1024 2 slices_Index__sint_int.r6)))
def slices_Index__sint_int.r7 : List Ent := [
  E0 0 (some 4) none (.i (.mv (.k (I64 (-1)))))]
def slices_Index__sint_int.fi : FI := { res := [.t 4], code := .seq (.reg 64 1 slices_Index__sint_int.r0) (.seq (.seq (.reg 128 3 slices_Index__sint_int.r1) (.block 0 (.loop slices_Index__sint_int.b0))) (.seq (.reg 1152 1 slices_Index__sint_int.r7) (.ret))) }
attribute [go_sem] slices_Index__sint_int.r0 slices_Index__sint_int.r1 slices_Index__sint_int.r2 slices_Index__sint_int.r3 slices_Index__sint_int.r4 slices_Index__sint_int.r5 slices_Index__sint_int.r6 slices_Index__sint_int.r7
theorem slices_Index__sint_int.ok : chkF prog F_slices_Index__sint_int 2 slices_Index__sint_int.fi = true := by kernel_rfl

/-! slices_Contains__sint_int -/
def slices_Contains__sint_int.r0 : List Ent := [
  E0 0 (some 4) none (.i (.mv (.k (.dat none (.bool false)))))]
def slices_Contains__sint_int.r1 : List Ent := [
  E0 0 (some 5) none (.i (.mv (.t 0))),
  E0 1 (some 6) none (.i (.mv (.t 1))),
  E0 2 (some 7) none (.call F_slices_Index__sint_int false (roA [.t 5, .t 6])),
  E0 3 (some 8) none (.i (.bin .geq (.t 7) (.k (I64 0)))),
  E0 4 (some 4) none (.i (.mv (.t 8)))]
def slices_Contains__sint_int.fi : FI := { res := [.t 4], code := .seq (.reg 64 1 slices_Contains__sint_int.r0) (.seq (.reg 128 5 slices_Contains__sint_int.r1) (.ret)) }
attribute [go_sem] slices_Contains__sint_int.r0 slices_Contains__sint_int.r1
theorem slices_Contains__sint_int.ok : chkF prog F_slices_Contains__sint_int 2 slices_Contains__sint_int.fi = true := by kernel_rfl

/-! laws_markIntS -/
def laws_markIntS.r0 : List Ent := [
  E0 0 (some 4) none (.i (.mv (.k (I64 0))))]
def laws_markIntS.r1 : List Ent := [
  E0 0 (some 5) none (.i (.mv (.k (I64 0))))]
def laws_markIntS.r2 : List Ent := [
  E0 0 (some 6) none (.i (.mv (.t 5))),
  E0 1 (some 7) none (.i (.mv (.t 0))),
  E0 2 (some 8) none (.i (.len (.t 7))),
  E0 3 (some 9) none (.i (.bin .lss (.t 6) (.t 8)))]
def laws_markIntS.r3 : List Ent := [
  E0 0 (some 12) none (.i (.mv (.t 0))),
  E0 1 (some 13) none (.i (.mv (.t 5))),
  E0 2 (some 14) none (.i (.mv (.t 1))),
  E0 3 (some 15) none (.i (.iad 1 (.t 12) (.t 13))),
  E0 4 none none (.i (.store 1 (.t 15) (.t 14)))]
def laws_markIntS.r4 : List Ent := [
  E0 0 (some 16) none (.i (.mv (.t 1))),
  E0 1 (some 17) none (.i (.bin .add (.t 16) (.k (I64 1)))),
  E0 2 (some 1) none (.i (.mv (.t 17)))]
def laws_markIntS.r5 : List Ent := [
  E0 0 (some 10) none (.i (.mv (.t 5))),
  E0 1 (some 11) none (.i (.bin .add (.t 10) (.k (I64 1)))),
  E0 2 (some 5) none (.i (.mv (.t 11)))]
def laws_markIntS.b0 : KC := .seq (.seq (.reg 192 4 laws_markIntS.r2) (.cond (.t 9) (.skip) (.exit 0))) (.seq (.block 1 (.seq (.reg 448 5 laws_markIntS.r3) (.reg 768 3 laws_markIntS.r4))) (.reg 960 3 laws_markIntS.r5))
def laws_markIntS.r6 : List Ent := [
  E0 0 (some 18) none (.i (.mv (.t 1))),
  E0 1 (some 4) none (.i (.mv (.t 18)))]
def laws_markIntS.fi : FI := { res := [.t 4], code := .seq (.reg 64 1 laws_markIntS.r0) (.seq (.seq (.reg 128 1 laws_markIntS.r1) (.block 0 (.loop laws_markIntS.b0))) (.seq (.reg 1152 2 laws_markIntS.r6) (.ret))) }
attribute [go_sem] laws_markIntS.r0 laws_markIntS.r1 laws_markIntS.r2 laws_markIntS.r3 laws_markIntS.r4 laws_markIntS.r5 laws_markIntS.r6
theorem laws_markIntS.ok : chkF prog F_laws_markIntS 2 laws_markIntS.fi = true := by kernel_rfl

/-! laws_heldIntS -/
def laws_heldIntS.r0 : List Ent := [
  E0 0 (some 4) none (.i (.mv (.k (I64 0))))]
def laws_heldIntS.r1 : List Ent := [
  E0 0 (some 5) none (.i (.mv (.k (I64 0))))]
def laws_heldIntS.r2 : List Ent := [
  E0 0 (some 6) none (.i (.mv (.t 5))),
  E0 1 (some 7) none (.i (.mv (.t 0))),
  E0 2 (some 8) none (.i (.len (.t 7))),
  E0 3 (some 9) none (.i (.bin .lss (.t 6) (.t 8)))]
def laws_heldIntS.r3 : List Ent := [
  E0 0 (some 12) none (.i (.mv (.t 0))),
  E0 1 (some 13) none (.i (.mv (.t 5))),
  E0 2 (some 14) none (.i (.iad 1 (.t 12) (.t 13))),
  E0 3 (some 15) none (.i (.load false false 1 (.t 14))),
  E0 4 (some 16) none (.i (.mv (.t 1))),
  E0 5 (some 17) none (.i (.bin .neq (.t 15) (.t 16)))]
def laws_heldIntS.r4 : List Ent := [
  E0 0 (some 4) none (.i (.mv (.k (I64 (-1)))))]
def laws_heldIntS.r5 : List Ent := [
  E0 0 (some 18) none (.i (.mv (.t 1))),
  E0 1 (some 19) none (.i (.bin .add (.t 18) (.k (I64 1)))),
  E0 2 (some 1) none (.i (.mv (.t 19)))]
def laws_heldIntS.r6 : List Ent := [
  E0 0 (some 10) none (.i (.mv (.t 5))),
  E0 1 (some 11) none (.i (.bin .add (.t 10) (.k (I64 1)))),
  E0 2 (some 5) none (.i (.mv (.t 11)))]
def laws_heldIntS.b0 : KC := .seq (.seq (.reg 192 4 laws_heldIntS.r2) (.cond (.t 9) (.skip) (.exit 0))) (.seq (.block 1 (.seq (.seq (.reg 448 6 laws_heldIntS.r3) (.cond (.t 17) (.seq (.reg 832 1 laws_heldIntS.r4) (.ret)) (.skip))) (.reg 896 3 laws_heldIntS.r5))) (.reg 1088 3 laws_heldIntS.r6))
def laws_heldIntS.r7 : List Ent := [
  E0 0 (some 20) none (.i (.mv (.t 1))),
  E0 1 (some 4) none (.i (.mv (.t 20)))]
def laws_heldIntS.fi : FI := { res := [.t 4], code := .seq (.reg 64 1 laws_heldIntS.r0) (.seq (.seq (.reg 128 1 laws_heldIntS.r1) (.block 0 (.loop laws_heldIntS.b0))) (.seq (.reg 1280 2 laws_heldIntS.r7) (.ret))) }
attribute [go_sem] laws_heldIntS.r0 laws_heldIntS.r1 laws_heldIntS.r2 laws_heldIntS.r3 laws_heldIntS.r4 laws_heldIntS.r5 laws_heldIntS.r6 laws_heldIntS.r7
theorem laws_heldIntS.ok : chkF prog F_laws_heldIntS 2 laws_heldIntS.fi = true := by kernel_rfl

/-! spec_l4Clause -/
def spec_l4Clause.r0 : List Ent := [
  E0 0 (some 4) none (.i (.mv (.k (.dat none (.bool false)))))]
def spec_l4Clause.r1 : List Ent := [
  E0 0 (some 7) none (.i (.mv (.t 1))),
  E0 1 (some 8) none (.i (.len (.t 7))),
  E0 2 (some 9) none (.i (.mv (.k (I64 0))))]
def spec_l4Clause.r2 : List Ent := [
  E0 0 (some 10) none (.i (.bin .lss (.t 9) (.t 8)))]
def spec_l4Clause.r3 : List Ent := [
  E0 0 (some 11) none (.i (.mv (.t 9))),
  E0 1 (some 12) none (.i (.iad 1 (.t 7) (.t 9))),
  E0 2 (some 13) none (.i (.load false false 1 (.t 12))),
  E0 3 (some 5) none (.i (.mv (.t 11))),
  E0 4 (some 6) none (.i (.mv (.t 13)))]
def spec_l4Clause.r4 : List Ent := [
  E0 0 (some 14) none (.i (.mv (.t 6))),
  E0 1 (some 15) none (.i (.bin .eql (.t 14) (.k (I64 0)))),
  E0 2 (some 16) none (.i (.mv (.t 15))),
  E0 3 (some 17) (some (16, false)) (.i (.mv (.t 6))),
  E0 4 (some 18) (some (16, false)) (.i (.mv (.t 0))),
  E0 5 (some 19) (some (16, false)) (.i (.un .neg (.t 18))),
  E0 6 (some 20) (some (16, false)) (.i (.mv (.t 0))),
  E0 7 (some 21) (some (16, false)) (.call F_spec_l1In false (roA [.t 17, .t 19, .t 20])),
  E0 8 (some 22) (some (16, false)) (.i (.un .not (.t 21))),
  E0 9 (some 23) none (.i (.pick (.t 16) (.k (.dat none (.bool true))) (.t 22))),
  E0 10 (some 24) none (.i (.mv (.t 23))),
  E0 11 (some 25) (some (24, false)) (.i (.mv (.t 1))),
  E0 12 (some 26) (some (24, false)) (.i (.mv (.t 5))),
  E0 13 (some 27) (some (24, false)) (.i (.slc 1 (.t 25) (none) (some (.t 26)))),
  E0 14 (some 28) (some (24, false)) (.i (.mv (.t 6))),
  E0 15 (some 29) (some (24, false)) (.call F_spec_l1Has false (roA [.t 27, .t 28])),
  E0 16 (some 30) none (.i (.pick (.t 24) (.k (.dat none (.bool true))) (.t 29))),
  E0 17 (some 31) none (.i (.mv (.t 30))),
  E0 18 (some 32) (some (31, false)) (.i (.mv (.t 1))),
  E0 19 (some 33) (some (31, false)) (.i (.mv (.t 5))),
  E0 20 (some 34) (some (31, false)) (.i (.slc 1 (.t 32) (none) (some (.t 33)))),
  E0 21 (some 35) (some (31, false)) (.i (.mv (.t 6))),
  E0 22 (some 36) (some (31, false)) (.i (.un .neg (.t 35))),
  E0 23 (some 37) (some (31, false)) (.call F_spec_l1Has false (roA [.t 34, .t 36])),
  E0 24 (some 38) none (.i (.pick (.t 31) (.k (.dat none (.bool true))) (.t 37)))]
def spec_l4Clause.r5 : List Ent := [
  E0 0 (some 4) none (.i (.mv (.k (.dat none (.bool false)))))]
def spec_l4Clause.r6 : List Ent := [
  E0 0 (some 39) none (.i (.bin .add (.t 9) (.k (I64 1)))),
  E0 1 (some 9) none (.i (.mv (.t 39)))]
def spec_l4Clause.b0 : KC := .seq (.reg 320 1 spec_l4Clause.r2) (.seq (.cond (.t 10) (.skip) (.exit 0)) (.seq (.block 1 (.seq (.reg 384 5 spec_l4Clause.r3) (.seq (.reg 704 25 spec_l4Clause.r4) (.cond (.t 38) (.seq (.reg 2304 1 spec_l4Clause.r5) (.ret)) (.skip))))) (.reg 2368 2 spec_l4Clause.r6)))
def spec_l4Clause.r7 : List Ent := [
  E0 0 (some 40) none (.i (.mv (.t 1))),
  E0 1 (some 41) none (.i (.len (.t 40))),
  E0 2 (some 42) none (.i (.bin .leq (.t 41) (.k (I64 12)))),
  E0 3 (some 4) none (.i (.mv (.t 42)))]
def spec_l4Clause.fi : FI := { res := [.t 4], code := .seq (.reg 64 1 spec_l4Clause.r0) (.seq (.seq (.reg 128 3 spec_l4Clause.r1) (.block 0 (.loop spec_l4Clause.b0))) (.seq (.reg 2496 4 spec_l4Clause.r7) (.ret))) }
attribute [go_sem] spec_l4Clause.r0 spec_l4Clause.r1 spec_l4Clause.r2 spec_l4Clause.r3 spec_l4Clause.r4 spec_l4Clause.r5 spec_l4Clause.r6 spec_l4Clause.r7
theorem spec_l4Clause.ok : chkF prog F_spec_l4Clause 2 spec_l4Clause.fi = true := by kernel_rfl

/-! laws_eqIntSS -/
def laws_eqIntSS.r0 : List Ent := [
  E0 0 (some 4) none (.i (.mv (.k (.dat none (.bool false)))))]
def laws_eqIntSS.r1 : List Ent := [
  E0 0 (some 6) none (.i (.mv (.t 0))),
  E0 1 (some 7) none (.i (.len (.t 6))),
  E0 2 (some 8) none (.i (.mv (.t 1))),
  E0 3 (some 9) none (.i (.len (.t 8))),
  E0 4 (some 10) none (.i (.bin .neq (.t 7) (.t 9)))]
def laws_eqIntSS.r2 : List Ent := [
  E0 0 (some 4) none (.i (.mv (.k (.dat none (.bool false)))))]
def laws_eqIntSS.r3 : List Ent := [
  E0 0 (some 5) none (.i (.mv (.k (I64 0))))]
def laws_eqIntSS.r4 : List Ent := [
  E0 0 (some 11) none (.i (.mv (.t 5))),
  E0 1 (some 12) none (.i (.mv (.t 0))),
  E0 2 (some 13) none (.i (.len (.t 12))),
  E0 3 (some 14) none (.i (.bin .lss (.t 11) (.t 13)))]
def laws_eqIntSS.r5 : List Ent := [
  E0 0 (some 17) none (.i (.mv (.t 0))),
  E0 1 (some 18) none (.i (.mv (.t 5))),
  ER 2 (some 19) none (.iad 1 (.t 17) (.t 18)),
  ER 3 (some 20) none (.load false false 1 (.t 19)),
  E0 4 (some 21) none (.i (.mv (.t 1))),
  E0 5 (some 22) none (.i (.mv (.t 5))),
  ER 6 (some 23) none (.iad 1 (.t 21) (.t 22)),
  ER 7 (some 24) none (.load false false 1 (.t 23)),
  E0 8 (some 25) none (.call F_laws_eqIntS false (roA [.t 20, .t 24])),
  E0 9 (some 26) none (.i (.un .not (.t 25)))]
def laws_eqIntSS.r6 : List Ent := [
  E0 0 (some 4) none (.i (.mv (.k (.dat none (.bool false)))))]
def laws_eqIntSS.r7 : List Ent := [
  E0 0 (some 15) none (.i (.mv (.t 5))),
  E0 1 (some 16) none (.i (.bin .add (.t 15) (.k (I64 1)))),
  E0 2 (some 5) none (.i (.mv (.t 16)))]
def laws_eqIntSS.b0 : KC := .seq (.seq (.reg 576 4 laws_eqIntSS.r4) (.cond (.t 14) (.skip) (.exit 0))) (.seq (.block 1 (.seq (.reg 832 10 laws_eqIntSS.r5) (.cond (.t 26) (.seq (.reg 1472 1 laws_eqIntSS.r6) (.ret)) (.skip)))) (.reg 1536 3 laws_eqIntSS.r7))
def laws_eqIntSS.r8 : List Ent := [
  E0 0 (some 4) none (.i (.mv (.k (.dat none (.bool true)))))]
def laws_eqIntSS.fi : FI := { res := [.t 4], code := .seq (.reg 64 1 laws_eqIntSS.r0) (.seq (.seq (.reg 128 5 laws_eqIntSS.r1) (.cond (.t 10) (.seq (.reg 448 1 laws_eqIntSS.r2) (.ret)) (.skip))) (.seq (.seq (.reg 512 1 laws_eqIntSS.r3) (.block 0 (.loop laws_eqIntSS.b0))) (.seq (.reg 1728 1 laws_eqIntSS.r8) (.ret)))) }
attribute [go_sem] laws_eqIntSS.r0 laws_eqIntSS.r1 laws_eqIntSS.r2 laws_eqIntSS.r3 laws_eqIntSS.r4 laws_eqIntSS.r5 laws_eqIntSS.r6 laws_eqIntSS.r7 laws_eqIntSS.r8
theorem laws_eqIntSS.ok : chkF prog F_laws_eqIntSS 2 laws_eqIntSS.fi = true := by kernel_rfl

/-! laws_markIntSS -/
def laws_markIntSS.r0 : List Ent := [
  E0 0 (some 4) none (.i (.mv (.k (I64 0))))]
def laws_markIntSS.r1 : List Ent := [
  E0 0 (some 5) none (.i (.mv (.k (I64 0))))]
def laws_markIntSS.r2 : List Ent := [
  E0 0 (some 6) none (.i (.mv (.t 5))),
  E0 1 (some 7) none (.i (.mv (.t 0))),
  E0 2 (some 8) none (.i (.len (.t 7))),
  E0 3 (some 9) none (.i (.bin .lss (.t 6) (.t 8)))]
def laws_markIntSS.r3 : List Ent := [
  E0 0 (some 12) none (.i (.mv (.t 0))),
  E0 1 (some 13) none (.i (.mv (.t 5))),
  E0 2 (some 14) none (.i (.iad 1 (.t 12) (.t 13))),
  E0 3 (some 15) none (.i (.load true false 1 (.t 14))),
  E0 4 (some 16) none (.i (.mv (.t 1))),
  E0 5 (some 17) none (.call F_laws_markIntS false [(.io, .t 15), (.ro, .t 16)]),
  E0 6 (some 1) none (.i (.mv (.t 17)))]
def laws_markIntSS.r4 : List Ent := [
  E0 0 (some 10) none (.i (.mv (.t 5))),
  E0 1 (some 11) none (.i (.bin .add (.t 10) (.k (I64 1)))),
  E0 2 (some 5) none (.i (.mv (.t 11)))]
def laws_markIntSS.b0 : KC := .seq (.seq (.reg 192 4 laws_markIntSS.r2) (.cond (.t 9) (.skip) (.exit 0))) (.seq (.block 1 (.reg 448 7 laws_markIntSS.r3)) (.reg 896 3 laws_markIntSS.r4))
def laws_markIntSS.r5 : List Ent := [
  E0 0 (some 18) none (.i (.mv (.t 1))),
  E0 1 (some 4) none (.i (.mv (.t 18)))]
def laws_markIntSS.fi : FI := { res := [.t 4], code := .seq (.reg 64 1 laws_markIntSS.r0) (.seq (.seq (.reg 128 1 laws_markIntSS.r1) (.block 0 (.loop laws_markIntSS.b0))) (.seq (.reg 1088 2 laws_markIntSS.r5) (.ret))) }
attribute [go_sem] laws_markIntSS.r0 laws_markIntSS.r1 laws_markIntSS.r2 laws_markIntSS.r3 laws_markIntSS.r4 laws_markIntSS.r5
theorem laws_markIntSS.ok : chkF prog F_laws_markIntSS 2 laws_markIntSS.fi = true := by kernel_rfl

/-! laws_heldIntSS -/
def laws_heldIntSS.r0 : List Ent := [
  E0 0 (some 4) none (.i (.mv (.k (I64 0))))]
def laws_heldIntSS.r1 : List Ent := [
  E0 0 (some 5) none (.i (.mv (.k (I64 0))))]
def laws_heldIntSS.r2 : List Ent := [
  E0 0 (some 6) none (.i (.mv (.t 5))),
  E0 1 (some 7) none (.i (.mv (.t 0))),
  E0 2 (some 8) none (.i (.len (.t 7))),
  E0 3 (some 9) none (.i (.bin .lss (.t 6) (.t 8)))]
def laws_heldIntSS.r3 : List Ent := [
  E0 0 (some 12) none (.i (.mv (.t 0))),
  E0 1 (some 13) none (.i (.mv (.t 5))),
  E0 2 (some 14) none (.i (.iad 1 (.t 12) (.t 13))),
  E0 3 (some 15) none (.i (.load false false 1 (.t 14))),
  E0 4 (some 16) none (.i (.mv (.t 1))),
  E0 5 (some 17) none (.call F_laws_heldIntS false (roA [.t 15, .t 16])),
  E0 6 (some 1) none (.i (.mv (.t 17)))]
def laws_heldIntSS.r4 : List Ent := [
  E0 0 (some 18) none (.i (.mv (.t 1))),
  E0 1 (some 19) none (.i (.bin .lss (.t 18) (.k (I64 0))))]
def laws_heldIntSS.r5 : List Ent := [
  E0 0 (some 4) none (.i (.mv (.k (I64 (-1)))))]
def laws_heldIntSS.r6 : List Ent := [
  E0 0 (some 10) none (.i (.mv (.t 5))),
  E0 1 (some 11) none (.i (.bin .add (.t 10) (.k (I64 1)))),
  E0 2 (some 5) none (.i (.mv (.t 11)))]
def laws_heldIntSS.b0 : KC := .seq (.seq (.reg 192 4 laws_heldIntSS.r2) (.cond (.t 9) (.skip) (.exit 0))) (.seq (.block 1 (.seq (.reg 448 7 laws_heldIntSS.r3) (.seq (.reg 896 2 laws_heldIntSS.r4) (.cond (.t 19) (.seq (.reg 1024 1 laws_heldIntSS.r5) (.ret)) (.skip))))) (.reg 1088 3 laws_heldIntSS.r6))
def laws_heldIntSS.r7 : List Ent := [
  E0 0 (some 20) none (.i (.mv (.t 1))),
  E0 1 (some 4) none (.i (.mv (.t 20)))]
def laws_heldIntSS.fi : FI := { res := [.t 4], code := .seq (.reg 64 1 laws_heldIntSS.r0) (.seq (.seq (.reg 128 1 laws_heldIntSS.r1) (.block 0 (.loop laws_heldIntSS.b0))) (.seq (.reg 1280 2 laws_heldIntSS.r7) (.ret))) }
attribute [go_sem] laws_heldIntSS.r0 laws_heldIntSS.r1 laws_heldIntSS.r2 laws_heldIntSS.r3 laws_heldIntSS.r4 laws_heldIntSS.r5 laws_heldIntSS.r6 laws_heldIntSS.r7
theorem laws_heldIntSS.ok : chkF prog F_laws_heldIntSS 2 laws_heldIntSS.fi = true := by kernel_rfl

/-! laws_markRuleS -/
def laws_markRuleS.r0 : List Ent := [
  E0 0 (some 4) none (.i (.mv (.k (I64 0))))]
def laws_markRuleS.r1 : List Ent := [
  E0 0 (some 5) none (.i (.mv (.k (I64 0))))]
def laws_markRuleS.r2 : List Ent := [
  E0 0 (some 6) none (.i (.mv (.t 5))),
  E0 1 (some 7) none (.i (.mv (.t 0))),
  E0 2 (some 8) none (.i (.len (.t 7))),
  E0 3 (some 9) none (.i (.bin .lss (.t 6) (.t 8)))]
def laws_markRuleS.r3 : List Ent := [
  E0 0 (some 12) none (.i (.mv (.t 0))),
  E0 1 (some 13) none (.i (.mv (.t 5))),
  E0 2 (some 14) none (.i (.iad 2 (.t 12) (.t 13))),
  E0 3 (some 15) none (.i (.fad 0 (.t 14))),
  E0 4 (some 16) none (.i (.load true false 1 (.t 15))),
  E0 5 (some 17) none (.i (.mv (.t 1))),
  E0 6 (some 18) none (.call F_laws_markIntS false [(.io, .t 16), (.ro, .t 17)]),
  E0 7 (some 1) none (.i (.mv (.t 18)))]
def laws_markRuleS.r4 : List Ent := [
  E0 0 (some 19) none (.i (.mv (.t 0))),
  E0 1 (some 20) none (.i (.mv (.t 5))),
  E0 2 (some 21) none (.i (.mv (.t 1))),
  E0 3 (some 22) none (.i (.iad 2 (.t 19) (.t 20))),
  E0 4 (some 23) none (.i (.fad 1 (.t 22))),
  E0 5 none none (.i (.store 1 (.t 23) (.t 21)))]
def laws_markRuleS.r5 : List Ent := [
  E0 0 (some 24) none (.i (.mv (.t 1))),
  E0 1 (some 25) none (.i (.bin .add (.t 24) (.k (I64 1)))),
  E0 2 (some 1) none (.i (.mv (.t 25)))]
def laws_markRuleS.r6 : List Ent := [
  E0 0 (some 10) none (.i (.mv (.t 5))),
  E0 1 (some 11) none (.i (.bin .add (.t 10) (.k (I64 1)))),
  E0 2 (some 5) none (.i (.mv (.t 11)))]
def laws_markRuleS.b0 : KC := .seq (.seq (.reg 192 4 laws_markRuleS.r2) (.cond (.t 9) (.skip) (.exit 0))) (.seq (.block 1 (.seq (.reg 448 8 laws_markRuleS.r3) (.seq (.reg 960 6 laws_markRuleS.r4) (.reg 1344 3 laws_markRuleS.r5)))) (.reg 1536 3 laws_markRuleS.r6))
def laws_markRuleS.r7 : List Ent := [
  E0 0 (some 26) none (.i (.mv (.t 1))),
  E0 1 (some 4) none (.i (.mv (.t 26)))]
def laws_markRuleS.fi : FI := { res := [.t 4], code := .seq (.reg 64 1 laws_markRuleS.r0) (.seq (.seq (.reg 128 1 laws_markRuleS.r1) (.block 0 (.loop laws_markRuleS.b0))) (.seq (.reg 1728 2 laws_markRuleS.r7) (.ret))) }
attribute [go_sem] laws_markRuleS.r0 laws_markRuleS.r1 laws_markRuleS.r2 laws_markRuleS.r3 laws_markRuleS.r4 laws_markRuleS.r5 laws_markRuleS.r6 laws_markRuleS.r7
theorem laws_markRuleS.ok : chkF prog F_laws_markRuleS 2 laws_markRuleS.fi = true := by kernel_rfl

/-! spec_l5Negate -/
def spec_l5Negate.r0 : List Ent := [
  E0 0 (some 2) none (.i (.mv (.k (.nil 1))))]
def spec_l5Negate.r1 : List Ent := [
  E0 0 (some 3) none (.i (.mv (.k (.nil 1))))]
def spec_l5Negate.r2 : List Ent := [
  E0 0 (some 6) none (.i (.mv (.t 0))),
  E0 1 (some 7) none (.i (.len (.t 6))),
  E0 2 (some 8) none (.i (.mv (.k (I64 0))))]
def spec_l5Negate.r3 : List Ent := [
  E0 0 (some 9) none (.i (.bin .lss (.t 8) (.t 7)))]
def spec_l5Negate.r4 : List Ent := [
  E0 0 (some 10) none (.i (.iad 1 (.t 6) (.t 8))),
  E0 1 (some 11) none (.i (.load false false 1 (.t 10))),
  E0 2 (some 5) none (.i (.mv (.t 11)))]
def spec_l5Negate.r5 : List Ent := [
  E0 0 (some 12) none (.i (.mv (.t 3))),
  E0 1 (some 13) none (.i (.mv (.t 5))),
  E0 2 (some 14) none (.i (.un .neg (.t 13))),
  E0 3 (some 15) none (.i (.bsl true 1 [.t 14])),
  E0 4 (some 16) none (.i (.app 1 8 (.t 12) (.t 15))),
  E0 5 (some 3) none (.i (.mv (.t 16)))]
def spec_l5Negate.r6 : List Ent := [
  E0 0 (some 17) none (.i (.bin .add (.t 8) (.k (I64 1)))),
  E0 1 (some 8) none (.i (.mv (.t 17)))]
def spec_l5Negate.b0 : KC := .seq (.reg 384 1 spec_l5Negate.r3) (.seq (.cond (.t 9) (.skip) (.exit 0)) (.seq (.block 1 (.seq (.reg 448 3 spec_l5Negate.r4) (.reg 640 6 spec_l5Negate.r5))) (.reg 1024 2 spec_l5Negate.r6)))
def spec_l5Negate.r7 : List Ent := [
  E0 0 (some 18) none (.i (.mv (.t 3))),
  E0 1 (some 2) none (.i (.mv (.t 18)))]
def spec_l5Negate.fi : FI := { res := [.t 2], code := .seq (.reg 64 1 spec_l5Negate.r0) (.seq (.reg 128 1 spec_l5Negate.r1) (.seq (.seq (.reg 192 3 spec_l5Negate.r2) (.nrm 3 896 1 (.block 0 (.loop spec_l5Negate.b0)))) (.seq (.reg 1152 2 spec_l5Negate.r7) (.ret)))) }
attribute [go_sem] spec_l5Negate.r0 spec_l5Negate.r1 spec_l5Negate.r2 spec_l5Negate.r3 spec_l5Negate.r4 spec_l5Negate.r5 spec_l5Negate.r6 spec_l5Negate.r7
theorem spec_l5Negate.ok : chkF prog F_spec_l5Negate 1 spec_l5Negate.fi = true := by kernel_rfl

/-! spec_RulesAsClauses -/
def spec_RulesAsClauses.r0 : List Ent := [
  E0 0 (some 4) none (.i (.mv (.k (.nil 1)))),
  E0 1 (some 5) none (.i (.mv (.k (.dat none (.bool false)))))]
def spec_RulesAsClauses.r1 : List Ent := [
  E0 0 (some 10) none (.i (.mv (.t 0))),
  E0 1 (some 11) none (.i (.mv (.t 1))),
  E0 2 (some 12) none (.call F_spec_GoodRules false (roA [.t 10, .t 11])),
  E0 3 (some 13) none (.i (.un .not (.t 12)))]
def spec_RulesAsClauses.r2 : List Ent := [
  E0 0 (some 4) none (.i (.mv (.k (.nil 1)))),
  E0 1 (some 5) none (.i (.mv (.k (.dat none (.bool false)))))]
def spec_RulesAsClauses.r3 : List Ent := [
  E0 0 (some 6) none (.i (.mv (.k (.nil 1))))]
def spec_RulesAsClauses.r4 : List Ent := [
  E0 0 (some 14) none (.i (.mv (.t 1))),
  E0 1 (some 15) none (.i (.len (.t 14))),
  E0 2 (some 16) none (.i (.mv (.k (I64 0))))]
def spec_RulesAsClauses.r5 : List Ent := [
  E0 0 (some 17) none (.i (.bin .lss (.t 16) (.t 15)))]
def spec_RulesAsClauses.r6 : List Ent := [
  E0 0 (some 18) none (.i (.iad 2 (.t 14) (.t 16))),
  E0 1 (some 19) none (.i (.load false true 2 (.t 18))),
  E0 2 (some 8) none (.i (.box (.k (.agg [.nil 1, .dat none (.int .i64 0)])))),
  E0 3 none none (.i (.store 2 (.t 8) (.t 19)))]
def spec_RulesAsClauses.r7 : List Ent := [
  E0 0 (some 20) none (.i (.fad 0 (.t 8))),
  E0 1 (some 21) none (.i (.load false false 1 (.t 20))),
  E0 2 (some 22) none (.call F_spec_l5Negate false (roA [.t 21])),
  E0 3 (some 9) none (.i (.mv (.t 22)))]
def spec_RulesAsClauses.r8 : List Ent := [
  E0 0 (some 23) none (.i (.fad 1 (.t 8))),
  E0 1 (some 24) none (.i (.load false false 1 (.t 23))),
  E0 2 (some 25) none (.i (.bin .gtr (.t 24) (.k (I64 0))))]
def spec_RulesAsClauses.r9 : List Ent := [
  E0 0 (some 26) none (.i (.mv (.t 9))),
  E0 1 (some 27) none (.i (.fad 1 (.t 8))),
  E0 2 (some 28) none (.i (.load false false 1 (.t 27))),
  E0 3 (some 29) none (.i (.bsl true 1 [.t 28])),
  E0 4 (some 30) none (.i (.app 1 8 (.t 26) (.t 29))),
  E0 5 (some 9) none (.i (.mv (.t 30)))]
def spec_RulesAsClauses.r10 : List Ent := [
  E0 0 (some 31) none (.i (.mv (.t 0))),
  E0 1 (some 32) none (.i (.mv (.t 9))),
  E0 2 (some 33) none (.call F_spec_l4Clause false (roA [.t 31, .t 32]))]
def spec_RulesAsClauses.r11 : List Ent := [
  E0 0 (some 34) none (.i (.mv (.t 6))),
  E0 1 (some 35) none (.i (.mv (.t 9))),
  E0 2 (some 36) none (.i (.bsl false 1 [.t 35])),
  E0 3 (some 37) none (.i (.app 1 24 (.t 34) (.t 36))),
  E0 4 (some 6) none (.i (.mv (.t 37)))]
def spec_RulesAsClauses.r12 : List Ent := [
  E0 0 (some 38) none (.i (.bin .add (.t 16) (.k (I64 1)))),
  E0 1 (some 16) none (.i (.mv (.t 38)))]
def spec_RulesAsClauses.b0 : KC := .seq (.reg 832 1 spec_RulesAsClauses.r5) (.seq (.cond (.t 17) (.skip) (.exit 0)) (.seq (.block 1 (.seq (.reg 896 4 spec_RulesAsClauses.r6) (.seq (.reg 1152 4 spec_RulesAsClauses.r7) (.seq (.seq (.reg 1408 3 spec_RulesAsClauses.r8) (.cond (.t 25) (.reg 1600 6 spec_RulesAsClauses.r9) (.skip))) (.seq (.reg 1984 3 spec_RulesAsClauses.r10) (.cond (.t 33) (.reg 2176 5 spec_RulesAsClauses.r11) (.skip))))))) (.reg 2496 2 spec_RulesAsClauses.r12)))
def spec_RulesAsClauses.r13 : List Ent := [
  E0 0 (some 39) none (.i (.mv (.t 6))),
  E0 1 (some 4) none (.i (.mv (.t 39))),
  E0 2 (some 5) none (.i (.mv (.k (.dat none (.bool true)))))]
def spec_RulesAsClauses.fi : FI := { res := [.t 4, .t 5], code := .seq (.reg 64 2 spec_RulesAsClauses.r0) (.seq (.seq (.reg 192 4 spec_RulesAsClauses.r1) (.cond (.t 13) (.seq (.reg 448 2 spec_RulesAsClauses.r2) (.ret)) (.skip))) (.seq (.reg 576 1 spec_RulesAsClauses.r3) (.seq (.seq (.reg 640 3 spec_RulesAsClauses.r4) (.nrm 6 2368 1 (.nrm 9 1856 1 (.block 0 (.loop spec_RulesAsClauses.b0))))) (.seq (.reg 2624 3 spec_RulesAsClauses.r13) (.ret))))) }
attribute [go_sem] spec_RulesAsClauses.r0 spec_RulesAsClauses.r1 spec_RulesAsClauses.r2 spec_RulesAsClauses.r3 spec_RulesAsClauses.r4 spec_RulesAsClauses.r5 spec_RulesAsClauses.r6 spec_RulesAsClauses.r7 spec_RulesAsClauses.r8 spec_RulesAsClauses.r9 spec_RulesAsClauses.r10 spec_RulesAsClauses.r11 spec_RulesAsClauses.r12 spec_RulesAsClauses.r13
theorem spec_RulesAsClauses.ok : chkF prog F_spec_RulesAsClauses 2 spec_RulesAsClauses.fi = true := by kernel_rfl

/-! impl_learn -/
def impl_learn.r0 : List Ent := [
  E0 0 (some 2) none (.i (.mv (.k (.nil 1))))]
def impl_learn.r1 : List Ent := [
  E0 0 (some 3) none (.i (.mv (.k (.nil 1))))]
def impl_learn.r2 : List Ent := [
  E0 0 (some 6) none (.i (.mv (.t 0))),
  E0 1 (some 7) none (.i (.len (.t 6))),
  E0 2 (some 8) none (.i (.mv (.k (I64 0))))]
def impl_learn.r3 : List Ent := [
  E0 0 (some 9) none (.i (.bin .lss (.t 8) (.t 7)))]
def impl_learn.r4 : List Ent := [
  E0 0 (some 10) none (.i (.iad 1 (.t 6) (.t 8))),
  E0 1 (some 11) none (.i (.load false false 1 (.t 10))),
  E0 2 (some 5) none (.i (.mv (.t 11)))]
def impl_learn.r5 : List Ent := [
  E0 0 (some 12) none (.i (.mv (.t 3))),
  E0 1 (some 13) none (.i (.mv (.t 5))),
  E0 2 (some 14) none (.i (.un .neg (.t 13))),
  E0 3 (some 15) none (.i (.bsl true 1 [.t 14])),
  E0 4 (some 16) none (.i (.app 1 8 (.t 12) (.t 15))),
  E0 5 (some 3) none (.i (.mv (.t 16)))]
def impl_learn.r6 : List Ent := [
  E0 0 (some 17) none (.i (.bin .add (.t 8) (.k (I64 1)))),
  E0 1 (some 8) none (.i (.mv (.t 17)))]
def impl_learn.b0 : KC := .seq (.reg 384 1 impl_learn.r3) (.seq (.cond (.t 9) (.skip) (.exit 0)) (.seq (.block 1 (.seq (.reg 448 3 impl_learn.r4) (.reg 640 6 impl_learn.r5))) (.reg 1024 2 impl_learn.r6)))
def impl_learn.r7 : List Ent := [
  E0 0 (some 18) none (.i (.mv (.t 3))),
  E0 1 (some 2) none (.i (.mv (.t 18)))]
def impl_learn.fi : FI := { res := [.t 2], code := .seq (.reg 64 1 impl_learn.r0) (.seq (.reg 128 1 impl_learn.r1) (.seq (.seq (.reg 192 3 impl_learn.r2) (.nrm 3 896 1 (.block 0 (.loop impl_learn.b0)))) (.seq (.reg 1152 2 impl_learn.r7) (.ret)))) }
attribute [go_sem] impl_learn.r0 impl_learn.r1 impl_learn.r2 impl_learn.r3 impl_learn.r4 impl_learn.r5 impl_learn.r6 impl_learn.r7
theorem impl_learn.ok : chkF prog F_impl_learn 1 impl_learn.fi = true := by kernel_rfl

/-! impl_RulesAsClauses -/
def impl_RulesAsClauses.r0 : List Ent := [
  E0 0 (some 4) none (.i (.mv (.k (.nil 1)))),
  E0 1 (some 5) none (.i (.mv (.k (.dat none (.bool false)))))]
def impl_RulesAsClauses.r1 : List Ent := [
  E0 0 (some 10) none (.i (.mv (.t 0))),
  E0 1 (some 11) none (.i (.mv (.t 1))),
  E0 2 (some 12) none (.call F_impl_GoodRules false (roA [.t 10, .t 11])),
  E0 3 (some 13) none (.i (.un .not (.t 12)))]
def impl_RulesAsClauses.r2 : List Ent := [
  E0 0 (some 4) none (.i (.mv (.k (.nil 1)))),
  E0 1 (some 5) none (.i (.mv (.k (.dat none (.bool false)))))]
def impl_RulesAsClauses.r3 : List Ent := [
  E0 0 (some 6) none (.i (.mv (.k (.nil 1))))]
def impl_RulesAsClauses.r4 : List Ent := [
  E0 0 (some 14) none (.i (.mv (.t 1))),
  E0 1 (some 15) none (.i (.len (.t 14))),
  E0 2 (some 16) none (.i (.mv (.k (I64 0))))]
def impl_RulesAsClauses.r5 : List Ent := [
  E0 0 (some 17) none (.i (.bin .lss (.t 16) (.t 15)))]
def impl_RulesAsClauses.r6 : List Ent := [
  E0 0 (some 18) none (.i (.iad 2 (.t 14) (.t 16))),
  E0 1 (some 19) none (.i (.load false true 2 (.t 18))),
  E0 2 (some 8) none (.i (.box (.k (.agg [.nil 1, .dat none (.int .i64 0)])))),
  E0 3 none none (.i (.store 2 (.t 8) (.t 19)))]
def impl_RulesAsClauses.r7 : List Ent := [
  E0 0 (some 20) none (.i (.fad 0 (.t 8))),
  E0 1 (some 21) none (.i (.load false false 1 (.t 20))),
  E0 2 (some 22) none (.i (.fad 1 (.t 8))),
  E0 3 (some 23) none (.i (.load false false 1 (.t 22))),
  E0 4 (some 24) none (.call F_slices_Contains__sint_int false (roA [.t 21, .t 23]))]
def impl_RulesAsClauses.r8 : List Ent := [
  E0 0 (some 25) none (.i (.fad 0 (.t 8))),
  E0 1 (some 26) none (.i (.load false false 1 (.t 25))),
  E0 2 (some 27) none (.call F_impl_learn false (roA [.t 26])),
  E0 3 (some 9) none (.i (.mv (.t 27)))]
def impl_RulesAsClauses.r9 : List Ent := [
  E0 0 (some 28) none (.i (.fad 1 (.t 8))),
  E0 1 (some 29) none (.i (.load false false 1 (.t 28))),
  E0 2 (some 30) none (.i (.bin .gtr (.t 29) (.k (I64 0))))]
def impl_RulesAsClauses.r10 : List Ent := [
  E0 0 (some 31) none (.i (.mv (.t 9))),
  E0 1 (some 32) none (.i (.fad 1 (.t 8))),
  E0 2 (some 33) none (.i (.load false false 1 (.t 32))),
  E0 3 (some 34) none (.i (.bsl true 1 [.t 33])),
  E0 4 (some 35) none (.i (.app 1 8 (.t 31) (.t 34))),
  E0 5 (some 9) none (.i (.mv (.t 35)))]
def impl_RulesAsClauses.r11 : List Ent := [
  E0 0 (some 36) none (.i (.mv (.t 6))),
  E0 1 (some 37) none (.i (.mv (.t 9))),
  E0 2 (some 38) none (.i (.bsl false 1 [.t 37])),
  E0 3 (some 39) none (.i (.app 1 24 (.t 36) (.t 38))),
  E0 4 (some 6) none (.i (.mv (.t 39)))]
def impl_RulesAsClauses.r12 : List Ent := [
  E0 0 (some 40) none (.i (.bin .add (.t 16) (.k (I64 1)))),
  E0 1 (some 16) none (.i (.mv (.t 40)))]
def impl_RulesAsClauses.b0 : KC := .seq (.reg 832 1 impl_RulesAsClauses.r5) (.seq (.cond (.t 17) (.skip) (.exit 0)) (.seq (.block 1 (.seq (.reg 896 4 impl_RulesAsClauses.r6) (.seq (.seq (.reg 1152 5 impl_RulesAsClauses.r7) (.cond (.t 24) (.exit 1) (.skip))) (.seq (.reg 1472 4 impl_RulesAsClauses.r8) (.seq (.seq (.reg 1728 3 impl_RulesAsClauses.r9) (.cond (.t 30) (.reg 1920 6 impl_RulesAsClauses.r10) (.skip))) (.reg 2304 5 impl_RulesAsClauses.r11)))))) (.reg 2624 2 impl_RulesAsClauses.r12)))
def impl_RulesAsClauses.r13 : List Ent := [
  E0 0 (some 41) none (.i (.mv (.t 6))),
  E0 1 (some 4) none (.i (.mv (.t 41))),
  E0 2 (some 5) none (.i (.mv (.k (.dat none (.bool true)))))]
def impl_RulesAsClauses.fi : FI := { res := [.t 4, .t 5], code := .seq (.reg 64 2 impl_RulesAsClauses.r0) (.seq (.seq (.reg 192 4 impl_RulesAsClauses.r1) (.cond (.t 13) (.seq (.reg 448 2 impl_RulesAsClauses.r2) (.ret)) (.skip))) (.seq (.reg 576 1 impl_RulesAsClauses.r3) (.seq (.seq (.reg 640 3 impl_RulesAsClauses.r4) (.nrm 6 2496 1 (.nrm 9 2176 1 (.block 0 (.loop impl_RulesAsClauses.b0))))) (.seq (.reg 2752 3 impl_RulesAsClauses.r13) (.ret))))) }
attribute [go_sem] impl_RulesAsClauses.r0 impl_RulesAsClauses.r1 impl_RulesAsClauses.r2 impl_RulesAsClauses.r3 impl_RulesAsClauses.r4 impl_RulesAsClauses.r5 impl_RulesAsClauses.r6 impl_RulesAsClauses.r7 impl_RulesAsClauses.r8 impl_RulesAsClauses.r9 impl_RulesAsClauses.r10 impl_RulesAsClauses.r11 impl_RulesAsClauses.r12 impl_RulesAsClauses.r13
theorem impl_RulesAsClauses.ok : chkF prog F_impl_RulesAsClauses 2 impl_RulesAsClauses.fi = true := by kernel_rfl

/-! laws_FnExactRulesAsClauses -/
def laws_FnExactRulesAsClauses.r0 : List Ent := [
  E0 0 (some 4) none (.i (.mv (.k (.dat none (.bool false)))))]
def laws_FnExactRulesAsClauses.r1 : List Ent := [
  E0 0 (some 5) none (.i (.mv (.k (I64 1048576))))]
def laws_FnExactRulesAsClauses.r2 : List Ent := [
  E0 0 (some 16) none (.i (.mv (.t 1))),
  E0 1 (some 17) none (.i (.mv (.t 5))),
  E0 2 (some 18) none (.call F_laws_szRuleS false (roA [.t 16, .t 17])),
  E0 3 (some 5) none (.i (.mv (.t 18)))]
def laws_FnExactRulesAsClauses.r3 : List Ent := [
  E0 0 (some 19) none (.i (.mv (.t 5))),
  E0 1 (some 20) none (.i (.bin .lss (.t 19) (.k (I64 0))))]
def laws_FnExactRulesAsClauses.r4 : List Ent := [
  E0 0 (some 4) none (.i (.mv (.k (.dat none (.bool true)))))]
def laws_FnExactRulesAsClauses.r5 : List Ent := [
  E0 0 (some 22) none (.i (.mv (.t 0))),
  E0 1 (some 23) none (.i (.mv (.t 1))),
  E0 2 (some 24) none (.call F_laws_toRuleS false (roA [.t 23])),
  E0 3 (some 25) none (.call F_spec_RulesAsClauses false (roA [.t 22, .t 24])),
  E0 4 (some 21) none (.i (.mv (.t 25))),
  E0 5 (some 26) none (.i (.ext 0 (.t 21))),
  E0 6 (some 27) none (.i (.ext 1 (.t 21))),
  E0 7 (some 6) none (.i (.mv (.t 26))),
  E0 8 (some 7) none (.i (.mv (.t 27)))]
def laws_FnExactRulesAsClauses.r6 : List Ent := [
  E0 0 (some 28) none (.i (.mv (.t 1))),
  E0 1 (some 29) none (.call F_laws_toRuleS false (roA [.t 28])),
  E0 2 (some 8) none (.i (.mv (.t 29)))]
def laws_FnExactRulesAsClauses.r7 : List Ent := [
  E0 0 (some 31) none (.i (.mv (.t 0))),
  E0 1 (some 32) none (.i (.mv (.t 8))),
  E0 2 (some 33) none (.call F_impl_RulesAsClauses false (roA [.t 31, .t 32])),
  E0 3 (some 30) none (.i (.mv (.t 33))),
  E0 4 (some 34) none (.i (.ext 0 (.t 30))),
  E0 5 (some 35) none (.i (.ext 1 (.t 30))),
  E0 6 (some 9) none (.i (.mv (.t 34))),
  E0 7 (some 10) none (.i (.mv (.t 35)))]
def laws_FnExactRulesAsClauses.r8 : List Ent := [
  E0 0 (some 36) none (.i (.mv (.t 9))),
  E0 1 (some 37) none (.i (.mv (.t 6))),
  E0 2 (some 38) none (.call F_laws_eqIntSS false (roA [.t 36, .t 37])),
  E0 3 (some 39) none (.i (.un .not (.t 38))),
  E0 4 (some 40) none (.i (.mv (.t 39))),
  E0 5 (some 41) (some (40, false)) (.i (.mv (.t 10))),
  E0 6 (some 42) (some (40, false)) (.i (.mv (.t 7))),
  E0 7 (some 43) (some (40, false)) (.i (.eqb true (.t 41) (.t 42))),
  E0 8 (some 44) none (.i (.pick (.t 40) (.k (.dat none (.bool true))) (.t 43)))]
def laws_FnExactRulesAsClauses.r9 : List Ent := [
  E0 0 (some 4) none (.i (.mv (.k (.dat none (.bool false)))))]
def laws_FnExactRulesAsClauses.r10 : List Ent := [
  E0 0 (some 45) none (.i (.mv (.t 8))),
  E0 1 (some 46) none (.i (.mv (.t 1))),
  E0 2 (some 47) none (.call F_laws_toRuleS false (roA [.t 46])),
  E0 3 (some 48) none (.call F_laws_eqRuleS false (roA [.t 45, .t 47])),
  E0 4 (some 49) none (.i (.un .not (.t 48)))]
def laws_FnExactRulesAsClauses.r11 : List Ent := [
  E0 0 (some 4) none (.i (.mv (.k (.dat none (.bool false)))))]
def laws_FnExactRulesAsClauses.r12 : List Ent := [
  E0 0 (some 11) none (.i (.mv (.k (I64 1))))]
def laws_FnExactRulesAsClauses.r13 : List Ent := [
  E0 0 (some 50) none (.i (.mv (.t 8))),
  E0 1 (some 51) none (.i (.mv (.t 11))),
  E0 2 (some 52) none (.call F_laws_markRuleS false [(.io, .t 50), (.ro, .t 51)]),
  E0 3 (some 11) none (.i (.mv (.t 52)))]
def laws_FnExactRulesAsClauses.r14 : List Ent := [
  E0 0 (some 53) none (.i (.mv (.t 11))),
  E0 1 (some 54) none (.i (.bin .lss (.t 53) (.k (I64 0)))),
  E0 2 (some 55) none (.i (.mv (.t 54))),
  E0 3 (some 56) (some (55, false)) (.i (.mv (.t 9))),
  E0 4 (some 57) (some (55, false)) (.i (.mv (.t 6))),
  E0 5 (some 58) (some (55, false)) (.call F_laws_eqIntSS false (roA [.t 56, .t 57])),
  E0 6 (some 59) (some (55, false)) (.i (.un .not (.t 58))),
  E0 7 (some 60) none (.i (.pick (.t 55) (.k (.dat none (.bool true))) (.t 59))),
  E0 8 (some 61) none (.i (.mv (.t 60))),
  E0 9 (some 62) (some (61, false)) (.i (.mv (.t 10))),
  E0 10 (some 63) (some (61, false)) (.i (.mv (.t 7))),
  E0 11 (some 64) (some (61, false)) (.i (.eqb true (.t 62) (.t 63))),
  E0 12 (some 65) none (.i (.pick (.t 61) (.k (.dat none (.bool true))) (.t 64)))]
def laws_FnExactRulesAsClauses.r15 : List Ent := [
  E0 0 (some 4) none (.i (.mv (.k (.dat none (.bool false)))))]
def laws_FnExactRulesAsClauses.r16 : List Ent := [
  E0 0 (some 12) none (.i (.mv (.k (I64 1))))]
def laws_FnExactRulesAsClauses.r17 : List Ent := [
  E0 0 (some 66) none (.i (.mv (.t 9))),
  E0 1 (some 67) none (.i (.mv (.t 12))),
  E0 2 (some 68) none (.call F_laws_markIntSS false [(.io, .t 66), (.ro, .t 67)]),
  E0 3 (some 12) none (.i (.mv (.t 68)))]
def laws_FnExactRulesAsClauses.r18 : List Ent := [
  E0 0 (some 13) none (.i (.mv (.k (I64 1))))]
def laws_FnExactRulesAsClauses.r19 : List Ent := [
  E0 0 (some 69) none (.i (.mv (.t 9))),
  E0 1 (some 70) none (.i (.mv (.t 13))),
  E0 2 (some 71) none (.call F_laws_heldIntSS false (roA [.t 69, .t 70])),
  E0 3 (some 13) none (.i (.mv (.t 71)))]
def laws_FnExactRulesAsClauses.r20 : List Ent := [
  E0 0 (some 72) none (.i (.mv (.t 13))),
  E0 1 (some 73) none (.i (.bin .lss (.t 72) (.k (I64 0))))]
def laws_FnExactRulesAsClauses.r21 : List Ent := [
  E0 0 (some 4) none (.i (.mv (.k (.dat none (.bool false)))))]
def laws_FnExactRulesAsClauses.r22 : List Ent := [
  E0 0 (some 74) none (.i (.mv (.t 13))),
  E0 1 (some 75) none (.i (.mv (.t 12))),
  E0 2 (some 76) none (.i (.bin .neq (.t 74) (.t 75)))]
def laws_FnExactRulesAsClauses.r23 : List Ent := [
  E0 0 (some 4) none (.i (.mv (.k (.dat none (.bool false)))))]
def laws_FnExactRulesAsClauses.r24 : List Ent := [
  E0 0 (some 78) none (.i (.mv (.t 0))),
  E0 1 (some 79) none (.i (.mv (.t 1))),
  E0 2 (some 80) none (.call F_laws_toRuleS false (roA [.t 79])),
  E0 3 (some 81) none (.call F_impl_RulesAsClauses false (roA [.t 78, .t 80])),
  E0 4 (some 77) none (.i (.mv (.t 81))),
  E0 5 (some 82) none (.i (.ext 0 (.t 77))),
  E0 6 (some 83) none (.i (.ext 1 (.t 77))),
  E0 7 (some 14) none (.i (.mv (.t 82))),
  E0 8 (some 15) none (.i (.mv (.t 83)))]
def laws_FnExactRulesAsClauses.r25 : List Ent := [
  E0 0 (some 84) none (.i (.mv (.t 14))),
  E0 1 (some 85) none (.i (.mv (.t 6))),
  E0 2 (some 86) none (.call F_laws_eqIntSS false (roA [.t 84, .t 85])),
  E0 3 (some 87) none (.i (.un .not (.t 86))),
  E0 4 (some 88) none (.i (.mv (.t 87))),
  E0 5 (some 89) (some (88, false)) (.i (.mv (.t 15))),
  E0 6 (some 90) (some (88, false)) (.i (.mv (.t 7))),
  E0 7 (some 91) (some (88, false)) (.i (.eqb true (.t 89) (.t 90))),
  E0 8 (some 92) none (.i (.pick (.t 88) (.k (.dat none (.bool true))) (.t 91)))]
def laws_FnExactRulesAsClauses.r26 : List Ent := [
  E0 0 (some 4) none (.i (.mv (.k (.dat none (.bool false)))))]
def laws_FnExactRulesAsClauses.r27 : List Ent := [
  E0 0 (some 13) none (.i (.mv (.k (I64 1))))]
def laws_FnExactRulesAsClauses.r28 : List Ent := [
  E0 0 (some 93) none (.i (.mv (.t 9))),
  E0 1 (some 94) none (.i (.mv (.t 13))),
  E0 2 (some 95) none (.call F_laws_heldIntSS false (roA [.t 93, .t 94])),
  E0 3 (some 13) none (.i (.mv (.t 95)))]
def laws_FnExactRulesAsClauses.r29 : List Ent := [
  E0 0 (some 96) none (.i (.mv (.t 13))),
  E0 1 (some 97) none (.i (.bin .lss (.t 96) (.k (I64 0))))]
def laws_FnExactRulesAsClauses.r30 : List Ent := [
  E0 0 (some 4) none (.i (.mv (.k (.dat none (.bool false)))))]
def laws_FnExactRulesAsClauses.r31 : List Ent := [
  E0 0 (some 98) none (.i (.mv (.t 13))),
  E0 1 (some 99) none (.i (.mv (.t 12))),
  E0 2 (some 100) none (.i (.bin .neq (.t 98) (.t 99)))]
def laws_FnExactRulesAsClauses.r32 : List Ent := [
  E0 0 (some 4) none (.i (.mv (.k (.dat none (.bool false)))))]
def laws_FnExactRulesAsClauses.r33 : List Ent := [
  E0 0 (some 4) none (.i (.mv (.k (.dat none (.bool true)))))]
def laws_FnExactRulesAsClauses.fi : FI := { res := [.t 4], code := .seq (.reg 64 1 laws_FnExactRulesAsClauses.r0) (.seq (.reg 128 1 laws_FnExactRulesAsClauses.r1) (.seq (.reg 192 4 laws_FnExactRulesAsClauses.r2) (.seq (.seq (.reg 448 2 laws_FnExactRulesAsClauses.r3) (.cond (.t 20) (.seq (.reg 576 1 laws_FnExactRulesAsClauses.r4) (.ret)) (.skip))) (.seq (.reg 640 9 laws_FnExactRulesAsClauses.r5) (.seq (.reg 1216 3 laws_FnExactRulesAsClauses.r6) (.seq (.reg 1408 8 laws_FnExactRulesAsClauses.r7) (.seq (.seq (.reg 1920 9 laws_FnExactRulesAsClauses.r8) (.cond (.t 44) (.seq (.reg 2496 1 laws_FnExactRulesAsClauses.r9) (.ret)) (.skip))) (.seq (.seq (.reg 2560 5 laws_FnExactRulesAsClauses.r10) (.cond (.t 49) (.seq (.reg 2880 1 laws_FnExactRulesAsClauses.r11) (.ret)) (.skip))) (.seq (.reg 2944 1 laws_FnExactRulesAsClauses.r12) (.seq (.reg 3008 4 laws_FnExactRulesAsClauses.r13) (.seq (.seq (.reg 3264 13 laws_FnExactRulesAsClauses.r14) (.cond (.t 65) (.seq (.reg 4096 1 laws_FnExactRulesAsClauses.r15) (.ret)) (.skip))) (.seq (.reg 4160 1 laws_FnExactRulesAsClauses.r16) (.seq (.reg 4224 4 laws_FnExactRulesAsClauses.r17) (.seq (.reg 4480 1 laws_FnExactRulesAsClauses.r18) (.seq (.reg 4544 4 laws_FnExactRulesAsClauses.r19) (.seq (.seq (.reg 4800 2 laws_FnExactRulesAsClauses.r20) (.cond (.t 73) (.seq (.reg 4928 1 laws_FnExactRulesAsClauses.r21) (.ret)) (.skip))) (.seq (.seq (.reg 4992 3 laws_FnExactRulesAsClauses.r22) (.cond (.t 76) (.seq (.reg 5184 1 laws_FnExactRulesAsClauses.r23) (.ret)) (.skip))) (.seq (.reg 5248 9 laws_FnExactRulesAsClauses.r24) (.seq (.seq (.reg 5824 9 laws_FnExactRulesAsClauses.r25) (.cond (.t 92) (.seq (.reg 6400 1 laws_FnExactRulesAsClauses.r26) (.ret)) (.skip))) (.seq (.reg 6464 1 laws_FnExactRulesAsClauses.r27) (.seq (.reg 6528 4 laws_FnExactRulesAsClauses.r28) (.seq (.seq (.reg 6784 2 laws_FnExactRulesAsClauses.r29) (.cond (.t 97) (.seq (.reg 6912 1 laws_FnExactRulesAsClauses.r30) (.ret)) (.skip))) (.seq (.seq (.reg 6976 3 laws_FnExactRulesAsClauses.r31) (.cond (.t 100) (.seq (.reg 7168 1 laws_FnExactRulesAsClauses.r32) (.ret)) (.skip))) (.seq (.reg 7232 1 laws_FnExactRulesAsClauses.r33) (.ret))))))))))))))))))))))))) }
attribute [go_sem] laws_FnExactRulesAsClauses.r0 laws_FnExactRulesAsClauses.r1 laws_FnExactRulesAsClauses.r2 laws_FnExactRulesAsClauses.r3 laws_FnExactRulesAsClauses.r4 laws_FnExactRulesAsClauses.r5 laws_FnExactRulesAsClauses.r6 laws_FnExactRulesAsClauses.r7 laws_FnExactRulesAsClauses.r8 laws_FnExactRulesAsClauses.r9 laws_FnExactRulesAsClauses.r10 laws_FnExactRulesAsClauses.r11 laws_FnExactRulesAsClauses.r12 laws_FnExactRulesAsClauses.r13 laws_FnExactRulesAsClauses.r14 laws_FnExactRulesAsClauses.r15 laws_FnExactRulesAsClauses.r16 laws_FnExactRulesAsClauses.r17 laws_FnExactRulesAsClauses.r18 laws_FnExactRulesAsClauses.r19 laws_FnExactRulesAsClauses.r20 laws_FnExactRulesAsClauses.r21 laws_FnExactRulesAsClauses.r22 laws_FnExactRulesAsClauses.r23 laws_FnExactRulesAsClauses.r24 laws_FnExactRulesAsClauses.r25 laws_FnExactRulesAsClauses.r26 laws_FnExactRulesAsClauses.r27 laws_FnExactRulesAsClauses.r28 laws_FnExactRulesAsClauses.r29 laws_FnExactRulesAsClauses.r30 laws_FnExactRulesAsClauses.r31 laws_FnExactRulesAsClauses.r32 laws_FnExactRulesAsClauses.r33
theorem laws_FnExactRulesAsClauses.ok : chkF prog F_laws_FnExactRulesAsClauses 2 laws_FnExactRulesAsClauses.fi = true := by kernel_rfl
end Go.Vm.Ytedcnkglldmkbaa
