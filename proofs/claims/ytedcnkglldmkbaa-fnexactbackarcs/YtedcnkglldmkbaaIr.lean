/- The functions that the law reaches, in the text of the interpreter, and that this text fits them (no condition). -/
import Derived.Test.YtedcnkglldmkbaaVmc
import Derived.Test.YtedcnkglldmkbaaProg
import Derived.KernelRfl
/- PRINTED BY irgen.py, a program of this claim's author: the functions that the claim reaches, in the text of the interpreter, and that they fit. -/
namespace Go.Vm.Ytedcnkglldmkbaa
open Go Go.Vm
set_option linter.unusedVariables false
set_option maxRecDepth 100000
noncomputable abbrev prog : Program := Go.Proofs.Try.prog
abbrev F_laws_FnExactReduceBoth : FuncId := 3
abbrev F_laws_FnExactGoodRules : FuncId := 4
abbrev F_laws_FnExactMeetOf : FuncId := 5
abbrev F_laws_FnExactIsTwo : FuncId := 6
abbrev F_laws_FnExactTwoOf : FuncId := 7
abbrev F_laws_FnExactHoldsIn : FuncId := 8
abbrev F_laws_FnExactIsHorn : FuncId := 9
abbrev F_laws_FnExactReachWithin : FuncId := 10
abbrev F_laws_FnExactBackArcs : FuncId := 11
abbrev F_laws_FnExactWhyOf : FuncId := 12
abbrev F_laws_FnExactLeastOf : FuncId := 13
abbrev F_laws_FnExactRulesAsClauses : FuncId := 14
abbrev F_spec_ReduceBoth : FuncId := 15
abbrev F_laws_toStretch : FuncId := 16
abbrev F_laws_toKnown : FuncId := 17
abbrev F_impl_ReduceBoth : FuncId := 18
abbrev F_laws_eqStretch : FuncId := 19
abbrev F_laws_eqKnown : FuncId := 20
abbrev F_laws_szRuleS : FuncId := 21
abbrev F_spec_GoodRules : FuncId := 22
abbrev F_laws_toRuleS : FuncId := 23
abbrev F_impl_GoodRules : FuncId := 24
abbrev F_laws_eqRuleS : FuncId := 25
abbrev F_spec_MeetOf : FuncId := 26
abbrev F_laws_toIntS : FuncId := 27
abbrev F_impl_MeetOf : FuncId := 28
abbrev F_laws_eqIntS : FuncId := 29
abbrev F_laws_markIntS : FuncId := 30
abbrev F_laws_heldIntS : FuncId := 31
abbrev F_laws_szIntSS : FuncId := 32
abbrev F_spec_IsTwo : FuncId := 33
abbrev F_laws_toIntSS : FuncId := 34
abbrev F_impl_IsTwo : FuncId := 35
abbrev F_laws_eqIntSS : FuncId := 36
abbrev F_spec_TwoOf : FuncId := 37
abbrev F_impl_TwoOf : FuncId := 38
abbrev F_laws_markIntSS : FuncId := 39
abbrev F_laws_heldIntSS : FuncId := 40
abbrev F_spec_HoldsIn : FuncId := 41
abbrev F_impl_HoldsIn : FuncId := 42
abbrev F_spec_IsHorn : FuncId := 43
abbrev F_impl_IsHorn : FuncId := 44
abbrev F_laws_szArcS : FuncId := 45
abbrev F_spec_ReachWithin : FuncId := 46
abbrev F_laws_toArcS : FuncId := 47
abbrev F_impl_ReachWithin : FuncId := 48
abbrev F_laws_eqArcS : FuncId := 49
abbrev F_laws_markArcS : FuncId := 50
abbrev F_spec_BackArcs : FuncId := 51
abbrev F_impl_BackArcs : FuncId := 52
abbrev F_spec_WhyOf : FuncId := 53
abbrev F_impl_WhyOf : FuncId := 54
abbrev F_laws_markRuleS : FuncId := 55
abbrev F_spec_LeastOf : FuncId := 56
abbrev F_impl_LeastOf : FuncId := 57
abbrev F_spec_RulesAsClauses : FuncId := 58
abbrev F_impl_RulesAsClauses : FuncId := 59
abbrev F_spec_GoodStretch : FuncId := 60
abbrev F_spec_GoodKnown : FuncId := 61
abbrev F_spec_l13Reduce : FuncId := 62
abbrev F_impl_GoodStretch : FuncId := 63
abbrev F_impl_GoodKnown : FuncId := 64
abbrev F_impl_reduceBoth : FuncId := 65
abbrev F_laws_szRule : FuncId := 66
abbrev F_spec_l16Facts : FuncId := 67
abbrev F_spec_l1In : FuncId := 68
abbrev F_laws_toRule : FuncId := 69
abbrev F_impl_in : FuncId := 70
abbrev F_slices_ContainsFunc__sRule_Rule : FuncId := 71
abbrev F_impl_GoodRules_c1 : FuncId := 72
abbrev F_impl_areFacts : FuncId := 73
abbrev F_laws_eqRule : FuncId := 74
abbrev F_spec_l1Has : FuncId := 75
abbrev F_slices_DeleteFunc__sint_int : FuncId := 76
abbrev F_slices_Clone__sint_int : FuncId := 77
abbrev F_impl_MeetOf_c1 : FuncId := 78
abbrev F_slices_Contains__sint_int : FuncId := 79
abbrev F_laws_szIntS : FuncId := 80
abbrev F_spec_GoodClauses : FuncId := 81
abbrev F_impl_GoodClauses : FuncId := 82
abbrev F_slices_ContainsFunc__ssint_sint : FuncId := 83
abbrev F_impl_IsTwo_c1 : FuncId := 84
abbrev F_spec_l4Clause : FuncId := 85
abbrev F_impl_isClause : FuncId := 86
abbrev F_spec_l16All : FuncId := 87
abbrev F_impl_HoldsIn_c1 : FuncId := 88
abbrev F_impl_Rule_met : FuncId := 89
abbrev F_impl_IsHorn_c1 : FuncId := 90
abbrev F_spec_GoodArcs : FuncId := 91
abbrev F_spec_l12Reach : FuncId := 92
abbrev F_laws_toArc : FuncId := 93
abbrev F_impl_GoodArcs : FuncId := 94
abbrev F_impl_within : FuncId := 95
abbrev F_impl_list : FuncId := 96
abbrev F_impl_ReachWithin_c1 : FuncId := 97
abbrev F_laws_eqArc : FuncId := 98
abbrev F_impl_BackArcs_c1 : FuncId := 99
abbrev F_spec_l16Least : FuncId := 100
abbrev F_impl_least : FuncId := 101
abbrev F_slices_IndexFunc__sint_int : FuncId := 102
abbrev F_impl_WhyOf_c1 : FuncId := 103
abbrev F_impl_LeastOf_c1 : FuncId := 104
abbrev F_impl_LeastOf_c2 : FuncId := 105
abbrev F_spec_l5Negate : FuncId := 106
abbrev F_impl_learn : FuncId := 107
abbrev F_spec_l1Word : FuncId := 108
abbrev F_spec_l1Most : FuncId := 109
abbrev F_spec_l1Least : FuncId := 110
abbrev F_spec_l10May : FuncId := 111
abbrev F_impl_isWord : FuncId := 112
abbrev F_impl_Known_matches : FuncId := 113
abbrev F_impl_exact : FuncId := 114
abbrev F_spec_l1Rising : FuncId := 115
abbrev F_slices_IndexFunc__sRule_Rule : FuncId := 116
abbrev F_slices_Index__sint_int : FuncId := 117
abbrev F_spec_l4Good : FuncId := 118
abbrev F_impl_areClauses : FuncId := 119
abbrev F_slices_IndexFunc__ssint_sint : FuncId := 120
abbrev F_impl_isLiteral : FuncId := 121
abbrev F_slices_ContainsFunc__sint_int : FuncId := 122
abbrev F_impl_isClause_c1 : FuncId := 123
abbrev F_impl_variable : FuncId := 124
abbrev F_impl_Rule_met_c1 : FuncId := 125
abbrev F_spec_l1Put : FuncId := 126
abbrev F_impl_isSpots : FuncId := 127
abbrev F_slices_Clone__sbool_bool : FuncId := 128
abbrev F_impl_least_c1 : FuncId := 129
abbrev F_impl_areClauses_c1 : FuncId := 130
abbrev F_runtime_boundsError_Error : FuncId := 131
abbrev F_runtime_boundsError_RuntimeError : FuncId := 132
abbrev F_runtime_errorString_Error : FuncId := 133
abbrev F_runtime_errorString_RuntimeError : FuncId := 134
abbrev F_runtime_plainError_Error : FuncId := 135
abbrev F_runtime_plainError_RuntimeError : FuncId := 136
abbrev F_runtime_errorAddressString_Error : FuncId := 137
abbrev F_runtime_errorAddressString_RuntimeError : FuncId := 138
abbrev F_runtime_pTypeAssertionError_Error : FuncId := 139
abbrev F_runtime_pTypeAssertionError_RuntimeError : FuncId := 140
abbrev F_runtime_pPanicNilError_Error : FuncId := 141
abbrev F_runtime_pPanicNilError_RuntimeError : FuncId := 142
abbrev F_abi_pType_Align : FuncId := 143
abbrev F_maps_unhashableTypeError_Error : FuncId := 144
abbrev F_maps_unhashableTypeError_RuntimeError : FuncId := 145
abbrev F_abi_Kind_String : FuncId := 146

/-! spec_l1In -/
def spec_l1In.r0 : List Ent := [
  E0 0 (some 6) none (.i (.mv (.k (.dat none (.bool false)))))]
def spec_l1In.r1 : List Ent := [
  E0 0 (some 7) none (.i (.mv (.t 0))),
  E0 1 (some 8) none (.i (.mv (.t 1))),
  E0 2 (some 9) none (.i (.bin .geq (.t 7) (.t 8))),
  E0 3 (some 10) none (.i (.mv (.t 9))),
  E0 4 (some 11) (some (10, true)) (.i (.mv (.t 0))),
  E0 5 (some 12) (some (10, true)) (.i (.mv (.t 2))),
  E0 6 (some 13) (some (10, true)) (.i (.bin .leq (.t 11) (.t 12))),
  E0 7 (some 14) none (.i (.pick (.t 10) (.t 13) (.k (.dat none (.bool false))))),
  E0 8 (some 6) none (.i (.mv (.t 14)))]
def spec_l1In.fi : FI := { res := [.t 6], code := .seq (.reg 64 1 spec_l1In.r0) (.seq (.reg 128 9 spec_l1In.r1) (.ret)) }
attribute [go_sem] spec_l1In.r0 spec_l1In.r1
theorem spec_l1In.ok : chkF prog F_spec_l1In 3 spec_l1In.fi = true := by kernel_rfl

/-! impl_in -/
def impl_in.r0 : List Ent := [
  E0 0 (some 6) none (.i (.mv (.k (.dat none (.bool false)))))]
def impl_in.r1 : List Ent := [
  E0 0 (some 7) none (.i (.mv (.t 0))),
  E0 1 (some 8) none (.i (.mv (.t 1))),
  E0 2 (some 9) none (.i (.bin .geq (.t 7) (.t 8))),
  E0 3 (some 10) none (.i (.mv (.t 9))),
  E0 4 (some 11) (some (10, true)) (.i (.mv (.t 0))),
  E0 5 (some 12) (some (10, true)) (.i (.mv (.t 2))),
  E0 6 (some 13) (some (10, true)) (.i (.bin .leq (.t 11) (.t 12))),
  E0 7 (some 14) none (.i (.pick (.t 10) (.t 13) (.k (.dat none (.bool false))))),
  E0 8 (some 6) none (.i (.mv (.t 14)))]
def impl_in.fi : FI := { res := [.t 6], code := .seq (.reg 64 1 impl_in.r0) (.seq (.reg 128 9 impl_in.r1) (.ret)) }
attribute [go_sem] impl_in.r0 impl_in.r1
theorem impl_in.ok : chkF prog F_impl_in 3 impl_in.fi = true := by kernel_rfl

/-! laws_eqIntS -/
def laws_eqIntS.r0 : List Ent := [
  E0 0 (some 4) none (.i (.mv (.k (.dat none (.bool false)))))]
def laws_eqIntS.r1 : List Ent := [
  E0 0 (some 6) none (.i (.mv (.t 0))),
  E0 1 (some 7) none (.i (.len (.t 6))),
  E0 2 (some 8) none (.i (.mv (.t 1))),
  E0 3 (some 9) none (.i (.len (.t 8))),
  E0 4 (some 10) none (.i (.bin .neq (.t 7) (.t 9)))]
def laws_eqIntS.r2 : List Ent := [
  E0 0 (some 4) none (.i (.mv (.k (.dat none (.bool false)))))]
def laws_eqIntS.r3 : List Ent := [
  E0 0 (some 5) none (.i (.mv (.k (I64 0))))]
def laws_eqIntS.r4 : List Ent := [
  E0 0 (some 11) none (.i (.mv (.t 5))),
  E0 1 (some 12) none (.i (.mv (.t 0))),
  E0 2 (some 13) none (.i (.len (.t 12))),
  E0 3 (some 14) none (.i (.bin .lss (.t 11) (.t 13)))]
def laws_eqIntS.r5 : List Ent := [
  E0 0 (some 17) none (.i (.mv (.t 0))),
  E0 1 (some 18) none (.i (.mv (.t 5))),
  ER 2 (some 19) none (.iad 1 (.t 17) (.t 18)),
  ER 3 (some 20) none (.load false false 1 (.t 19)),
  E0 4 (some 21) none (.i (.mv (.t 1))),
  E0 5 (some 22) none (.i (.mv (.t 5))),
  ER 6 (some 23) none (.iad 1 (.t 21) (.t 22)),
  ER 7 (some 24) none (.load false false 1 (.t 23)),
  E0 8 (some 25) none (.i (.bin .neq (.t 20) (.t 24)))]
def laws_eqIntS.r6 : List Ent := [
  E0 0 (some 4) none (.i (.mv (.k (.dat none (.bool false)))))]
def laws_eqIntS.r7 : List Ent := [
  E0 0 (some 15) none (.i (.mv (.t 5))),
  E0 1 (some 16) none (.i (.bin .add (.t 15) (.k (I64 1)))),
  E0 2 (some 5) none (.i (.mv (.t 16)))]
def laws_eqIntS.b0 : KC := .seq (.seq (.reg 576 4 laws_eqIntS.r4) (.cond (.t 14) (.skip) (.exit 0))) (.seq (.block 1 (.seq (.reg 832 9 laws_eqIntS.r5) (.cond (.t 25) (.seq (.reg 1408 1 laws_eqIntS.r6) (.ret)) (.skip)))) (.reg 1472 3 laws_eqIntS.r7))
def laws_eqIntS.r8 : List Ent := [
  E0 0 (some 4) none (.i (.mv (.k (.dat none (.bool true)))))]
def laws_eqIntS.fi : FI := { res := [.t 4], code := .seq (.reg 64 1 laws_eqIntS.r0) (.seq (.seq (.reg 128 5 laws_eqIntS.r1) (.cond (.t 10) (.seq (.reg 448 1 laws_eqIntS.r2) (.ret)) (.skip))) (.seq (.seq (.reg 512 1 laws_eqIntS.r3) (.block 0 (.loop laws_eqIntS.b0))) (.seq (.reg 1664 1 laws_eqIntS.r8) (.ret)))) }
attribute [go_sem] laws_eqIntS.r0 laws_eqIntS.r1 laws_eqIntS.r2 laws_eqIntS.r3 laws_eqIntS.r4 laws_eqIntS.r5 laws_eqIntS.r6 laws_eqIntS.r7 laws_eqIntS.r8
theorem laws_eqIntS.ok : chkF prog F_laws_eqIntS 2 laws_eqIntS.fi = true := by kernel_rfl

/-! spec_l1Has -/
def spec_l1Has.r0 : List Ent := [
  E0 0 (some 4) none (.i (.mv (.k (.dat none (.bool false)))))]
def spec_l1Has.r1 : List Ent := [
  E0 0 (some 7) none (.i (.mv (.t 0))),
  E0 1 (some 8) none (.i (.len (.t 7))),
  E0 2 (some 9) none (.i (.mv (.k (I64 0))))]
def spec_l1Has.r2 : List Ent := [
  E0 0 (some 10) none (.i (.bin .lss (.t 9) (.t 8)))]
def spec_l1Has.r3 : List Ent := [
  E0 0 (some 11) none (.i (.iad 1 (.t 7) (.t 9))),
  E0 1 (some 12) none (.i (.load false false 1 (.t 11))),
  E0 2 (some 6) none (.i (.mv (.t 12)))]
def spec_l1Has.r4 : List Ent := [
  E0 0 (some 13) none (.i (.mv (.t 6))),
  E0 1 (some 14) none (.i (.mv (.t 1))),
  E0 2 (some 15) none (.i (.bin .eql (.t 13) (.t 14)))]
def spec_l1Has.r5 : List Ent := [
  E0 0 (some 4) none (.i (.mv (.k (.dat none (.bool true)))))]
def spec_l1Has.r6 : List Ent := [
  E0 0 (some 16) none (.i (.bin .add (.t 9) (.k (I64 1)))),
  E0 1 (some 9) none (.i (.mv (.t 16)))]
def spec_l1Has.b0 : KC := .seq (.reg 320 1 spec_l1Has.r2) (.seq (.cond (.t 10) (.skip) (.exit 0)) (.seq (.block 1 (.seq (.reg 384 3 spec_l1Has.r3) (.seq (.reg 576 3 spec_l1Has.r4) (.cond (.t 15) (.seq (.reg 768 1 spec_l1Has.r5) (.ret)) (.skip))))) (.reg 832 2 spec_l1Has.r6)))
def spec_l1Has.r7 : List Ent := [
  E0 0 (some 4) none (.i (.mv (.k (.dat none (.bool false)))))]
def spec_l1Has.fi : FI := { res := [.t 4], code := .seq (.reg 64 1 spec_l1Has.r0) (.seq (.seq (.reg 128 3 spec_l1Has.r1) (.block 0 (.loop spec_l1Has.b0))) (.seq (.reg 960 1 spec_l1Has.r7) (.ret))) }
attribute [go_sem] spec_l1Has.r0 spec_l1Has.r1 spec_l1Has.r2 spec_l1Has.r3 spec_l1Has.r4 spec_l1Has.r5 spec_l1Has.r6 spec_l1Has.r7
theorem spec_l1Has.ok : chkF prog F_spec_l1Has 2 spec_l1Has.fi = true := by kernel_rfl

/-! laws_markIntS -/
def laws_markIntS.r0 : List Ent := [
  E0 0 (some 4) none (.i (.mv (.k (I64 0))))]
def laws_markIntS.r1 : List Ent := [
  E0 0 (some 5) none (.i (.mv (.k (I64 0))))]
def laws_markIntS.r2 : List Ent := [
  E0 0 (some 6) none (.i (.mv (.t 5))),
  E0 1 (some 7) none (.i (.mv (.t 0))),
  E0 2 (some 8) none (.i (.len (.t 7))),
  E0 3 (some 9) none (.i (.bin .lss (.t 6) (.t 8)))]
def laws_markIntS.r3 : List Ent := [
  E0 0 (some 12) none (.i (.mv (.t 0))),
  E0 1 (some 13) none (.i (.mv (.t 5))),
  E0 2 (some 14) none (.i (.mv (.t 1))),
  E0 3 (some 15) none (.i (.iad 1 (.t 12) (.t 13))),
  E0 4 none none (.i (.store 1 (.t 15) (.t 14)))]
def laws_markIntS.r4 : List Ent := [
  E0 0 (some 16) none (.i (.mv (.t 1))),
  E0 1 (some 17) none (.i (.bin .add (.t 16) (.k (I64 1)))),
  E0 2 (some 1) none (.i (.mv (.t 17)))]
def laws_markIntS.r5 : List Ent := [
  E0 0 (some 10) none (.i (.mv (.t 5))),
  E0 1 (some 11) none (.i (.bin .add (.t 10) (.k (I64 1)))),
  E0 2 (some 5) none (.i (.mv (.t 11)))]
def laws_markIntS.b0 : KC := .seq (.seq (.reg 192 4 laws_markIntS.r2) (.cond (.t 9) (.skip) (.exit 0))) (.seq (.block 1 (.seq (.reg 448 5 laws_markIntS.r3) (.reg 768 3 laws_markIntS.r4))) (.reg 960 3 laws_markIntS.r5))
def laws_markIntS.r6 : List Ent := [
  E0 0 (some 18) none (.i (.mv (.t 1))),
  E0 1 (some 4) none (.i (.mv (.t 18)))]
def laws_markIntS.fi : FI := { res := [.t 4], code := .seq (.reg 64 1 laws_markIntS.r0) (.seq (.seq (.reg 128 1 laws_markIntS.r1) (.block 0 (.loop laws_markIntS.b0))) (.seq (.reg 1152 2 laws_markIntS.r6) (.ret))) }
attribute [go_sem] laws_markIntS.r0 laws_markIntS.r1 laws_markIntS.r2 laws_markIntS.r3 laws_markIntS.r4 laws_markIntS.r5 laws_markIntS.r6
theorem laws_markIntS.ok : chkF prog F_laws_markIntS 2 laws_markIntS.fi = true := by kernel_rfl

/-! laws_heldIntS -/
def laws_heldIntS.r0 : List Ent := [
  E0 0 (some 4) none (.i (.mv (.k (I64 0))))]
def laws_heldIntS.r1 : List Ent := [
  E0 0 (some 5) none (.i (.mv (.k (I64 0))))]
def laws_heldIntS.r2 : List Ent := [
  E0 0 (some 6) none (.i (.mv (.t 5))),
  E0 1 (some 7) none (.i (.mv (.t 0))),
  E0 2 (some 8) none (.i (.len (.t 7))),
  E0 3 (some 9) none (.i (.bin .lss (.t 6) (.t 8)))]
def laws_heldIntS.r3 : List Ent := [
  E0 0 (some 12) none (.i (.mv (.t 0))),
  E0 1 (some 13) none (.i (.mv (.t 5))),
  E0 2 (some 14) none (.i (.iad 1 (.t 12) (.t 13))),
  E0 3 (some 15) none (.i (.load false false 1 (.t 14))),
  E0 4 (some 16) none (.i (.mv (.t 1))),
  E0 5 (some 17) none (.i (.bin .neq (.t 15) (.t 16)))]
def laws_heldIntS.r4 : List Ent := [
  E0 0 (some 4) none (.i (.mv (.k (I64 (-1)))))]
def laws_heldIntS.r5 : List Ent := [
  E0 0 (some 18) none (.i (.mv (.t 1))),
  E0 1 (some 19) none (.i (.bin .add (.t 18) (.k (I64 1)))),
  E0 2 (some 1) none (.i (.mv (.t 19)))]
def laws_heldIntS.r6 : List Ent := [
  E0 0 (some 10) none (.i (.mv (.t 5))),
  E0 1 (some 11) none (.i (.bin .add (.t 10) (.k (I64 1)))),
  E0 2 (some 5) none (.i (.mv (.t 11)))]
def laws_heldIntS.b0 : KC := .seq (.seq (.reg 192 4 laws_heldIntS.r2) (.cond (.t 9) (.skip) (.exit 0))) (.seq (.block 1 (.seq (.seq (.reg 448 6 laws_heldIntS.r3) (.cond (.t 17) (.seq (.reg 832 1 laws_heldIntS.r4) (.ret)) (.skip))) (.reg 896 3 laws_heldIntS.r5))) (.reg 1088 3 laws_heldIntS.r6))
def laws_heldIntS.r7 : List Ent := [
  E0 0 (some 20) none (.i (.mv (.t 1))),
  E0 1 (some 4) none (.i (.mv (.t 20)))]
def laws_heldIntS.fi : FI := { res := [.t 4], code := .seq (.reg 64 1 laws_heldIntS.r0) (.seq (.seq (.reg 128 1 laws_heldIntS.r1) (.block 0 (.loop laws_heldIntS.b0))) (.seq (.reg 1280 2 laws_heldIntS.r7) (.ret))) }
attribute [go_sem] laws_heldIntS.r0 laws_heldIntS.r1 laws_heldIntS.r2 laws_heldIntS.r3 laws_heldIntS.r4 laws_heldIntS.r5 laws_heldIntS.r6 laws_heldIntS.r7
theorem laws_heldIntS.ok : chkF prog F_laws_heldIntS 2 laws_heldIntS.fi = true := by kernel_rfl

/-! laws_szArcS -/
def laws_szArcS.r0 : List Ent := [
  E0 0 (some 4) none (.i (.mv (.k (I64 0))))]
def laws_szArcS.r1 : List Ent := [
  E0 0 (some 5) none (.i (.mv (.t 1))),
  E0 1 (some 6) none (.i (.mv (.t 0))),
  E0 2 (some 7) none (.i (.len (.t 6))),
  E0 3 (some 8) none (.i (.bin .sub (.t 5) (.t 7))),
  E0 4 (some 1) none (.i (.mv (.t 8)))]
def laws_szArcS.r2 : List Ent := [
  E0 0 (some 9) none (.i (.mv (.t 1))),
  E0 1 (some 10) none (.i (.bin .lss (.t 9) (.k (I64 0))))]
def laws_szArcS.r3 : List Ent := [
  E0 0 (some 4) none (.i (.mv (.k (I64 (-1)))))]
def laws_szArcS.r4 : List Ent := [
  E0 0 (some 11) none (.i (.mv (.t 1))),
  E0 1 (some 4) none (.i (.mv (.t 11)))]
def laws_szArcS.fi : FI := { res := [.t 4], code := .seq (.reg 64 1 laws_szArcS.r0) (.seq (.reg 128 5 laws_szArcS.r1) (.seq (.seq (.reg 448 2 laws_szArcS.r2) (.cond (.t 10) (.seq (.reg 576 1 laws_szArcS.r3) (.ret)) (.skip))) (.seq (.reg 640 2 laws_szArcS.r4) (.ret)))) }
attribute [go_sem] laws_szArcS.r0 laws_szArcS.r1 laws_szArcS.r2 laws_szArcS.r3 laws_szArcS.r4
theorem laws_szArcS.ok : chkF prog F_laws_szArcS 2 laws_szArcS.fi = true := by kernel_rfl

/-! spec_GoodArcs -/
def spec_GoodArcs.r0 : List Ent := [
  E0 0 (some 4) none (.i (.mv (.k (.dat none (.bool false)))))]
def spec_GoodArcs.r1 : List Ent := [
  E0 0 (some 7) none (.i (.mv (.t 1))),
  E0 1 (some 8) none (.i (.len (.t 7))),
  E0 2 (some 9) none (.i (.mv (.k (I64 0))))]
def spec_GoodArcs.r2 : List Ent := [
  E0 0 (some 10) none (.i (.bin .lss (.t 9) (.t 8)))]
def spec_GoodArcs.r3 : List Ent := [
  E0 0 (some 11) none (.i (.mv (.t 9))),
  E0 1 (some 12) none (.i (.iad 2 (.t 7) (.t 9))),
  E0 2 (some 13) none (.i (.load false true 2 (.t 12))),
  E0 3 (some 6) none (.i (.box (.k (.agg [.dat none (.int .i64 0), .dat none (.int .i64 0)])))),
  E0 4 (some 5) none (.i (.mv (.t 11))),
  E0 5 none none (.i (.store 2 (.t 6) (.t 13)))]
def spec_GoodArcs.r4 : List Ent := [
  E0 0 (some 14) none (.i (.fad 0 (.t 6))),
  E0 1 (some 15) none (.i (.load false false 1 (.t 14))),
  E0 2 (some 16) none (.i (.mv (.t 0))),
  E0 3 (some 17) none (.i (.bin .sub (.t 16) (.k (I64 1)))),
  E0 4 (some 18) none (.call F_spec_l1In false (roA [.t 15, .k (I64 0), .t 17])),
  E0 5 (some 19) none (.i (.un .not (.t 18))),
  E0 6 (some 20) none (.i (.mv (.t 19))),
  E0 7 (some 21) (some (20, false)) (.i (.fad 1 (.t 6))),
  E0 8 (some 22) (some (20, false)) (.i (.load false false 1 (.t 21))),
  E0 9 (some 23) (some (20, false)) (.i (.mv (.t 0))),
  E0 10 (some 24) (some (20, false)) (.i (.bin .sub (.t 23) (.k (I64 1)))),
  E0 11 (some 25) (some (20, false)) (.call F_spec_l1In false (roA [.t 22, .k (I64 0), .t 24])),
  E0 12 (some 26) (some (20, false)) (.i (.un .not (.t 25))),
  E0 13 (some 27) none (.i (.pick (.t 20) (.k (.dat none (.bool true))) (.t 26)))]
def spec_GoodArcs.r5 : List Ent := [
  E0 0 (some 4) none (.i (.mv (.k (.dat none (.bool false)))))]
def spec_GoodArcs.r6 : List Ent := [
  E0 0 (some 28) none (.i (.mv (.t 5))),
  E0 1 (some 29) none (.i (.bin .gtr (.t 28) (.k (I64 0)))),
  E0 2 (some 30) none (.i (.mv (.t 29))),
  E0 3 (some 31) (some (30, true)) (.i (.mv (.t 1))),
  E0 4 (some 32) (some (30, true)) (.i (.mv (.t 5))),
  E0 5 (some 33) (some (30, true)) (.i (.bin .sub (.t 32) (.k (I64 1)))),
  ER 6 (some 34) (some (30, true)) (.iad 2 (.t 31) (.t 33)),
  ER 7 (some 35) (some (30, true)) (.fad 0 (.t 34)),
  ER 8 (some 36) (some (30, true)) (.load false false 1 (.t 35)),
  ER 9 (some 37) (some (30, true)) (.fad 0 (.t 6)),
  ER 10 (some 38) (some (30, true)) (.load false false 1 (.t 37)),
  E0 11 (some 39) (some (30, true)) (.i (.bin .gtr (.t 36) (.t 38))),
  E0 12 (some 40) (some (30, true)) (.i (.mv (.t 39))),
  E0 13 (some 41) (some (40, false)) (.i (.mv (.t 1))),
  E0 14 (some 42) (some (40, false)) (.i (.mv (.t 5))),
  E0 15 (some 43) (some (40, false)) (.i (.bin .sub (.t 42) (.k (I64 1)))),
  ER 16 (some 44) (some (40, false)) (.iad 2 (.t 41) (.t 43)),
  ER 17 (some 45) (some (40, false)) (.fad 0 (.t 44)),
  ER 18 (some 46) (some (40, false)) (.load false false 1 (.t 45)),
  ER 19 (some 47) (some (40, false)) (.fad 0 (.t 6)),
  ER 20 (some 48) (some (40, false)) (.load false false 1 (.t 47)),
  E0 21 (some 49) (some (40, false)) (.i (.bin .eql (.t 46) (.t 48))),
  E0 22 (some 50) (some (40, false)) (.i (.mv (.t 49))),
  E0 23 (some 51) (some (50, true)) (.i (.mv (.t 1))),
  E0 24 (some 52) (some (50, true)) (.i (.mv (.t 5))),
  E0 25 (some 53) (some (50, true)) (.i (.bin .sub (.t 52) (.k (I64 1)))),
  ER 26 (some 54) (some (50, true)) (.iad 2 (.t 51) (.t 53)),
  ER 27 (some 55) (some (50, true)) (.fad 1 (.t 54)),
  ER 28 (some 56) (some (50, true)) (.load false false 1 (.t 55)),
  ER 29 (some 57) (some (50, true)) (.fad 1 (.t 6)),
  ER 30 (some 58) (some (50, true)) (.load false false 1 (.t 57)),
  E0 31 (some 59) (some (50, true)) (.i (.bin .geq (.t 56) (.t 58))),
  E0 32 (some 60) (some (40, false)) (.i (.pick (.t 50) (.t 59) (.k (.dat none (.bool false))))),
  E0 33 (some 61) (some (30, true)) (.i (.pick (.t 40) (.k (.dat none (.bool true))) (.t 60))),
  E0 34 (some 62) none (.i (.pick (.t 30) (.t 61) (.k (.dat none (.bool false)))))]
def spec_GoodArcs.r7 : List Ent := [
  E0 0 (some 4) none (.i (.mv (.k (.dat none (.bool false)))))]
def spec_GoodArcs.r8 : List Ent := [
  E0 0 (some 63) none (.i (.bin .add (.t 9) (.k (I64 1)))),
  E0 1 (some 9) none (.i (.mv (.t 63)))]
def spec_GoodArcs.b0 : KC := .seq (.reg 320 1 spec_GoodArcs.r2) (.seq (.cond (.t 10) (.skip) (.exit 0)) (.seq (.block 1 (.seq (.reg 384 6 spec_GoodArcs.r3) (.seq (.seq (.reg 768 14 spec_GoodArcs.r4) (.cond (.t 27) (.seq (.reg 1664 1 spec_GoodArcs.r5) (.ret)) (.skip))) (.seq (.reg 1728 35 spec_GoodArcs.r6) (.cond (.t 62) (.seq (.reg 3968 1 spec_GoodArcs.r7) (.ret)) (.skip)))))) (.reg 4032 2 spec_GoodArcs.r8)))
def spec_GoodArcs.r9 : List Ent := [
  E0 0 (some 64) none (.i (.mv (.t 0))),
  E0 1 (some 65) none (.call F_spec_l1In false (roA [.t 64, .k (I64 1), .k (I64 6)])),
  E0 2 (some 66) none (.i (.mv (.t 65))),
  E0 3 (some 67) (some (66, true)) (.i (.mv (.t 1))),
  E0 4 (some 68) (some (66, true)) (.i (.len (.t 67))),
  E0 5 (some 69) (some (66, true)) (.i (.bin .leq (.t 68) (.k (I64 30)))),
  E0 6 (some 70) none (.i (.pick (.t 66) (.t 69) (.k (.dat none (.bool false))))),
  E0 7 (some 4) none (.i (.mv (.t 70)))]
def spec_GoodArcs.fi : FI := { res := [.t 4], code := .seq (.reg 64 1 spec_GoodArcs.r0) (.seq (.seq (.reg 128 3 spec_GoodArcs.r1) (.block 0 (.loop spec_GoodArcs.b0))) (.seq (.reg 4160 8 spec_GoodArcs.r9) (.ret))) }
attribute [go_sem] spec_GoodArcs.r0 spec_GoodArcs.r1 spec_GoodArcs.r2 spec_GoodArcs.r3 spec_GoodArcs.r4 spec_GoodArcs.r5 spec_GoodArcs.r6 spec_GoodArcs.r7 spec_GoodArcs.r8 spec_GoodArcs.r9
theorem spec_GoodArcs.ok : chkF prog F_spec_GoodArcs 2 spec_GoodArcs.fi = true := by kernel_rfl

/-! spec_l1Put -/
def spec_l1Put.r0 : List Ent := [
  E0 0 (some 4) none (.i (.mv (.k (.nil 1))))]
def spec_l1Put.r1 : List Ent := [
  E0 0 (some 5) none (.i (.mv (.k (I64 0))))]
def spec_l1Put.r2 : List Ent := [
  E0 0 (some 7) none (.i (.mv (.t 5))),
  E0 1 (some 8) none (.i (.mv (.t 0))),
  E0 2 (some 9) none (.i (.len (.t 8))),
  E0 3 (some 10) none (.i (.bin .lss (.t 7) (.t 9))),
  E0 4 (some 11) none (.i (.mv (.t 10))),
  E0 5 (some 12) (some (11, true)) (.i (.mv (.t 0))),
  E0 6 (some 13) (some (11, true)) (.i (.mv (.t 5))),
  E0 7 (some 14) (some (11, true)) (.i (.iad 1 (.t 12) (.t 13))),
  E0 8 (some 15) (some (11, true)) (.i (.load false false 1 (.t 14))),
  E0 9 (some 16) (some (11, true)) (.i (.mv (.t 1))),
  E0 10 (some 17) (some (11, true)) (.i (.bin .lss (.t 15) (.t 16))),
  E0 11 (some 18) none (.i (.pick (.t 11) (.t 17) (.k (.dat none (.bool false)))))]
def spec_l1Put.r3 : List Ent := [
  E0 0 (some 19) none (.i (.mv (.t 5))),
  E0 1 (some 20) none (.i (.bin .add (.t 19) (.k (I64 1)))),
  E0 2 (some 5) none (.i (.mv (.t 20)))]
def spec_l1Put.b0 : KC := .seq (.seq (.reg 192 12 spec_l1Put.r2) (.cond (.t 18) (.skip) (.exit 0))) (.block 1 (.reg 960 3 spec_l1Put.r3))
def spec_l1Put.r4 : List Ent := [
  E0 0 (some 21) none (.i (.mv (.t 5))),
  E0 1 (some 22) none (.i (.mv (.t 0))),
  E0 2 (some 23) none (.i (.len (.t 22))),
  E0 3 (some 24) none (.i (.bin .lss (.t 21) (.t 23))),
  E0 4 (some 25) none (.i (.mv (.t 24))),
  E0 5 (some 26) (some (25, true)) (.i (.mv (.t 0))),
  E0 6 (some 27) (some (25, true)) (.i (.mv (.t 5))),
  E0 7 (some 28) (some (25, true)) (.i (.iad 1 (.t 26) (.t 27))),
  E0 8 (some 29) (some (25, true)) (.i (.load false false 1 (.t 28))),
  E0 9 (some 30) (some (25, true)) (.i (.mv (.t 1))),
  E0 10 (some 31) (some (25, true)) (.i (.bin .eql (.t 29) (.t 30))),
  E0 11 (some 32) none (.i (.pick (.t 25) (.t 31) (.k (.dat none (.bool false)))))]
def spec_l1Put.r5 : List Ent := [
  E0 0 (some 33) none (.i (.mv (.t 0))),
  E0 1 (some 4) none (.i (.mv (.t 33)))]
def spec_l1Put.r6 : List Ent := [
  E0 0 (some 34) none (.i (.bsl false 1 [])),
  E0 1 (some 35) none (.i (.mv (.t 0))),
  E0 2 (some 36) none (.i (.mv (.t 5))),
  E0 3 (some 37) none (.i (.slc 1 (.t 35) (none) (some (.t 36)))),
  E0 4 (some 38) none (.i (.app 1 8 (.t 34) (.t 37))),
  E0 5 (some 6) none (.i (.mv (.t 38)))]
def spec_l1Put.r7 : List Ent := [
  E0 0 (some 39) none (.i (.mv (.t 6))),
  E0 1 (some 40) none (.i (.mv (.t 1))),
  E0 2 (some 41) none (.i (.bsl true 1 [.t 40])),
  E0 3 (some 42) none (.i (.app 1 8 (.t 39) (.t 41))),
  E0 4 (some 6) none (.i (.mv (.t 42)))]
def spec_l1Put.r8 : List Ent := [
  E0 0 (some 43) none (.i (.mv (.t 6))),
  E0 1 (some 44) none (.i (.mv (.t 0))),
  E0 2 (some 45) none (.i (.mv (.t 5))),
  E0 3 (some 46) none (.i (.slc 1 (.t 44) (some (.t 45)) (none))),
  E0 4 (some 47) none (.i (.app 1 8 (.t 43) (.t 46))),
  E0 5 (some 4) none (.i (.mv (.t 47)))]
def spec_l1Put.fi : FI := { res := [.t 4], code := .seq (.reg 64 1 spec_l1Put.r0) (.seq (.reg 128 1 spec_l1Put.r1) (.seq (.block 0 (.loop spec_l1Put.b0)) (.seq (.seq (.reg 1152 12 spec_l1Put.r4) (.cond (.t 32) (.seq (.reg 1920 2 spec_l1Put.r5) (.fz 4 (.ret))) (.skip))) (.seq (.reg 2048 6 spec_l1Put.r6) (.seq (.reg 2432 5 spec_l1Put.r7) (.seq (.reg 2752 6 spec_l1Put.r8) (.fz 4 (.ret)))))))) }
attribute [go_sem] spec_l1Put.r0 spec_l1Put.r1 spec_l1Put.r2 spec_l1Put.r3 spec_l1Put.r4 spec_l1Put.r5 spec_l1Put.r6 spec_l1Put.r7 spec_l1Put.r8
theorem spec_l1Put.ok : chkF prog F_spec_l1Put 2 spec_l1Put.fi = true := by kernel_rfl

/-! spec_l12Reach -/
def spec_l12Reach.r0 : List Ent := [
  E0 0 (some 6) none (.i (.mv (.k (.nil 1))))]
def spec_l12Reach.r1 : List Ent := [
  E0 0 (some 11) none (.i (.mv (.t 1))),
  E0 1 (some 12) none (.i (.bsl false 1 [.t 11])),
  E0 2 (some 7) none (.i (.mv (.t 12)))]
def spec_l12Reach.r2 : List Ent := [
  E0 0 (some 13) none (.i (.mv (.t 2))),
  E0 1 (some 14) none (.i (.bin .gtr (.t 13) (.k (I64 0))))]
def spec_l12Reach.r3 : List Ent := [
  E0 0 (some 17) none (.i (.mv (.t 7))),
  E0 1 (some 8) none (.i (.mv (.t 17)))]
def spec_l12Reach.r4 : List Ent := [
  E0 0 (some 18) none (.i (.mv (.t 0))),
  E0 1 (some 19) none (.i (.len (.t 18))),
  E0 2 (some 20) none (.i (.mv (.k (I64 0))))]
def spec_l12Reach.r5 : List Ent := [
  E0 0 (some 21) none (.i (.bin .lss (.t 20) (.t 19)))]
def spec_l12Reach.r6 : List Ent := [
  E0 0 (some 22) none (.i (.iad 2 (.t 18) (.t 20))),
  E0 1 (some 23) none (.i (.load false true 2 (.t 22))),
  E0 2 (some 10) none (.i (.box (.k (.agg [.dat none (.int .i64 0), .dat none (.int .i64 0)])))),
  E0 3 none none (.i (.store 2 (.t 10) (.t 23)))]
def spec_l12Reach.r7 : List Ent := [
  E0 0 (some 24) none (.i (.mv (.t 7))),
  E0 1 (some 25) none (.i (.fad 0 (.t 10))),
  E0 2 (some 26) none (.i (.load false false 1 (.t 25))),
  E0 3 (some 27) none (.call F_spec_l1Has false (roA [.t 24, .t 26]))]
def spec_l12Reach.r8 : List Ent := [
  E0 0 (some 28) none (.i (.mv (.t 8))),
  E0 1 (some 29) none (.i (.fad 1 (.t 10))),
  E0 2 (some 30) none (.i (.load false false 1 (.t 29))),
  E0 3 (some 31) none (.call F_spec_l1Put true (roA [.t 28, .t 30])),
  E0 4 (some 8) none (.i (.mv (.t 31)))]
def spec_l12Reach.r9 : List Ent := [
  E0 0 (some 32) none (.i (.bin .add (.t 20) (.k (I64 1)))),
  E0 1 (some 20) none (.i (.mv (.t 32)))]
def spec_l12Reach.b0 : KC := .seq (.reg 768 1 spec_l12Reach.r5) (.seq (.cond (.t 21) (.skip) (.exit 2)) (.seq (.block 3 (.seq (.reg 832 4 spec_l12Reach.r6) (.seq (.reg 1088 4 spec_l12Reach.r7) (.cond (.t 27) (.reg 1344 5 spec_l12Reach.r8) (.skip))))) (.reg 1664 2 spec_l12Reach.r9)))
def spec_l12Reach.r10 : List Ent := [
  E0 0 (some 33) none (.i (.mv (.t 8))),
  E0 1 (some 7) none (.i (.mv (.t 33)))]
def spec_l12Reach.r11 : List Ent := [
  E0 0 (some 15) none (.i (.mv (.t 2))),
  E0 1 (some 16) none (.i (.bin .sub (.t 15) (.k (I64 1)))),
  E0 2 (some 2) none (.i (.mv (.t 16)))]
def spec_l12Reach.b1 : KC := .seq (.seq (.reg 320 2 spec_l12Reach.r2) (.cond (.t 14) (.skip) (.exit 0))) (.seq (.block 1 (.seq (.reg 448 2 spec_l12Reach.r3) (.seq (.seq (.reg 576 3 spec_l12Reach.r4) (.block 2 (.loop spec_l12Reach.b0))) (.reg 1792 2 spec_l12Reach.r10)))) (.reg 1920 3 spec_l12Reach.r11))
def spec_l12Reach.r12 : List Ent := [
  E0 0 (some 34) none (.i (.mv (.t 7))),
  E0 1 (some 6) none (.i (.mv (.t 34)))]
def spec_l12Reach.fi : FI := { res := [.t 6], code := .seq (.reg 64 1 spec_l12Reach.r0) (.seq (.reg 128 3 spec_l12Reach.r1) (.seq (.fz 7 (.block 0 (.loop spec_l12Reach.b1))) (.seq (.reg 2112 2 spec_l12Reach.r12) (.fz 6 (.ret))))) }
attribute [go_sem] spec_l12Reach.r0 spec_l12Reach.r1 spec_l12Reach.r2 spec_l12Reach.r3 spec_l12Reach.r4 spec_l12Reach.r5 spec_l12Reach.r6 spec_l12Reach.r7 spec_l12Reach.r8 spec_l12Reach.r9 spec_l12Reach.r10 spec_l12Reach.r11 spec_l12Reach.r12
theorem spec_l12Reach.ok : chkF prog F_spec_l12Reach 3 spec_l12Reach.fi = true := by kernel_rfl

/-! laws_toArc -/
def laws_toArc.r0 : List Ent := [
  E0 0 (some 1) none (.i (.box (.t 0))),
  E0 1 (some 2) none (.i (.box (.k (.agg [.dat none (.int .i64 0), .dat none (.int .i64 0)]))))]
def laws_toArc.r1 : List Ent := [
  E0 0 (some 3) none (.i (.box (.k (.agg [.dat none (.int .i64 0), .dat none (.int .i64 0)]))))]
def laws_toArc.r2 : List Ent := [
  E0 0 (some 4) none (.i (.fad 0 (.t 1))),
  E0 1 (some 5) none (.i (.load false false 1 (.t 4))),
  E0 2 (some 6) none (.i (.fad 0 (.t 3))),
  E0 3 none none (.i (.store 1 (.t 6) (.t 5)))]
def laws_toArc.r3 : List Ent := [
  E0 0 (some 7) none (.i (.fad 1 (.t 1))),
  E0 1 (some 8) none (.i (.load false false 1 (.t 7))),
  E0 2 (some 9) none (.i (.fad 1 (.t 3))),
  E0 3 none none (.i (.store 1 (.t 9) (.t 8)))]
def laws_toArc.r4 : List Ent := [
  E0 0 (some 10) none (.i (.load false true 2 (.t 3))),
  E0 1 none none (.i (.store 2 (.t 2) (.t 10)))]
def laws_toArc.fi : FI := { res := [.c 2 true 2], code := .seq (.reg 64 2 laws_toArc.r0) (.seq (.reg 192 1 laws_toArc.r1) (.seq (.reg 256 4 laws_toArc.r2) (.seq (.reg 512 4 laws_toArc.r3) (.seq (.reg 768 2 laws_toArc.r4) (.ret))))) }
attribute [go_sem] laws_toArc.r0 laws_toArc.r1 laws_toArc.r2 laws_toArc.r3 laws_toArc.r4
theorem laws_toArc.ok : chkF prog F_laws_toArc 1 laws_toArc.fi = true := by kernel_rfl

/-! laws_toArcS -/
def laws_toArcS.r0 : List Ent := [
  E0 0 (some 2) none (.i (.mv (.k (.nil 2))))]
def laws_toArcS.r1 : List Ent := [
  E0 0 (some 5) none (.i (.mv (.t 0))),
  E0 1 (some 6) none (.i (.len (.t 5))),
  E0 2 (some 7) none (.i (.mks 2 16 (.agg [.int .i64 0, .int .i64 0]) (.t 6) (.t 6))),
  E0 3 (some 3) none (.i (.mv (.t 7)))]
def laws_toArcS.r2 : List Ent := [
  E0 0 (some 4) none (.i (.mv (.k (I64 0))))]
def laws_toArcS.r3 : List Ent := [
  E0 0 (some 8) none (.i (.mv (.t 4))),
  E0 1 (some 9) none (.i (.mv (.t 0))),
  E0 2 (some 10) none (.i (.len (.t 9))),
  E0 3 (some 11) none (.i (.bin .lss (.t 8) (.t 10)))]
def laws_toArcS.r4 : List Ent := [
  E0 0 (some 14) none (.i (.mv (.t 3))),
  E0 1 (some 15) none (.i (.mv (.t 4))),
  E0 2 (some 16) none (.i (.mv (.t 0))),
  E0 3 (some 17) none (.i (.mv (.t 4))),
  E0 4 (some 18) none (.i (.iad 2 (.t 16) (.t 17))),
  E0 5 (some 19) none (.i (.load false true 2 (.t 18))),
  E0 6 (some 20) none (.call F_laws_toArc false (roA [.t 19])),
  E0 7 (some 21) none (.i (.iad 2 (.t 14) (.t 15))),
  E0 8 none none (.i (.store 2 (.t 21) (.t 20)))]
def laws_toArcS.r5 : List Ent := [
  E0 0 (some 12) none (.i (.mv (.t 4))),
  E0 1 (some 13) none (.i (.bin .add (.t 12) (.k (I64 1)))),
  E0 2 (some 4) none (.i (.mv (.t 13)))]
def laws_toArcS.b0 : KC := .seq (.seq (.reg 448 4 laws_toArcS.r3) (.cond (.t 11) (.skip) (.exit 0))) (.seq (.block 1 (.reg 704 9 laws_toArcS.r4)) (.reg 1280 3 laws_toArcS.r5))
def laws_toArcS.r6 : List Ent := [
  E0 0 (some 22) none (.i (.mv (.t 3))),
  E0 1 (some 2) none (.i (.mv (.t 22)))]
def laws_toArcS.fi : FI := { res := [.t 2], code := .seq (.reg 64 1 laws_toArcS.r0) (.seq (.reg 128 4 laws_toArcS.r1) (.seq (.seq (.reg 384 1 laws_toArcS.r2) (.block 0 (.loop laws_toArcS.b0))) (.seq (.reg 1472 2 laws_toArcS.r6) (.ret)))) }
attribute [go_sem] laws_toArcS.r0 laws_toArcS.r1 laws_toArcS.r2 laws_toArcS.r3 laws_toArcS.r4 laws_toArcS.r5 laws_toArcS.r6
theorem laws_toArcS.ok : chkF prog F_laws_toArcS 1 laws_toArcS.fi = true := by kernel_rfl

/-! impl_isSpots -/
def impl_isSpots.r0 : List Ent := [
  E0 0 (some 2) none (.i (.mv (.k (.dat none (.bool false)))))]
def impl_isSpots.r1 : List Ent := [
  E0 0 (some 3) none (.i (.mv (.t 0))),
  E0 1 (some 4) none (.call F_impl_in false (roA [.t 3, .k (I64 1), .k (I64 6)])),
  E0 2 (some 2) none (.i (.mv (.t 4)))]
def impl_isSpots.fi : FI := { res := [.t 2], code := .seq (.reg 64 1 impl_isSpots.r0) (.seq (.reg 128 3 impl_isSpots.r1) (.ret)) }
attribute [go_sem] impl_isSpots.r0 impl_isSpots.r1
theorem impl_isSpots.ok : chkF prog F_impl_isSpots 1 impl_isSpots.fi = true := by kernel_rfl

/-! impl_GoodArcs -/
def impl_GoodArcs.r0 : List Ent := [
  E0 0 (some 4) none (.i (.mv (.k (.dat none (.bool false)))))]
def impl_GoodArcs.r1 : List Ent := [
  E0 0 (some 8) none (.i (.mv (.t 1))),
  E0 1 (some 9) none (.i (.len (.t 8))),
  E0 2 (some 10) none (.i (.mv (.k (I64 0))))]
def impl_GoodArcs.r2 : List Ent := [
  E0 0 (some 11) none (.i (.bin .lss (.t 10) (.t 9)))]
def impl_GoodArcs.r3 : List Ent := [
  E0 0 (some 12) none (.i (.mv (.t 10))),
  E0 1 (some 13) none (.i (.iad 2 (.t 8) (.t 10))),
  E0 2 (some 14) none (.i (.load false true 2 (.t 13))),
  E0 3 (some 6) none (.i (.box (.k (.agg [.dat none (.int .i64 0), .dat none (.int .i64 0)])))),
  E0 4 (some 5) none (.i (.mv (.t 12))),
  E0 5 none none (.i (.store 2 (.t 6) (.t 14)))]
def impl_GoodArcs.r4 : List Ent := [
  E0 0 (some 15) none (.i (.fad 0 (.t 6))),
  E0 1 (some 16) none (.i (.load false false 1 (.t 15))),
  E0 2 (some 17) none (.i (.mv (.t 0))),
  E0 3 (some 18) none (.i (.bin .sub (.t 17) (.k (I64 1)))),
  E0 4 (some 19) none (.call F_impl_in false (roA [.t 16, .k (I64 0), .t 18])),
  E0 5 (some 20) none (.i (.un .not (.t 19))),
  E0 6 (some 21) none (.i (.mv (.t 20))),
  E0 7 (some 22) (some (21, false)) (.i (.fad 1 (.t 6))),
  E0 8 (some 23) (some (21, false)) (.i (.load false false 1 (.t 22))),
  E0 9 (some 24) (some (21, false)) (.i (.mv (.t 0))),
  E0 10 (some 25) (some (21, false)) (.i (.bin .sub (.t 24) (.k (I64 1)))),
  E0 11 (some 26) (some (21, false)) (.call F_impl_in false (roA [.t 23, .k (I64 0), .t 25])),
  E0 12 (some 27) (some (21, false)) (.i (.un .not (.t 26))),
  E0 13 (some 28) none (.i (.pick (.t 21) (.k (.dat none (.bool true))) (.t 27)))]
def impl_GoodArcs.r5 : List Ent := [
  E0 0 (some 4) none (.i (.mv (.k (.dat none (.bool false)))))]
def impl_GoodArcs.r6 : List Ent := [
  E0 0 (some 29) none (.i (.mv (.t 1))),
  E0 1 (some 30) none (.i (.mv (.t 5))),
  E0 2 (some 31) none (.i (.bin .sub (.t 30) (.k (I64 1)))),
  E0 3 (some 32) none (.i (.mnx true (.k (I64 0)) (.t 31))),
  E0 4 (some 33) none (.i (.iad 2 (.t 29) (.t 32))),
  E0 5 (some 34) none (.i (.load false true 2 (.t 33))),
  E0 6 (some 7) none (.i (.box (.k (.agg [.dat none (.int .i64 0), .dat none (.int .i64 0)])))),
  E0 7 none none (.i (.store 2 (.t 7) (.t 34)))]
def impl_GoodArcs.r7 : List Ent := [
  E0 0 (some 35) none (.i (.mv (.t 5))),
  E0 1 (some 36) none (.i (.bin .gtr (.t 35) (.k (I64 0)))),
  E0 2 (some 37) none (.i (.mv (.t 36))),
  E0 3 (some 38) (some (37, true)) (.i (.fad 0 (.t 7))),
  E0 4 (some 39) (some (37, true)) (.i (.load false false 1 (.t 38))),
  E0 5 (some 40) (some (37, true)) (.i (.fad 0 (.t 6))),
  E0 6 (some 41) (some (37, true)) (.i (.load false false 1 (.t 40))),
  E0 7 (some 42) (some (37, true)) (.i (.bin .gtr (.t 39) (.t 41))),
  E0 8 (some 43) (some (37, true)) (.i (.mv (.t 42))),
  E0 9 (some 44) (some (43, false)) (.i (.fad 0 (.t 7))),
  E0 10 (some 45) (some (43, false)) (.i (.load false false 1 (.t 44))),
  E0 11 (some 46) (some (43, false)) (.i (.fad 0 (.t 6))),
  E0 12 (some 47) (some (43, false)) (.i (.load false false 1 (.t 46))),
  E0 13 (some 48) (some (43, false)) (.i (.bin .eql (.t 45) (.t 47))),
  E0 14 (some 49) (some (43, false)) (.i (.mv (.t 48))),
  E0 15 (some 50) (some (49, true)) (.i (.fad 1 (.t 7))),
  E0 16 (some 51) (some (49, true)) (.i (.load false false 1 (.t 50))),
  E0 17 (some 52) (some (49, true)) (.i (.fad 1 (.t 6))),
  E0 18 (some 53) (some (49, true)) (.i (.load false false 1 (.t 52))),
  E0 19 (some 54) (some (49, true)) (.i (.bin .geq (.t 51) (.t 53))),
  E0 20 (some 55) (some (43, false)) (.i (.pick (.t 49) (.t 54) (.k (.dat none (.bool false))))),
  E0 21 (some 56) (some (37, true)) (.i (.pick (.t 43) (.k (.dat none (.bool true))) (.t 55))),
  E0 22 (some 57) none (.i (.pick (.t 37) (.t 56) (.k (.dat none (.bool false)))))]
def impl_GoodArcs.r8 : List Ent := [
  E0 0 (some 4) none (.i (.mv (.k (.dat none (.bool false)))))]
def impl_GoodArcs.r9 : List Ent := [
  E0 0 (some 58) none (.i (.bin .add (.t 10) (.k (I64 1)))),
  E0 1 (some 10) none (.i (.mv (.t 58)))]
def impl_GoodArcs.b0 : KC := .seq (.reg 320 1 impl_GoodArcs.r2) (.seq (.cond (.t 11) (.skip) (.exit 0)) (.seq (.block 1 (.seq (.reg 384 6 impl_GoodArcs.r3) (.seq (.seq (.reg 768 14 impl_GoodArcs.r4) (.cond (.t 28) (.seq (.reg 1664 1 impl_GoodArcs.r5) (.ret)) (.skip))) (.seq (.reg 1728 8 impl_GoodArcs.r6) (.seq (.reg 2240 23 impl_GoodArcs.r7) (.cond (.t 57) (.seq (.reg 3712 1 impl_GoodArcs.r8) (.ret)) (.skip))))))) (.reg 3776 2 impl_GoodArcs.r9)))
def impl_GoodArcs.r10 : List Ent := [
  E0 0 (some 59) none (.i (.mv (.t 0))),
  E0 1 (some 60) none (.call F_impl_isSpots false (roA [.t 59])),
  E0 2 (some 61) none (.i (.mv (.t 60))),
  E0 3 (some 62) (some (61, true)) (.i (.mv (.t 1))),
  E0 4 (some 63) (some (61, true)) (.i (.len (.t 62))),
  E0 5 (some 64) (some (61, true)) (.i (.bin .leq (.t 63) (.k (I64 30)))),
  E0 6 (some 65) none (.i (.pick (.t 61) (.t 64) (.k (.dat none (.bool false))))),
  E0 7 (some 4) none (.i (.mv (.t 65)))]
def impl_GoodArcs.fi : FI := { res := [.t 4], code := .seq (.reg 64 1 impl_GoodArcs.r0) (.seq (.seq (.reg 128 3 impl_GoodArcs.r1) (.block 0 (.loop impl_GoodArcs.b0))) (.seq (.reg 3904 8 impl_GoodArcs.r10) (.ret))) }
attribute [go_sem] impl_GoodArcs.r0 impl_GoodArcs.r1 impl_GoodArcs.r2 impl_GoodArcs.r3 impl_GoodArcs.r4 impl_GoodArcs.r5 impl_GoodArcs.r6 impl_GoodArcs.r7 impl_GoodArcs.r8 impl_GoodArcs.r9 impl_GoodArcs.r10
theorem impl_GoodArcs.ok : chkF prog F_impl_GoodArcs 2 impl_GoodArcs.fi = true := by kernel_rfl

/-! slices_Clone__sbool_bool -/
def slices_Clone__sbool_bool.r0 : List Ent := [
  E0 0 (some 2) none (.i (.mv (.k (.nil 1))))]
def slices_Clone__sbool_bool.r1 : List Ent := [
  E0 0 (some 3) none (.i (.mv (.t 0))),
  E0 1 (some 4) none (.i (.eqnil false (.t 3)))]
def slices_Clone__sbool_bool.r2 : List Ent := [
  E0 0 (some 2) none (.i (.mv (.k (.nil 1))))]
def slices_Clone__sbool_bool.r3 : List Ent := [
  E0 0 (some 5) none (.i (.bsl false 1 [])),
  E0 1 (some 6) none (.i (.mv (.t 0))),
  E0 2 (some 7) none (.i (.app 1 1 (.t 5) (.t 6))),
  E0 3 (some 2) none (.i (.mv (.t 7)))]
def slices_Clone__sbool_bool.fi : FI := { res := [.t 2], code := .seq (.reg 64 1 slices_Clone__sbool_bool.r0) (.seq (.seq (.reg 128 2 slices_Clone__sbool_bool.r1) (.cond (.t 4) (.seq (.reg 256 1 slices_Clone__sbool_bool.r2) (.ret)) (.skip))) (.seq (.reg 320 4 slices_Clone__sbool_bool.r3) (.ret))) }
attribute [go_sem] slices_Clone__sbool_bool.r0 slices_Clone__sbool_bool.r1 slices_Clone__sbool_bool.r2 slices_Clone__sbool_bool.r3
theorem slices_Clone__sbool_bool.ok : chkF prog F_slices_Clone__sbool_bool 1 slices_Clone__sbool_bool.fi = true := by kernel_rfl

/-! impl_within -/
def impl_within.r0 : List Ent := [
  E0 0 (some 8) none (.i (.mv (.k (.nil 1))))]
def impl_within.r1 : List Ent := [
  E0 0 (some 13) none (.i (.mv (.t 0))),
  E0 1 (some 14) none (.i (.mks 1 1 (.bool false) (.t 13) (.t 13))),
  E0 2 (some 9) none (.i (.mv (.t 14)))]
def impl_within.r2 : List Ent := [
  E0 0 (some 15) none (.i (.mv (.t 9))),
  E0 1 (some 16) none (.i (.mv (.t 2))),
  E0 2 (some 17) none (.i (.iad 1 (.t 15) (.t 16))),
  E0 3 none none (.i (.store 1 (.t 17) (.k (.dat none (.bool true)))))]
def impl_within.r3 : List Ent := [
  E0 0 (some 18) none (.i (.mv (.t 3))),
  E0 1 (some 19) none (.i (.mv (.k (I64 0))))]
def impl_within.r4 : List Ent := [
  E0 0 (some 20) none (.i (.bin .lss (.t 19) (.t 18)))]
def impl_within.r5 : List Ent := [
  E0 0 (some 21) none (.i (.mv (.t 9))),
  E0 1 (some 22) none (.call F_slices_Clone__sbool_bool false (roA [.t 21])),
  E0 2 (some 10) none (.i (.mv (.t 22)))]
def impl_within.r6 : List Ent := [
  E0 0 (some 23) none (.i (.mv (.t 1))),
  E0 1 (some 24) none (.i (.len (.t 23))),
  E0 2 (some 25) none (.i (.mv (.k (I64 0))))]
def impl_within.r7 : List Ent := [
  E0 0 (some 26) none (.i (.bin .lss (.t 25) (.t 24)))]
def impl_within.r8 : List Ent := [
  E0 0 (some 27) none (.i (.iad 2 (.t 23) (.t 25))),
  E0 1 (some 28) none (.i (.load false true 2 (.t 27))),
  E0 2 (some 12) none (.i (.box (.k (.agg [.dat none (.int .i64 0), .dat none (.int .i64 0)])))),
  E0 3 none none (.i (.store 2 (.t 12) (.t 28)))]
def impl_within.r9 : List Ent := [
  E0 0 (some 29) none (.i (.mv (.t 10))),
  E0 1 (some 30) none (.i (.fad 0 (.t 12))),
  E0 2 (some 31) none (.i (.load false false 1 (.t 30))),
  E0 3 (some 32) none (.i (.iad 1 (.t 29) (.t 31))),
  E0 4 (some 33) none (.i (.load false false 1 (.t 32)))]
def impl_within.r10 : List Ent := [
  E0 0 (some 34) none (.i (.mv (.t 9))),
  E0 1 (some 35) none (.i (.fad 1 (.t 12))),
  E0 2 (some 36) none (.i (.load false false 1 (.t 35))),
  E0 3 (some 37) none (.i (.iad 1 (.t 34) (.t 36))),
  E0 4 none none (.i (.store 1 (.t 37) (.k (.dat none (.bool true)))))]
def impl_within.r11 : List Ent := [
  E0 0 (some 38) none (.i (.bin .add (.t 25) (.k (I64 1)))),
  E0 1 (some 25) none (.i (.mv (.t 38)))]
def impl_within.b0 : KC := .seq (.reg 1152 1 impl_within.r7) (.seq (.cond (.t 26) (.skip) (.exit 2)) (.seq (.block 3 (.seq (.reg 1216 4 impl_within.r8) (.seq (.reg 1472 5 impl_within.r9) (.cond (.t 33) (.reg 1792 5 impl_within.r10) (.skip))))) (.reg 2112 2 impl_within.r11)))
def impl_within.r12 : List Ent := [
  E0 0 (some 39) none (.i (.bin .add (.t 19) (.k (I64 1)))),
  E0 1 (some 19) none (.i (.mv (.t 39)))]
def impl_within.b1 : KC := .seq (.reg 704 1 impl_within.r4) (.seq (.cond (.t 20) (.skip) (.exit 0)) (.seq (.block 1 (.seq (.reg 768 3 impl_within.r5) (.seq (.reg 960 3 impl_within.r6) (.block 2 (.loop impl_within.b0))))) (.reg 2240 2 impl_within.r12)))
def impl_within.r13 : List Ent := [
  E0 0 (some 40) none (.i (.mv (.t 9))),
  E0 1 (some 8) none (.i (.mv (.t 40)))]
def impl_within.fi : FI := { res := [.t 8], code := .seq (.reg 64 1 impl_within.r0) (.seq (.reg 128 3 impl_within.r1) (.seq (.reg 320 4 impl_within.r2) (.seq (.seq (.reg 576 2 impl_within.r3) (.block 0 (.loop impl_within.b1))) (.seq (.reg 2368 2 impl_within.r13) (.ret))))) }
attribute [go_sem] impl_within.r0 impl_within.r1 impl_within.r2 impl_within.r3 impl_within.r4 impl_within.r5 impl_within.r6 impl_within.r7 impl_within.r8 impl_within.r9 impl_within.r10 impl_within.r11 impl_within.r12 impl_within.r13
theorem impl_within.ok : chkF prog F_impl_within 4 impl_within.fi = true := by kernel_rfl

/-! impl_list -/
def impl_list.r0 : List Ent := [
  E0 0 (some 4) none (.i (.mv (.k (.nil 1))))]
def impl_list.r1 : List Ent := [
  E0 0 (some 5) none (.i (.mv (.k (.nil 1))))]
def impl_list.r2 : List Ent := [
  E0 0 (some 7) none (.i (.mv (.t 0))),
  E0 1 (some 8) none (.i (.mv (.k (I64 0))))]
def impl_list.r3 : List Ent := [
  E0 0 (some 9) none (.i (.bin .lss (.t 8) (.t 7)))]
def impl_list.r4 : List Ent := [
  E0 0 (some 10) none (.i (.mv (.t 8))),
  E0 1 (some 6) none (.i (.mv (.t 10)))]
def impl_list.r5 : List Ent := [
  E0 0 (some 11) none (.i (.mv (.t 1))),
  E0 1 (some 12) none (.i (.mv (.t 6))),
  E0 2 (some 13) none (.ccl (.t 11) false [.t 12])]
def impl_list.r6 : List Ent := [
  E0 0 (some 14) none (.i (.mv (.t 5))),
  E0 1 (some 15) none (.i (.mv (.t 6))),
  E0 2 (some 16) none (.i (.bsl true 1 [.t 15])),
  E0 3 (some 17) none (.i (.app 1 8 (.t 14) (.t 16))),
  E0 4 (some 5) none (.i (.mv (.t 17)))]
def impl_list.r7 : List Ent := [
  E0 0 (some 18) none (.i (.bin .add (.t 8) (.k (I64 1)))),
  E0 1 (some 8) none (.i (.mv (.t 18)))]
def impl_list.b0 : KC := .seq (.reg 320 1 impl_list.r3) (.seq (.cond (.t 9) (.skip) (.exit 0)) (.seq (.block 1 (.seq (.reg 384 2 impl_list.r4) (.seq (.reg 512 3 impl_list.r5) (.cond (.t 13) (.reg 704 5 impl_list.r6) (.skip))))) (.reg 1024 2 impl_list.r7)))
def impl_list.r8 : List Ent := [
  E0 0 (some 19) none (.i (.mv (.t 5))),
  E0 1 (some 4) none (.i (.mv (.t 19)))]
def impl_list.fi : FI := { res := [.t 4], code := .seq (.reg 64 1 impl_list.r0) (.seq (.reg 128 1 impl_list.r1) (.seq (.seq (.reg 192 2 impl_list.r2) (.nrm 5 896 1 (.block 0 (.loop impl_list.b0)))) (.seq (.reg 1152 2 impl_list.r8) (.ret)))) }
attribute [go_sem] impl_list.r0 impl_list.r1 impl_list.r2 impl_list.r3 impl_list.r4 impl_list.r5 impl_list.r6 impl_list.r7 impl_list.r8
theorem impl_list.ok : chkF prog F_impl_list 2 impl_list.fi = true := by kernel_rfl

/-! laws_eqArc -/
def laws_eqArc.r0 : List Ent := [
  E0 0 (some 2) none (.i (.box (.t 0))),
  E0 1 (some 3) none (.i (.box (.t 1))),
  E0 2 (some 4) none (.i (.mv (.k (.dat none (.bool false)))))]
def laws_eqArc.r1 : List Ent := [
  E0 0 (some 5) none (.i (.fad 0 (.t 2))),
  E0 1 (some 6) none (.i (.load false false 1 (.t 5))),
  E0 2 (some 7) none (.i (.fad 0 (.t 3))),
  E0 3 (some 8) none (.i (.load false false 1 (.t 7))),
  E0 4 (some 9) none (.i (.bin .neq (.t 6) (.t 8)))]
def laws_eqArc.r2 : List Ent := [
  E0 0 (some 4) none (.i (.mv (.k (.dat none (.bool false)))))]
def laws_eqArc.r3 : List Ent := [
  E0 0 (some 10) none (.i (.fad 1 (.t 2))),
  E0 1 (some 11) none (.i (.load false false 1 (.t 10))),
  E0 2 (some 12) none (.i (.fad 1 (.t 3))),
  E0 3 (some 13) none (.i (.load false false 1 (.t 12))),
  E0 4 (some 14) none (.i (.bin .neq (.t 11) (.t 13)))]
def laws_eqArc.r4 : List Ent := [
  E0 0 (some 4) none (.i (.mv (.k (.dat none (.bool false)))))]
def laws_eqArc.r5 : List Ent := [
  E0 0 (some 4) none (.i (.mv (.k (.dat none (.bool true)))))]
def laws_eqArc.fi : FI := { res := [.t 4], code := .seq (.reg 64 3 laws_eqArc.r0) (.seq (.seq (.reg 256 5 laws_eqArc.r1) (.cond (.t 9) (.seq (.reg 576 1 laws_eqArc.r2) (.ret)) (.skip))) (.seq (.seq (.reg 640 5 laws_eqArc.r3) (.cond (.t 14) (.seq (.reg 960 1 laws_eqArc.r4) (.ret)) (.skip))) (.seq (.reg 1024 1 laws_eqArc.r5) (.ret)))) }
attribute [go_sem] laws_eqArc.r0 laws_eqArc.r1 laws_eqArc.r2 laws_eqArc.r3 laws_eqArc.r4 laws_eqArc.r5
theorem laws_eqArc.ok : chkF prog F_laws_eqArc 2 laws_eqArc.fi = true := by kernel_rfl

/-! laws_eqArcS -/
def laws_eqArcS.r0 : List Ent := [
  E0 0 (some 4) none (.i (.mv (.k (.dat none (.bool false)))))]
def laws_eqArcS.r1 : List Ent := [
  E0 0 (some 6) none (.i (.mv (.t 0))),
  E0 1 (some 7) none (.i (.len (.t 6))),
  E0 2 (some 8) none (.i (.mv (.t 1))),
  E0 3 (some 9) none (.i (.len (.t 8))),
  E0 4 (some 10) none (.i (.bin .neq (.t 7) (.t 9)))]
def laws_eqArcS.r2 : List Ent := [
  E0 0 (some 4) none (.i (.mv (.k (.dat none (.bool false)))))]
def laws_eqArcS.r3 : List Ent := [
  E0 0 (some 5) none (.i (.mv (.k (I64 0))))]
def laws_eqArcS.r4 : List Ent := [
  E0 0 (some 11) none (.i (.mv (.t 5))),
  E0 1 (some 12) none (.i (.mv (.t 0))),
  E0 2 (some 13) none (.i (.len (.t 12))),
  E0 3 (some 14) none (.i (.bin .lss (.t 11) (.t 13)))]
def laws_eqArcS.r5 : List Ent := [
  E0 0 (some 17) none (.i (.mv (.t 0))),
  E0 1 (some 18) none (.i (.mv (.t 5))),
  ER 2 (some 19) none (.iad 2 (.t 17) (.t 18)),
  ER 3 (some 20) none (.load false true 2 (.t 19)),
  E0 4 (some 21) none (.i (.mv (.t 1))),
  E0 5 (some 22) none (.i (.mv (.t 5))),
  ER 6 (some 23) none (.iad 2 (.t 21) (.t 22)),
  ER 7 (some 24) none (.load false true 2 (.t 23)),
  E0 8 (some 25) none (.call F_laws_eqArc false (roA [.t 20, .t 24])),
  E0 9 (some 26) none (.i (.un .not (.t 25)))]
def laws_eqArcS.r6 : List Ent := [
  E0 0 (some 4) none (.i (.mv (.k (.dat none (.bool false)))))]
def laws_eqArcS.r7 : List Ent := [
  E0 0 (some 15) none (.i (.mv (.t 5))),
  E0 1 (some 16) none (.i (.bin .add (.t 15) (.k (I64 1)))),
  E0 2 (some 5) none (.i (.mv (.t 16)))]
def laws_eqArcS.b0 : KC := .seq (.seq (.reg 576 4 laws_eqArcS.r4) (.cond (.t 14) (.skip) (.exit 0))) (.seq (.block 1 (.seq (.reg 832 10 laws_eqArcS.r5) (.cond (.t 26) (.seq (.reg 1472 1 laws_eqArcS.r6) (.ret)) (.skip)))) (.reg 1536 3 laws_eqArcS.r7))
def laws_eqArcS.r8 : List Ent := [
  E0 0 (some 4) none (.i (.mv (.k (.dat none (.bool true)))))]
def laws_eqArcS.fi : FI := { res := [.t 4], code := .seq (.reg 64 1 laws_eqArcS.r0) (.seq (.seq (.reg 128 5 laws_eqArcS.r1) (.cond (.t 10) (.seq (.reg 448 1 laws_eqArcS.r2) (.ret)) (.skip))) (.seq (.seq (.reg 512 1 laws_eqArcS.r3) (.block 0 (.loop laws_eqArcS.b0))) (.seq (.reg 1728 1 laws_eqArcS.r8) (.ret)))) }
attribute [go_sem] laws_eqArcS.r0 laws_eqArcS.r1 laws_eqArcS.r2 laws_eqArcS.r3 laws_eqArcS.r4 laws_eqArcS.r5 laws_eqArcS.r6 laws_eqArcS.r7 laws_eqArcS.r8
theorem laws_eqArcS.ok : chkF prog F_laws_eqArcS 2 laws_eqArcS.fi = true := by kernel_rfl

/-! laws_markArcS -/
def laws_markArcS.r0 : List Ent := [
  E0 0 (some 4) none (.i (.mv (.k (I64 0))))]
def laws_markArcS.r1 : List Ent := [
  E0 0 (some 5) none (.i (.mv (.k (I64 0))))]
def laws_markArcS.r2 : List Ent := [
  E0 0 (some 6) none (.i (.mv (.t 5))),
  E0 1 (some 7) none (.i (.mv (.t 0))),
  E0 2 (some 8) none (.i (.len (.t 7))),
  E0 3 (some 9) none (.i (.bin .lss (.t 6) (.t 8)))]
def laws_markArcS.r3 : List Ent := [
  E0 0 (some 12) none (.i (.mv (.t 0))),
  E0 1 (some 13) none (.i (.mv (.t 5))),
  E0 2 (some 14) none (.i (.mv (.t 1))),
  E0 3 (some 15) none (.i (.iad 2 (.t 12) (.t 13))),
  E0 4 (some 16) none (.i (.fad 0 (.t 15))),
  E0 5 none none (.i (.store 1 (.t 16) (.t 14)))]
def laws_markArcS.r4 : List Ent := [
  E0 0 (some 17) none (.i (.mv (.t 1))),
  E0 1 (some 18) none (.i (.bin .add (.t 17) (.k (I64 1)))),
  E0 2 (some 1) none (.i (.mv (.t 18)))]
def laws_markArcS.r5 : List Ent := [
  E0 0 (some 19) none (.i (.mv (.t 0))),
  E0 1 (some 20) none (.i (.mv (.t 5))),
  E0 2 (some 21) none (.i (.mv (.t 1))),
  E0 3 (some 22) none (.i (.iad 2 (.t 19) (.t 20))),
  E0 4 (some 23) none (.i (.fad 1 (.t 22))),
  E0 5 none none (.i (.store 1 (.t 23) (.t 21)))]
def laws_markArcS.r6 : List Ent := [
  E0 0 (some 24) none (.i (.mv (.t 1))),
  E0 1 (some 25) none (.i (.bin .add (.t 24) (.k (I64 1)))),
  E0 2 (some 1) none (.i (.mv (.t 25)))]
def laws_markArcS.r7 : List Ent := [
  E0 0 (some 10) none (.i (.mv (.t 5))),
  E0 1 (some 11) none (.i (.bin .add (.t 10) (.k (I64 1)))),
  E0 2 (some 5) none (.i (.mv (.t 11)))]
def laws_markArcS.b0 : KC := .seq (.seq (.reg 192 4 laws_markArcS.r2) (.cond (.t 9) (.skip) (.exit 0))) (.seq (.block 1 (.seq (.reg 448 6 laws_markArcS.r3) (.seq (.reg 832 3 laws_markArcS.r4) (.seq (.reg 1024 6 laws_markArcS.r5) (.reg 1408 3 laws_markArcS.r6))))) (.reg 1600 3 laws_markArcS.r7))
def laws_markArcS.r8 : List Ent := [
  E0 0 (some 26) none (.i (.mv (.t 1))),
  E0 1 (some 4) none (.i (.mv (.t 26)))]
def laws_markArcS.fi : FI := { res := [.t 4], code := .seq (.reg 64 1 laws_markArcS.r0) (.seq (.seq (.reg 128 1 laws_markArcS.r1) (.block 0 (.loop laws_markArcS.b0))) (.seq (.reg 1792 2 laws_markArcS.r8) (.ret))) }
attribute [go_sem] laws_markArcS.r0 laws_markArcS.r1 laws_markArcS.r2 laws_markArcS.r3 laws_markArcS.r4 laws_markArcS.r5 laws_markArcS.r6 laws_markArcS.r7 laws_markArcS.r8
theorem laws_markArcS.ok : chkF prog F_laws_markArcS 2 laws_markArcS.fi = true := by kernel_rfl

/-! spec_BackArcs -/
def spec_BackArcs.r0 : List Ent := [
  E0 0 (some 4) none (.i (.mv (.k (.nil 1)))),
  E0 1 (some 5) none (.i (.mv (.k (.dat none (.bool false)))))]
def spec_BackArcs.r1 : List Ent := [
  E0 0 (some 9) none (.i (.mv (.t 0))),
  E0 1 (some 10) none (.i (.mv (.t 1))),
  E0 2 (some 11) none (.call F_spec_GoodArcs false (roA [.t 9, .t 10])),
  E0 3 (some 12) none (.i (.un .not (.t 11)))]
def spec_BackArcs.r2 : List Ent := [
  E0 0 (some 4) none (.i (.mv (.k (.nil 1)))),
  E0 1 (some 5) none (.i (.mv (.k (.dat none (.bool false)))))]
def spec_BackArcs.r3 : List Ent := [
  E0 0 (some 6) none (.i (.mv (.k (.nil 1))))]
def spec_BackArcs.r4 : List Ent := [
  E0 0 (some 13) none (.i (.mv (.t 1))),
  E0 1 (some 14) none (.i (.len (.t 13))),
  E0 2 (some 15) none (.i (.mv (.k (I64 0))))]
def spec_BackArcs.r5 : List Ent := [
  E0 0 (some 16) none (.i (.bin .lss (.t 15) (.t 14)))]
def spec_BackArcs.r6 : List Ent := [
  E0 0 (some 17) none (.i (.mv (.t 15))),
  E0 1 (some 18) none (.i (.iad 2 (.t 13) (.t 15))),
  E0 2 (some 19) none (.i (.load false true 2 (.t 18))),
  E0 3 (some 8) none (.i (.box (.k (.agg [.dat none (.int .i64 0), .dat none (.int .i64 0)])))),
  E0 4 (some 7) none (.i (.mv (.t 17))),
  E0 5 none none (.i (.store 2 (.t 8) (.t 19)))]
def spec_BackArcs.r7 : List Ent := [
  E0 0 (some 20) none (.i (.mv (.t 1))),
  ER 1 (some 21) none (.fad 1 (.t 8)),
  ER 2 (some 22) none (.load false false 1 (.t 21)),
  E0 3 (some 23) none (.i (.mv (.t 0))),
  EP 4 (some 24) none (.call F_spec_l12Reach true (roA [.t 20, .t 22, .t 23])) 1 false,
  EX 5 (some 25) none (.i (.fad 0 (.t 8))) 2 [4] [] false,
  EX 6 (some 26) none (.i (.load false false 1 (.t 25))) 2 [4] [] false,
  E0 7 (some 27) none (.call F_spec_l1Has false (roA [.t 24, .t 26]))]
def spec_BackArcs.r8 : List Ent := [
  E0 0 (some 28) none (.i (.mv (.t 6))),
  E0 1 (some 29) none (.i (.mv (.t 7))),
  E0 2 (some 30) none (.i (.bsl true 1 [.t 29])),
  E0 3 (some 31) none (.i (.app 1 8 (.t 28) (.t 30))),
  E0 4 (some 6) none (.i (.mv (.t 31)))]
def spec_BackArcs.r9 : List Ent := [
  E0 0 (some 32) none (.i (.bin .add (.t 15) (.k (I64 1)))),
  E0 1 (some 15) none (.i (.mv (.t 32)))]
def spec_BackArcs.b0 : KC := .seq (.reg 832 1 spec_BackArcs.r5) (.seq (.cond (.t 16) (.skip) (.exit 0)) (.seq (.block 1 (.seq (.reg 896 6 spec_BackArcs.r6) (.seq (.reg 1280 8 spec_BackArcs.r7) (.cond (.t 27) (.reg 1792 5 spec_BackArcs.r8) (.skip))))) (.reg 2112 2 spec_BackArcs.r9)))
def spec_BackArcs.r10 : List Ent := [
  E0 0 (some 33) none (.i (.mv (.t 6))),
  E0 1 (some 4) none (.i (.mv (.t 33))),
  E0 2 (some 5) none (.i (.mv (.k (.dat none (.bool true)))))]
def spec_BackArcs.fi : FI := { res := [.t 4, .t 5], code := .seq (.reg 64 2 spec_BackArcs.r0) (.seq (.seq (.reg 192 4 spec_BackArcs.r1) (.cond (.t 12) (.seq (.reg 448 2 spec_BackArcs.r2) (.ret)) (.skip))) (.seq (.reg 576 1 spec_BackArcs.r3) (.seq (.seq (.reg 640 3 spec_BackArcs.r4) (.nrm 6 1984 1 (.block 0 (.loop spec_BackArcs.b0)))) (.seq (.reg 2240 3 spec_BackArcs.r10) (.ret))))) }
attribute [go_sem] spec_BackArcs.r0 spec_BackArcs.r1 spec_BackArcs.r2 spec_BackArcs.r3 spec_BackArcs.r4 spec_BackArcs.r5 spec_BackArcs.r6 spec_BackArcs.r7 spec_BackArcs.r8 spec_BackArcs.r9 spec_BackArcs.r10
theorem spec_BackArcs.ok : chkF prog F_spec_BackArcs 2 spec_BackArcs.fi = true := by kernel_rfl

/-! impl_BackArcs_c1 -/
def impl_BackArcs_c1.r0 : List Ent := [
  E0 0 (some 4) none (.i (.mv (.k (.dat none (.bool false)))))]
def impl_BackArcs_c1.r1 : List Ent := [
  ER 0 (some 5) none (.load false false 1 (.t 1)),
  ER 1 (some 6) none (.load false false 1 (.t 2)),
  ER 2 (some 7) none (.load false false 1 (.t 2)),
  E0 3 (some 8) none (.i (.mv (.t 0))),
  ER 4 (some 9) none (.iad 2 (.t 7) (.t 8)),
  ER 5 (some 10) none (.fad 1 (.t 9)),
  ER 6 (some 11) none (.load false false 1 (.t 10)),
  ER 7 (some 12) none (.load false false 1 (.t 1)),
  EP 8 (some 13) none (.call F_impl_within false (roA [.t 5, .t 6, .t 11, .t 12])) 1 false,
  EX 9 (some 14) none (.i (.load false false 1 (.t 2))) 2 [8] [] false,
  E0 10 (some 15) none (.i (.mv (.t 0))),
  EX 11 (some 16) none (.i (.iad 2 (.t 14) (.t 15))) 2 [8] [] false,
  EX 12 (some 17) none (.i (.fad 0 (.t 16))) 2 [8] [] false,
  EX 13 (some 18) none (.i (.load false false 1 (.t 17))) 2 [8] [] false,
  E0 14 (some 19) none (.i (.iad 1 (.t 13) (.t 18))),
  E0 15 (some 20) none (.i (.load false false 1 (.t 19))),
  E0 16 (some 4) none (.i (.mv (.t 20)))]
def impl_BackArcs_c1.fi : FI := { res := [.t 4], code := .seq (.reg 64 1 impl_BackArcs_c1.r0) (.seq (.reg 128 17 impl_BackArcs_c1.r1) (.ret)) }
attribute [go_sem] impl_BackArcs_c1.r0 impl_BackArcs_c1.r1
theorem impl_BackArcs_c1.ok : chkF prog F_impl_BackArcs_c1 3 impl_BackArcs_c1.fi = true := by kernel_rfl

/-! impl_BackArcs -/
def impl_BackArcs.r0 : List Ent := [
  E0 0 (some 2) none (.i (.box (.t 0))),
  E0 1 (some 3) none (.i (.box (.t 1))),
  E0 2 (some 4) none (.i (.mv (.k (.nil 1)))),
  E0 3 (some 5) none (.i (.mv (.k (.dat none (.bool false)))))]
def impl_BackArcs.r1 : List Ent := [
  E0 0 (some 6) none (.i (.load false false 1 (.t 2))),
  E0 1 (some 7) none (.i (.load false false 1 (.t 3))),
  E0 2 (some 8) none (.call F_impl_GoodArcs false (roA [.t 6, .t 7])),
  E0 3 (some 9) none (.i (.un .not (.t 8)))]
def impl_BackArcs.r2 : List Ent := [
  E0 0 (some 4) none (.i (.mv (.k (.nil 1)))),
  E0 1 (some 5) none (.i (.mv (.k (.dat none (.bool false)))))]
def impl_BackArcs.r3 : List Ent := [
  E0 0 (some 10) none (.i (.load false false 1 (.t 3))),
  E0 1 (some 11) none (.i (.len (.t 10))),
  E0 2 (some 12) none (.i (.mkf F_impl_BackArcs_c1 [.t 2, .t 3])),
  E0 3 (some 13) none (.call F_impl_list false (roA [.t 11, .t 12])),
  E0 4 (some 4) none (.i (.mv (.t 13))),
  E0 5 (some 5) none (.i (.mv (.k (.dat none (.bool true)))))]
def impl_BackArcs.fi : FI := { res := [.t 4, .t 5], code := .seq (.reg 64 4 impl_BackArcs.r0) (.seq (.seq (.reg 320 4 impl_BackArcs.r1) (.cond (.t 9) (.seq (.reg 576 2 impl_BackArcs.r2) (.ret)) (.skip))) (.seq (.reg 704 6 impl_BackArcs.r3) (.ret))) }
attribute [go_sem] impl_BackArcs.r0 impl_BackArcs.r1 impl_BackArcs.r2 impl_BackArcs.r3
theorem impl_BackArcs.ok : chkF prog F_impl_BackArcs 2 impl_BackArcs.fi = true := by kernel_rfl

/-! laws_FnExactBackArcs -/
def laws_FnExactBackArcs.r0 : List Ent := [
  E0 0 (some 4) none (.i (.mv (.k (.dat none (.bool false)))))]
def laws_FnExactBackArcs.r1 : List Ent := [
  E0 0 (some 5) none (.i (.mv (.k (I64 1048576))))]
def laws_FnExactBackArcs.r2 : List Ent := [
  E0 0 (some 16) none (.i (.mv (.t 1))),
  E0 1 (some 17) none (.i (.mv (.t 5))),
  E0 2 (some 18) none (.call F_laws_szArcS false (roA [.t 16, .t 17])),
  E0 3 (some 5) none (.i (.mv (.t 18)))]
def laws_FnExactBackArcs.r3 : List Ent := [
  E0 0 (some 19) none (.i (.mv (.t 5))),
  E0 1 (some 20) none (.i (.bin .lss (.t 19) (.k (I64 0))))]
def laws_FnExactBackArcs.r4 : List Ent := [
  E0 0 (some 4) none (.i (.mv (.k (.dat none (.bool true)))))]
def laws_FnExactBackArcs.r5 : List Ent := [
  E0 0 (some 22) none (.i (.mv (.t 0))),
  E0 1 (some 23) none (.i (.mv (.t 1))),
  E0 2 (some 24) none (.call F_laws_toArcS false (roA [.t 23])),
  E0 3 (some 25) none (.call F_spec_BackArcs false (roA [.t 22, .t 24])),
  E0 4 (some 21) none (.i (.mv (.t 25))),
  E0 5 (some 26) none (.i (.ext 0 (.t 21))),
  E0 6 (some 27) none (.i (.ext 1 (.t 21))),
  E0 7 (some 6) none (.i (.mv (.t 26))),
  E0 8 (some 7) none (.i (.mv (.t 27)))]
def laws_FnExactBackArcs.r6 : List Ent := [
  E0 0 (some 28) none (.i (.mv (.t 1))),
  E0 1 (some 29) none (.call F_laws_toArcS false (roA [.t 28])),
  E0 2 (some 8) none (.i (.mv (.t 29)))]
def laws_FnExactBackArcs.r7 : List Ent := [
  E0 0 (some 31) none (.i (.mv (.t 0))),
  E0 1 (some 32) none (.i (.mv (.t 8))),
  E0 2 (some 33) none (.call F_impl_BackArcs false (roA [.t 31, .t 32])),
  E0 3 (some 30) none (.i (.mv (.t 33))),
  E0 4 (some 34) none (.i (.ext 0 (.t 30))),
  E0 5 (some 35) none (.i (.ext 1 (.t 30))),
  E0 6 (some 9) none (.i (.mv (.t 34))),
  E0 7 (some 10) none (.i (.mv (.t 35)))]
def laws_FnExactBackArcs.r8 : List Ent := [
  E0 0 (some 36) none (.i (.mv (.t 9))),
  E0 1 (some 37) none (.i (.mv (.t 6))),
  E0 2 (some 38) none (.call F_laws_eqIntS false (roA [.t 36, .t 37])),
  E0 3 (some 39) none (.i (.un .not (.t 38))),
  E0 4 (some 40) none (.i (.mv (.t 39))),
  E0 5 (some 41) (some (40, false)) (.i (.mv (.t 10))),
  E0 6 (some 42) (some (40, false)) (.i (.mv (.t 7))),
  E0 7 (some 43) (some (40, false)) (.i (.eqb true (.t 41) (.t 42))),
  E0 8 (some 44) none (.i (.pick (.t 40) (.k (.dat none (.bool true))) (.t 43)))]
def laws_FnExactBackArcs.r9 : List Ent := [
  E0 0 (some 4) none (.i (.mv (.k (.dat none (.bool false)))))]
def laws_FnExactBackArcs.r10 : List Ent := [
  E0 0 (some 45) none (.i (.mv (.t 8))),
  E0 1 (some 46) none (.i (.mv (.t 1))),
  E0 2 (some 47) none (.call F_laws_toArcS false (roA [.t 46])),
  E0 3 (some 48) none (.call F_laws_eqArcS false (roA [.t 45, .t 47])),
  E0 4 (some 49) none (.i (.un .not (.t 48)))]
def laws_FnExactBackArcs.r11 : List Ent := [
  E0 0 (some 4) none (.i (.mv (.k (.dat none (.bool false)))))]
def laws_FnExactBackArcs.r12 : List Ent := [
  E0 0 (some 11) none (.i (.mv (.k (I64 1))))]
def laws_FnExactBackArcs.r13 : List Ent := [
  E0 0 (some 50) none (.i (.mv (.t 8))),
  E0 1 (some 51) none (.i (.mv (.t 11))),
  E0 2 (some 52) none (.call F_laws_markArcS false [(.io, .t 50), (.ro, .t 51)]),
  E0 3 (some 11) none (.i (.mv (.t 52)))]
def laws_FnExactBackArcs.r14 : List Ent := [
  E0 0 (some 53) none (.i (.mv (.t 11))),
  E0 1 (some 54) none (.i (.bin .lss (.t 53) (.k (I64 0)))),
  E0 2 (some 55) none (.i (.mv (.t 54))),
  E0 3 (some 56) (some (55, false)) (.i (.mv (.t 9))),
  E0 4 (some 57) (some (55, false)) (.i (.mv (.t 6))),
  E0 5 (some 58) (some (55, false)) (.call F_laws_eqIntS false (roA [.t 56, .t 57])),
  E0 6 (some 59) (some (55, false)) (.i (.un .not (.t 58))),
  E0 7 (some 60) none (.i (.pick (.t 55) (.k (.dat none (.bool true))) (.t 59))),
  E0 8 (some 61) none (.i (.mv (.t 60))),
  E0 9 (some 62) (some (61, false)) (.i (.mv (.t 10))),
  E0 10 (some 63) (some (61, false)) (.i (.mv (.t 7))),
  E0 11 (some 64) (some (61, false)) (.i (.eqb true (.t 62) (.t 63))),
  E0 12 (some 65) none (.i (.pick (.t 61) (.k (.dat none (.bool true))) (.t 64)))]
def laws_FnExactBackArcs.r15 : List Ent := [
  E0 0 (some 4) none (.i (.mv (.k (.dat none (.bool false)))))]
def laws_FnExactBackArcs.r16 : List Ent := [
  E0 0 (some 12) none (.i (.mv (.k (I64 1))))]
def laws_FnExactBackArcs.r17 : List Ent := [
  E0 0 (some 66) none (.i (.mv (.t 9))),
  E0 1 (some 67) none (.i (.mv (.t 12))),
  E0 2 (some 68) none (.call F_laws_markIntS false [(.io, .t 66), (.ro, .t 67)]),
  E0 3 (some 12) none (.i (.mv (.t 68)))]
def laws_FnExactBackArcs.r18 : List Ent := [
  E0 0 (some 13) none (.i (.mv (.k (I64 1))))]
def laws_FnExactBackArcs.r19 : List Ent := [
  E0 0 (some 69) none (.i (.mv (.t 9))),
  E0 1 (some 70) none (.i (.mv (.t 13))),
  E0 2 (some 71) none (.call F_laws_heldIntS false (roA [.t 69, .t 70])),
  E0 3 (some 13) none (.i (.mv (.t 71)))]
def laws_FnExactBackArcs.r20 : List Ent := [
  E0 0 (some 72) none (.i (.mv (.t 13))),
  E0 1 (some 73) none (.i (.bin .lss (.t 72) (.k (I64 0))))]
def laws_FnExactBackArcs.r21 : List Ent := [
  E0 0 (some 4) none (.i (.mv (.k (.dat none (.bool false)))))]
def laws_FnExactBackArcs.r22 : List Ent := [
  E0 0 (some 74) none (.i (.mv (.t 13))),
  E0 1 (some 75) none (.i (.mv (.t 12))),
  E0 2 (some 76) none (.i (.bin .neq (.t 74) (.t 75)))]
def laws_FnExactBackArcs.r23 : List Ent := [
  E0 0 (some 4) none (.i (.mv (.k (.dat none (.bool false)))))]
def laws_FnExactBackArcs.r24 : List Ent := [
  E0 0 (some 78) none (.i (.mv (.t 0))),
  E0 1 (some 79) none (.i (.mv (.t 1))),
  E0 2 (some 80) none (.call F_laws_toArcS false (roA [.t 79])),
  E0 3 (some 81) none (.call F_impl_BackArcs false (roA [.t 78, .t 80])),
  E0 4 (some 77) none (.i (.mv (.t 81))),
  E0 5 (some 82) none (.i (.ext 0 (.t 77))),
  E0 6 (some 83) none (.i (.ext 1 (.t 77))),
  E0 7 (some 14) none (.i (.mv (.t 82))),
  E0 8 (some 15) none (.i (.mv (.t 83)))]
def laws_FnExactBackArcs.r25 : List Ent := [
  E0 0 (some 84) none (.i (.mv (.t 14))),
  E0 1 (some 85) none (.i (.mv (.t 6))),
  E0 2 (some 86) none (.call F_laws_eqIntS false (roA [.t 84, .t 85])),
  E0 3 (some 87) none (.i (.un .not (.t 86))),
  E0 4 (some 88) none (.i (.mv (.t 87))),
  E0 5 (some 89) (some (88, false)) (.i (.mv (.t 15))),
  E0 6 (some 90) (some (88, false)) (.i (.mv (.t 7))),
  E0 7 (some 91) (some (88, false)) (.i (.eqb true (.t 89) (.t 90))),
  E0 8 (some 92) none (.i (.pick (.t 88) (.k (.dat none (.bool true))) (.t 91)))]
def laws_FnExactBackArcs.r26 : List Ent := [
  E0 0 (some 4) none (.i (.mv (.k (.dat none (.bool false)))))]
def laws_FnExactBackArcs.r27 : List Ent := [
  E0 0 (some 13) none (.i (.mv (.k (I64 1))))]
def laws_FnExactBackArcs.r28 : List Ent := [
  E0 0 (some 93) none (.i (.mv (.t 9))),
  E0 1 (some 94) none (.i (.mv (.t 13))),
  E0 2 (some 95) none (.call F_laws_heldIntS false (roA [.t 93, .t 94])),
  E0 3 (some 13) none (.i (.mv (.t 95)))]
def laws_FnExactBackArcs.r29 : List Ent := [
  E0 0 (some 96) none (.i (.mv (.t 13))),
  E0 1 (some 97) none (.i (.bin .lss (.t 96) (.k (I64 0))))]
def laws_FnExactBackArcs.r30 : List Ent := [
  E0 0 (some 4) none (.i (.mv (.k (.dat none (.bool false)))))]
def laws_FnExactBackArcs.r31 : List Ent := [
  E0 0 (some 98) none (.i (.mv (.t 13))),
  E0 1 (some 99) none (.i (.mv (.t 12))),
  E0 2 (some 100) none (.i (.bin .neq (.t 98) (.t 99)))]
def laws_FnExactBackArcs.r32 : List Ent := [
  E0 0 (some 4) none (.i (.mv (.k (.dat none (.bool false)))))]
def laws_FnExactBackArcs.r33 : List Ent := [
  E0 0 (some 4) none (.i (.mv (.k (.dat none (.bool true)))))]
def laws_FnExactBackArcs.fi : FI := { res := [.t 4], code := .seq (.reg 64 1 laws_FnExactBackArcs.r0) (.seq (.reg 128 1 laws_FnExactBackArcs.r1) (.seq (.reg 192 4 laws_FnExactBackArcs.r2) (.seq (.seq (.reg 448 2 laws_FnExactBackArcs.r3) (.cond (.t 20) (.seq (.reg 576 1 laws_FnExactBackArcs.r4) (.ret)) (.skip))) (.seq (.reg 640 9 laws_FnExactBackArcs.r5) (.seq (.reg 1216 3 laws_FnExactBackArcs.r6) (.seq (.reg 1408 8 laws_FnExactBackArcs.r7) (.seq (.seq (.reg 1920 9 laws_FnExactBackArcs.r8) (.cond (.t 44) (.seq (.reg 2496 1 laws_FnExactBackArcs.r9) (.ret)) (.skip))) (.seq (.seq (.reg 2560 5 laws_FnExactBackArcs.r10) (.cond (.t 49) (.seq (.reg 2880 1 laws_FnExactBackArcs.r11) (.ret)) (.skip))) (.seq (.reg 2944 1 laws_FnExactBackArcs.r12) (.seq (.reg 3008 4 laws_FnExactBackArcs.r13) (.seq (.seq (.reg 3264 13 laws_FnExactBackArcs.r14) (.cond (.t 65) (.seq (.reg 4096 1 laws_FnExactBackArcs.r15) (.ret)) (.skip))) (.seq (.reg 4160 1 laws_FnExactBackArcs.r16) (.seq (.reg 4224 4 laws_FnExactBackArcs.r17) (.seq (.reg 4480 1 laws_FnExactBackArcs.r18) (.seq (.reg 4544 4 laws_FnExactBackArcs.r19) (.seq (.seq (.reg 4800 2 laws_FnExactBackArcs.r20) (.cond (.t 73) (.seq (.reg 4928 1 laws_FnExactBackArcs.r21) (.ret)) (.skip))) (.seq (.seq (.reg 4992 3 laws_FnExactBackArcs.r22) (.cond (.t 76) (.seq (.reg 5184 1 laws_FnExactBackArcs.r23) (.ret)) (.skip))) (.seq (.reg 5248 9 laws_FnExactBackArcs.r24) (.seq (.seq (.reg 5824 9 laws_FnExactBackArcs.r25) (.cond (.t 92) (.seq (.reg 6400 1 laws_FnExactBackArcs.r26) (.ret)) (.skip))) (.seq (.reg 6464 1 laws_FnExactBackArcs.r27) (.seq (.reg 6528 4 laws_FnExactBackArcs.r28) (.seq (.seq (.reg 6784 2 laws_FnExactBackArcs.r29) (.cond (.t 97) (.seq (.reg 6912 1 laws_FnExactBackArcs.r30) (.ret)) (.skip))) (.seq (.seq (.reg 6976 3 laws_FnExactBackArcs.r31) (.cond (.t 100) (.seq (.reg 7168 1 laws_FnExactBackArcs.r32) (.ret)) (.skip))) (.seq (.reg 7232 1 laws_FnExactBackArcs.r33) (.ret))))))))))))))))))))))))) }
attribute [go_sem] laws_FnExactBackArcs.r0 laws_FnExactBackArcs.r1 laws_FnExactBackArcs.r2 laws_FnExactBackArcs.r3 laws_FnExactBackArcs.r4 laws_FnExactBackArcs.r5 laws_FnExactBackArcs.r6 laws_FnExactBackArcs.r7 laws_FnExactBackArcs.r8 laws_FnExactBackArcs.r9 laws_FnExactBackArcs.r10 laws_FnExactBackArcs.r11 laws_FnExactBackArcs.r12 laws_FnExactBackArcs.r13 laws_FnExactBackArcs.r14 laws_FnExactBackArcs.r15 laws_FnExactBackArcs.r16 laws_FnExactBackArcs.r17 laws_FnExactBackArcs.r18 laws_FnExactBackArcs.r19 laws_FnExactBackArcs.r20 laws_FnExactBackArcs.r21 laws_FnExactBackArcs.r22 laws_FnExactBackArcs.r23 laws_FnExactBackArcs.r24 laws_FnExactBackArcs.r25 laws_FnExactBackArcs.r26 laws_FnExactBackArcs.r27 laws_FnExactBackArcs.r28 laws_FnExactBackArcs.r29 laws_FnExactBackArcs.r30 laws_FnExactBackArcs.r31 laws_FnExactBackArcs.r32 laws_FnExactBackArcs.r33
theorem laws_FnExactBackArcs.ok : chkF prog F_laws_FnExactBackArcs 2 laws_FnExactBackArcs.fi = true := by kernel_rfl
end Go.Vm.Ytedcnkglldmkbaa
