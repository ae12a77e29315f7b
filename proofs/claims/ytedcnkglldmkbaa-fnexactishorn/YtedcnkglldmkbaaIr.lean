/- The functions that the law reaches, in the text of the interpreter, and that this text fits them (no condition). -/
import Derived.Test.YtedcnkglldmkbaaVmc
import Derived.Test.YtedcnkglldmkbaaProg
import Derived.KernelRfl
/- PRINTED BY irgen.py, a program of this claim's author: the functions that the claim reaches, in the text of the interpreter, and that they fit. -/
namespace Go.Vm.Ytedcnkglldmkbaa
open Go Go.Vm
set_option linter.unusedVariables false
set_option maxRecDepth 100000
noncomputable abbrev prog : Program := Go.Proofs.Try.prog
abbrev F_laws_FnExactReduceBoth : FuncId := 3
abbrev F_laws_FnExactGoodRules : FuncId := 4
abbrev F_laws_FnExactMeetOf : FuncId := 5
abbrev F_laws_FnExactIsTwo : FuncId := 6
abbrev F_laws_FnExactTwoOf : FuncId := 7
abbrev F_laws_FnExactHoldsIn : FuncId := 8
abbrev F_laws_FnExactIsHorn : FuncId := 9
abbrev F_laws_FnExactReachWithin : FuncId := 10
abbrev F_laws_FnExactBackArcs : FuncId := 11
abbrev F_laws_FnExactWhyOf : FuncId := 12
abbrev F_laws_FnExactLeastOf : FuncId := 13
abbrev F_laws_FnExactRulesAsClauses : FuncId := 14
abbrev F_spec_ReduceBoth : FuncId := 15
abbrev F_laws_toStretch : FuncId := 16
abbrev F_laws_toKnown : FuncId := 17
abbrev F_impl_ReduceBoth : FuncId := 18
abbrev F_laws_eqStretch : FuncId := 19
abbrev F_laws_eqKnown : FuncId := 20
abbrev F_laws_szRuleS : FuncId := 21
abbrev F_spec_GoodRules : FuncId := 22
abbrev F_laws_toRuleS : FuncId := 23
abbrev F_impl_GoodRules : FuncId := 24
abbrev F_laws_eqRuleS : FuncId := 25
abbrev F_spec_MeetOf : FuncId := 26
abbrev F_laws_toIntS : FuncId := 27
abbrev F_impl_MeetOf : FuncId := 28
abbrev F_laws_eqIntS : FuncId := 29
abbrev F_laws_markIntS : FuncId := 30
abbrev F_laws_heldIntS : FuncId := 31
abbrev F_laws_szIntSS : FuncId := 32
abbrev F_spec_IsTwo : FuncId := 33
abbrev F_laws_toIntSS : FuncId := 34
abbrev F_impl_IsTwo : FuncId := 35
abbrev F_laws_eqIntSS : FuncId := 36
abbrev F_spec_TwoOf : FuncId := 37
abbrev F_impl_TwoOf : FuncId := 38
abbrev F_laws_markIntSS : FuncId := 39
abbrev F_laws_heldIntSS : FuncId := 40
abbrev F_spec_HoldsIn : FuncId := 41
abbrev F_impl_HoldsIn : FuncId := 42
abbrev F_spec_IsHorn : FuncId := 43
abbrev F_impl_IsHorn : FuncId := 44
abbrev F_laws_szArcS : FuncId := 45
abbrev F_spec_ReachWithin : FuncId := 46
abbrev F_laws_toArcS : FuncId := 47
abbrev F_impl_ReachWithin : FuncId := 48
abbrev F_laws_eqArcS : FuncId := 49
abbrev F_laws_markArcS : FuncId := 50
abbrev F_spec_BackArcs : FuncId := 51
abbrev F_impl_BackArcs : FuncId := 52
abbrev F_spec_WhyOf : FuncId := 53
abbrev F_impl_WhyOf : FuncId := 54
abbrev F_laws_markRuleS : FuncId := 55
abbrev F_spec_LeastOf : FuncId := 56
abbrev F_impl_LeastOf : FuncId := 57
abbrev F_spec_RulesAsClauses : FuncId := 58
abbrev F_impl_RulesAsClauses : FuncId := 59
abbrev F_spec_GoodStretch : FuncId := 60
abbrev F_spec_GoodKnown : FuncId := 61
abbrev F_spec_l13Reduce : FuncId := 62
abbrev F_impl_GoodStretch : FuncId := 63
abbrev F_impl_GoodKnown : FuncId := 64
abbrev F_impl_reduceBoth : FuncId := 65
abbrev F_laws_szRule : FuncId := 66
abbrev F_spec_l16Facts : FuncId := 67
abbrev F_spec_l1In : FuncId := 68
abbrev F_laws_toRule : FuncId := 69
abbrev F_impl_in : FuncId := 70
abbrev F_slices_ContainsFunc__sRule_Rule : FuncId := 71
abbrev F_impl_GoodRules_c1 : FuncId := 72
abbrev F_impl_areFacts : FuncId := 73
abbrev F_laws_eqRule : FuncId := 74
abbrev F_spec_l1Has : FuncId := 75
abbrev F_slices_DeleteFunc__sint_int : FuncId := 76
abbrev F_slices_Clone__sint_int : FuncId := 77
abbrev F_impl_MeetOf_c1 : FuncId := 78
abbrev F_slices_Contains__sint_int : FuncId := 79
abbrev F_laws_szIntS : FuncId := 80
abbrev F_spec_GoodClauses : FuncId := 81
abbrev F_impl_GoodClauses : FuncId := 82
abbrev F_slices_ContainsFunc__ssint_sint : FuncId := 83
abbrev F_impl_IsTwo_c1 : FuncId := 84
abbrev F_spec_l4Clause : FuncId := 85
abbrev F_impl_isClause : FuncId := 86
abbrev F_spec_l16All : FuncId := 87
abbrev F_impl_HoldsIn_c1 : FuncId := 88
abbrev F_impl_Rule_met : FuncId := 89
abbrev F_impl_IsHorn_c1 : FuncId := 90
abbrev F_spec_GoodArcs : FuncId := 91
abbrev F_spec_l12Reach : FuncId := 92
abbrev F_laws_toArc : FuncId := 93
abbrev F_impl_GoodArcs : FuncId := 94
abbrev F_impl_within : FuncId := 95
abbrev F_impl_list : FuncId := 96
abbrev F_impl_ReachWithin_c1 : FuncId := 97
abbrev F_laws_eqArc : FuncId := 98
abbrev F_impl_BackArcs_c1 : FuncId := 99
abbrev F_spec_l16Least : FuncId := 100
abbrev F_impl_least : FuncId := 101
abbrev F_slices_IndexFunc__sint_int : FuncId := 102
abbrev F_impl_WhyOf_c1 : FuncId := 103
abbrev F_impl_LeastOf_c1 : FuncId := 104
abbrev F_impl_LeastOf_c2 : FuncId := 105
abbrev F_spec_l5Negate : FuncId := 106
abbrev F_impl_learn : FuncId := 107
abbrev F_spec_l1Word : FuncId := 108
abbrev F_spec_l1Most : FuncId := 109
abbrev F_spec_l1Least : FuncId := 110
abbrev F_spec_l10May : FuncId := 111
abbrev F_impl_isWord : FuncId := 112
abbrev F_impl_Known_matches : FuncId := 113
abbrev F_impl_exact : FuncId := 114
abbrev F_spec_l1Rising : FuncId := 115
abbrev F_slices_IndexFunc__sRule_Rule : FuncId := 116
abbrev F_slices_Index__sint_int : FuncId := 117
abbrev F_spec_l4Good : FuncId := 118
abbrev F_impl_areClauses : FuncId := 119
abbrev F_slices_IndexFunc__ssint_sint : FuncId := 120
abbrev F_impl_isLiteral : FuncId := 121
abbrev F_slices_ContainsFunc__sint_int : FuncId := 122
abbrev F_impl_isClause_c1 : FuncId := 123
abbrev F_impl_variable : FuncId := 124
abbrev F_impl_Rule_met_c1 : FuncId := 125
abbrev F_spec_l1Put : FuncId := 126
abbrev F_impl_isSpots : FuncId := 127
abbrev F_slices_Clone__sbool_bool : FuncId := 128
abbrev F_impl_least_c1 : FuncId := 129
abbrev F_impl_areClauses_c1 : FuncId := 130
abbrev F_runtime_boundsError_Error : FuncId := 131
abbrev F_runtime_boundsError_RuntimeError : FuncId := 132
abbrev F_runtime_errorString_Error : FuncId := 133
abbrev F_runtime_errorString_RuntimeError : FuncId := 134
abbrev F_runtime_plainError_Error : FuncId := 135
abbrev F_runtime_plainError_RuntimeError : FuncId := 136
abbrev F_runtime_errorAddressString_Error : FuncId := 137
abbrev F_runtime_errorAddressString_RuntimeError : FuncId := 138
abbrev F_runtime_pTypeAssertionError_Error : FuncId := 139
abbrev F_runtime_pTypeAssertionError_RuntimeError : FuncId := 140
abbrev F_runtime_pPanicNilError_Error : FuncId := 141
abbrev F_runtime_pPanicNilError_RuntimeError : FuncId := 142
abbrev F_abi_pType_Align : FuncId := 143
abbrev F_maps_unhashableTypeError_Error : FuncId := 144
abbrev F_maps_unhashableTypeError_RuntimeError : FuncId := 145
abbrev F_abi_Kind_String : FuncId := 146

/-! spec_l1In -/
def spec_l1In.r0 : List Ent := [
  E0 0 (some 6) none (.i (.mv (.k (.dat none (.bool false)))))]
def spec_l1In.r1 : List Ent := [
  E0 0 (some 7) none (.i (.mv (.t 0))),
  E0 1 (some 8) none (.i (.mv (.t 1))),
  E0 2 (some 9) none (.i (.bin .geq (.t 7) (.t 8))),
  E0 3 (some 10) none (.i (.mv (.t 9))),
  E0 4 (some 11) (some (10, true)) (.i (.mv (.t 0))),
  E0 5 (some 12) (some (10, true)) (.i (.mv (.t 2))),
  E0 6 (some 13) (some (10, true)) (.i (.bin .leq (.t 11) (.t 12))),
  E0 7 (some 14) none (.i (.pick (.t 10) (.t 13) (.k (.dat none (.bool false))))),
  E0 8 (some 6) none (.i (.mv (.t 14)))]
def spec_l1In.fi : FI := { res := [.t 6], code := .seq (.reg 64 1 spec_l1In.r0) (.seq (.reg 128 9 spec_l1In.r1) (.ret)) }
attribute [go_sem] spec_l1In.r0 spec_l1In.r1
theorem spec_l1In.ok : chkF prog F_spec_l1In 3 spec_l1In.fi = true := by kernel_rfl

/-! impl_in -/
def impl_in.r0 : List Ent := [
  E0 0 (some 6) none (.i (.mv (.k (.dat none (.bool false)))))]
def impl_in.r1 : List Ent := [
  E0 0 (some 7) none (.i (.mv (.t 0))),
  E0 1 (some 8) none (.i (.mv (.t 1))),
  E0 2 (some 9) none (.i (.bin .geq (.t 7) (.t 8))),
  E0 3 (some 10) none (.i (.mv (.t 9))),
  E0 4 (some 11) (some (10, true)) (.i (.mv (.t 0))),
  E0 5 (some 12) (some (10, true)) (.i (.mv (.t 2))),
  E0 6 (some 13) (some (10, true)) (.i (.bin .leq (.t 11) (.t 12))),
  E0 7 (some 14) none (.i (.pick (.t 10) (.t 13) (.k (.dat none (.bool false))))),
  E0 8 (some 6) none (.i (.mv (.t 14)))]
def impl_in.fi : FI := { res := [.t 6], code := .seq (.reg 64 1 impl_in.r0) (.seq (.reg 128 9 impl_in.r1) (.ret)) }
attribute [go_sem] impl_in.r0 impl_in.r1
theorem impl_in.ok : chkF prog F_impl_in 3 impl_in.fi = true := by kernel_rfl

/-! laws_szIntS -/
def laws_szIntS.r0 : List Ent := [
  E0 0 (some 4) none (.i (.mv (.k (I64 0))))]
def laws_szIntS.r1 : List Ent := [
  E0 0 (some 5) none (.i (.mv (.t 1))),
  E0 1 (some 6) none (.i (.mv (.t 0))),
  E0 2 (some 7) none (.i (.len (.t 6))),
  E0 3 (some 8) none (.i (.bin .sub (.t 5) (.t 7))),
  E0 4 (some 1) none (.i (.mv (.t 8)))]
def laws_szIntS.r2 : List Ent := [
  E0 0 (some 9) none (.i (.mv (.t 1))),
  E0 1 (some 10) none (.i (.bin .lss (.t 9) (.k (I64 0))))]
def laws_szIntS.r3 : List Ent := [
  E0 0 (some 4) none (.i (.mv (.k (I64 (-1)))))]
def laws_szIntS.r4 : List Ent := [
  E0 0 (some 11) none (.i (.mv (.t 1))),
  E0 1 (some 4) none (.i (.mv (.t 11)))]
def laws_szIntS.fi : FI := { res := [.t 4], code := .seq (.reg 64 1 laws_szIntS.r0) (.seq (.reg 128 5 laws_szIntS.r1) (.seq (.seq (.reg 448 2 laws_szIntS.r2) (.cond (.t 10) (.seq (.reg 576 1 laws_szIntS.r3) (.ret)) (.skip))) (.seq (.reg 640 2 laws_szIntS.r4) (.ret)))) }
attribute [go_sem] laws_szIntS.r0 laws_szIntS.r1 laws_szIntS.r2 laws_szIntS.r3 laws_szIntS.r4
theorem laws_szIntS.ok : chkF prog F_laws_szIntS 2 laws_szIntS.fi = true := by kernel_rfl

/-! laws_toIntS -/
def laws_toIntS.r0 : List Ent := [
  E0 0 (some 2) none (.i (.mv (.k (.nil 1))))]
def laws_toIntS.r1 : List Ent := [
  E0 0 (some 5) none (.i (.mv (.t 0))),
  E0 1 (some 6) none (.i (.len (.t 5))),
  E0 2 (some 7) none (.i (.mks 1 8 (.int .i64 0) (.t 6) (.t 6))),
  E0 3 (some 3) none (.i (.mv (.t 7)))]
def laws_toIntS.r2 : List Ent := [
  E0 0 (some 4) none (.i (.mv (.k (I64 0))))]
def laws_toIntS.r3 : List Ent := [
  E0 0 (some 8) none (.i (.mv (.t 4))),
  E0 1 (some 9) none (.i (.mv (.t 0))),
  E0 2 (some 10) none (.i (.len (.t 9))),
  E0 3 (some 11) none (.i (.bin .lss (.t 8) (.t 10)))]
def laws_toIntS.r4 : List Ent := [
  E0 0 (some 14) none (.i (.mv (.t 3))),
  E0 1 (some 15) none (.i (.mv (.t 4))),
  E0 2 (some 16) none (.i (.mv (.t 0))),
  E0 3 (some 17) none (.i (.mv (.t 4))),
  E0 4 (some 18) none (.i (.iad 1 (.t 16) (.t 17))),
  E0 5 (some 19) none (.i (.load false false 1 (.t 18))),
  E0 6 (some 20) none (.i (.iad 1 (.t 14) (.t 15))),
  E0 7 none none (.i (.store 1 (.t 20) (.t 19)))]
def laws_toIntS.r5 : List Ent := [
  E0 0 (some 12) none (.i (.mv (.t 4))),
  E0 1 (some 13) none (.i (.bin .add (.t 12) (.k (I64 1)))),
  E0 2 (some 4) none (.i (.mv (.t 13)))]
def laws_toIntS.b0 : KC := .seq (.seq (.reg 448 4 laws_toIntS.r3) (.cond (.t 11) (.skip) (.exit 0))) (.seq (.block 1 (.reg 704 8 laws_toIntS.r4)) (.reg 1216 3 laws_toIntS.r5))
def laws_toIntS.r6 : List Ent := [
  E0 0 (some 21) none (.i (.mv (.t 3))),
  E0 1 (some 2) none (.i (.mv (.t 21)))]
def laws_toIntS.fi : FI := { res := [.t 2], code := .seq (.reg 64 1 laws_toIntS.r0) (.seq (.reg 128 4 laws_toIntS.r1) (.seq (.seq (.reg 384 1 laws_toIntS.r2) (.block 0 (.loop laws_toIntS.b0))) (.seq (.reg 1408 2 laws_toIntS.r6) (.ret)))) }
attribute [go_sem] laws_toIntS.r0 laws_toIntS.r1 laws_toIntS.r2 laws_toIntS.r3 laws_toIntS.r4 laws_toIntS.r5 laws_toIntS.r6
theorem laws_toIntS.ok : chkF prog F_laws_toIntS 1 laws_toIntS.fi = true := by kernel_rfl

/-! laws_eqIntS -/
def laws_eqIntS.r0 : List Ent := [
  E0 0 (some 4) none (.i (.mv (.k (.dat none (.bool false)))))]
def laws_eqIntS.r1 : List Ent := [
  E0 0 (some 6) none (.i (.mv (.t 0))),
  E0 1 (some 7) none (.i (.len (.t 6))),
  E0 2 (some 8) none (.i (.mv (.t 1))),
  E0 3 (some 9) none (.i (.len (.t 8))),
  E0 4 (some 10) none (.i (.bin .neq (.t 7) (.t 9)))]
def laws_eqIntS.r2 : List Ent := [
  E0 0 (some 4) none (.i (.mv (.k (.dat none (.bool false)))))]
def laws_eqIntS.r3 : List Ent := [
  E0 0 (some 5) none (.i (.mv (.k (I64 0))))]
def laws_eqIntS.r4 : List Ent := [
  E0 0 (some 11) none (.i (.mv (.t 5))),
  E0 1 (some 12) none (.i (.mv (.t 0))),
  E0 2 (some 13) none (.i (.len (.t 12))),
  E0 3 (some 14) none (.i (.bin .lss (.t 11) (.t 13)))]
def laws_eqIntS.r5 : List Ent := [
  E0 0 (some 17) none (.i (.mv (.t 0))),
  E0 1 (some 18) none (.i (.mv (.t 5))),
  ER 2 (some 19) none (.iad 1 (.t 17) (.t 18)),
  ER 3 (some 20) none (.load false false 1 (.t 19)),
  E0 4 (some 21) none (.i (.mv (.t 1))),
  E0 5 (some 22) none (.i (.mv (.t 5))),
  ER 6 (some 23) none (.iad 1 (.t 21) (.t 22)),
  ER 7 (some 24) none (.load false false 1 (.t 23)),
  E0 8 (some 25) none (.i (.bin .neq (.t 20) (.t 24)))]
def laws_eqIntS.r6 : List Ent := [
  E0 0 (some 4) none (.i (.mv (.k (.dat none (.bool false)))))]
def laws_eqIntS.r7 : List Ent := [
  E0 0 (some 15) none (.i (.mv (.t 5))),
  E0 1 (some 16) none (.i (.bin .add (.t 15) (.k (I64 1)))),
  E0 2 (some 5) none (.i (.mv (.t 16)))]
def laws_eqIntS.b0 : KC := .seq (.seq (.reg 576 4 laws_eqIntS.r4) (.cond (.t 14) (.skip) (.exit 0))) (.seq (.block 1 (.seq (.reg 832 9 laws_eqIntS.r5) (.cond (.t 25) (.seq (.reg 1408 1 laws_eqIntS.r6) (.ret)) (.skip)))) (.reg 1472 3 laws_eqIntS.r7))
def laws_eqIntS.r8 : List Ent := [
  E0 0 (some 4) none (.i (.mv (.k (.dat none (.bool true)))))]
def laws_eqIntS.fi : FI := { res := [.t 4], code := .seq (.reg 64 1 laws_eqIntS.r0) (.seq (.seq (.reg 128 5 laws_eqIntS.r1) (.cond (.t 10) (.seq (.reg 448 1 laws_eqIntS.r2) (.ret)) (.skip))) (.seq (.seq (.reg 512 1 laws_eqIntS.r3) (.block 0 (.loop laws_eqIntS.b0))) (.seq (.reg 1664 1 laws_eqIntS.r8) (.ret)))) }
attribute [go_sem] laws_eqIntS.r0 laws_eqIntS.r1 laws_eqIntS.r2 laws_eqIntS.r3 laws_eqIntS.r4 laws_eqIntS.r5 laws_eqIntS.r6 laws_eqIntS.r7 laws_eqIntS.r8
theorem laws_eqIntS.ok : chkF prog F_laws_eqIntS 2 laws_eqIntS.fi = true := by kernel_rfl

/-! spec_l1Has -/
def spec_l1Has.r0 : List Ent := [
  E0 0 (some 4) none (.i (.mv (.k (.dat none (.bool false)))))]
def spec_l1Has.r1 : List Ent := [
  E0 0 (some 7) none (.i (.mv (.t 0))),
  E0 1 (some 8) none (.i (.len (.t 7))),
  E0 2 (some 9) none (.i (.mv (.k (I64 0))))]
def spec_l1Has.r2 : List Ent := [
  E0 0 (some 10) none (.i (.bin .lss (.t 9) (.t 8)))]
def spec_l1Has.r3 : List Ent := [
  E0 0 (some 11) none (.i (.iad 1 (.t 7) (.t 9))),
  E0 1 (some 12) none (.i (.load false false 1 (.t 11))),
  E0 2 (some 6) none (.i (.mv (.t 12)))]
def spec_l1Has.r4 : List Ent := [
  E0 0 (some 13) none (.i (.mv (.t 6))),
  E0 1 (some 14) none (.i (.mv (.t 1))),
  E0 2 (some 15) none (.i (.bin .eql (.t 13) (.t 14)))]
def spec_l1Has.r5 : List Ent := [
  E0 0 (some 4) none (.i (.mv (.k (.dat none (.bool true)))))]
def spec_l1Has.r6 : List Ent := [
  E0 0 (some 16) none (.i (.bin .add (.t 9) (.k (I64 1)))),
  E0 1 (some 9) none (.i (.mv (.t 16)))]
def spec_l1Has.b0 : KC := .seq (.reg 320 1 spec_l1Has.r2) (.seq (.cond (.t 10) (.skip) (.exit 0)) (.seq (.block 1 (.seq (.reg 384 3 spec_l1Has.r3) (.seq (.reg 576 3 spec_l1Has.r4) (.cond (.t 15) (.seq (.reg 768 1 spec_l1Has.r5) (.ret)) (.skip))))) (.reg 832 2 spec_l1Has.r6)))
def spec_l1Has.r7 : List Ent := [
  E0 0 (some 4) none (.i (.mv (.k (.dat none (.bool false)))))]
def spec_l1Has.fi : FI := { res := [.t 4], code := .seq (.reg 64 1 spec_l1Has.r0) (.seq (.seq (.reg 128 3 spec_l1Has.r1) (.block 0 (.loop spec_l1Has.b0))) (.seq (.reg 960 1 spec_l1Has.r7) (.ret))) }
attribute [go_sem] spec_l1Has.r0 spec_l1Has.r1 spec_l1Has.r2 spec_l1Has.r3 spec_l1Has.r4 spec_l1Has.r5 spec_l1Has.r6 spec_l1Has.r7
theorem spec_l1Has.ok : chkF prog F_spec_l1Has 2 spec_l1Has.fi = true := by kernel_rfl

/-! slices_IndexFunc__sint_int -/
def slices_IndexFunc__sint_int.r0 : List Ent := [
  E0 0 (some 4) none (.i (.mv (.k (I64 0))))]
def slices_IndexFunc__sint_int.r1 : List Ent := [
  E0 0 (some 6) none (.i (.mv (.t 0))),
  E0 1 (some 7) none (.i (.len (.t 6))),
  E0 2 (some 8) none (.i (.mv (.k (I64 0))))]
def slices_IndexFunc__sint_int.r2 : List Ent := [
  E0 0 (some 9) none (.i (.bin .lss (.t 8) (.t 7)))]
def slices_IndexFunc__sint_int.r3 : List Ent := [
  E0 0 (some 10) none (.i (.mv (.t 8))),
  E0 1 (some 5) none (.i (.mv (.t 10)))]
def slices_IndexFunc__sint_int.r4 : List Ent := [
  E0 0 (some 11) none (.i (.mv (.t 1))),
  E0 1 (some 12) none (.i (.mv (.t 0))),
  E0 2 (some 13) none (.i (.mv (.t 5))),
  E0 3 (some 14) none (.i (.iad 1 (.t 12) (.t 13))),
  E0 4 (some 15) none (.i (.load false false 1 (.t 14))),
  E0 5 (some 16) none (.ccl (.t 11) false [.t 15])]
def slices_IndexFunc__sint_int.r5 : List Ent := [
  E0 0 (some 17) none (.i (.mv (.t 5))),
  E0 1 (some 4) none (.i (.mv (.t 17)))]
def slices_IndexFunc__sint_int.r6 : List Ent := [
  E0 0 (some 18) none (.i (.bin .add (.t 8) (.k (I64 1)))),
  E0 1 (some 8) none (.i (.mv (.t 18)))]
def slices_IndexFunc__sint_int.b0 : KC := .seq (.reg 320 1 slices_IndexFunc__sint_int.r2) (.seq (.cond (.t 9) (.skip) (.exit 0)) (.seq (.block 1 (.seq (.reg 384 2 slices_IndexFunc__sint_int.r3) (.seq (.reg 512 6 slices_IndexFunc__sint_int.r4) (.cond (.t 16) (.seq (.reg 896 2 slices_IndexFunc__sint_int.r5) (.ret)) (.skip))))) (.reg 1024 2 slices_IndexFunc__sint_int.r6)))
def slices_IndexFunc__sint_int.r7 : List Ent := [
  E0 0 (some 4) none (.i (.mv (.k (I64 (-1)))))]
def slices_IndexFunc__sint_int.fi : FI := { res := [.t 4], code := .seq (.reg 64 1 slices_IndexFunc__sint_int.r0) (.seq (.seq (.reg 128 3 slices_IndexFunc__sint_int.r1) (.block 0 (.loop slices_IndexFunc__sint_int.b0))) (.seq (.reg 1152 1 slices_IndexFunc__sint_int.r7) (.ret))) }
attribute [go_sem] slices_IndexFunc__sint_int.r0 slices_IndexFunc__sint_int.r1 slices_IndexFunc__sint_int.r2 slices_IndexFunc__sint_int.r3 slices_IndexFunc__sint_int.r4 slices_IndexFunc__sint_int.r5 slices_IndexFunc__sint_int.r6 slices_IndexFunc__sint_int.r7
theorem slices_IndexFunc__sint_int.ok : chkF prog F_slices_IndexFunc__sint_int 2 slices_IndexFunc__sint_int.fi = true := by kernel_rfl

/-! slices_DeleteFunc__sint_int -/
def slices_DeleteFunc__sint_int.r0 : List Ent := [
  E0 0 (some 4) none (.i (.mv (.k (.nil 1))))]
def slices_DeleteFunc__sint_int.r1 : List Ent := [
  E0 0 (some 8) none (.i (.mv (.t 0))),
  E0 1 (some 9) none (.i (.mv (.t 1))),
  E0 2 (some 10) none (.call F_slices_IndexFunc__sint_int false (roA [.t 8, .t 9])),
  E0 3 (some 5) none (.i (.mv (.t 10)))]
def slices_DeleteFunc__sint_int.r2 : List Ent := [
  E0 0 (some 11) none (.i (.mv (.t 5))),
  E0 1 (some 12) none (.i (.bin .eql (.t 11) (.k (I64 (-1)))))]
def slices_DeleteFunc__sint_int.r3 : List Ent := [
  E0 0 (some 13) none (.i (.mv (.t 0))),
  E0 1 (some 4) none (.i (.mv (.t 13)))]
def slices_DeleteFunc__sint_int.r4 : List Ent := [
  E0 0 (some 14) none (.i (.mv (.t 5))),
  E0 1 (some 15) none (.i (.bin .add (.t 14) (.k (I64 1)))),
  E0 2 (some 6) none (.i (.mv (.t 15)))]
def slices_DeleteFunc__sint_int.r5 : List Ent := [
  E0 0 (some 16) none (.i (.mv (.t 6))),
  E0 1 (some 17) none (.i (.mv (.t 0))),
  E0 2 (some 18) none (.i (.len (.t 17))),
  E0 3 (some 19) none (.i (.bin .lss (.t 16) (.t 18)))]
def slices_DeleteFunc__sint_int.r6 : List Ent := [
  E0 0 (some 22) none (.i (.mv (.t 0))),
  E0 1 (some 23) none (.i (.mv (.t 6))),
  E0 2 (some 24) none (.i (.iad 1 (.t 22) (.t 23))),
  E0 3 (some 25) none (.i (.load false false 1 (.t 24))),
  E0 4 (some 7) none (.i (.mv (.t 25)))]
def slices_DeleteFunc__sint_int.r7 : List Ent := [
  E0 0 (some 26) none (.i (.mv (.t 1))),
  E0 1 (some 27) none (.i (.mv (.t 7))),
  E0 2 (some 28) none (.ccl (.t 26) false [.t 27]),
  E0 3 (some 29) none (.i (.un .not (.t 28)))]
def slices_DeleteFunc__sint_int.r8 : List Ent := [
  E0 0 (some 30) none (.i (.mv (.t 0))),
  E0 1 (some 31) none (.i (.mv (.t 5))),
  E0 2 (some 32) none (.i (.mv (.t 7))),
  E0 3 (some 33) none (.i (.iad 1 (.t 30) (.t 31))),
  E0 4 none none (.i (.store 1 (.t 33) (.t 32)))]
def slices_DeleteFunc__sint_int.r9 : List Ent := [
  E0 0 (some 34) none (.i (.mv (.t 5))),
  E0 1 (some 35) none (.i (.bin .add (.t 34) (.k (I64 1)))),
  E0 2 (some 5) none (.i (.mv (.t 35)))]
def slices_DeleteFunc__sint_int.r10 : List Ent := [
  E0 0 (some 20) none (.i (.mv (.t 6))),
  E0 1 (some 21) none (.i (.bin .add (.t 20) (.k (I64 1)))),
  E0 2 (some 6) none (.i (.mv (.t 21)))]
def slices_DeleteFunc__sint_int.b0 : KC := .seq (.seq (.reg 832 4 slices_DeleteFunc__sint_int.r5) (.cond (.t 19) (.skip) (.exit 0))) (.seq (.block 1 (.seq (.reg 1088 5 slices_DeleteFunc__sint_int.r6) (.seq (.reg 1408 4 slices_DeleteFunc__sint_int.r7) (.cond (.t 29) (.seq (.reg 1664 5 slices_DeleteFunc__sint_int.r8) (.reg 1984 3 slices_DeleteFunc__sint_int.r9)) (.skip))))) (.reg 2176 3 slices_DeleteFunc__sint_int.r10))
def slices_DeleteFunc__sint_int.r11 : List Ent := [
  E0 0 (some 36) none (.i (.mv (.t 0))),
  E0 1 (some 37) none (.i (.mv (.t 5))),
  E0 2 (some 38) none (.i (.slc 1 (.t 36) (some (.t 37)) (none))),
  E0 3 none none (.i (.clr 1 (.int .i64 0) (.t 38)))]
def slices_DeleteFunc__sint_int.r12 : List Ent := [
  E0 0 (some 39) none (.i (.mv (.t 0))),
  E0 1 (some 40) none (.i (.mv (.t 5))),
  E0 2 (some 41) none (.i (.slc 1 (.t 39) (none) (some (.t 40)))),
  E0 3 (some 4) none (.i (.mv (.t 41)))]
def slices_DeleteFunc__sint_int.fi : FI := { res := [.t 4], code := .seq (.reg 64 1 slices_DeleteFunc__sint_int.r0) (.seq (.reg 128 4 slices_DeleteFunc__sint_int.r1) (.seq (.seq (.reg 384 2 slices_DeleteFunc__sint_int.r2) (.cond (.t 12) (.seq (.reg 512 2 slices_DeleteFunc__sint_int.r3) (.ret)) (.skip))) (.seq (.seq (.reg 640 3 slices_DeleteFunc__sint_int.r4) (.block 0 (.loop slices_DeleteFunc__sint_int.b0))) (.seq (.reg 2368 4 slices_DeleteFunc__sint_int.r11) (.seq (.reg 2624 4 slices_DeleteFunc__sint_int.r12) (.ret)))))) }
attribute [go_sem] slices_DeleteFunc__sint_int.r0 slices_DeleteFunc__sint_int.r1 slices_DeleteFunc__sint_int.r2 slices_DeleteFunc__sint_int.r3 slices_DeleteFunc__sint_int.r4 slices_DeleteFunc__sint_int.r5 slices_DeleteFunc__sint_int.r6 slices_DeleteFunc__sint_int.r7 slices_DeleteFunc__sint_int.r8 slices_DeleteFunc__sint_int.r9 slices_DeleteFunc__sint_int.r10 slices_DeleteFunc__sint_int.r11 slices_DeleteFunc__sint_int.r12
theorem slices_DeleteFunc__sint_int.ok : chkF prog F_slices_DeleteFunc__sint_int 2 slices_DeleteFunc__sint_int.fi = true := by kernel_rfl

/-! slices_Clone__sint_int -/
def slices_Clone__sint_int.r0 : List Ent := [
  E0 0 (some 2) none (.i (.mv (.k (.nil 1))))]
def slices_Clone__sint_int.r1 : List Ent := [
  E0 0 (some 3) none (.i (.mv (.t 0))),
  E0 1 (some 4) none (.i (.eqnil false (.t 3)))]
def slices_Clone__sint_int.r2 : List Ent := [
  E0 0 (some 2) none (.i (.mv (.k (.nil 1))))]
def slices_Clone__sint_int.r3 : List Ent := [
  E0 0 (some 5) none (.i (.bsl false 1 [])),
  E0 1 (some 6) none (.i (.mv (.t 0))),
  E0 2 (some 7) none (.i (.app 1 8 (.t 5) (.t 6))),
  E0 3 (some 2) none (.i (.mv (.t 7)))]
def slices_Clone__sint_int.fi : FI := { res := [.t 2], code := .seq (.reg 64 1 slices_Clone__sint_int.r0) (.seq (.seq (.reg 128 2 slices_Clone__sint_int.r1) (.cond (.t 4) (.seq (.reg 256 1 slices_Clone__sint_int.r2) (.ret)) (.skip))) (.seq (.reg 320 4 slices_Clone__sint_int.r3) (.ret))) }
attribute [go_sem] slices_Clone__sint_int.r0 slices_Clone__sint_int.r1 slices_Clone__sint_int.r2 slices_Clone__sint_int.r3
theorem slices_Clone__sint_int.ok : chkF prog F_slices_Clone__sint_int 1 slices_Clone__sint_int.fi = true := by kernel_rfl

/-! laws_szIntSS -/
def laws_szIntSS.r0 : List Ent := [
  E0 0 (some 4) none (.i (.mv (.k (I64 0))))]
def laws_szIntSS.r1 : List Ent := [
  E0 0 (some 6) none (.i (.mv (.t 1))),
  E0 1 (some 7) none (.i (.mv (.t 0))),
  E0 2 (some 8) none (.i (.len (.t 7))),
  E0 3 (some 9) none (.i (.bin .sub (.t 6) (.t 8))),
  E0 4 (some 1) none (.i (.mv (.t 9)))]
def laws_szIntSS.r2 : List Ent := [
  E0 0 (some 10) none (.i (.mv (.t 1))),
  E0 1 (some 11) none (.i (.bin .lss (.t 10) (.k (I64 0))))]
def laws_szIntSS.r3 : List Ent := [
  E0 0 (some 4) none (.i (.mv (.k (I64 (-1)))))]
def laws_szIntSS.r4 : List Ent := [
  E0 0 (some 5) none (.i (.mv (.k (I64 0))))]
def laws_szIntSS.r5 : List Ent := [
  E0 0 (some 12) none (.i (.mv (.t 5))),
  E0 1 (some 13) none (.i (.mv (.t 0))),
  E0 2 (some 14) none (.i (.len (.t 13))),
  E0 3 (some 15) none (.i (.bin .lss (.t 12) (.t 14)))]
def laws_szIntSS.r6 : List Ent := [
  E0 0 (some 18) none (.i (.mv (.t 0))),
  E0 1 (some 19) none (.i (.mv (.t 5))),
  E0 2 (some 20) none (.i (.iad 1 (.t 18) (.t 19))),
  E0 3 (some 21) none (.i (.load false false 1 (.t 20))),
  E0 4 (some 22) none (.i (.mv (.t 1))),
  E0 5 (some 23) none (.call F_laws_szIntS false (roA [.t 21, .t 22])),
  E0 6 (some 1) none (.i (.mv (.t 23)))]
def laws_szIntSS.r7 : List Ent := [
  E0 0 (some 24) none (.i (.mv (.t 1))),
  E0 1 (some 25) none (.i (.bin .lss (.t 24) (.k (I64 0))))]
def laws_szIntSS.r8 : List Ent := [
  E0 0 (some 4) none (.i (.mv (.k (I64 (-1)))))]
def laws_szIntSS.r9 : List Ent := [
  E0 0 (some 16) none (.i (.mv (.t 5))),
  E0 1 (some 17) none (.i (.bin .add (.t 16) (.k (I64 1)))),
  E0 2 (some 5) none (.i (.mv (.t 17)))]
def laws_szIntSS.b0 : KC := .seq (.seq (.reg 704 4 laws_szIntSS.r5) (.cond (.t 15) (.skip) (.exit 0))) (.seq (.block 1 (.seq (.reg 960 7 laws_szIntSS.r6) (.seq (.reg 1408 2 laws_szIntSS.r7) (.cond (.t 25) (.seq (.reg 1536 1 laws_szIntSS.r8) (.ret)) (.skip))))) (.reg 1600 3 laws_szIntSS.r9))
def laws_szIntSS.r10 : List Ent := [
  E0 0 (some 26) none (.i (.mv (.t 1))),
  E0 1 (some 4) none (.i (.mv (.t 26)))]
def laws_szIntSS.fi : FI := { res := [.t 4], code := .seq (.reg 64 1 laws_szIntSS.r0) (.seq (.reg 128 5 laws_szIntSS.r1) (.seq (.seq (.reg 448 2 laws_szIntSS.r2) (.cond (.t 11) (.seq (.reg 576 1 laws_szIntSS.r3) (.ret)) (.skip))) (.seq (.seq (.reg 640 1 laws_szIntSS.r4) (.block 0 (.loop laws_szIntSS.b0))) (.seq (.reg 1792 2 laws_szIntSS.r10) (.ret))))) }
attribute [go_sem] laws_szIntSS.r0 laws_szIntSS.r1 laws_szIntSS.r2 laws_szIntSS.r3 laws_szIntSS.r4 laws_szIntSS.r5 laws_szIntSS.r6 laws_szIntSS.r7 laws_szIntSS.r8 laws_szIntSS.r9 laws_szIntSS.r10
theorem laws_szIntSS.ok : chkF prog F_laws_szIntSS 2 laws_szIntSS.fi = true := by kernel_rfl

/-! spec_l4Clause -/
def spec_l4Clause.r0 : List Ent := [
  E0 0 (some 4) none (.i (.mv (.k (.dat none (.bool false)))))]
def spec_l4Clause.r1 : List Ent := [
  E0 0 (some 7) none (.i (.mv (.t 1))),
  E0 1 (some 8) none (.i (.len (.t 7))),
  E0 2 (some 9) none (.i (.mv (.k (I64 0))))]
def spec_l4Clause.r2 : List Ent := [
  E0 0 (some 10) none (.i (.bin .lss (.t 9) (.t 8)))]
def spec_l4Clause.r3 : List Ent := [
  E0 0 (some 11) none (.i (.mv (.t 9))),
  E0 1 (some 12) none (.i (.iad 1 (.t 7) (.t 9))),
  E0 2 (some 13) none (.i (.load false false 1 (.t 12))),
  E0 3 (some 5) none (.i (.mv (.t 11))),
  E0 4 (some 6) none (.i (.mv (.t 13)))]
def spec_l4Clause.r4 : List Ent := [
  E0 0 (some 14) none (.i (.mv (.t 6))),
  E0 1 (some 15) none (.i (.bin .eql (.t 14) (.k (I64 0)))),
  E0 2 (some 16) none (.i (.mv (.t 15))),
  E0 3 (some 17) (some (16, false)) (.i (.mv (.t 6))),
  E0 4 (some 18) (some (16, false)) (.i (.mv (.t 0))),
  E0 5 (some 19) (some (16, false)) (.i (.un .neg (.t 18))),
  E0 6 (some 20) (some (16, false)) (.i (.mv (.t 0))),
  E0 7 (some 21) (some (16, false)) (.call F_spec_l1In false (roA [.t 17, .t 19, .t 20])),
  E0 8 (some 22) (some (16, false)) (.i (.un .not (.t 21))),
  E0 9 (some 23) none (.i (.pick (.t 16) (.k (.dat none (.bool true))) (.t 22))),
  E0 10 (some 24) none (.i (.mv (.t 23))),
  E0 11 (some 25) (some (24, false)) (.i (.mv (.t 1))),
  E0 12 (some 26) (some (24, false)) (.i (.mv (.t 5))),
  E0 13 (some 27) (some (24, false)) (.i (.slc 1 (.t 25) (none) (some (.t 26)))),
  E0 14 (some 28) (some (24, false)) (.i (.mv (.t 6))),
  E0 15 (some 29) (some (24, false)) (.call F_spec_l1Has false (roA [.t 27, .t 28])),
  E0 16 (some 30) none (.i (.pick (.t 24) (.k (.dat none (.bool true))) (.t 29))),
  E0 17 (some 31) none (.i (.mv (.t 30))),
  E0 18 (some 32) (some (31, false)) (.i (.mv (.t 1))),
  E0 19 (some 33) (some (31, false)) (.i (.mv (.t 5))),
  E0 20 (some 34) (some (31, false)) (.i (.slc 1 (.t 32) (none) (some (.t 33)))),
  E0 21 (some 35) (some (31, false)) (.i (.mv (.t 6))),
  E0 22 (some 36) (some (31, false)) (.i (.un .neg (.t 35))),
  E0 23 (some 37) (some (31, false)) (.call F_spec_l1Has false (roA [.t 34, .t 36])),
  E0 24 (some 38) none (.i (.pick (.t 31) (.k (.dat none (.bool true))) (.t 37)))]
def spec_l4Clause.r5 : List Ent := [
  E0 0 (some 4) none (.i (.mv (.k (.dat none (.bool false)))))]
def spec_l4Clause.r6 : List Ent := [
  E0 0 (some 39) none (.i (.bin .add (.t 9) (.k (I64 1)))),
  E0 1 (some 9) none (.i (.mv (.t 39)))]
def spec_l4Clause.b0 : KC := .seq (.reg 320 1 spec_l4Clause.r2) (.seq (.cond (.t 10) (.skip) (.exit 0)) (.seq (.block 1 (.seq (.reg 384 5 spec_l4Clause.r3) (.seq (.reg 704 25 spec_l4Clause.r4) (.cond (.t 38) (.seq (.reg 2304 1 spec_l4Clause.r5) (.ret)) (.skip))))) (.reg 2368 2 spec_l4Clause.r6)))
def spec_l4Clause.r7 : List Ent := [
  E0 0 (some 40) none (.i (.mv (.t 1))),
  E0 1 (some 41) none (.i (.len (.t 40))),
  E0 2 (some 42) none (.i (.bin .leq (.t 41) (.k (I64 12)))),
  E0 3 (some 4) none (.i (.mv (.t 42)))]
def spec_l4Clause.fi : FI := { res := [.t 4], code := .seq (.reg 64 1 spec_l4Clause.r0) (.seq (.seq (.reg 128 3 spec_l4Clause.r1) (.block 0 (.loop spec_l4Clause.b0))) (.seq (.reg 2496 4 spec_l4Clause.r7) (.ret))) }
attribute [go_sem] spec_l4Clause.r0 spec_l4Clause.r1 spec_l4Clause.r2 spec_l4Clause.r3 spec_l4Clause.r4 spec_l4Clause.r5 spec_l4Clause.r6 spec_l4Clause.r7
theorem spec_l4Clause.ok : chkF prog F_spec_l4Clause 2 spec_l4Clause.fi = true := by kernel_rfl

/-! spec_l4Good -/
def spec_l4Good.r0 : List Ent := [
  E0 0 (some 6) none (.i (.mv (.k (.dat none (.bool false)))))]
def spec_l4Good.r1 : List Ent := [
  E0 0 (some 9) none (.i (.mv (.t 0))),
  E0 1 (some 10) none (.call F_spec_l1In false (roA [.t 9, .k (I64 0), .k (I64 12)])),
  E0 2 (some 11) none (.i (.un .not (.t 10))),
  E0 3 (some 12) none (.i (.mv (.t 11))),
  E0 4 (some 13) (some (12, false)) (.i (.mv (.t 1))),
  E0 5 (some 14) (some (12, false)) (.i (.len (.t 13))),
  E0 6 (some 15) (some (12, false)) (.i (.mv (.t 2))),
  E0 7 (some 16) (some (12, false)) (.i (.bin .gtr (.t 14) (.t 15))),
  E0 8 (some 17) none (.i (.pick (.t 12) (.k (.dat none (.bool true))) (.t 16)))]
def spec_l4Good.r2 : List Ent := [
  E0 0 (some 6) none (.i (.mv (.k (.dat none (.bool false)))))]
def spec_l4Good.r3 : List Ent := [
  E0 0 (some 18) none (.i (.mv (.t 1))),
  E0 1 (some 19) none (.i (.len (.t 18))),
  E0 2 (some 20) none (.i (.mv (.k (I64 0))))]
def spec_l4Good.r4 : List Ent := [
  E0 0 (some 21) none (.i (.bin .lss (.t 20) (.t 19)))]
def spec_l4Good.r5 : List Ent := [
  E0 0 (some 22) none (.i (.iad 1 (.t 18) (.t 20))),
  E0 1 (some 23) none (.i (.load false false 1 (.t 22))),
  E0 2 (some 8) none (.i (.mv (.t 23)))]
def spec_l4Good.r6 : List Ent := [
  E0 0 (some 24) none (.i (.mv (.t 0))),
  E0 1 (some 25) none (.i (.mv (.t 8))),
  E0 2 (some 26) none (.call F_spec_l4Clause false (roA [.t 24, .t 25])),
  E0 3 (some 27) none (.i (.un .not (.t 26)))]
def spec_l4Good.r7 : List Ent := [
  E0 0 (some 6) none (.i (.mv (.k (.dat none (.bool false)))))]
def spec_l4Good.r8 : List Ent := [
  E0 0 (some 28) none (.i (.bin .add (.t 20) (.k (I64 1)))),
  E0 1 (some 20) none (.i (.mv (.t 28)))]
def spec_l4Good.b0 : KC := .seq (.reg 960 1 spec_l4Good.r4) (.seq (.cond (.t 21) (.skip) (.exit 0)) (.seq (.block 1 (.seq (.reg 1024 3 spec_l4Good.r5) (.seq (.reg 1216 4 spec_l4Good.r6) (.cond (.t 27) (.seq (.reg 1472 1 spec_l4Good.r7) (.ret)) (.skip))))) (.reg 1536 2 spec_l4Good.r8)))
def spec_l4Good.r9 : List Ent := [
  E0 0 (some 6) none (.i (.mv (.k (.dat none (.bool true)))))]
def spec_l4Good.fi : FI := { res := [.t 6], code := .seq (.reg 64 1 spec_l4Good.r0) (.seq (.seq (.reg 128 9 spec_l4Good.r1) (.cond (.t 17) (.seq (.reg 704 1 spec_l4Good.r2) (.ret)) (.skip))) (.seq (.seq (.reg 768 3 spec_l4Good.r3) (.block 0 (.loop spec_l4Good.b0))) (.seq (.reg 1664 1 spec_l4Good.r9) (.ret)))) }
attribute [go_sem] spec_l4Good.r0 spec_l4Good.r1 spec_l4Good.r2 spec_l4Good.r3 spec_l4Good.r4 spec_l4Good.r5 spec_l4Good.r6 spec_l4Good.r7 spec_l4Good.r8 spec_l4Good.r9
theorem spec_l4Good.ok : chkF prog F_spec_l4Good 3 spec_l4Good.fi = true := by kernel_rfl

/-! spec_GoodClauses -/
def spec_GoodClauses.r0 : List Ent := [
  E0 0 (some 4) none (.i (.mv (.k (.dat none (.bool false)))))]
def spec_GoodClauses.r1 : List Ent := [
  E0 0 (some 5) none (.i (.mv (.t 0))),
  E0 1 (some 6) none (.i (.mv (.t 1))),
  E0 2 (some 7) none (.call F_spec_l4Good false (roA [.t 5, .t 6, .k (I64 60)])),
  E0 3 (some 4) none (.i (.mv (.t 7)))]
def spec_GoodClauses.fi : FI := { res := [.t 4], code := .seq (.reg 64 1 spec_GoodClauses.r0) (.seq (.reg 128 4 spec_GoodClauses.r1) (.ret)) }
attribute [go_sem] spec_GoodClauses.r0 spec_GoodClauses.r1
theorem spec_GoodClauses.ok : chkF prog F_spec_GoodClauses 2 spec_GoodClauses.fi = true := by kernel_rfl

/-! laws_toIntSS -/
def laws_toIntSS.r0 : List Ent := [
  E0 0 (some 2) none (.i (.mv (.k (.nil 1))))]
def laws_toIntSS.r1 : List Ent := [
  E0 0 (some 5) none (.i (.mv (.t 0))),
  E0 1 (some 6) none (.i (.len (.t 5))),
  E0 2 (some 7) none (.i (.mks 1 24 (.sl 1 []) (.t 6) (.t 6))),
  E0 3 (some 3) none (.i (.mv (.t 7)))]
def laws_toIntSS.r2 : List Ent := [
  E0 0 (some 4) none (.i (.mv (.k (I64 0))))]
def laws_toIntSS.r3 : List Ent := [
  E0 0 (some 8) none (.i (.mv (.t 4))),
  E0 1 (some 9) none (.i (.mv (.t 0))),
  E0 2 (some 10) none (.i (.len (.t 9))),
  E0 3 (some 11) none (.i (.bin .lss (.t 8) (.t 10)))]
def laws_toIntSS.r4 : List Ent := [
  E0 0 (some 14) none (.i (.mv (.t 3))),
  E0 1 (some 15) none (.i (.mv (.t 4))),
  E0 2 (some 16) none (.i (.mv (.t 0))),
  E0 3 (some 17) none (.i (.mv (.t 4))),
  E0 4 (some 18) none (.i (.iad 1 (.t 16) (.t 17))),
  E0 5 (some 19) none (.i (.load false false 1 (.t 18))),
  E0 6 (some 20) none (.call F_laws_toIntS false (roA [.t 19])),
  E0 7 (some 21) none (.i (.iad 1 (.t 14) (.t 15))),
  E0 8 none none (.i (.store 1 (.t 21) (.t 20)))]
def laws_toIntSS.r5 : List Ent := [
  E0 0 (some 12) none (.i (.mv (.t 4))),
  E0 1 (some 13) none (.i (.bin .add (.t 12) (.k (I64 1)))),
  E0 2 (some 4) none (.i (.mv (.t 13)))]
def laws_toIntSS.b0 : KC := .seq (.seq (.reg 448 4 laws_toIntSS.r3) (.cond (.t 11) (.skip) (.exit 0))) (.seq (.block 1 (.reg 704 9 laws_toIntSS.r4)) (.reg 1280 3 laws_toIntSS.r5))
def laws_toIntSS.r6 : List Ent := [
  E0 0 (some 22) none (.i (.mv (.t 3))),
  E0 1 (some 2) none (.i (.mv (.t 22)))]
def laws_toIntSS.fi : FI := { res := [.t 2], code := .seq (.reg 64 1 laws_toIntSS.r0) (.seq (.reg 128 4 laws_toIntSS.r1) (.seq (.seq (.reg 384 1 laws_toIntSS.r2) (.block 0 (.loop laws_toIntSS.b0))) (.seq (.reg 1472 2 laws_toIntSS.r6) (.ret)))) }
attribute [go_sem] laws_toIntSS.r0 laws_toIntSS.r1 laws_toIntSS.r2 laws_toIntSS.r3 laws_toIntSS.r4 laws_toIntSS.r5 laws_toIntSS.r6
theorem laws_toIntSS.ok : chkF prog F_laws_toIntSS 1 laws_toIntSS.fi = true := by kernel_rfl

/-! slices_IndexFunc__ssint_sint -/
def slices_IndexFunc__ssint_sint.r0 : List Ent := [
  E0 0 (some 4) none (.i (.mv (.k (I64 0))))]
def slices_IndexFunc__ssint_sint.r1 : List Ent := [
  E0 0 (some 6) none (.i (.mv (.t 0))),
  E0 1 (some 7) none (.i (.len (.t 6))),
  E0 2 (some 8) none (.i (.mv (.k (I64 0))))]
def slices_IndexFunc__ssint_sint.r2 : List Ent := [
  E0 0 (some 9) none (.i (.bin .lss (.t 8) (.t 7)))]
def slices_IndexFunc__ssint_sint.r3 : List Ent := [
  E0 0 (some 10) none (.i (.mv (.t 8))),
  E0 1 (some 5) none (.i (.mv (.t 10)))]
def slices_IndexFunc__ssint_sint.r4 : List Ent := [
  E0 0 (some 11) none (.i (.mv (.t 1))),
  E0 1 (some 12) none (.i (.mv (.t 0))),
  E0 2 (some 13) none (.i (.mv (.t 5))),
  E0 3 (some 14) none (.i (.iad 1 (.t 12) (.t 13))),
  E0 4 (some 15) none (.i (.load false false 1 (.t 14))),
  E0 5 (some 16) none (.ccl (.t 11) false [.t 15])]
def slices_IndexFunc__ssint_sint.r5 : List Ent := [
  E0 0 (some 17) none (.i (.mv (.t 5))),
  E0 1 (some 4) none (.i (.mv (.t 17)))]
def slices_IndexFunc__ssint_sint.r6 : List Ent := [
  E0 0 (some 18) none (.i (.bin .add (.t 8) (.k (I64 1)))),
  E0 1 (some 8) none (.i (.mv (.t 18)))]
def slices_IndexFunc__ssint_sint.b0 : KC := .seq (.reg 320 1 slices_IndexFunc__ssint_sint.r2) (.seq (.cond (.t 9) (.skip) (.exit 0)) (.seq (.block 1 (.seq (.reg 384 2 slices_IndexFunc__ssint_sint.r3) (.seq (.reg 512 6 slices_IndexFunc__ssint_sint.r4) (.cond (.t 16) (.seq (.reg 896 2 slices_IndexFunc__ssint_sint.r5) (.ret)) (.skip))))) (.reg 1024 2 slices_IndexFunc__ssint_sint.r6)))
def slices_IndexFunc__ssint_sint.r7 : List Ent := [
  E0 0 (some 4) none (.i (.mv (.k (I64 (-1)))))]
def slices_IndexFunc__ssint_sint.fi : FI := { res := [.t 4], code := .seq (.reg 64 1 slices_IndexFunc__ssint_sint.r0) (.seq (.seq (.reg 128 3 slices_IndexFunc__ssint_sint.r1) (.block 0 (.loop slices_IndexFunc__ssint_sint.b0))) (.seq (.reg 1152 1 slices_IndexFunc__ssint_sint.r7) (.ret))) }
attribute [go_sem] slices_IndexFunc__ssint_sint.r0 slices_IndexFunc__ssint_sint.r1 slices_IndexFunc__ssint_sint.r2 slices_IndexFunc__ssint_sint.r3 slices_IndexFunc__ssint_sint.r4 slices_IndexFunc__ssint_sint.r5 slices_IndexFunc__ssint_sint.r6 slices_IndexFunc__ssint_sint.r7
theorem slices_IndexFunc__ssint_sint.ok : chkF prog F_slices_IndexFunc__ssint_sint 2 slices_IndexFunc__ssint_sint.fi = true := by kernel_rfl

/-! slices_ContainsFunc__ssint_sint -/
def slices_ContainsFunc__ssint_sint.r0 : List Ent := [
  E0 0 (some 4) none (.i (.mv (.k (.dat none (.bool false)))))]
def slices_ContainsFunc__ssint_sint.r1 : List Ent := [
  E0 0 (some 5) none (.i (.mv (.t 0))),
  E0 1 (some 6) none (.i (.mv (.t 1))),
  E0 2 (some 7) none (.call F_slices_IndexFunc__ssint_sint false (roA [.t 5, .t 6])),
  E0 3 (some 8) none (.i (.bin .geq (.t 7) (.k (I64 0)))),
  E0 4 (some 4) none (.i (.mv (.t 8)))]
def slices_ContainsFunc__ssint_sint.fi : FI := { res := [.t 4], code := .seq (.reg 64 1 slices_ContainsFunc__ssint_sint.r0) (.seq (.reg 128 5 slices_ContainsFunc__ssint_sint.r1) (.ret)) }
attribute [go_sem] slices_ContainsFunc__ssint_sint.r0 slices_ContainsFunc__ssint_sint.r1
theorem slices_ContainsFunc__ssint_sint.ok : chkF prog F_slices_ContainsFunc__ssint_sint 2 slices_ContainsFunc__ssint_sint.fi = true := by kernel_rfl

/-! impl_isLiteral -/
def impl_isLiteral.r0 : List Ent := [
  E0 0 (some 4) none (.i (.mv (.k (.dat none (.bool false)))))]
def impl_isLiteral.r1 : List Ent := [
  E0 0 (some 5) none (.i (.mv (.t 0))),
  E0 1 (some 6) none (.i (.bin .neq (.t 5) (.k (I64 0)))),
  E0 2 (some 7) none (.i (.mv (.t 6))),
  E0 3 (some 8) (some (7, true)) (.i (.mv (.t 0))),
  E0 4 (some 9) (some (7, true)) (.i (.mv (.t 1))),
  E0 5 (some 10) (some (7, true)) (.i (.un .neg (.t 9))),
  E0 6 (some 11) (some (7, true)) (.i (.mv (.t 1))),
  E0 7 (some 12) (some (7, true)) (.call F_impl_in false (roA [.t 8, .t 10, .t 11])),
  E0 8 (some 13) none (.i (.pick (.t 7) (.t 12) (.k (.dat none (.bool false))))),
  E0 9 (some 4) none (.i (.mv (.t 13)))]
def impl_isLiteral.fi : FI := { res := [.t 4], code := .seq (.reg 64 1 impl_isLiteral.r0) (.seq (.reg 128 10 impl_isLiteral.r1) (.ret)) }
attribute [go_sem] impl_isLiteral.r0 impl_isLiteral.r1
theorem impl_isLiteral.ok : chkF prog F_impl_isLiteral 2 impl_isLiteral.fi = true := by kernel_rfl

/-! slices_ContainsFunc__sint_int -/
def slices_ContainsFunc__sint_int.r0 : List Ent := [
  E0 0 (some 4) none (.i (.mv (.k (.dat none (.bool false)))))]
def slices_ContainsFunc__sint_int.r1 : List Ent := [
  E0 0 (some 5) none (.i (.mv (.t 0))),
  E0 1 (some 6) none (.i (.mv (.t 1))),
  E0 2 (some 7) none (.call F_slices_IndexFunc__sint_int false (roA [.t 5, .t 6])),
  E0 3 (some 8) none (.i (.bin .geq (.t 7) (.k (I64 0)))),
  E0 4 (some 4) none (.i (.mv (.t 8)))]
def slices_ContainsFunc__sint_int.fi : FI := { res := [.t 4], code := .seq (.reg 64 1 slices_ContainsFunc__sint_int.r0) (.seq (.reg 128 5 slices_ContainsFunc__sint_int.r1) (.ret)) }
attribute [go_sem] slices_ContainsFunc__sint_int.r0 slices_ContainsFunc__sint_int.r1
theorem slices_ContainsFunc__sint_int.ok : chkF prog F_slices_ContainsFunc__sint_int 2 slices_ContainsFunc__sint_int.fi = true := by kernel_rfl

/-! impl_variable -/
def impl_variable.r0 : List Ent := [
  E0 0 (some 2) none (.i (.mv (.k (I64 0))))]
def impl_variable.r1 : List Ent := [
  E0 0 (some 3) none (.i (.mv (.t 0))),
  E0 1 (some 4) none (.i (.mv (.t 0))),
  E0 2 (some 5) none (.i (.un .neg (.t 4))),
  E0 3 (some 6) none (.i (.mnx true (.t 3) (.t 5))),
  E0 4 (some 2) none (.i (.mv (.t 6)))]
def impl_variable.fi : FI := { res := [.t 2], code := .seq (.reg 64 1 impl_variable.r0) (.seq (.reg 128 5 impl_variable.r1) (.ret)) }
attribute [go_sem] impl_variable.r0 impl_variable.r1
theorem impl_variable.ok : chkF prog F_impl_variable 1 impl_variable.fi = true := by kernel_rfl

/-! impl_isClause_c1 -/
def impl_isClause_c1.r0 : List Ent := [
  E0 0 (some 3) none (.i (.mv (.k (.dat none (.bool false)))))]
def impl_isClause_c1.r1 : List Ent := [
  E0 0 (some 4) none (.i (.mv (.t 0))),
  E2 1 (some 5) none (.call F_impl_variable false (roA [.t 4])),
  ER 2 (some 6) none (.load false false 1 (.t 1)),
  E0 3 (some 7) none (.call F_impl_variable false (roA [.t 6])),
  E0 4 (some 8) none (.i (.bin .eql (.t 5) (.t 7))),
  E0 5 (some 3) none (.i (.mv (.t 8)))]
def impl_isClause_c1.fi : FI := { res := [.t 3], code := .seq (.reg 64 1 impl_isClause_c1.r0) (.seq (.reg 128 6 impl_isClause_c1.r1) (.ret)) }
attribute [go_sem] impl_isClause_c1.r0 impl_isClause_c1.r1
theorem impl_isClause_c1.ok : chkF prog F_impl_isClause_c1 2 impl_isClause_c1.fi = true := by kernel_rfl

/-! impl_isClause -/
def impl_isClause.r0 : List Ent := [
  E0 0 (some 4) none (.i (.mv (.k (.dat none (.bool false)))))]
def impl_isClause.r1 : List Ent := [
  E0 0 (some 7) none (.i (.mv (.t 0))),
  E0 1 (some 8) none (.i (.len (.t 7))),
  E0 2 (some 9) none (.i (.mv (.k (I64 0))))]
def impl_isClause.r2 : List Ent := [
  E0 0 (some 10) none (.i (.bin .lss (.t 9) (.t 8)))]
def impl_isClause.r3 : List Ent := [
  E0 0 (some 11) none (.i (.mv (.t 9))),
  E0 1 (some 12) none (.i (.iad 1 (.t 7) (.t 9))),
  E0 2 (some 13) none (.i (.load false false 1 (.t 12))),
  E0 3 (some 6) none (.i (.box (.k (.dat none (.int .i64 0))))),
  E0 4 (some 5) none (.i (.mv (.t 11))),
  E0 5 none none (.i (.store 1 (.t 6) (.t 13)))]
def impl_isClause.r4 : List Ent := [
  E0 0 (some 14) none (.i (.load false false 1 (.t 6))),
  E0 1 (some 15) none (.i (.mv (.t 1))),
  E0 2 (some 16) none (.call F_impl_isLiteral false (roA [.t 14, .t 15])),
  E0 3 (some 17) none (.i (.un .not (.t 16))),
  E0 4 (some 18) none (.i (.mv (.t 17))),
  E0 5 (some 19) (some (18, false)) (.i (.mv (.t 0))),
  E0 6 (some 20) (some (18, false)) (.i (.mv (.t 5))),
  E0 7 (some 21) (some (18, false)) (.i (.slc 1 (.t 19) (none) (some (.t 20)))),
  E0 8 (some 22) (some (18, false)) (.i (.mkf F_impl_isClause_c1 [.t 6])),
  E0 9 (some 23) (some (18, false)) (.call F_slices_ContainsFunc__sint_int false (roA [.t 21, .t 22])),
  E0 10 (some 24) none (.i (.pick (.t 18) (.k (.dat none (.bool true))) (.t 23)))]
def impl_isClause.r5 : List Ent := [
  E0 0 (some 4) none (.i (.mv (.k (.dat none (.bool false)))))]
def impl_isClause.r6 : List Ent := [
  E0 0 (some 25) none (.i (.bin .add (.t 9) (.k (I64 1)))),
  E0 1 (some 9) none (.i (.mv (.t 25)))]
def impl_isClause.b0 : KC := .seq (.reg 320 1 impl_isClause.r2) (.seq (.cond (.t 10) (.skip) (.exit 0)) (.seq (.block 1 (.seq (.reg 384 6 impl_isClause.r3) (.seq (.reg 768 11 impl_isClause.r4) (.cond (.t 24) (.seq (.reg 1472 1 impl_isClause.r5) (.ret)) (.skip))))) (.reg 1536 2 impl_isClause.r6)))
def impl_isClause.r7 : List Ent := [
  E0 0 (some 26) none (.i (.mv (.t 0))),
  E0 1 (some 27) none (.i (.len (.t 26))),
  E0 2 (some 28) none (.i (.bin .leq (.t 27) (.k (I64 12)))),
  E0 3 (some 4) none (.i (.mv (.t 28)))]
def impl_isClause.fi : FI := { res := [.t 4], code := .seq (.reg 64 1 impl_isClause.r0) (.seq (.seq (.reg 128 3 impl_isClause.r1) (.block 0 (.loop impl_isClause.b0))) (.seq (.reg 1664 4 impl_isClause.r7) (.ret))) }
attribute [go_sem] impl_isClause.r0 impl_isClause.r1 impl_isClause.r2 impl_isClause.r3 impl_isClause.r4 impl_isClause.r5 impl_isClause.r6 impl_isClause.r7
theorem impl_isClause.ok : chkF prog F_impl_isClause 2 impl_isClause.fi = true := by kernel_rfl

/-! impl_areClauses_c1 -/
def impl_areClauses_c1.r0 : List Ent := [
  E0 0 (some 3) none (.i (.mv (.k (.dat none (.bool false)))))]
def impl_areClauses_c1.r1 : List Ent := [
  E0 0 (some 4) none (.i (.mv (.t 0))),
  E0 1 (some 5) none (.i (.load false false 1 (.t 1))),
  E0 2 (some 6) none (.call F_impl_isClause false (roA [.t 4, .t 5])),
  E0 3 (some 7) none (.i (.un .not (.t 6))),
  E0 4 (some 3) none (.i (.mv (.t 7)))]
def impl_areClauses_c1.fi : FI := { res := [.t 3], code := .seq (.reg 64 1 impl_areClauses_c1.r0) (.seq (.reg 128 5 impl_areClauses_c1.r1) (.ret)) }
attribute [go_sem] impl_areClauses_c1.r0 impl_areClauses_c1.r1
theorem impl_areClauses_c1.ok : chkF prog F_impl_areClauses_c1 2 impl_areClauses_c1.fi = true := by kernel_rfl

/-! impl_areClauses -/
def impl_areClauses.r0 : List Ent := [
  E0 0 (some 3) none (.i (.box (.t 1))),
  E0 1 (some 4) none (.i (.mv (.k (.dat none (.bool false)))))]
def impl_areClauses.r1 : List Ent := [
  E0 0 (some 5) none (.i (.mv (.t 0))),
  E0 1 (some 6) none (.i (.mkf F_impl_areClauses_c1 [.t 3])),
  E0 2 (some 7) none (.call F_slices_ContainsFunc__ssint_sint false (roA [.t 5, .t 6])),
  E0 3 (some 8) none (.i (.un .not (.t 7))),
  E0 4 (some 4) none (.i (.mv (.t 8)))]
def impl_areClauses.fi : FI := { res := [.t 4], code := .seq (.reg 64 2 impl_areClauses.r0) (.seq (.reg 192 5 impl_areClauses.r1) (.ret)) }
attribute [go_sem] impl_areClauses.r0 impl_areClauses.r1
theorem impl_areClauses.ok : chkF prog F_impl_areClauses 2 impl_areClauses.fi = true := by kernel_rfl

/-! impl_GoodClauses -/
def impl_GoodClauses.r0 : List Ent := [
  E0 0 (some 4) none (.i (.mv (.k (.dat none (.bool false)))))]
def impl_GoodClauses.r1 : List Ent := [
  E0 0 (some 5) none (.i (.mv (.t 0))),
  E0 1 (some 6) none (.call F_impl_in false (roA [.t 5, .k (I64 0), .k (I64 12)])),
  E0 2 (some 7) none (.i (.mv (.t 6))),
  E0 3 (some 8) (some (7, true)) (.i (.mv (.t 1))),
  E0 4 (some 9) (some (7, true)) (.i (.len (.t 8))),
  E0 5 (some 10) (some (7, true)) (.i (.bin .leq (.t 9) (.k (I64 60)))),
  E0 6 (some 11) none (.i (.pick (.t 7) (.t 10) (.k (.dat none (.bool false))))),
  E0 7 (some 12) none (.i (.mv (.t 11))),
  E0 8 (some 13) (some (12, true)) (.i (.mv (.t 1))),
  E0 9 (some 14) (some (12, true)) (.i (.mv (.t 0))),
  E0 10 (some 15) (some (12, true)) (.call F_impl_areClauses false (roA [.t 13, .t 14])),
  E0 11 (some 16) none (.i (.pick (.t 12) (.t 15) (.k (.dat none (.bool false))))),
  E0 12 (some 4) none (.i (.mv (.t 16)))]
def impl_GoodClauses.fi : FI := { res := [.t 4], code := .seq (.reg 64 1 impl_GoodClauses.r0) (.seq (.reg 128 13 impl_GoodClauses.r1) (.ret)) }
attribute [go_sem] impl_GoodClauses.r0 impl_GoodClauses.r1
theorem impl_GoodClauses.ok : chkF prog F_impl_GoodClauses 2 impl_GoodClauses.fi = true := by kernel_rfl

/-! laws_eqIntSS -/
def laws_eqIntSS.r0 : List Ent := [
  E0 0 (some 4) none (.i (.mv (.k (.dat none (.bool false)))))]
def laws_eqIntSS.r1 : List Ent := [
  E0 0 (some 6) none (.i (.mv (.t 0))),
  E0 1 (some 7) none (.i (.len (.t 6))),
  E0 2 (some 8) none (.i (.mv (.t 1))),
  E0 3 (some 9) none (.i (.len (.t 8))),
  E0 4 (some 10) none (.i (.bin .neq (.t 7) (.t 9)))]
def laws_eqIntSS.r2 : List Ent := [
  E0 0 (some 4) none (.i (.mv (.k (.dat none (.bool false)))))]
def laws_eqIntSS.r3 : List Ent := [
  E0 0 (some 5) none (.i (.mv (.k (I64 0))))]
def laws_eqIntSS.r4 : List Ent := [
  E0 0 (some 11) none (.i (.mv (.t 5))),
  E0 1 (some 12) none (.i (.mv (.t 0))),
  E0 2 (some 13) none (.i (.len (.t 12))),
  E0 3 (some 14) none (.i (.bin .lss (.t 11) (.t 13)))]
def laws_eqIntSS.r5 : List Ent := [
  E0 0 (some 17) none (.i (.mv (.t 0))),
  E0 1 (some 18) none (.i (.mv (.t 5))),
  ER 2 (some 19) none (.iad 1 (.t 17) (.t 18)),
  ER 3 (some 20) none (.load false false 1 (.t 19)),
  E0 4 (some 21) none (.i (.mv (.t 1))),
  E0 5 (some 22) none (.i (.mv (.t 5))),
  ER 6 (some 23) none (.iad 1 (.t 21) (.t 22)),
  ER 7 (some 24) none (.load false false 1 (.t 23)),
  E0 8 (some 25) none (.call F_laws_eqIntS false (roA [.t 20, .t 24])),
  E0 9 (some 26) none (.i (.un .not (.t 25)))]
def laws_eqIntSS.r6 : List Ent := [
  E0 0 (some 4) none (.i (.mv (.k (.dat none (.bool false)))))]
def laws_eqIntSS.r7 : List Ent := [
  E0 0 (some 15) none (.i (.mv (.t 5))),
  E0 1 (some 16) none (.i (.bin .add (.t 15) (.k (I64 1)))),
  E0 2 (some 5) none (.i (.mv (.t 16)))]
def laws_eqIntSS.b0 : KC := .seq (.seq (.reg 576 4 laws_eqIntSS.r4) (.cond (.t 14) (.skip) (.exit 0))) (.seq (.block 1 (.seq (.reg 832 10 laws_eqIntSS.r5) (.cond (.t 26) (.seq (.reg 1472 1 laws_eqIntSS.r6) (.ret)) (.skip)))) (.reg 1536 3 laws_eqIntSS.r7))
def laws_eqIntSS.r8 : List Ent := [
  E0 0 (some 4) none (.i (.mv (.k (.dat none (.bool true)))))]
def laws_eqIntSS.fi : FI := { res := [.t 4], code := .seq (.reg 64 1 laws_eqIntSS.r0) (.seq (.seq (.reg 128 5 laws_eqIntSS.r1) (.cond (.t 10) (.seq (.reg 448 1 laws_eqIntSS.r2) (.ret)) (.skip))) (.seq (.seq (.reg 512 1 laws_eqIntSS.r3) (.block 0 (.loop laws_eqIntSS.b0))) (.seq (.reg 1728 1 laws_eqIntSS.r8) (.ret)))) }
attribute [go_sem] laws_eqIntSS.r0 laws_eqIntSS.r1 laws_eqIntSS.r2 laws_eqIntSS.r3 laws_eqIntSS.r4 laws_eqIntSS.r5 laws_eqIntSS.r6 laws_eqIntSS.r7 laws_eqIntSS.r8
theorem laws_eqIntSS.ok : chkF prog F_laws_eqIntSS 2 laws_eqIntSS.fi = true := by kernel_rfl

/-! spec_IsHorn -/
def spec_IsHorn.r0 : List Ent := [
  E0 0 (some 4) none (.i (.mv (.k (.dat none (.bool false))))),
  E0 1 (some 5) none (.i (.mv (.k (.dat none (.bool false)))))]
def spec_IsHorn.r1 : List Ent := [
  E0 0 (some 11) none (.i (.mv (.t 0))),
  E0 1 (some 12) none (.i (.mv (.t 1))),
  E0 2 (some 13) none (.call F_spec_GoodClauses false (roA [.t 11, .t 12])),
  E0 3 (some 14) none (.i (.un .not (.t 13)))]
def spec_IsHorn.r2 : List Ent := [
  E0 0 (some 4) none (.i (.mv (.k (.dat none (.bool false))))),
  E0 1 (some 5) none (.i (.mv (.k (.dat none (.bool false)))))]
def spec_IsHorn.r3 : List Ent := [
  E0 0 (some 15) none (.i (.mv (.t 1))),
  E0 1 (some 16) none (.i (.len (.t 15))),
  E0 2 (some 17) none (.i (.mv (.k (I64 0))))]
def spec_IsHorn.r4 : List Ent := [
  E0 0 (some 18) none (.i (.bin .lss (.t 17) (.t 16)))]
def spec_IsHorn.r5 : List Ent := [
  E0 0 (some 19) none (.i (.iad 1 (.t 15) (.t 17))),
  E0 1 (some 20) none (.i (.load false false 1 (.t 19))),
  E0 2 (some 7) none (.i (.mv (.t 20)))]
def spec_IsHorn.r6 : List Ent := [
  E0 0 (some 8) none (.i (.mv (.k (I64 0))))]
def spec_IsHorn.r7 : List Ent := [
  E0 0 (some 21) none (.i (.mv (.t 7))),
  E0 1 (some 22) none (.i (.len (.t 21))),
  E0 2 (some 23) none (.i (.mv (.k (I64 0))))]
def spec_IsHorn.r8 : List Ent := [
  E0 0 (some 24) none (.i (.bin .lss (.t 23) (.t 22)))]
def spec_IsHorn.r9 : List Ent := [
  E0 0 (some 25) none (.i (.iad 1 (.t 21) (.t 23))),
  E0 1 (some 26) none (.i (.load false false 1 (.t 25))),
  E0 2 (some 10) none (.i (.mv (.t 26)))]
def spec_IsHorn.r10 : List Ent := [
  E0 0 (some 27) none (.i (.mv (.t 10))),
  E0 1 (some 28) none (.i (.bin .gtr (.t 27) (.k (I64 0))))]
def spec_IsHorn.r11 : List Ent := [
  E0 0 (some 29) none (.i (.mv (.t 8))),
  E0 1 (some 30) none (.i (.bin .add (.t 29) (.k (I64 1)))),
  E0 2 (some 8) none (.i (.mv (.t 30)))]
def spec_IsHorn.r12 : List Ent := [
  E0 0 (some 31) none (.i (.bin .add (.t 23) (.k (I64 1)))),
  E0 1 (some 23) none (.i (.mv (.t 31)))]
def spec_IsHorn.b0 : KC := .seq (.reg 1280 1 spec_IsHorn.r8) (.seq (.cond (.t 24) (.skip) (.exit 2)) (.seq (.block 3 (.seq (.reg 1344 3 spec_IsHorn.r9) (.seq (.reg 1536 2 spec_IsHorn.r10) (.cond (.t 28) (.reg 1664 3 spec_IsHorn.r11) (.skip))))) (.reg 1856 2 spec_IsHorn.r12)))
def spec_IsHorn.r13 : List Ent := [
  E0 0 (some 32) none (.i (.mv (.t 8))),
  E0 1 (some 33) none (.i (.bin .gtr (.t 32) (.k (I64 1))))]
def spec_IsHorn.r14 : List Ent := [
  E0 0 (some 4) none (.i (.mv (.k (.dat none (.bool false))))),
  E0 1 (some 5) none (.i (.mv (.k (.dat none (.bool true)))))]
def spec_IsHorn.r15 : List Ent := [
  E0 0 (some 34) none (.i (.bin .add (.t 17) (.k (I64 1)))),
  E0 1 (some 17) none (.i (.mv (.t 34)))]
def spec_IsHorn.b1 : KC := .seq (.reg 768 1 spec_IsHorn.r4) (.seq (.cond (.t 18) (.skip) (.exit 0)) (.seq (.block 1 (.seq (.reg 832 3 spec_IsHorn.r5) (.seq (.reg 1024 1 spec_IsHorn.r6) (.seq (.seq (.reg 1088 3 spec_IsHorn.r7) (.block 2 (.loop spec_IsHorn.b0))) (.seq (.reg 1984 2 spec_IsHorn.r13) (.cond (.t 33) (.seq (.reg 2112 2 spec_IsHorn.r14) (.ret)) (.skip))))))) (.reg 2240 2 spec_IsHorn.r15)))
def spec_IsHorn.r16 : List Ent := [
  E0 0 (some 4) none (.i (.mv (.k (.dat none (.bool true))))),
  E0 1 (some 5) none (.i (.mv (.k (.dat none (.bool true)))))]
def spec_IsHorn.fi : FI := { res := [.t 4, .t 5], code := .seq (.reg 64 2 spec_IsHorn.r0) (.seq (.seq (.reg 192 4 spec_IsHorn.r1) (.cond (.t 14) (.seq (.reg 448 2 spec_IsHorn.r2) (.ret)) (.skip))) (.seq (.seq (.reg 576 3 spec_IsHorn.r3) (.block 0 (.loop spec_IsHorn.b1))) (.seq (.reg 2368 2 spec_IsHorn.r16) (.ret)))) }
attribute [go_sem] spec_IsHorn.r0 spec_IsHorn.r1 spec_IsHorn.r2 spec_IsHorn.r3 spec_IsHorn.r4 spec_IsHorn.r5 spec_IsHorn.r6 spec_IsHorn.r7 spec_IsHorn.r8 spec_IsHorn.r9 spec_IsHorn.r10 spec_IsHorn.r11 spec_IsHorn.r12 spec_IsHorn.r13 spec_IsHorn.r14 spec_IsHorn.r15 spec_IsHorn.r16
theorem spec_IsHorn.ok : chkF prog F_spec_IsHorn 2 spec_IsHorn.fi = true := by kernel_rfl

/-! impl_IsHorn_c1 -/
def impl_IsHorn_c1.r0 : List Ent := [
  E0 0 (some 2) none (.i (.mv (.k (.dat none (.bool false)))))]
def impl_IsHorn_c1.r1 : List Ent := [
  E0 0 (some 3) none (.i (.mv (.t 0))),
  E0 1 (some 4) none (.i (.bin .lss (.t 3) (.k (I64 0)))),
  E0 2 (some 2) none (.i (.mv (.t 4)))]
def impl_IsHorn_c1.fi : FI := { res := [.t 2], code := .seq (.reg 64 1 impl_IsHorn_c1.r0) (.seq (.reg 128 3 impl_IsHorn_c1.r1) (.ret)) }
attribute [go_sem] impl_IsHorn_c1.r0 impl_IsHorn_c1.r1
theorem impl_IsHorn_c1.ok : chkF prog F_impl_IsHorn_c1 1 impl_IsHorn_c1.fi = true := by kernel_rfl

/-! impl_IsHorn -/
def impl_IsHorn.r0 : List Ent := [
  E0 0 (some 4) none (.i (.mv (.k (.dat none (.bool false))))),
  E0 1 (some 5) none (.i (.mv (.k (.dat none (.bool false)))))]
def impl_IsHorn.r1 : List Ent := [
  E0 0 (some 9) none (.i (.mv (.t 0))),
  E0 1 (some 10) none (.i (.mv (.t 1))),
  E0 2 (some 11) none (.call F_impl_GoodClauses false (roA [.t 9, .t 10])),
  E0 3 (some 12) none (.i (.un .not (.t 11)))]
def impl_IsHorn.r2 : List Ent := [
  E0 0 (some 4) none (.i (.mv (.k (.dat none (.bool false))))),
  E0 1 (some 5) none (.i (.mv (.k (.dat none (.bool false)))))]
def impl_IsHorn.r3 : List Ent := [
  E0 0 (some 13) none (.i (.mv (.t 1))),
  E0 1 (some 14) none (.i (.len (.t 13))),
  E0 2 (some 15) none (.i (.mv (.k (I64 0))))]
def impl_IsHorn.r4 : List Ent := [
  E0 0 (some 16) none (.i (.bin .lss (.t 15) (.t 14)))]
def impl_IsHorn.r5 : List Ent := [
  E0 0 (some 17) none (.i (.iad 1 (.t 13) (.t 15))),
  E0 1 (some 18) none (.i (.load false false 1 (.t 17))),
  E0 2 (some 7) none (.i (.mv (.t 18)))]
def impl_IsHorn.r6 : List Ent := [
  E0 0 (some 19) none (.i (.mv (.t 7))),
  E0 1 (some 20) none (.call F_slices_Clone__sint_int false (roA [.t 19])),
  E0 2 (some 21) none (.call F_slices_DeleteFunc__sint_int false [(.co, .t 20), (.ro, .k (.clo F_impl_IsHorn_c1 []))]),
  E0 3 (some 8) none (.i (.mv (.t 21)))]
def impl_IsHorn.r7 : List Ent := [
  E0 0 (some 22) none (.i (.mv (.t 8))),
  E0 1 (some 23) none (.i (.len (.t 22))),
  E0 2 (some 24) none (.i (.bin .gtr (.t 23) (.k (I64 1))))]
def impl_IsHorn.r8 : List Ent := [
  E0 0 (some 4) none (.i (.mv (.k (.dat none (.bool false))))),
  E0 1 (some 5) none (.i (.mv (.k (.dat none (.bool true)))))]
def impl_IsHorn.r9 : List Ent := [
  E0 0 (some 25) none (.i (.bin .add (.t 15) (.k (I64 1)))),
  E0 1 (some 15) none (.i (.mv (.t 25)))]
def impl_IsHorn.b0 : KC := .seq (.reg 768 1 impl_IsHorn.r4) (.seq (.cond (.t 16) (.skip) (.exit 0)) (.seq (.block 1 (.seq (.reg 832 3 impl_IsHorn.r5) (.seq (.reg 1024 4 impl_IsHorn.r6) (.seq (.reg 1280 3 impl_IsHorn.r7) (.cond (.t 24) (.seq (.reg 1472 2 impl_IsHorn.r8) (.ret)) (.skip)))))) (.reg 1600 2 impl_IsHorn.r9)))
def impl_IsHorn.r10 : List Ent := [
  E0 0 (some 4) none (.i (.mv (.k (.dat none (.bool true))))),
  E0 1 (some 5) none (.i (.mv (.k (.dat none (.bool true)))))]
def impl_IsHorn.fi : FI := { res := [.t 4, .t 5], code := .seq (.reg 64 2 impl_IsHorn.r0) (.seq (.seq (.reg 192 4 impl_IsHorn.r1) (.cond (.t 12) (.seq (.reg 448 2 impl_IsHorn.r2) (.ret)) (.skip))) (.seq (.seq (.reg 576 3 impl_IsHorn.r3) (.block 0 (.loop impl_IsHorn.b0))) (.seq (.reg 1728 2 impl_IsHorn.r10) (.ret)))) }
attribute [go_sem] impl_IsHorn.r0 impl_IsHorn.r1 impl_IsHorn.r2 impl_IsHorn.r3 impl_IsHorn.r4 impl_IsHorn.r5 impl_IsHorn.r6 impl_IsHorn.r7 impl_IsHorn.r8 impl_IsHorn.r9 impl_IsHorn.r10
theorem impl_IsHorn.ok : chkF prog F_impl_IsHorn 2 impl_IsHorn.fi = true := by kernel_rfl

/-! laws_FnExactIsHorn -/
def laws_FnExactIsHorn.r0 : List Ent := [
  E0 0 (some 4) none (.i (.mv (.k (.dat none (.bool false)))))]
def laws_FnExactIsHorn.r1 : List Ent := [
  E0 0 (some 5) none (.i (.mv (.k (I64 1048576))))]
def laws_FnExactIsHorn.r2 : List Ent := [
  E0 0 (some 11) none (.i (.mv (.t 1))),
  E0 1 (some 12) none (.i (.mv (.t 5))),
  E0 2 (some 13) none (.call F_laws_szIntSS false (roA [.t 11, .t 12])),
  E0 3 (some 5) none (.i (.mv (.t 13)))]
def laws_FnExactIsHorn.r3 : List Ent := [
  E0 0 (some 14) none (.i (.mv (.t 5))),
  E0 1 (some 15) none (.i (.bin .lss (.t 14) (.k (I64 0))))]
def laws_FnExactIsHorn.r4 : List Ent := [
  E0 0 (some 4) none (.i (.mv (.k (.dat none (.bool true)))))]
def laws_FnExactIsHorn.r5 : List Ent := [
  E0 0 (some 17) none (.i (.mv (.t 0))),
  E0 1 (some 18) none (.i (.mv (.t 1))),
  E0 2 (some 19) none (.call F_laws_toIntSS false (roA [.t 18])),
  E0 3 (some 20) none (.call F_spec_IsHorn false (roA [.t 17, .t 19])),
  E0 4 (some 16) none (.i (.mv (.t 20))),
  E0 5 (some 21) none (.i (.ext 0 (.t 16))),
  E0 6 (some 22) none (.i (.ext 1 (.t 16))),
  E0 7 (some 6) none (.i (.mv (.t 21))),
  E0 8 (some 7) none (.i (.mv (.t 22)))]
def laws_FnExactIsHorn.r6 : List Ent := [
  E0 0 (some 23) none (.i (.mv (.t 1))),
  E0 1 (some 24) none (.call F_laws_toIntSS false (roA [.t 23])),
  E0 2 (some 8) none (.i (.mv (.t 24)))]
def laws_FnExactIsHorn.r7 : List Ent := [
  E0 0 (some 26) none (.i (.mv (.t 0))),
  E0 1 (some 27) none (.i (.mv (.t 8))),
  E0 2 (some 28) none (.call F_impl_IsHorn false (roA [.t 26, .t 27])),
  E0 3 (some 25) none (.i (.mv (.t 28))),
  E0 4 (some 29) none (.i (.ext 0 (.t 25))),
  E0 5 (some 30) none (.i (.ext 1 (.t 25))),
  E0 6 (some 9) none (.i (.mv (.t 29))),
  E0 7 (some 10) none (.i (.mv (.t 30)))]
def laws_FnExactIsHorn.r8 : List Ent := [
  E0 0 (some 31) none (.i (.mv (.t 9))),
  E0 1 (some 32) none (.i (.mv (.t 6))),
  E0 2 (some 33) none (.i (.eqb true (.t 31) (.t 32))),
  E0 3 (some 34) none (.i (.mv (.t 33))),
  E0 4 (some 35) (some (34, false)) (.i (.mv (.t 10))),
  E0 5 (some 36) (some (34, false)) (.i (.mv (.t 7))),
  E0 6 (some 37) (some (34, false)) (.i (.eqb true (.t 35) (.t 36))),
  E0 7 (some 38) none (.i (.pick (.t 34) (.k (.dat none (.bool true))) (.t 37)))]
def laws_FnExactIsHorn.r9 : List Ent := [
  E0 0 (some 4) none (.i (.mv (.k (.dat none (.bool false)))))]
def laws_FnExactIsHorn.r10 : List Ent := [
  E0 0 (some 39) none (.i (.mv (.t 8))),
  E0 1 (some 40) none (.i (.mv (.t 1))),
  E0 2 (some 41) none (.call F_laws_toIntSS false (roA [.t 40])),
  E0 3 (some 42) none (.call F_laws_eqIntSS false (roA [.t 39, .t 41])),
  E0 4 (some 43) none (.i (.un .not (.t 42)))]
def laws_FnExactIsHorn.r11 : List Ent := [
  E0 0 (some 4) none (.i (.mv (.k (.dat none (.bool false)))))]
def laws_FnExactIsHorn.r12 : List Ent := [
  E0 0 (some 4) none (.i (.mv (.k (.dat none (.bool true)))))]
def laws_FnExactIsHorn.fi : FI := { res := [.t 4], code := .seq (.reg 64 1 laws_FnExactIsHorn.r0) (.seq (.reg 128 1 laws_FnExactIsHorn.r1) (.seq (.reg 192 4 laws_FnExactIsHorn.r2) (.seq (.seq (.reg 448 2 laws_FnExactIsHorn.r3) (.cond (.t 15) (.seq (.reg 576 1 laws_FnExactIsHorn.r4) (.ret)) (.skip))) (.seq (.reg 640 9 laws_FnExactIsHorn.r5) (.seq (.reg 1216 3 laws_FnExactIsHorn.r6) (.seq (.reg 1408 8 laws_FnExactIsHorn.r7) (.seq (.seq (.reg 1920 8 laws_FnExactIsHorn.r8) (.cond (.t 38) (.seq (.reg 2432 1 laws_FnExactIsHorn.r9) (.ret)) (.skip))) (.seq (.seq (.reg 2496 5 laws_FnExactIsHorn.r10) (.cond (.t 43) (.seq (.reg 2816 1 laws_FnExactIsHorn.r11) (.ret)) (.skip))) (.seq (.reg 2880 1 laws_FnExactIsHorn.r12) (.ret)))))))))) }
attribute [go_sem] laws_FnExactIsHorn.r0 laws_FnExactIsHorn.r1 laws_FnExactIsHorn.r2 laws_FnExactIsHorn.r3 laws_FnExactIsHorn.r4 laws_FnExactIsHorn.r5 laws_FnExactIsHorn.r6 laws_FnExactIsHorn.r7 laws_FnExactIsHorn.r8 laws_FnExactIsHorn.r9 laws_FnExactIsHorn.r10 laws_FnExactIsHorn.r11 laws_FnExactIsHorn.r12
theorem laws_FnExactIsHorn.ok : chkF prog F_laws_FnExactIsHorn 2 laws_FnExactIsHorn.fi = true := by kernel_rfl
end Go.Vm.Ytedcnkglldmkbaa
