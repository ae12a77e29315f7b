/- The functions that the law reaches, in the text of the interpreter, and that this text fits them (no condition). -/
import Derived.Test.YtedcnkglldmkbaaVmc
import Derived.Test.YtedcnkglldmkbaaProg
import Derived.KernelRfl
/- PRINTED BY irgen.py, a program of this claim's author: the functions that the claim reaches, in the text of the interpreter, and that they fit. -/
namespace Go.Vm.Ytedcnkglldmkbaa
open Go Go.Vm
set_option linter.unusedVariables false
set_option maxRecDepth 100000
noncomputable abbrev prog : Program := Go.Proofs.Try.prog
abbrev F_laws_FnExactReduceBoth : FuncId := 3
abbrev F_laws_FnExactGoodRules : FuncId := 4
abbrev F_laws_FnExactMeetOf : FuncId := 5
abbrev F_laws_FnExactIsTwo : FuncId := 6
abbrev F_laws_FnExactTwoOf : FuncId := 7
abbrev F_laws_FnExactHoldsIn : FuncId := 8
abbrev F_laws_FnExactIsHorn : FuncId := 9
abbrev F_laws_FnExactReachWithin : FuncId := 10
abbrev F_laws_FnExactBackArcs : FuncId := 11
abbrev F_laws_FnExactWhyOf : FuncId := 12
abbrev F_laws_FnExactLeastOf : FuncId := 13
abbrev F_laws_FnExactRulesAsClauses : FuncId := 14
abbrev F_spec_ReduceBoth : FuncId := 15
abbrev F_laws_toStretch : FuncId := 16
abbrev F_laws_toKnown : FuncId := 17
abbrev F_impl_ReduceBoth : FuncId := 18
abbrev F_laws_eqStretch : FuncId := 19
abbrev F_laws_eqKnown : FuncId := 20
abbrev F_laws_szRuleS : FuncId := 21
abbrev F_spec_GoodRules : FuncId := 22
abbrev F_laws_toRuleS : FuncId := 23
abbrev F_impl_GoodRules : FuncId := 24
abbrev F_laws_eqRuleS : FuncId := 25
abbrev F_spec_MeetOf : FuncId := 26
abbrev F_laws_toIntS : FuncId := 27
abbrev F_impl_MeetOf : FuncId := 28
abbrev F_laws_eqIntS : FuncId := 29
abbrev F_laws_markIntS : FuncId := 30
abbrev F_laws_heldIntS : FuncId := 31
abbrev F_laws_szIntSS : FuncId := 32
abbrev F_spec_IsTwo : FuncId := 33
abbrev F_laws_toIntSS : FuncId := 34
abbrev F_impl_IsTwo : FuncId := 35
abbrev F_laws_eqIntSS : FuncId := 36
abbrev F_spec_TwoOf : FuncId := 37
abbrev F_impl_TwoOf : FuncId := 38
abbrev F_laws_markIntSS : FuncId := 39
abbrev F_laws_heldIntSS : FuncId := 40
abbrev F_spec_HoldsIn : FuncId := 41
abbrev F_impl_HoldsIn : FuncId := 42
abbrev F_spec_IsHorn : FuncId := 43
abbrev F_impl_IsHorn : FuncId := 44
abbrev F_laws_szArcS : FuncId := 45
abbrev F_spec_ReachWithin : FuncId := 46
abbrev F_laws_toArcS : FuncId := 47
abbrev F_impl_ReachWithin : FuncId := 48
abbrev F_laws_eqArcS : FuncId := 49
abbrev F_laws_markArcS : FuncId := 50
abbrev F_spec_BackArcs : FuncId := 51
abbrev F_impl_BackArcs : FuncId := 52
abbrev F_spec_WhyOf : FuncId := 53
abbrev F_impl_WhyOf : FuncId := 54
abbrev F_laws_markRuleS : FuncId := 55
abbrev F_spec_LeastOf : FuncId := 56
abbrev F_impl_LeastOf : FuncId := 57
abbrev F_spec_RulesAsClauses : FuncId := 58
abbrev F_impl_RulesAsClauses : FuncId := 59
abbrev F_spec_GoodStretch : FuncId := 60
abbrev F_spec_GoodKnown : FuncId := 61
abbrev F_spec_l13Reduce : FuncId := 62
abbrev F_impl_GoodStretch : FuncId := 63
abbrev F_impl_GoodKnown : FuncId := 64
abbrev F_impl_reduceBoth : FuncId := 65
abbrev F_laws_szRule : FuncId := 66
abbrev F_spec_l16Facts : FuncId := 67
abbrev F_spec_l1In : FuncId := 68
abbrev F_laws_toRule : FuncId := 69
abbrev F_impl_in : FuncId := 70
abbrev F_slices_ContainsFunc__sRule_Rule : FuncId := 71
abbrev F_impl_GoodRules_c1 : FuncId := 72
abbrev F_impl_areFacts : FuncId := 73
abbrev F_laws_eqRule : FuncId := 74
abbrev F_spec_l1Has : FuncId := 75
abbrev F_slices_DeleteFunc__sint_int : FuncId := 76
abbrev F_slices_Clone__sint_int : FuncId := 77
abbrev F_impl_MeetOf_c1 : FuncId := 78
abbrev F_slices_Contains__sint_int : FuncId := 79
abbrev F_laws_szIntS : FuncId := 80
abbrev F_spec_GoodClauses : FuncId := 81
abbrev F_impl_GoodClauses : FuncId := 82
abbrev F_slices_ContainsFunc__ssint_sint : FuncId := 83
abbrev F_impl_IsTwo_c1 : FuncId := 84
abbrev F_spec_l4Clause : FuncId := 85
abbrev F_impl_isClause : FuncId := 86
abbrev F_spec_l16All : FuncId := 87
abbrev F_impl_HoldsIn_c1 : FuncId := 88
abbrev F_impl_Rule_met : FuncId := 89
abbrev F_impl_IsHorn_c1 : FuncId := 90
abbrev F_spec_GoodArcs : FuncId := 91
abbrev F_spec_l12Reach : FuncId := 92
abbrev F_laws_toArc : FuncId := 93
abbrev F_impl_GoodArcs : FuncId := 94
abbrev F_impl_within : FuncId := 95
abbrev F_impl_list : FuncId := 96
abbrev F_impl_ReachWithin_c1 : FuncId := 97
abbrev F_laws_eqArc : FuncId := 98
abbrev F_impl_BackArcs_c1 : FuncId := 99
abbrev F_spec_l16Least : FuncId := 100
abbrev F_impl_least : FuncId := 101
abbrev F_slices_IndexFunc__sint_int : FuncId := 102
abbrev F_impl_WhyOf_c1 : FuncId := 103
abbrev F_impl_LeastOf_c1 : FuncId := 104
abbrev F_impl_LeastOf_c2 : FuncId := 105
abbrev F_spec_l5Negate : FuncId := 106
abbrev F_impl_learn : FuncId := 107
abbrev F_spec_l1Word : FuncId := 108
abbrev F_spec_l1Most : FuncId := 109
abbrev F_spec_l1Least : FuncId := 110
abbrev F_spec_l10May : FuncId := 111
abbrev F_impl_isWord : FuncId := 112
abbrev F_impl_Known_matches : FuncId := 113
abbrev F_impl_exact : FuncId := 114
abbrev F_spec_l1Rising : FuncId := 115
abbrev F_slices_IndexFunc__sRule_Rule : FuncId := 116
abbrev F_slices_Index__sint_int : FuncId := 117
abbrev F_spec_l4Good : FuncId := 118
abbrev F_impl_areClauses : FuncId := 119
abbrev F_slices_IndexFunc__ssint_sint : FuncId := 120
abbrev F_impl_isLiteral : FuncId := 121
abbrev F_slices_ContainsFunc__sint_int : FuncId := 122
abbrev F_impl_isClause_c1 : FuncId := 123
abbrev F_impl_variable : FuncId := 124
abbrev F_impl_Rule_met_c1 : FuncId := 125
abbrev F_spec_l1Put : FuncId := 126
abbrev F_impl_isSpots : FuncId := 127
abbrev F_slices_Clone__sbool_bool : FuncId := 128
abbrev F_impl_least_c1 : FuncId := 129
abbrev F_impl_areClauses_c1 : FuncId := 130
abbrev F_runtime_boundsError_Error : FuncId := 131
abbrev F_runtime_boundsError_RuntimeError : FuncId := 132
abbrev F_runtime_errorString_Error : FuncId := 133
abbrev F_runtime_errorString_RuntimeError : FuncId := 134
abbrev F_runtime_plainError_Error : FuncId := 135
abbrev F_runtime_plainError_RuntimeError : FuncId := 136
abbrev F_runtime_errorAddressString_Error : FuncId := 137
abbrev F_runtime_errorAddressString_RuntimeError : FuncId := 138
abbrev F_runtime_pTypeAssertionError_Error : FuncId := 139
abbrev F_runtime_pTypeAssertionError_RuntimeError : FuncId := 140
abbrev F_runtime_pPanicNilError_Error : FuncId := 141
abbrev F_runtime_pPanicNilError_RuntimeError : FuncId := 142
abbrev F_abi_pType_Align : FuncId := 143
abbrev F_maps_unhashableTypeError_Error : FuncId := 144
abbrev F_maps_unhashableTypeError_RuntimeError : FuncId := 145
abbrev F_abi_Kind_String : FuncId := 146

/-! spec_l1In -/
def spec_l1In.r0 : List Ent := [
  E0 0 (some 6) none (.i (.mv (.k (.dat none (.bool false)))))]
def spec_l1In.r1 : List Ent := [
  E0 0 (some 7) none (.i (.mv (.t 0))),
  E0 1 (some 8) none (.i (.mv (.t 1))),
  E0 2 (some 9) none (.i (.bin .geq (.t 7) (.t 8))),
  E0 3 (some 10) none (.i (.mv (.t 9))),
  E0 4 (some 11) (some (10, true)) (.i (.mv (.t 0))),
  E0 5 (some 12) (some (10, true)) (.i (.mv (.t 2))),
  E0 6 (some 13) (some (10, true)) (.i (.bin .leq (.t 11) (.t 12))),
  E0 7 (some 14) none (.i (.pick (.t 10) (.t 13) (.k (.dat none (.bool false))))),
  E0 8 (some 6) none (.i (.mv (.t 14)))]
def spec_l1In.fi : FI := { res := [.t 6], code := .seq (.reg 64 1 spec_l1In.r0) (.seq (.reg 128 9 spec_l1In.r1) (.ret)) }
attribute [go_sem] spec_l1In.r0 spec_l1In.r1
theorem spec_l1In.ok : chkF prog F_spec_l1In 3 spec_l1In.fi = true := by kernel_rfl

/-! spec_l1Word -/
def spec_l1Word.r0 : List Ent := [
  E0 0 (some 2) none (.i (.mv (.k (.dat none (.bool false)))))]
def spec_l1Word.r1 : List Ent := [
  E0 0 (some 3) none (.i (.mv (.t 0))),
  E0 1 (some 4) none (.call F_spec_l1In false (roA [.t 3, .k (I64 0), .k (I64 65535)])),
  E0 2 (some 2) none (.i (.mv (.t 4)))]
def spec_l1Word.fi : FI := { res := [.t 2], code := .seq (.reg 64 1 spec_l1Word.r0) (.seq (.reg 128 3 spec_l1Word.r1) (.ret)) }
attribute [go_sem] spec_l1Word.r0 spec_l1Word.r1
theorem spec_l1Word.ok : chkF prog F_spec_l1Word 1 spec_l1Word.fi = true := by kernel_rfl

/-! spec_GoodStretch -/
def spec_GoodStretch.r0 : List Ent := [
  E0 0 (some 1) none (.i (.box (.t 0))),
  E0 1 (some 2) none (.i (.mv (.k (.dat none (.bool false)))))]
def spec_GoodStretch.r1 : List Ent := [
  E0 0 (some 3) none (.i (.fad 0 (.t 1))),
  E0 1 (some 4) none (.i (.load false false 1 (.t 3))),
  E0 2 (some 5) none (.call F_spec_l1Word false (roA [.t 4])),
  E0 3 (some 6) none (.i (.mv (.t 5))),
  E0 4 (some 7) (some (6, true)) (.i (.fad 1 (.t 1))),
  E0 5 (some 8) (some (6, true)) (.i (.load false false 1 (.t 7))),
  E0 6 (some 9) (some (6, true)) (.call F_spec_l1Word false (roA [.t 8])),
  E0 7 (some 10) none (.i (.pick (.t 6) (.t 9) (.k (.dat none (.bool false))))),
  E0 8 (some 11) none (.i (.mv (.t 10))),
  E0 9 (some 12) (some (11, true)) (.i (.fad 0 (.t 1))),
  E0 10 (some 13) (some (11, true)) (.i (.load false false 1 (.t 12))),
  E0 11 (some 14) (some (11, true)) (.i (.fad 1 (.t 1))),
  E0 12 (some 15) (some (11, true)) (.i (.load false false 1 (.t 14))),
  E0 13 (some 16) (some (11, true)) (.i (.bin .leq (.t 13) (.t 15))),
  E0 14 (some 17) none (.i (.pick (.t 11) (.t 16) (.k (.dat none (.bool false))))),
  E0 15 (some 2) none (.i (.mv (.t 17)))]
def spec_GoodStretch.fi : FI := { res := [.t 2], code := .seq (.reg 64 2 spec_GoodStretch.r0) (.seq (.reg 192 16 spec_GoodStretch.r1) (.ret)) }
attribute [go_sem] spec_GoodStretch.r0 spec_GoodStretch.r1
theorem spec_GoodStretch.ok : chkF prog F_spec_GoodStretch 1 spec_GoodStretch.fi = true := by kernel_rfl

/-! spec_GoodKnown -/
def spec_GoodKnown.r0 : List Ent := [
  E0 0 (some 1) none (.i (.box (.t 0))),
  E0 1 (some 2) none (.i (.mv (.k (.dat none (.bool false)))))]
def spec_GoodKnown.r1 : List Ent := [
  E0 0 (some 3) none (.i (.fad 0 (.t 1))),
  E0 1 (some 4) none (.i (.load false false 1 (.t 3))),
  E0 2 (some 5) none (.call F_spec_l1Word false (roA [.t 4])),
  E0 3 (some 6) none (.i (.mv (.t 5))),
  E0 4 (some 7) (some (6, true)) (.i (.fad 1 (.t 1))),
  E0 5 (some 8) (some (6, true)) (.i (.load false false 1 (.t 7))),
  E0 6 (some 9) (some (6, true)) (.call F_spec_l1Word false (roA [.t 8])),
  E0 7 (some 10) none (.i (.pick (.t 6) (.t 9) (.k (.dat none (.bool false))))),
  E0 8 (some 11) none (.i (.mv (.t 10))),
  E0 9 (some 12) (some (11, true)) (.i (.fad 0 (.t 1))),
  E0 10 (some 13) (some (11, true)) (.i (.load false false 1 (.t 12))),
  E0 11 (some 14) (some (11, true)) (.i (.fad 1 (.t 1))),
  E0 12 (some 15) (some (11, true)) (.i (.load false false 1 (.t 14))),
  E0 13 (some 16) (some (11, true)) (.i (.bin .and (.t 13) (.t 15))),
  E0 14 (some 17) (some (11, true)) (.i (.bin .eql (.t 16) (.k (I64 0)))),
  E0 15 (some 18) none (.i (.pick (.t 11) (.t 17) (.k (.dat none (.bool false))))),
  E0 16 (some 2) none (.i (.mv (.t 18)))]
def spec_GoodKnown.fi : FI := { res := [.t 2], code := .seq (.reg 64 2 spec_GoodKnown.r0) (.seq (.reg 192 17 spec_GoodKnown.r1) (.ret)) }
attribute [go_sem] spec_GoodKnown.r0 spec_GoodKnown.r1
theorem spec_GoodKnown.ok : chkF prog F_spec_GoodKnown 1 spec_GoodKnown.fi = true := by kernel_rfl

/-! spec_l1Most -/
def spec_l1Most.r0 : List Ent := [
  E0 0 (some 4) none (.i (.mv (.k (I64 0))))]
def spec_l1Most.r1 : List Ent := [
  E0 0 (some 5) none (.i (.mv (.t 0))),
  E0 1 (some 6) none (.i (.mv (.t 1))),
  E0 2 (some 7) none (.i (.bin .gtr (.t 5) (.t 6)))]
def spec_l1Most.r2 : List Ent := [
  E0 0 (some 8) none (.i (.mv (.t 0))),
  E0 1 (some 4) none (.i (.mv (.t 8)))]
def spec_l1Most.r3 : List Ent := [
  E0 0 (some 9) none (.i (.mv (.t 1))),
  E0 1 (some 4) none (.i (.mv (.t 9)))]
def spec_l1Most.fi : FI := { res := [.t 4], code := .seq (.reg 64 1 spec_l1Most.r0) (.seq (.seq (.reg 128 3 spec_l1Most.r1) (.cond (.t 7) (.seq (.reg 320 2 spec_l1Most.r2) (.ret)) (.skip))) (.seq (.reg 448 2 spec_l1Most.r3) (.ret))) }
attribute [go_sem] spec_l1Most.r0 spec_l1Most.r1 spec_l1Most.r2 spec_l1Most.r3
theorem spec_l1Most.ok : chkF prog F_spec_l1Most 2 spec_l1Most.fi = true := by kernel_rfl

/-! spec_l1Least -/
def spec_l1Least.r0 : List Ent := [
  E0 0 (some 4) none (.i (.mv (.k (I64 0))))]
def spec_l1Least.r1 : List Ent := [
  E0 0 (some 5) none (.i (.mv (.t 0))),
  E0 1 (some 6) none (.i (.mv (.t 1))),
  E0 2 (some 7) none (.i (.bin .lss (.t 5) (.t 6)))]
def spec_l1Least.r2 : List Ent := [
  E0 0 (some 8) none (.i (.mv (.t 0))),
  E0 1 (some 4) none (.i (.mv (.t 8)))]
def spec_l1Least.r3 : List Ent := [
  E0 0 (some 9) none (.i (.mv (.t 1))),
  E0 1 (some 4) none (.i (.mv (.t 9)))]
def spec_l1Least.fi : FI := { res := [.t 4], code := .seq (.reg 64 1 spec_l1Least.r0) (.seq (.seq (.reg 128 3 spec_l1Least.r1) (.cond (.t 7) (.seq (.reg 320 2 spec_l1Least.r2) (.ret)) (.skip))) (.seq (.reg 448 2 spec_l1Least.r3) (.ret))) }
attribute [go_sem] spec_l1Least.r0 spec_l1Least.r1 spec_l1Least.r2 spec_l1Least.r3
theorem spec_l1Least.ok : chkF prog F_spec_l1Least 2 spec_l1Least.fi = true := by kernel_rfl

/-! spec_l10May -/
def spec_l10May.r0 : List Ent := [
  E0 0 (some 2) none (.i (.box (.t 0))),
  E0 1 (some 4) none (.i (.mv (.k (.dat none (.bool false)))))]
def spec_l10May.r1 : List Ent := [
  E0 0 (some 5) none (.i (.mv (.t 1))),
  E0 1 (some 6) none (.i (.fad 1 (.t 2))),
  E0 2 (some 7) none (.i (.load false false 1 (.t 6))),
  E0 3 (some 8) none (.i (.bin .andNot (.t 5) (.t 7))),
  E0 4 (some 9) none (.i (.fad 0 (.t 2))),
  E0 5 (some 10) none (.i (.load false false 1 (.t 9))),
  E0 6 (some 11) none (.i (.bin .eql (.t 8) (.t 10))),
  E0 7 (some 4) none (.i (.mv (.t 11)))]
def spec_l10May.fi : FI := { res := [.t 4], code := .seq (.reg 64 2 spec_l10May.r0) (.seq (.reg 192 8 spec_l10May.r1) (.ret)) }
attribute [go_sem] spec_l10May.r0 spec_l10May.r1
theorem spec_l10May.ok : chkF prog F_spec_l10May 2 spec_l10May.fi = true := by kernel_rfl

/-! spec_l13Reduce -/
def spec_l13Reduce.r0 : List Ent := [
  E0 0 (some 2) none (.i (.box (.t 0))),
  E0 1 (some 3) none (.i (.box (.t 1))),
  E0 2 (some 4) none (.i (.box (.k (.agg [.dat none (.int .i64 0), .dat none (.int .i64 0)])))),
  E0 3 (some 5) none (.i (.box (.k (.agg [.dat none (.int .i64 0), .dat none (.int .i64 0)])))),
  E0 4 (some 6) none (.i (.mv (.k (.dat none (.bool false)))))]
def spec_l13Reduce.r1 : List Ent := [
  EX 0 (some 8) none (.i (.fad 0 (.t 2))) 2 [14] [] false,
  EX 1 (some 9) none (.i (.load false false 1 (.t 8))) 2 [14] [] false,
  EX 2 (some 10) none (.i (.fad 0 (.t 3))) 2 [14] [] false,
  EX 3 (some 11) none (.i (.load false false 1 (.t 10))) 2 [14] [] false,
  EX 4 (some 12) none (.call F_spec_l1Most false (roA [.t 9, .t 11])) 2 [14] [] false,
  EX 5 (some 13) none (.i (.fad 1 (.t 2))) 2 [14] [] false,
  EX 6 (some 14) none (.i (.load false false 1 (.t 13))) 2 [14] [] false,
  EX 7 (some 15) none (.i (.fad 0 (.t 3))) 2 [14] [] false,
  EX 8 (some 16) none (.i (.load false false 1 (.t 15))) 2 [14] [] false,
  EX 9 (some 17) none (.i (.fad 1 (.t 3))) 2 [14] [] false,
  EX 10 (some 18) none (.i (.load false false 1 (.t 17))) 2 [14] [] false,
  E0 11 (some 19) none (.i (.bin .add (.t 16) (.t 18))),
  EX 12 (some 20) none (.call F_spec_l1Least false (roA [.t 14, .t 19])) 2 [14] [] false,
  EX 13 (some 21) none (.i (.bld [.t 12, .t 20])) 2 [14] [] false,
  EP 14 (some 7) none (.i (.box (.k (.agg [.dat none (.int .i64 0), .dat none (.int .i64 0)])))) 1 false,
  E0 15 none none (.i (.store 2 (.t 7) (.t 21)))]
def spec_l13Reduce.r2 : List Ent := [
  E0 0 (some 22) none (.i (.fad 0 (.t 7))),
  E0 1 (some 23) none (.i (.load false false 1 (.t 22))),
  E0 2 (some 24) none (.i (.fad 1 (.t 7))),
  E0 3 (some 25) none (.i (.load false false 1 (.t 24))),
  E0 4 (some 26) none (.i (.bin .gtr (.t 23) (.t 25))),
  E0 5 (some 27) none (.i (.mv (.t 26))),
  E0 6 (some 28) (some (27, false)) (.i (.fad 0 (.t 7))),
  E0 7 (some 29) (some (27, false)) (.i (.load false false 1 (.t 28))),
  E0 8 (some 30) (some (27, false)) (.i (.fad 1 (.t 7))),
  E0 9 (some 31) (some (27, false)) (.i (.load false false 1 (.t 30))),
  E0 10 (some 32) (some (27, false)) (.i (.bin .eql (.t 29) (.t 31))),
  E0 11 (some 33) (some (27, false)) (.i (.mv (.t 32))),
  E0 12 (some 34) (some (33, true)) (.i (.load false true 2 (.t 3))),
  E0 13 (some 35) (some (33, true)) (.i (.fad 0 (.t 7))),
  E0 14 (some 36) (some (33, true)) (.i (.load false false 1 (.t 35))),
  E0 15 (some 37) (some (33, true)) (.call F_spec_l10May false (roA [.t 34, .t 36])),
  E0 16 (some 38) (some (33, true)) (.i (.un .not (.t 37))),
  E0 17 (some 39) (some (27, false)) (.i (.pick (.t 33) (.t 38) (.k (.dat none (.bool false))))),
  E0 18 (some 40) none (.i (.pick (.t 27) (.k (.dat none (.bool true))) (.t 39)))]
def spec_l13Reduce.r3 : List Ent := [
  E0 0 (some 41) none (.i (.bld [.k (.dat none (.int .i64 0)), .k (.dat none (.int .i64 0))])),
  E0 1 (some 42) none (.i (.bld [.k (.dat none (.int .i64 0)), .k (.dat none (.int .i64 0))])),
  E0 2 none none (.i (.store 2 (.t 4) (.t 41))),
  E0 3 none none (.i (.store 2 (.t 5) (.t 42))),
  E0 4 (some 6) none (.i (.mv (.k (.dat none (.bool false)))))]
def spec_l13Reduce.r4 : List Ent := [
  E0 0 (some 43) none (.i (.fad 0 (.t 7))),
  E0 1 (some 44) none (.i (.load false false 1 (.t 43))),
  E0 2 (some 45) none (.i (.fad 1 (.t 7))),
  E0 3 (some 46) none (.i (.load false false 1 (.t 45))),
  E0 4 (some 47) none (.i (.bin .eql (.t 44) (.t 46)))]
def spec_l13Reduce.r5 : List Ent := [
  E0 0 (some 48) none (.i (.fad 0 (.t 7))),
  E0 1 (some 49) none (.i (.load false false 1 (.t 48))),
  E0 2 (some 50) none (.i (.bld [.t 49, .k (.dat none (.int .i64 0))])),
  E0 3 none none (.i (.store 2 (.t 3) (.t 50)))]
def spec_l13Reduce.r6 : List Ent := [
  ER 0 (some 51) none (.load false true 2 (.t 7)),
  EP 2 none none (.i (.store 2 (.t 4) (.t 51))) 0 true,
  EX 1 (some 52) none (.i (.load false true 2 (.t 3))) 2 [] [2] false,
  E0 3 none none (.i (.store 2 (.t 5) (.t 52))),
  E0 4 (some 6) none (.i (.mv (.k (.dat none (.bool true)))))]
def spec_l13Reduce.fi : FI := { res := [.c 4 true 2, .c 5 true 2, .t 6], code := .seq (.reg 64 5 spec_l13Reduce.r0) (.seq (.reg 384 16 spec_l13Reduce.r1) (.seq (.seq (.reg 1408 19 spec_l13Reduce.r2) (.cond (.t 40) (.seq (.reg 2624 5 spec_l13Reduce.r3) (.ret)) (.skip))) (.seq (.seq (.reg 2944 5 spec_l13Reduce.r4) (.cond (.t 47) (.reg 3264 4 spec_l13Reduce.r5) (.skip))) (.seq (.reg 3520 5 spec_l13Reduce.r6) (.ret))))) }
attribute [go_sem] spec_l13Reduce.r0 spec_l13Reduce.r1 spec_l13Reduce.r2 spec_l13Reduce.r3 spec_l13Reduce.r4 spec_l13Reduce.r5 spec_l13Reduce.r6
theorem spec_l13Reduce.ok : chkF prog F_spec_l13Reduce 2 spec_l13Reduce.fi = true := by kernel_rfl

/-! spec_ReduceBoth -/
def spec_ReduceBoth.r0 : List Ent := [
  E0 0 (some 2) none (.i (.box (.t 0))),
  E0 1 (some 3) none (.i (.box (.t 1))),
  E0 2 (some 4) none (.i (.box (.k (.agg [.dat none (.int .i64 0), .dat none (.int .i64 0)])))),
  E0 3 (some 5) none (.i (.box (.k (.agg [.dat none (.int .i64 0), .dat none (.int .i64 0)])))),
  E0 4 (some 6) none (.i (.mv (.k (.dat none (.bool false)))))]
def spec_ReduceBoth.r1 : List Ent := [
  E0 0 (some 7) none (.i (.load false true 2 (.t 2))),
  E0 1 (some 8) none (.call F_spec_GoodStretch false (roA [.t 7])),
  E0 2 (some 9) none (.i (.un .not (.t 8))),
  E0 3 (some 10) none (.i (.mv (.t 9))),
  E0 4 (some 11) (some (10, false)) (.i (.load false true 2 (.t 3))),
  E0 5 (some 12) (some (10, false)) (.call F_spec_GoodKnown false (roA [.t 11])),
  E0 6 (some 13) (some (10, false)) (.i (.un .not (.t 12))),
  E0 7 (some 14) none (.i (.pick (.t 10) (.k (.dat none (.bool true))) (.t 13)))]
def spec_ReduceBoth.r2 : List Ent := [
  E0 0 (some 15) none (.i (.bld [.k (.dat none (.int .i64 0)), .k (.dat none (.int .i64 0))])),
  E0 1 (some 16) none (.i (.bld [.k (.dat none (.int .i64 0)), .k (.dat none (.int .i64 0))])),
  E0 2 none none (.i (.store 2 (.t 4) (.t 15))),
  E0 3 none none (.i (.store 2 (.t 5) (.t 16))),
  E0 4 (some 6) none (.i (.mv (.k (.dat none (.bool false)))))]
def spec_ReduceBoth.r3 : List Ent := [
  E0 0 (some 17) none (.i (.load false true 2 (.t 2))),
  E0 1 (some 18) none (.i (.load false true 2 (.t 3))),
  E0 2 (some 19) none (.call F_spec_l13Reduce false (roA [.t 17, .t 18])),
  E0 3 (some 20) none (.i (.ext 0 (.t 19))),
  E0 4 (some 21) none (.i (.ext 1 (.t 19))),
  E0 5 (some 22) none (.i (.ext 2 (.t 19))),
  E0 6 none none (.i (.store 2 (.t 4) (.t 20))),
  E0 7 none none (.i (.store 2 (.t 5) (.t 21))),
  E0 8 (some 6) none (.i (.mv (.t 22)))]
def spec_ReduceBoth.fi : FI := { res := [.c 4 true 2, .c 5 true 2, .t 6], code := .seq (.reg 64 5 spec_ReduceBoth.r0) (.seq (.seq (.reg 384 8 spec_ReduceBoth.r1) (.cond (.t 14) (.seq (.reg 896 5 spec_ReduceBoth.r2) (.ret)) (.skip))) (.seq (.reg 1216 9 spec_ReduceBoth.r3) (.ret))) }
attribute [go_sem] spec_ReduceBoth.r0 spec_ReduceBoth.r1 spec_ReduceBoth.r2 spec_ReduceBoth.r3
theorem spec_ReduceBoth.ok : chkF prog F_spec_ReduceBoth 2 spec_ReduceBoth.fi = true := by kernel_rfl

/-! laws_toStretch -/
def laws_toStretch.r0 : List Ent := [
  E0 0 (some 1) none (.i (.box (.t 0))),
  E0 1 (some 2) none (.i (.box (.k (.agg [.dat none (.int .i64 0), .dat none (.int .i64 0)]))))]
def laws_toStretch.r1 : List Ent := [
  E0 0 (some 3) none (.i (.box (.k (.agg [.dat none (.int .i64 0), .dat none (.int .i64 0)]))))]
def laws_toStretch.r2 : List Ent := [
  E0 0 (some 4) none (.i (.fad 0 (.t 1))),
  E0 1 (some 5) none (.i (.load false false 1 (.t 4))),
  E0 2 (some 6) none (.i (.fad 0 (.t 3))),
  E0 3 none none (.i (.store 1 (.t 6) (.t 5)))]
def laws_toStretch.r3 : List Ent := [
  E0 0 (some 7) none (.i (.fad 1 (.t 1))),
  E0 1 (some 8) none (.i (.load false false 1 (.t 7))),
  E0 2 (some 9) none (.i (.fad 1 (.t 3))),
  E0 3 none none (.i (.store 1 (.t 9) (.t 8)))]
def laws_toStretch.r4 : List Ent := [
  E0 0 (some 10) none (.i (.load false true 2 (.t 3))),
  E0 1 none none (.i (.store 2 (.t 2) (.t 10)))]
def laws_toStretch.fi : FI := { res := [.c 2 true 2], code := .seq (.reg 64 2 laws_toStretch.r0) (.seq (.reg 192 1 laws_toStretch.r1) (.seq (.reg 256 4 laws_toStretch.r2) (.seq (.reg 512 4 laws_toStretch.r3) (.seq (.reg 768 2 laws_toStretch.r4) (.ret))))) }
attribute [go_sem] laws_toStretch.r0 laws_toStretch.r1 laws_toStretch.r2 laws_toStretch.r3 laws_toStretch.r4
theorem laws_toStretch.ok : chkF prog F_laws_toStretch 1 laws_toStretch.fi = true := by kernel_rfl

/-! laws_toKnown -/
def laws_toKnown.r0 : List Ent := [
  E0 0 (some 1) none (.i (.box (.t 0))),
  E0 1 (some 2) none (.i (.box (.k (.agg [.dat none (.int .i64 0), .dat none (.int .i64 0)]))))]
def laws_toKnown.r1 : List Ent := [
  E0 0 (some 3) none (.i (.box (.k (.agg [.dat none (.int .i64 0), .dat none (.int .i64 0)]))))]
def laws_toKnown.r2 : List Ent := [
  E0 0 (some 4) none (.i (.fad 0 (.t 1))),
  E0 1 (some 5) none (.i (.load false false 1 (.t 4))),
  E0 2 (some 6) none (.i (.fad 0 (.t 3))),
  E0 3 none none (.i (.store 1 (.t 6) (.t 5)))]
def laws_toKnown.r3 : List Ent := [
  E0 0 (some 7) none (.i (.fad 1 (.t 1))),
  E0 1 (some 8) none (.i (.load false false 1 (.t 7))),
  E0 2 (some 9) none (.i (.fad 1 (.t 3))),
  E0 3 none none (.i (.store 1 (.t 9) (.t 8)))]
def laws_toKnown.r4 : List Ent := [
  E0 0 (some 10) none (.i (.load false true 2 (.t 3))),
  E0 1 none none (.i (.store 2 (.t 2) (.t 10)))]
def laws_toKnown.fi : FI := { res := [.c 2 true 2], code := .seq (.reg 64 2 laws_toKnown.r0) (.seq (.reg 192 1 laws_toKnown.r1) (.seq (.reg 256 4 laws_toKnown.r2) (.seq (.reg 512 4 laws_toKnown.r3) (.seq (.reg 768 2 laws_toKnown.r4) (.ret))))) }
attribute [go_sem] laws_toKnown.r0 laws_toKnown.r1 laws_toKnown.r2 laws_toKnown.r3 laws_toKnown.r4
theorem laws_toKnown.ok : chkF prog F_laws_toKnown 1 laws_toKnown.fi = true := by kernel_rfl

/-! impl_in -/
def impl_in.r0 : List Ent := [
  E0 0 (some 6) none (.i (.mv (.k (.dat none (.bool false)))))]
def impl_in.r1 : List Ent := [
  E0 0 (some 7) none (.i (.mv (.t 0))),
  E0 1 (some 8) none (.i (.mv (.t 1))),
  E0 2 (some 9) none (.i (.bin .geq (.t 7) (.t 8))),
  E0 3 (some 10) none (.i (.mv (.t 9))),
  E0 4 (some 11) (some (10, true)) (.i (.mv (.t 0))),
  E0 5 (some 12) (some (10, true)) (.i (.mv (.t 2))),
  E0 6 (some 13) (some (10, true)) (.i (.bin .leq (.t 11) (.t 12))),
  E0 7 (some 14) none (.i (.pick (.t 10) (.t 13) (.k (.dat none (.bool false))))),
  E0 8 (some 6) none (.i (.mv (.t 14)))]
def impl_in.fi : FI := { res := [.t 6], code := .seq (.reg 64 1 impl_in.r0) (.seq (.reg 128 9 impl_in.r1) (.ret)) }
attribute [go_sem] impl_in.r0 impl_in.r1
theorem impl_in.ok : chkF prog F_impl_in 3 impl_in.fi = true := by kernel_rfl

/-! impl_isWord -/
def impl_isWord.r0 : List Ent := [
  E0 0 (some 2) none (.i (.mv (.k (.dat none (.bool false)))))]
def impl_isWord.r1 : List Ent := [
  E0 0 (some 3) none (.i (.mv (.t 0))),
  E0 1 (some 4) none (.call F_impl_in false (roA [.t 3, .k (I64 0), .k (I64 65535)])),
  E0 2 (some 2) none (.i (.mv (.t 4)))]
def impl_isWord.fi : FI := { res := [.t 2], code := .seq (.reg 64 1 impl_isWord.r0) (.seq (.reg 128 3 impl_isWord.r1) (.ret)) }
attribute [go_sem] impl_isWord.r0 impl_isWord.r1
theorem impl_isWord.ok : chkF prog F_impl_isWord 1 impl_isWord.fi = true := by kernel_rfl

/-! impl_GoodStretch -/
def impl_GoodStretch.r0 : List Ent := [
  E0 0 (some 1) none (.i (.box (.t 0))),
  E0 1 (some 2) none (.i (.mv (.k (.dat none (.bool false)))))]
def impl_GoodStretch.r1 : List Ent := [
  E0 0 (some 3) none (.i (.fad 0 (.t 1))),
  E0 1 (some 4) none (.i (.load false false 1 (.t 3))),
  E0 2 (some 5) none (.call F_impl_isWord false (roA [.t 4])),
  E0 3 (some 6) none (.i (.mv (.t 5))),
  E0 4 (some 7) (some (6, true)) (.i (.fad 1 (.t 1))),
  E0 5 (some 8) (some (6, true)) (.i (.load false false 1 (.t 7))),
  E0 6 (some 9) (some (6, true)) (.call F_impl_isWord false (roA [.t 8])),
  E0 7 (some 10) none (.i (.pick (.t 6) (.t 9) (.k (.dat none (.bool false))))),
  E0 8 (some 11) none (.i (.mv (.t 10))),
  E0 9 (some 12) (some (11, true)) (.i (.fad 0 (.t 1))),
  E0 10 (some 13) (some (11, true)) (.i (.load false false 1 (.t 12))),
  E0 11 (some 14) (some (11, true)) (.i (.fad 1 (.t 1))),
  E0 12 (some 15) (some (11, true)) (.i (.load false false 1 (.t 14))),
  E0 13 (some 16) (some (11, true)) (.i (.bin .leq (.t 13) (.t 15))),
  E0 14 (some 17) none (.i (.pick (.t 11) (.t 16) (.k (.dat none (.bool false))))),
  E0 15 (some 2) none (.i (.mv (.t 17)))]
def impl_GoodStretch.fi : FI := { res := [.t 2], code := .seq (.reg 64 2 impl_GoodStretch.r0) (.seq (.reg 192 16 impl_GoodStretch.r1) (.ret)) }
attribute [go_sem] impl_GoodStretch.r0 impl_GoodStretch.r1
theorem impl_GoodStretch.ok : chkF prog F_impl_GoodStretch 1 impl_GoodStretch.fi = true := by kernel_rfl

/-! impl_GoodKnown -/
def impl_GoodKnown.r0 : List Ent := [
  E0 0 (some 1) none (.i (.box (.t 0))),
  E0 1 (some 2) none (.i (.mv (.k (.dat none (.bool false)))))]
def impl_GoodKnown.r1 : List Ent := [
  E0 0 (some 3) none (.i (.fad 0 (.t 1))),
  E0 1 (some 4) none (.i (.load false false 1 (.t 3))),
  E0 2 (some 5) none (.call F_impl_isWord false (roA [.t 4])),
  E0 3 (some 6) none (.i (.mv (.t 5))),
  E0 4 (some 7) (some (6, true)) (.i (.fad 1 (.t 1))),
  E0 5 (some 8) (some (6, true)) (.i (.load false false 1 (.t 7))),
  E0 6 (some 9) (some (6, true)) (.call F_impl_isWord false (roA [.t 8])),
  E0 7 (some 10) none (.i (.pick (.t 6) (.t 9) (.k (.dat none (.bool false))))),
  E0 8 (some 11) none (.i (.mv (.t 10))),
  E0 9 (some 12) (some (11, true)) (.i (.fad 0 (.t 1))),
  E0 10 (some 13) (some (11, true)) (.i (.load false false 1 (.t 12))),
  E0 11 (some 14) (some (11, true)) (.i (.fad 1 (.t 1))),
  E0 12 (some 15) (some (11, true)) (.i (.load false false 1 (.t 14))),
  E0 13 (some 16) (some (11, true)) (.i (.bin .and (.t 13) (.t 15))),
  E0 14 (some 17) (some (11, true)) (.i (.bin .eql (.t 16) (.k (I64 0)))),
  E0 15 (some 18) none (.i (.pick (.t 11) (.t 17) (.k (.dat none (.bool false))))),
  E0 16 (some 2) none (.i (.mv (.t 18)))]
def impl_GoodKnown.fi : FI := { res := [.t 2], code := .seq (.reg 64 2 impl_GoodKnown.r0) (.seq (.reg 192 17 impl_GoodKnown.r1) (.ret)) }
attribute [go_sem] impl_GoodKnown.r0 impl_GoodKnown.r1
theorem impl_GoodKnown.ok : chkF prog F_impl_GoodKnown 1 impl_GoodKnown.fi = true := by kernel_rfl

/-! impl_Known_matches -/
def impl_Known_matches.r0 : List Ent := [
  E0 0 (some 2) none (.i (.box (.t 0))),
  E0 1 (some 4) none (.i (.mv (.k (.dat none (.bool false)))))]
def impl_Known_matches.r1 : List Ent := [
  E0 0 (some 5) none (.i (.mv (.t 1))),
  E0 1 (some 6) none (.i (.fad 1 (.t 2))),
  E0 2 (some 7) none (.i (.load false false 1 (.t 6))),
  E0 3 (some 8) none (.i (.bin .andNot (.t 5) (.t 7))),
  E0 4 (some 9) none (.i (.fad 0 (.t 2))),
  E0 5 (some 10) none (.i (.load false false 1 (.t 9))),
  E0 6 (some 11) none (.i (.bin .eql (.t 8) (.t 10))),
  E0 7 (some 4) none (.i (.mv (.t 11)))]
def impl_Known_matches.fi : FI := { res := [.t 4], code := .seq (.reg 64 2 impl_Known_matches.r0) (.seq (.reg 192 8 impl_Known_matches.r1) (.ret)) }
attribute [go_sem] impl_Known_matches.r0 impl_Known_matches.r1
theorem impl_Known_matches.ok : chkF prog F_impl_Known_matches 2 impl_Known_matches.fi = true := by kernel_rfl

/-! impl_exact -/
def impl_exact.r0 : List Ent := [
  E0 0 (some 2) none (.i (.box (.k (.agg [.dat none (.int .i64 0), .dat none (.int .i64 0)]))))]
def impl_exact.r1 : List Ent := [
  E0 0 (some 3) none (.i (.mv (.t 0))),
  E0 1 (some 4) none (.i (.bld [.t 3, .k (.dat none (.int .i64 0))])),
  E0 2 none none (.i (.store 2 (.t 2) (.t 4)))]
def impl_exact.fi : FI := { res := [.c 2 true 2], code := .seq (.reg 64 1 impl_exact.r0) (.seq (.reg 128 3 impl_exact.r1) (.ret)) }
attribute [go_sem] impl_exact.r0 impl_exact.r1
theorem impl_exact.ok : chkF prog F_impl_exact 1 impl_exact.fi = true := by kernel_rfl

/-! impl_reduceBoth -/
def impl_reduceBoth.r0 : List Ent := [
  E0 0 (some 2) none (.i (.box (.t 0))),
  E0 1 (some 3) none (.i (.box (.t 1))),
  E0 2 (some 4) none (.i (.box (.k (.agg [.dat none (.int .i64 0), .dat none (.int .i64 0)])))),
  E0 3 (some 5) none (.i (.box (.k (.agg [.dat none (.int .i64 0), .dat none (.int .i64 0)])))),
  E0 4 (some 6) none (.i (.mv (.k (.dat none (.bool false)))))]
def impl_reduceBoth.r1 : List Ent := [
  E0 0 (some 8) none (.i (.fad 0 (.t 2))),
  E0 1 (some 9) none (.i (.load false false 1 (.t 8))),
  E0 2 (some 10) none (.i (.fad 0 (.t 3))),
  E0 3 (some 11) none (.i (.load false false 1 (.t 10))),
  E0 4 (some 12) none (.i (.mnx true (.t 9) (.t 11))),
  E0 5 (some 13) none (.i (.fad 1 (.t 2))),
  E0 6 (some 14) none (.i (.load false false 1 (.t 13))),
  E0 7 (some 15) none (.i (.fad 0 (.t 3))),
  E0 8 (some 16) none (.i (.load false false 1 (.t 15))),
  E0 9 (some 17) none (.i (.fad 1 (.t 3))),
  E0 10 (some 18) none (.i (.load false false 1 (.t 17))),
  E0 11 (some 19) none (.i (.bin .add (.t 16) (.t 18))),
  E0 12 (some 20) none (.i (.mnx false (.t 14) (.t 19))),
  E0 13 (some 21) none (.i (.bld [.t 12, .t 20])),
  E0 14 (some 7) none (.i (.box (.k (.agg [.dat none (.int .i64 0), .dat none (.int .i64 0)])))),
  E0 15 none none (.i (.store 2 (.t 7) (.t 21)))]
def impl_reduceBoth.r2 : List Ent := [
  E0 0 (some 22) none (.i (.fad 0 (.t 7))),
  E0 1 (some 23) none (.i (.load false false 1 (.t 22))),
  E0 2 (some 24) none (.i (.fad 1 (.t 7))),
  E0 3 (some 25) none (.i (.load false false 1 (.t 24))),
  E0 4 (some 26) none (.i (.bin .gtr (.t 23) (.t 25)))]
def impl_reduceBoth.r3 : List Ent := [
  E0 0 (some 27) none (.i (.bld [.k (.dat none (.int .i64 0)), .k (.dat none (.int .i64 0))])),
  E0 1 (some 28) none (.i (.bld [.k (.dat none (.int .i64 0)), .k (.dat none (.int .i64 0))])),
  E0 2 none none (.i (.store 2 (.t 4) (.t 27))),
  E0 3 none none (.i (.store 2 (.t 5) (.t 28))),
  E0 4 (some 6) none (.i (.mv (.k (.dat none (.bool false)))))]
def impl_reduceBoth.r4 : List Ent := [
  E0 0 (some 29) none (.i (.fad 0 (.t 7))),
  E0 1 (some 30) none (.i (.load false false 1 (.t 29))),
  E0 2 (some 31) none (.i (.fad 1 (.t 7))),
  E0 3 (some 32) none (.i (.load false false 1 (.t 31))),
  E0 4 (some 33) none (.i (.bin .lss (.t 30) (.t 32)))]
def impl_reduceBoth.r5 : List Ent := [
  ER 0 (some 34) none (.load false true 2 (.t 7)),
  EP 2 none none (.i (.store 2 (.t 4) (.t 34))) 0 true,
  EX 1 (some 35) none (.i (.load false true 2 (.t 3))) 2 [] [2] false,
  E0 3 none none (.i (.store 2 (.t 5) (.t 35))),
  E0 4 (some 6) none (.i (.mv (.k (.dat none (.bool true)))))]
def impl_reduceBoth.r6 : List Ent := [
  E0 0 (some 36) none (.i (.load false true 2 (.t 3))),
  E0 1 (some 37) none (.i (.fad 0 (.t 7))),
  E0 2 (some 38) none (.i (.load false false 1 (.t 37))),
  E0 3 (some 39) none (.call F_impl_Known_matches false (roA [.t 36, .t 38])),
  E0 4 (some 40) none (.i (.un .not (.t 39)))]
def impl_reduceBoth.r7 : List Ent := [
  E0 0 (some 41) none (.i (.bld [.k (.dat none (.int .i64 0)), .k (.dat none (.int .i64 0))])),
  E0 1 (some 42) none (.i (.bld [.k (.dat none (.int .i64 0)), .k (.dat none (.int .i64 0))])),
  E0 2 none none (.i (.store 2 (.t 4) (.t 41))),
  E0 3 none none (.i (.store 2 (.t 5) (.t 42))),
  E0 4 (some 6) none (.i (.mv (.k (.dat none (.bool false)))))]
def impl_reduceBoth.r8 : List Ent := [
  ER 0 (some 43) none (.load false true 2 (.t 7)),
  ER 1 (some 44) none (.fad 0 (.t 7)),
  ER 2 (some 45) none (.load false false 1 (.t 44)),
  E2 3 (some 46) none (.call F_impl_exact false (roA [.t 45])),
  E0 4 none none (.i (.store 2 (.t 4) (.t 43))),
  E0 5 none none (.i (.store 2 (.t 5) (.t 46))),
  E0 6 (some 6) none (.i (.mv (.k (.dat none (.bool true)))))]
def impl_reduceBoth.fi : FI := { res := [.c 4 true 2, .c 5 true 2, .t 6], code := .seq (.reg 64 5 impl_reduceBoth.r0) (.seq (.reg 384 16 impl_reduceBoth.r1) (.seq (.seq (.reg 1408 5 impl_reduceBoth.r2) (.cond (.t 26) (.seq (.reg 1728 5 impl_reduceBoth.r3) (.ret)) (.skip))) (.seq (.seq (.reg 2048 5 impl_reduceBoth.r4) (.cond (.t 33) (.seq (.reg 2368 5 impl_reduceBoth.r5) (.ret)) (.skip))) (.seq (.seq (.reg 2688 5 impl_reduceBoth.r6) (.cond (.t 40) (.seq (.reg 3008 5 impl_reduceBoth.r7) (.ret)) (.skip))) (.seq (.reg 3328 7 impl_reduceBoth.r8) (.ret)))))) }
attribute [go_sem] impl_reduceBoth.r0 impl_reduceBoth.r1 impl_reduceBoth.r2 impl_reduceBoth.r3 impl_reduceBoth.r4 impl_reduceBoth.r5 impl_reduceBoth.r6 impl_reduceBoth.r7 impl_reduceBoth.r8
theorem impl_reduceBoth.ok : chkF prog F_impl_reduceBoth 2 impl_reduceBoth.fi = true := by kernel_rfl

/-! impl_ReduceBoth -/
def impl_ReduceBoth.r0 : List Ent := [
  E0 0 (some 2) none (.i (.box (.t 0))),
  E0 1 (some 3) none (.i (.box (.t 1))),
  E0 2 (some 4) none (.i (.box (.k (.agg [.dat none (.int .i64 0), .dat none (.int .i64 0)])))),
  E0 3 (some 5) none (.i (.box (.k (.agg [.dat none (.int .i64 0), .dat none (.int .i64 0)])))),
  E0 4 (some 6) none (.i (.mv (.k (.dat none (.bool false)))))]
def impl_ReduceBoth.r1 : List Ent := [
  E0 0 (some 7) none (.i (.load false true 2 (.t 2))),
  E0 1 (some 8) none (.call F_impl_GoodStretch false (roA [.t 7])),
  E0 2 (some 9) none (.i (.un .not (.t 8))),
  E0 3 (some 10) none (.i (.mv (.t 9))),
  E0 4 (some 11) (some (10, false)) (.i (.load false true 2 (.t 3))),
  E0 5 (some 12) (some (10, false)) (.call F_impl_GoodKnown false (roA [.t 11])),
  E0 6 (some 13) (some (10, false)) (.i (.un .not (.t 12))),
  E0 7 (some 14) none (.i (.pick (.t 10) (.k (.dat none (.bool true))) (.t 13)))]
def impl_ReduceBoth.r2 : List Ent := [
  E0 0 (some 15) none (.i (.bld [.k (.dat none (.int .i64 0)), .k (.dat none (.int .i64 0))])),
  E0 1 (some 16) none (.i (.bld [.k (.dat none (.int .i64 0)), .k (.dat none (.int .i64 0))])),
  E0 2 none none (.i (.store 2 (.t 4) (.t 15))),
  E0 3 none none (.i (.store 2 (.t 5) (.t 16))),
  E0 4 (some 6) none (.i (.mv (.k (.dat none (.bool false)))))]
def impl_ReduceBoth.r3 : List Ent := [
  E0 0 (some 17) none (.i (.load false true 2 (.t 2))),
  E0 1 (some 18) none (.i (.load false true 2 (.t 3))),
  E0 2 (some 19) none (.call F_impl_reduceBoth false (roA [.t 17, .t 18])),
  E0 3 (some 20) none (.i (.ext 0 (.t 19))),
  E0 4 (some 21) none (.i (.ext 1 (.t 19))),
  E0 5 (some 22) none (.i (.ext 2 (.t 19))),
  E0 6 none none (.i (.store 2 (.t 4) (.t 20))),
  E0 7 none none (.i (.store 2 (.t 5) (.t 21))),
  E0 8 (some 6) none (.i (.mv (.t 22)))]
def impl_ReduceBoth.fi : FI := { res := [.c 4 true 2, .c 5 true 2, .t 6], code := .seq (.reg 64 5 impl_ReduceBoth.r0) (.seq (.seq (.reg 384 8 impl_ReduceBoth.r1) (.cond (.t 14) (.seq (.reg 896 5 impl_ReduceBoth.r2) (.ret)) (.skip))) (.seq (.reg 1216 9 impl_ReduceBoth.r3) (.ret))) }
attribute [go_sem] impl_ReduceBoth.r0 impl_ReduceBoth.r1 impl_ReduceBoth.r2 impl_ReduceBoth.r3
theorem impl_ReduceBoth.ok : chkF prog F_impl_ReduceBoth 2 impl_ReduceBoth.fi = true := by kernel_rfl

/-! laws_eqStretch -/
def laws_eqStretch.r0 : List Ent := [
  E0 0 (some 2) none (.i (.box (.t 0))),
  E0 1 (some 3) none (.i (.box (.t 1))),
  E0 2 (some 4) none (.i (.mv (.k (.dat none (.bool false)))))]
def laws_eqStretch.r1 : List Ent := [
  E0 0 (some 5) none (.i (.fad 0 (.t 2))),
  E0 1 (some 6) none (.i (.load false false 1 (.t 5))),
  E0 2 (some 7) none (.i (.fad 0 (.t 3))),
  E0 3 (some 8) none (.i (.load false false 1 (.t 7))),
  E0 4 (some 9) none (.i (.bin .neq (.t 6) (.t 8)))]
def laws_eqStretch.r2 : List Ent := [
  E0 0 (some 4) none (.i (.mv (.k (.dat none (.bool false)))))]
def laws_eqStretch.r3 : List Ent := [
  E0 0 (some 10) none (.i (.fad 1 (.t 2))),
  E0 1 (some 11) none (.i (.load false false 1 (.t 10))),
  E0 2 (some 12) none (.i (.fad 1 (.t 3))),
  E0 3 (some 13) none (.i (.load false false 1 (.t 12))),
  E0 4 (some 14) none (.i (.bin .neq (.t 11) (.t 13)))]
def laws_eqStretch.r4 : List Ent := [
  E0 0 (some 4) none (.i (.mv (.k (.dat none (.bool false)))))]
def laws_eqStretch.r5 : List Ent := [
  E0 0 (some 4) none (.i (.mv (.k (.dat none (.bool true)))))]
def laws_eqStretch.fi : FI := { res := [.t 4], code := .seq (.reg 64 3 laws_eqStretch.r0) (.seq (.seq (.reg 256 5 laws_eqStretch.r1) (.cond (.t 9) (.seq (.reg 576 1 laws_eqStretch.r2) (.ret)) (.skip))) (.seq (.seq (.reg 640 5 laws_eqStretch.r3) (.cond (.t 14) (.seq (.reg 960 1 laws_eqStretch.r4) (.ret)) (.skip))) (.seq (.reg 1024 1 laws_eqStretch.r5) (.ret)))) }
attribute [go_sem] laws_eqStretch.r0 laws_eqStretch.r1 laws_eqStretch.r2 laws_eqStretch.r3 laws_eqStretch.r4 laws_eqStretch.r5
theorem laws_eqStretch.ok : chkF prog F_laws_eqStretch 2 laws_eqStretch.fi = true := by kernel_rfl

/-! laws_eqKnown -/
def laws_eqKnown.r0 : List Ent := [
  E0 0 (some 2) none (.i (.box (.t 0))),
  E0 1 (some 3) none (.i (.box (.t 1))),
  E0 2 (some 4) none (.i (.mv (.k (.dat none (.bool false)))))]
def laws_eqKnown.r1 : List Ent := [
  E0 0 (some 5) none (.i (.fad 0 (.t 2))),
  E0 1 (some 6) none (.i (.load false false 1 (.t 5))),
  E0 2 (some 7) none (.i (.fad 0 (.t 3))),
  E0 3 (some 8) none (.i (.load false false 1 (.t 7))),
  E0 4 (some 9) none (.i (.bin .neq (.t 6) (.t 8)))]
def laws_eqKnown.r2 : List Ent := [
  E0 0 (some 4) none (.i (.mv (.k (.dat none (.bool false)))))]
def laws_eqKnown.r3 : List Ent := [
  E0 0 (some 10) none (.i (.fad 1 (.t 2))),
  E0 1 (some 11) none (.i (.load false false 1 (.t 10))),
  E0 2 (some 12) none (.i (.fad 1 (.t 3))),
  E0 3 (some 13) none (.i (.load false false 1 (.t 12))),
  E0 4 (some 14) none (.i (.bin .neq (.t 11) (.t 13)))]
def laws_eqKnown.r4 : List Ent := [
  E0 0 (some 4) none (.i (.mv (.k (.dat none (.bool false)))))]
def laws_eqKnown.r5 : List Ent := [
  E0 0 (some 4) none (.i (.mv (.k (.dat none (.bool true)))))]
def laws_eqKnown.fi : FI := { res := [.t 4], code := .seq (.reg 64 3 laws_eqKnown.r0) (.seq (.seq (.reg 256 5 laws_eqKnown.r1) (.cond (.t 9) (.seq (.reg 576 1 laws_eqKnown.r2) (.ret)) (.skip))) (.seq (.seq (.reg 640 5 laws_eqKnown.r3) (.cond (.t 14) (.seq (.reg 960 1 laws_eqKnown.r4) (.ret)) (.skip))) (.seq (.reg 1024 1 laws_eqKnown.r5) (.ret)))) }
attribute [go_sem] laws_eqKnown.r0 laws_eqKnown.r1 laws_eqKnown.r2 laws_eqKnown.r3 laws_eqKnown.r4 laws_eqKnown.r5
theorem laws_eqKnown.ok : chkF prog F_laws_eqKnown 2 laws_eqKnown.fi = true := by kernel_rfl

/-! laws_szIntS -/
def laws_szIntS.r0 : List Ent := [
  E0 0 (some 4) none (.i (.mv (.k (I64 0))))]
def laws_szIntS.r1 : List Ent := [
  E0 0 (some 5) none (.i (.mv (.t 1))),
  E0 1 (some 6) none (.i (.mv (.t 0))),
  E0 2 (some 7) none (.i (.len (.t 6))),
  E0 3 (some 8) none (.i (.bin .sub (.t 5) (.t 7))),
  E0 4 (some 1) none (.i (.mv (.t 8)))]
def laws_szIntS.r2 : List Ent := [
  E0 0 (some 9) none (.i (.mv (.t 1))),
  E0 1 (some 10) none (.i (.bin .lss (.t 9) (.k (I64 0))))]
def laws_szIntS.r3 : List Ent := [
  E0 0 (some 4) none (.i (.mv (.k (I64 (-1)))))]
def laws_szIntS.r4 : List Ent := [
  E0 0 (some 11) none (.i (.mv (.t 1))),
  E0 1 (some 4) none (.i (.mv (.t 11)))]
def laws_szIntS.fi : FI := { res := [.t 4], code := .seq (.reg 64 1 laws_szIntS.r0) (.seq (.reg 128 5 laws_szIntS.r1) (.seq (.seq (.reg 448 2 laws_szIntS.r2) (.cond (.t 10) (.seq (.reg 576 1 laws_szIntS.r3) (.ret)) (.skip))) (.seq (.reg 640 2 laws_szIntS.r4) (.ret)))) }
attribute [go_sem] laws_szIntS.r0 laws_szIntS.r1 laws_szIntS.r2 laws_szIntS.r3 laws_szIntS.r4
theorem laws_szIntS.ok : chkF prog F_laws_szIntS 2 laws_szIntS.fi = true := by kernel_rfl

/-! laws_szRule -/
def laws_szRule.r0 : List Ent := [
  E0 0 (some 2) none (.i (.box (.t 0))),
  E0 1 (some 4) none (.i (.mv (.k (I64 0))))]
def laws_szRule.r1 : List Ent := [
  E0 0 (some 5) none (.i (.fad 0 (.t 2))),
  E0 1 (some 6) none (.i (.load false false 1 (.t 5))),
  E0 2 (some 7) none (.i (.mv (.t 1))),
  E0 3 (some 8) none (.call F_laws_szIntS false (roA [.t 6, .t 7])),
  E0 4 (some 1) none (.i (.mv (.t 8)))]
def laws_szRule.r2 : List Ent := [
  E0 0 (some 9) none (.i (.mv (.t 1))),
  E0 1 (some 10) none (.i (.bin .lss (.t 9) (.k (I64 0))))]
def laws_szRule.r3 : List Ent := [
  E0 0 (some 4) none (.i (.mv (.k (I64 (-1)))))]
def laws_szRule.r4 : List Ent := [
  E0 0 (some 11) none (.i (.mv (.t 1))),
  E0 1 (some 4) none (.i (.mv (.t 11)))]
def laws_szRule.fi : FI := { res := [.t 4], code := .seq (.reg 64 2 laws_szRule.r0) (.seq (.reg 192 5 laws_szRule.r1) (.seq (.seq (.reg 512 2 laws_szRule.r2) (.cond (.t 10) (.seq (.reg 640 1 laws_szRule.r3) (.ret)) (.skip))) (.seq (.reg 704 2 laws_szRule.r4) (.ret)))) }
attribute [go_sem] laws_szRule.r0 laws_szRule.r1 laws_szRule.r2 laws_szRule.r3 laws_szRule.r4
theorem laws_szRule.ok : chkF prog F_laws_szRule 2 laws_szRule.fi = true := by kernel_rfl

/-! laws_szRuleS -/
def laws_szRuleS.r0 : List Ent := [
  E0 0 (some 4) none (.i (.mv (.k (I64 0))))]
def laws_szRuleS.r1 : List Ent := [
  E0 0 (some 6) none (.i (.mv (.t 1))),
  E0 1 (some 7) none (.i (.mv (.t 0))),
  E0 2 (some 8) none (.i (.len (.t 7))),
  E0 3 (some 9) none (.i (.bin .sub (.t 6) (.t 8))),
  E0 4 (some 1) none (.i (.mv (.t 9)))]
def laws_szRuleS.r2 : List Ent := [
  E0 0 (some 10) none (.i (.mv (.t 1))),
  E0 1 (some 11) none (.i (.bin .lss (.t 10) (.k (I64 0))))]
def laws_szRuleS.r3 : List Ent := [
  E0 0 (some 4) none (.i (.mv (.k (I64 (-1)))))]
def laws_szRuleS.r4 : List Ent := [
  E0 0 (some 5) none (.i (.mv (.k (I64 0))))]
def laws_szRuleS.r5 : List Ent := [
  E0 0 (some 12) none (.i (.mv (.t 5))),
  E0 1 (some 13) none (.i (.mv (.t 0))),
  E0 2 (some 14) none (.i (.len (.t 13))),
  E0 3 (some 15) none (.i (.bin .lss (.t 12) (.t 14)))]
def laws_szRuleS.r6 : List Ent := [
  E0 0 (some 18) none (.i (.mv (.t 0))),
  E0 1 (some 19) none (.i (.mv (.t 5))),
  E0 2 (some 20) none (.i (.iad 2 (.t 18) (.t 19))),
  E0 3 (some 21) none (.i (.load false true 2 (.t 20))),
  E0 4 (some 22) none (.i (.mv (.t 1))),
  E0 5 (some 23) none (.call F_laws_szRule false (roA [.t 21, .t 22])),
  E0 6 (some 1) none (.i (.mv (.t 23)))]
def laws_szRuleS.r7 : List Ent := [
  E0 0 (some 24) none (.i (.mv (.t 1))),
  E0 1 (some 25) none (.i (.bin .lss (.t 24) (.k (I64 0))))]
def laws_szRuleS.r8 : List Ent := [
  E0 0 (some 4) none (.i (.mv (.k (I64 (-1)))))]
def laws_szRuleS.r9 : List Ent := [
  E0 0 (some 16) none (.i (.mv (.t 5))),
  E0 1 (some 17) none (.i (.bin .add (.t 16) (.k (I64 1)))),
  E0 2 (some 5) none (.i (.mv (.t 17)))]
def laws_szRuleS.b0 : KC := .seq (.seq (.reg 704 4 laws_szRuleS.r5) (.cond (.t 15) (.skip) (.exit 0))) (.seq (.block 1 (.seq (.reg 960 7 laws_szRuleS.r6) (.seq (.reg 1408 2 laws_szRuleS.r7) (.cond (.t 25) (.seq (.reg 1536 1 laws_szRuleS.r8) (.ret)) (.skip))))) (.reg 1600 3 laws_szRuleS.r9))
def laws_szRuleS.r10 : List Ent := [
  E0 0 (some 26) none (.i (.mv (.t 1))),
  E0 1 (some 4) none (.i (.mv (.t 26)))]
def laws_szRuleS.fi : FI := { res := [.t 4], code := .seq (.reg 64 1 laws_szRuleS.r0) (.seq (.reg 128 5 laws_szRuleS.r1) (.seq (.seq (.reg 448 2 laws_szRuleS.r2) (.cond (.t 11) (.seq (.reg 576 1 laws_szRuleS.r3) (.ret)) (.skip))) (.seq (.seq (.reg 640 1 laws_szRuleS.r4) (.block 0 (.loop laws_szRuleS.b0))) (.seq (.reg 1792 2 laws_szRuleS.r10) (.ret))))) }
attribute [go_sem] laws_szRuleS.r0 laws_szRuleS.r1 laws_szRuleS.r2 laws_szRuleS.r3 laws_szRuleS.r4 laws_szRuleS.r5 laws_szRuleS.r6 laws_szRuleS.r7 laws_szRuleS.r8 laws_szRuleS.r9 laws_szRuleS.r10
theorem laws_szRuleS.ok : chkF prog F_laws_szRuleS 2 laws_szRuleS.fi = true := by kernel_rfl

/-! spec_l1Rising -/
def spec_l1Rising.r0 : List Ent := [
  E0 0 (some 6) none (.i (.mv (.k (.dat none (.bool false)))))]
def spec_l1Rising.r1 : List Ent := [
  E0 0 (some 9) none (.i (.mv (.t 0))),
  E0 1 (some 10) none (.i (.len (.t 9))),
  E0 2 (some 11) none (.i (.mv (.k (I64 0))))]
def spec_l1Rising.r2 : List Ent := [
  E0 0 (some 12) none (.i (.bin .lss (.t 11) (.t 10)))]
def spec_l1Rising.r3 : List Ent := [
  E0 0 (some 13) none (.i (.mv (.t 11))),
  E0 1 (some 14) none (.i (.iad 1 (.t 9) (.t 11))),
  E0 2 (some 15) none (.i (.load false false 1 (.t 14))),
  E0 3 (some 7) none (.i (.mv (.t 13))),
  E0 4 (some 8) none (.i (.mv (.t 15)))]
def spec_l1Rising.r4 : List Ent := [
  E0 0 (some 16) none (.i (.mv (.t 8))),
  E0 1 (some 17) none (.i (.mv (.t 1))),
  E0 2 (some 18) none (.i (.mv (.t 2))),
  E0 3 (some 19) none (.call F_spec_l1In false (roA [.t 16, .t 17, .t 18])),
  E0 4 (some 20) none (.i (.un .not (.t 19))),
  E0 5 (some 21) none (.i (.mv (.t 20))),
  E0 6 (some 22) (some (21, false)) (.i (.mv (.t 7))),
  E0 7 (some 23) (some (21, false)) (.i (.bin .gtr (.t 22) (.k (I64 0)))),
  E0 8 (some 24) (some (21, false)) (.i (.mv (.t 23))),
  E0 9 (some 25) (some (24, true)) (.i (.mv (.t 0))),
  E0 10 (some 26) (some (24, true)) (.i (.mv (.t 7))),
  E0 11 (some 27) (some (24, true)) (.i (.bin .sub (.t 26) (.k (I64 1)))),
  E0 12 (some 28) (some (24, true)) (.i (.iad 1 (.t 25) (.t 27))),
  E0 13 (some 29) (some (24, true)) (.i (.load false false 1 (.t 28))),
  E0 14 (some 30) (some (24, true)) (.i (.mv (.t 8))),
  E0 15 (some 31) (some (24, true)) (.i (.bin .geq (.t 29) (.t 30))),
  E0 16 (some 32) (some (21, false)) (.i (.pick (.t 24) (.t 31) (.k (.dat none (.bool false))))),
  E0 17 (some 33) none (.i (.pick (.t 21) (.k (.dat none (.bool true))) (.t 32)))]
def spec_l1Rising.r5 : List Ent := [
  E0 0 (some 6) none (.i (.mv (.k (.dat none (.bool false)))))]
def spec_l1Rising.r6 : List Ent := [
  E0 0 (some 34) none (.i (.bin .add (.t 11) (.k (I64 1)))),
  E0 1 (some 11) none (.i (.mv (.t 34)))]
def spec_l1Rising.b0 : KC := .seq (.reg 320 1 spec_l1Rising.r2) (.seq (.cond (.t 12) (.skip) (.exit 0)) (.seq (.block 1 (.seq (.reg 384 5 spec_l1Rising.r3) (.seq (.reg 704 18 spec_l1Rising.r4) (.cond (.t 33) (.seq (.reg 1856 1 spec_l1Rising.r5) (.ret)) (.skip))))) (.reg 1920 2 spec_l1Rising.r6)))
def spec_l1Rising.r7 : List Ent := [
  E0 0 (some 6) none (.i (.mv (.k (.dat none (.bool true)))))]
def spec_l1Rising.fi : FI := { res := [.t 6], code := .seq (.reg 64 1 spec_l1Rising.r0) (.seq (.seq (.reg 128 3 spec_l1Rising.r1) (.block 0 (.loop spec_l1Rising.b0))) (.seq (.reg 2048 1 spec_l1Rising.r7) (.ret))) }
attribute [go_sem] spec_l1Rising.r0 spec_l1Rising.r1 spec_l1Rising.r2 spec_l1Rising.r3 spec_l1Rising.r4 spec_l1Rising.r5 spec_l1Rising.r6 spec_l1Rising.r7
theorem spec_l1Rising.ok : chkF prog F_spec_l1Rising 3 spec_l1Rising.fi = true := by kernel_rfl

/-! spec_l16Facts -/
def spec_l16Facts.r0 : List Ent := [
  E0 0 (some 4) none (.i (.mv (.k (.dat none (.bool false)))))]
def spec_l16Facts.r1 : List Ent := [
  E0 0 (some 5) none (.i (.mv (.t 1))),
  E0 1 (some 6) none (.i (.mv (.t 0))),
  E0 2 (some 7) none (.call F_spec_l1Rising false (roA [.t 5, .k (I64 1), .t 6])),
  E0 3 (some 4) none (.i (.mv (.t 7)))]
def spec_l16Facts.fi : FI := { res := [.t 4], code := .seq (.reg 64 1 spec_l16Facts.r0) (.seq (.reg 128 4 spec_l16Facts.r1) (.ret)) }
attribute [go_sem] spec_l16Facts.r0 spec_l16Facts.r1
theorem spec_l16Facts.ok : chkF prog F_spec_l16Facts 2 spec_l16Facts.fi = true := by kernel_rfl

/-! spec_GoodRules -/
def spec_GoodRules.r0 : List Ent := [
  E0 0 (some 4) none (.i (.mv (.k (.dat none (.bool false)))))]
def spec_GoodRules.r1 : List Ent := [
  E0 0 (some 7) none (.i (.mv (.t 1))),
  E0 1 (some 8) none (.i (.len (.t 7))),
  E0 2 (some 9) none (.i (.mv (.k (I64 0))))]
def spec_GoodRules.r2 : List Ent := [
  E0 0 (some 10) none (.i (.bin .lss (.t 9) (.t 8)))]
def spec_GoodRules.r3 : List Ent := [
  E0 0 (some 11) none (.i (.iad 2 (.t 7) (.t 9))),
  E0 1 (some 12) none (.i (.load false true 2 (.t 11))),
  E0 2 (some 6) none (.i (.box (.k (.agg [.nil 1, .dat none (.int .i64 0)])))),
  E0 3 none none (.i (.store 2 (.t 6) (.t 12)))]
def spec_GoodRules.r4 : List Ent := [
  E0 0 (some 13) none (.i (.mv (.t 0))),
  E0 1 (some 14) none (.i (.fad 0 (.t 6))),
  E0 2 (some 15) none (.i (.load false false 1 (.t 14))),
  E0 3 (some 16) none (.call F_spec_l16Facts false (roA [.t 13, .t 15])),
  E0 4 (some 17) none (.i (.un .not (.t 16))),
  E0 5 (some 18) none (.i (.mv (.t 17))),
  E0 6 (some 19) (some (18, false)) (.i (.fad 1 (.t 6))),
  E0 7 (some 20) (some (18, false)) (.i (.load false false 1 (.t 19))),
  E0 8 (some 21) (some (18, false)) (.i (.mv (.t 0))),
  E0 9 (some 22) (some (18, false)) (.call F_spec_l1In false (roA [.t 20, .k (I64 0), .t 21])),
  E0 10 (some 23) (some (18, false)) (.i (.un .not (.t 22))),
  E0 11 (some 24) none (.i (.pick (.t 18) (.k (.dat none (.bool true))) (.t 23)))]
def spec_GoodRules.r5 : List Ent := [
  E0 0 (some 4) none (.i (.mv (.k (.dat none (.bool false)))))]
def spec_GoodRules.r6 : List Ent := [
  E0 0 (some 25) none (.i (.bin .add (.t 9) (.k (I64 1)))),
  E0 1 (some 9) none (.i (.mv (.t 25)))]
def spec_GoodRules.b0 : KC := .seq (.reg 320 1 spec_GoodRules.r2) (.seq (.cond (.t 10) (.skip) (.exit 0)) (.seq (.block 1 (.seq (.reg 384 4 spec_GoodRules.r3) (.seq (.reg 640 12 spec_GoodRules.r4) (.cond (.t 24) (.seq (.reg 1408 1 spec_GoodRules.r5) (.ret)) (.skip))))) (.reg 1472 2 spec_GoodRules.r6)))
def spec_GoodRules.r7 : List Ent := [
  E0 0 (some 26) none (.i (.mv (.t 0))),
  E0 1 (some 27) none (.call F_spec_l1In false (roA [.t 26, .k (I64 1), .k (I64 12)])),
  E0 2 (some 28) none (.i (.mv (.t 27))),
  E0 3 (some 29) (some (28, true)) (.i (.mv (.t 1))),
  E0 4 (some 30) (some (28, true)) (.i (.len (.t 29))),
  E0 5 (some 31) (some (28, true)) (.i (.bin .leq (.t 30) (.k (I64 30)))),
  E0 6 (some 32) none (.i (.pick (.t 28) (.t 31) (.k (.dat none (.bool false))))),
  E0 7 (some 4) none (.i (.mv (.t 32)))]
def spec_GoodRules.fi : FI := { res := [.t 4], code := .seq (.reg 64 1 spec_GoodRules.r0) (.seq (.seq (.reg 128 3 spec_GoodRules.r1) (.block 0 (.loop spec_GoodRules.b0))) (.seq (.reg 1600 8 spec_GoodRules.r7) (.ret))) }
attribute [go_sem] spec_GoodRules.r0 spec_GoodRules.r1 spec_GoodRules.r2 spec_GoodRules.r3 spec_GoodRules.r4 spec_GoodRules.r5 spec_GoodRules.r6 spec_GoodRules.r7
theorem spec_GoodRules.ok : chkF prog F_spec_GoodRules 2 spec_GoodRules.fi = true := by kernel_rfl

/-! laws_toIntS -/
def laws_toIntS.r0 : List Ent := [
  E0 0 (some 2) none (.i (.mv (.k (.nil 1))))]
def laws_toIntS.r1 : List Ent := [
  E0 0 (some 5) none (.i (.mv (.t 0))),
  E0 1 (some 6) none (.i (.len (.t 5))),
  E0 2 (some 7) none (.i (.mks 1 8 (.int .i64 0) (.t 6) (.t 6))),
  E0 3 (some 3) none (.i (.mv (.t 7)))]
def laws_toIntS.r2 : List Ent := [
  E0 0 (some 4) none (.i (.mv (.k (I64 0))))]
def laws_toIntS.r3 : List Ent := [
  E0 0 (some 8) none (.i (.mv (.t 4))),
  E0 1 (some 9) none (.i (.mv (.t 0))),
  E0 2 (some 10) none (.i (.len (.t 9))),
  E0 3 (some 11) none (.i (.bin .lss (.t 8) (.t 10)))]
def laws_toIntS.r4 : List Ent := [
  E0 0 (some 14) none (.i (.mv (.t 3))),
  E0 1 (some 15) none (.i (.mv (.t 4))),
  E0 2 (some 16) none (.i (.mv (.t 0))),
  E0 3 (some 17) none (.i (.mv (.t 4))),
  E0 4 (some 18) none (.i (.iad 1 (.t 16) (.t 17))),
  E0 5 (some 19) none (.i (.load false false 1 (.t 18))),
  E0 6 (some 20) none (.i (.iad 1 (.t 14) (.t 15))),
  E0 7 none none (.i (.store 1 (.t 20) (.t 19)))]
def laws_toIntS.r5 : List Ent := [
  E0 0 (some 12) none (.i (.mv (.t 4))),
  E0 1 (some 13) none (.i (.bin .add (.t 12) (.k (I64 1)))),
  E0 2 (some 4) none (.i (.mv (.t 13)))]
def laws_toIntS.b0 : KC := .seq (.seq (.reg 448 4 laws_toIntS.r3) (.cond (.t 11) (.skip) (.exit 0))) (.seq (.block 1 (.reg 704 8 laws_toIntS.r4)) (.reg 1216 3 laws_toIntS.r5))
def laws_toIntS.r6 : List Ent := [
  E0 0 (some 21) none (.i (.mv (.t 3))),
  E0 1 (some 2) none (.i (.mv (.t 21)))]
def laws_toIntS.fi : FI := { res := [.t 2], code := .seq (.reg 64 1 laws_toIntS.r0) (.seq (.reg 128 4 laws_toIntS.r1) (.seq (.seq (.reg 384 1 laws_toIntS.r2) (.block 0 (.loop laws_toIntS.b0))) (.seq (.reg 1408 2 laws_toIntS.r6) (.ret)))) }
attribute [go_sem] laws_toIntS.r0 laws_toIntS.r1 laws_toIntS.r2 laws_toIntS.r3 laws_toIntS.r4 laws_toIntS.r5 laws_toIntS.r6
theorem laws_toIntS.ok : chkF prog F_laws_toIntS 1 laws_toIntS.fi = true := by kernel_rfl

/-! laws_toRule -/
def laws_toRule.r0 : List Ent := [
  E0 0 (some 1) none (.i (.box (.t 0))),
  E0 1 (some 2) none (.i (.box (.k (.agg [.nil 1, .dat none (.int .i64 0)]))))]
def laws_toRule.r1 : List Ent := [
  E0 0 (some 3) none (.i (.box (.k (.agg [.nil 1, .dat none (.int .i64 0)]))))]
def laws_toRule.r2 : List Ent := [
  E0 0 (some 4) none (.i (.fad 0 (.t 1))),
  E0 1 (some 5) none (.i (.load false false 1 (.t 4))),
  E0 2 (some 6) none (.call F_laws_toIntS false (roA [.t 5])),
  E0 3 (some 7) none (.i (.fad 0 (.t 3))),
  E0 4 none none (.i (.store 1 (.t 7) (.t 6)))]
def laws_toRule.r3 : List Ent := [
  E0 0 (some 8) none (.i (.fad 1 (.t 1))),
  E0 1 (some 9) none (.i (.load false false 1 (.t 8))),
  E0 2 (some 10) none (.i (.fad 1 (.t 3))),
  E0 3 none none (.i (.store 1 (.t 10) (.t 9)))]
def laws_toRule.r4 : List Ent := [
  E0 0 (some 11) none (.i (.load false true 2 (.t 3))),
  E0 1 none none (.i (.store 2 (.t 2) (.t 11)))]
def laws_toRule.fi : FI := { res := [.c 2 true 2], code := .seq (.reg 64 2 laws_toRule.r0) (.seq (.reg 192 1 laws_toRule.r1) (.seq (.reg 256 5 laws_toRule.r2) (.seq (.reg 576 4 laws_toRule.r3) (.seq (.reg 832 2 laws_toRule.r4) (.ret))))) }
attribute [go_sem] laws_toRule.r0 laws_toRule.r1 laws_toRule.r2 laws_toRule.r3 laws_toRule.r4
theorem laws_toRule.ok : chkF prog F_laws_toRule 1 laws_toRule.fi = true := by kernel_rfl

/-! laws_toRuleS -/
def laws_toRuleS.r0 : List Ent := [
  E0 0 (some 2) none (.i (.mv (.k (.nil 2))))]
def laws_toRuleS.r1 : List Ent := [
  E0 0 (some 5) none (.i (.mv (.t 0))),
  E0 1 (some 6) none (.i (.len (.t 5))),
  E0 2 (some 7) none (.i (.mks 2 32 (.agg [.sl 1 [], .int .i64 0]) (.t 6) (.t 6))),
  E0 3 (some 3) none (.i (.mv (.t 7)))]
def laws_toRuleS.r2 : List Ent := [
  E0 0 (some 4) none (.i (.mv (.k (I64 0))))]
def laws_toRuleS.r3 : List Ent := [
  E0 0 (some 8) none (.i (.mv (.t 4))),
  E0 1 (some 9) none (.i (.mv (.t 0))),
  E0 2 (some 10) none (.i (.len (.t 9))),
  E0 3 (some 11) none (.i (.bin .lss (.t 8) (.t 10)))]
def laws_toRuleS.r4 : List Ent := [
  E0 0 (some 14) none (.i (.mv (.t 3))),
  E0 1 (some 15) none (.i (.mv (.t 4))),
  E0 2 (some 16) none (.i (.mv (.t 0))),
  E0 3 (some 17) none (.i (.mv (.t 4))),
  E0 4 (some 18) none (.i (.iad 2 (.t 16) (.t 17))),
  E0 5 (some 19) none (.i (.load false true 2 (.t 18))),
  E0 6 (some 20) none (.call F_laws_toRule false (roA [.t 19])),
  E0 7 (some 21) none (.i (.iad 2 (.t 14) (.t 15))),
  E0 8 none none (.i (.store 2 (.t 21) (.t 20)))]
def laws_toRuleS.r5 : List Ent := [
  E0 0 (some 12) none (.i (.mv (.t 4))),
  E0 1 (some 13) none (.i (.bin .add (.t 12) (.k (I64 1)))),
  E0 2 (some 4) none (.i (.mv (.t 13)))]
def laws_toRuleS.b0 : KC := .seq (.seq (.reg 448 4 laws_toRuleS.r3) (.cond (.t 11) (.skip) (.exit 0))) (.seq (.block 1 (.reg 704 9 laws_toRuleS.r4)) (.reg 1280 3 laws_toRuleS.r5))
def laws_toRuleS.r6 : List Ent := [
  E0 0 (some 22) none (.i (.mv (.t 3))),
  E0 1 (some 2) none (.i (.mv (.t 22)))]
def laws_toRuleS.fi : FI := { res := [.t 2], code := .seq (.reg 64 1 laws_toRuleS.r0) (.seq (.reg 128 4 laws_toRuleS.r1) (.seq (.seq (.reg 384 1 laws_toRuleS.r2) (.block 0 (.loop laws_toRuleS.b0))) (.seq (.reg 1472 2 laws_toRuleS.r6) (.ret)))) }
attribute [go_sem] laws_toRuleS.r0 laws_toRuleS.r1 laws_toRuleS.r2 laws_toRuleS.r3 laws_toRuleS.r4 laws_toRuleS.r5 laws_toRuleS.r6
theorem laws_toRuleS.ok : chkF prog F_laws_toRuleS 1 laws_toRuleS.fi = true := by kernel_rfl

/-! slices_IndexFunc__sRule_Rule -/
def slices_IndexFunc__sRule_Rule.r0 : List Ent := [
  E0 0 (some 4) none (.i (.mv (.k (I64 0))))]
def slices_IndexFunc__sRule_Rule.r1 : List Ent := [
  E0 0 (some 6) none (.i (.mv (.t 0))),
  E0 1 (some 7) none (.i (.len (.t 6))),
  E0 2 (some 8) none (.i (.mv (.k (I64 0))))]
def slices_IndexFunc__sRule_Rule.r2 : List Ent := [
  E0 0 (some 9) none (.i (.bin .lss (.t 8) (.t 7)))]
def slices_IndexFunc__sRule_Rule.r3 : List Ent := [
  E0 0 (some 10) none (.i (.mv (.t 8))),
  E0 1 (some 5) none (.i (.mv (.t 10)))]
def slices_IndexFunc__sRule_Rule.r4 : List Ent := [
  E0 0 (some 11) none (.i (.mv (.t 1))),
  E0 1 (some 12) none (.i (.mv (.t 0))),
  E0 2 (some 13) none (.i (.mv (.t 5))),
  E0 3 (some 14) none (.i (.iad 2 (.t 12) (.t 13))),
  E0 4 (some 15) none (.i (.load false true 2 (.t 14))),
  E0 5 (some 16) none (.ccl (.t 11) false [.t 15])]
def slices_IndexFunc__sRule_Rule.r5 : List Ent := [
  E0 0 (some 17) none (.i (.mv (.t 5))),
  E0 1 (some 4) none (.i (.mv (.t 17)))]
def slices_IndexFunc__sRule_Rule.r6 : List Ent := [
  E0 0 (some 18) none (.i (.bin .add (.t 8) (.k (I64 1)))),
  E0 1 (some 8) none (.i (.mv (.t 18)))]
def slices_IndexFunc__sRule_Rule.b0 : KC := .seq (.reg 320 1 slices_IndexFunc__sRule_Rule.r2) (.seq (.cond (.t 9) (.skip) (.exit 0)) (.seq (.block 1 (.seq (.reg 384 2 slices_IndexFunc__sRule_Rule.r3) (.seq (.reg 512 6 slices_IndexFunc__sRule_Rule.r4) (.cond (.t 16) (.seq (.reg 896 2 slices_IndexFunc__sRule_Rule.r5) (.ret)) (.skip))))) (.reg 1024 2 slices_IndexFunc__sRule_Rule.r6)))
def slices_IndexFunc__sRule_Rule.r7 : List Ent := [
  E0 0 (some 4) none (.i (.mv (.k (I64 (-1)))))]
def slices_IndexFunc__sRule_Rule.fi : FI := { res := [.t 4], code := .seq (.reg 64 1 slices_IndexFunc__sRule_Rule.r0) (.seq (.seq (.reg 128 3 slices_IndexFunc__sRule_Rule.r1) (.block 0 (.loop slices_IndexFunc__sRule_Rule.b0))) (.seq (.reg 1152 1 slices_IndexFunc__sRule_Rule.r7) (.ret))) }
attribute [go_sem] slices_IndexFunc__sRule_Rule.r0 slices_IndexFunc__sRule_Rule.r1 slices_IndexFunc__sRule_Rule.r2 slices_IndexFunc__sRule_Rule.r3 slices_IndexFunc__sRule_Rule.r4 slices_IndexFunc__sRule_Rule.r5 slices_IndexFunc__sRule_Rule.r6 slices_IndexFunc__sRule_Rule.r7
theorem slices_IndexFunc__sRule_Rule.ok : chkF prog F_slices_IndexFunc__sRule_Rule 2 slices_IndexFunc__sRule_Rule.fi = true := by kernel_rfl

/-! slices_ContainsFunc__sRule_Rule -/
def slices_ContainsFunc__sRule_Rule.r0 : List Ent := [
  E0 0 (some 4) none (.i (.mv (.k (.dat none (.bool false)))))]
def slices_ContainsFunc__sRule_Rule.r1 : List Ent := [
  E0 0 (some 5) none (.i (.mv (.t 0))),
  E0 1 (some 6) none (.i (.mv (.t 1))),
  E0 2 (some 7) none (.call F_slices_IndexFunc__sRule_Rule false (roA [.t 5, .t 6])),
  E0 3 (some 8) none (.i (.bin .geq (.t 7) (.k (I64 0)))),
  E0 4 (some 4) none (.i (.mv (.t 8)))]
def slices_ContainsFunc__sRule_Rule.fi : FI := { res := [.t 4], code := .seq (.reg 64 1 slices_ContainsFunc__sRule_Rule.r0) (.seq (.reg 128 5 slices_ContainsFunc__sRule_Rule.r1) (.ret)) }
attribute [go_sem] slices_ContainsFunc__sRule_Rule.r0 slices_ContainsFunc__sRule_Rule.r1
theorem slices_ContainsFunc__sRule_Rule.ok : chkF prog F_slices_ContainsFunc__sRule_Rule 2 slices_ContainsFunc__sRule_Rule.fi = true := by kernel_rfl

/-! impl_areFacts -/
def impl_areFacts.r0 : List Ent := [
  E0 0 (some 4) none (.i (.mv (.k (.dat none (.bool false)))))]
def impl_areFacts.r1 : List Ent := [
  E0 0 (some 7) none (.i (.mv (.t 0))),
  E0 1 (some 8) none (.i (.len (.t 7))),
  E0 2 (some 9) none (.i (.mv (.k (I64 0))))]
def impl_areFacts.r2 : List Ent := [
  E0 0 (some 10) none (.i (.bin .lss (.t 9) (.t 8)))]
def impl_areFacts.r3 : List Ent := [
  E0 0 (some 11) none (.i (.mv (.t 9))),
  E0 1 (some 12) none (.i (.iad 1 (.t 7) (.t 9))),
  E0 2 (some 13) none (.i (.load false false 1 (.t 12))),
  E0 3 (some 5) none (.i (.mv (.t 11))),
  E0 4 (some 6) none (.i (.mv (.t 13)))]
def impl_areFacts.r4 : List Ent := [
  E0 0 (some 14) none (.i (.mv (.t 6))),
  E0 1 (some 15) none (.i (.mv (.t 1))),
  E0 2 (some 16) none (.call F_impl_in false (roA [.t 14, .k (I64 1), .t 15])),
  E0 3 (some 17) none (.i (.un .not (.t 16))),
  E0 4 (some 18) none (.i (.mv (.t 17))),
  E0 5 (some 19) (some (18, false)) (.i (.mv (.t 5))),
  E0 6 (some 20) (some (18, false)) (.i (.bin .gtr (.t 19) (.k (I64 0)))),
  E0 7 (some 21) (some (18, false)) (.i (.mv (.t 20))),
  E0 8 (some 22) (some (21, true)) (.i (.mv (.t 0))),
  E0 9 (some 23) (some (21, true)) (.i (.mv (.t 5))),
  E0 10 (some 24) (some (21, true)) (.i (.bin .sub (.t 23) (.k (I64 1)))),
  E0 11 (some 25) (some (21, true)) (.i (.iad 1 (.t 22) (.t 24))),
  E0 12 (some 26) (some (21, true)) (.i (.load false false 1 (.t 25))),
  E0 13 (some 27) (some (21, true)) (.i (.mv (.t 6))),
  E0 14 (some 28) (some (21, true)) (.i (.bin .geq (.t 26) (.t 27))),
  E0 15 (some 29) (some (18, false)) (.i (.pick (.t 21) (.t 28) (.k (.dat none (.bool false))))),
  E0 16 (some 30) none (.i (.pick (.t 18) (.k (.dat none (.bool true))) (.t 29)))]
def impl_areFacts.r5 : List Ent := [
  E0 0 (some 4) none (.i (.mv (.k (.dat none (.bool false)))))]
def impl_areFacts.r6 : List Ent := [
  E0 0 (some 31) none (.i (.bin .add (.t 9) (.k (I64 1)))),
  E0 1 (some 9) none (.i (.mv (.t 31)))]
def impl_areFacts.b0 : KC := .seq (.reg 320 1 impl_areFacts.r2) (.seq (.cond (.t 10) (.skip) (.exit 0)) (.seq (.block 1 (.seq (.reg 384 5 impl_areFacts.r3) (.seq (.reg 704 17 impl_areFacts.r4) (.cond (.t 30) (.seq (.reg 1792 1 impl_areFacts.r5) (.ret)) (.skip))))) (.reg 1856 2 impl_areFacts.r6)))
def impl_areFacts.r7 : List Ent := [
  E0 0 (some 4) none (.i (.mv (.k (.dat none (.bool true)))))]
def impl_areFacts.fi : FI := { res := [.t 4], code := .seq (.reg 64 1 impl_areFacts.r0) (.seq (.seq (.reg 128 3 impl_areFacts.r1) (.block 0 (.loop impl_areFacts.b0))) (.seq (.reg 1984 1 impl_areFacts.r7) (.ret))) }
attribute [go_sem] impl_areFacts.r0 impl_areFacts.r1 impl_areFacts.r2 impl_areFacts.r3 impl_areFacts.r4 impl_areFacts.r5 impl_areFacts.r6 impl_areFacts.r7
theorem impl_areFacts.ok : chkF prog F_impl_areFacts 2 impl_areFacts.fi = true := by kernel_rfl

/-! impl_GoodRules_c1 -/
def impl_GoodRules_c1.r0 : List Ent := [
  E0 0 (some 2) none (.i (.box (.t 0))),
  E0 1 (some 3) none (.i (.mv (.k (.dat none (.bool false)))))]
def impl_GoodRules_c1.r1 : List Ent := [
  E0 0 (some 4) none (.i (.fad 0 (.t 2))),
  E0 1 (some 5) none (.i (.load false false 1 (.t 4))),
  E0 2 (some 6) none (.i (.load false false 1 (.t 1))),
  E0 3 (some 7) none (.call F_impl_areFacts false (roA [.t 5, .t 6])),
  E0 4 (some 8) none (.i (.un .not (.t 7))),
  E0 5 (some 9) none (.i (.mv (.t 8))),
  E0 6 (some 10) (some (9, false)) (.i (.fad 1 (.t 2))),
  E0 7 (some 11) (some (9, false)) (.i (.load false false 1 (.t 10))),
  E0 8 (some 12) (some (9, false)) (.i (.load false false 1 (.t 1))),
  E0 9 (some 13) (some (9, false)) (.call F_impl_in false (roA [.t 11, .k (I64 0), .t 12])),
  E0 10 (some 14) (some (9, false)) (.i (.un .not (.t 13))),
  E0 11 (some 15) none (.i (.pick (.t 9) (.k (.dat none (.bool true))) (.t 14))),
  E0 12 (some 3) none (.i (.mv (.t 15)))]
def impl_GoodRules_c1.fi : FI := { res := [.t 3], code := .seq (.reg 64 2 impl_GoodRules_c1.r0) (.seq (.reg 192 13 impl_GoodRules_c1.r1) (.ret)) }
attribute [go_sem] impl_GoodRules_c1.r0 impl_GoodRules_c1.r1
theorem impl_GoodRules_c1.ok : chkF prog F_impl_GoodRules_c1 2 impl_GoodRules_c1.fi = true := by kernel_rfl

/-! impl_GoodRules -/
def impl_GoodRules.r0 : List Ent := [
  E0 0 (some 2) none (.i (.box (.t 0))),
  E0 1 (some 4) none (.i (.mv (.k (.dat none (.bool false)))))]
def impl_GoodRules.r1 : List Ent := [
  E0 0 (some 5) none (.i (.load false false 1 (.t 2))),
  E0 1 (some 6) none (.call F_impl_in false (roA [.t 5, .k (I64 1), .k (I64 12)])),
  E0 2 (some 7) none (.i (.mv (.t 6))),
  E0 3 (some 8) (some (7, true)) (.i (.mv (.t 1))),
  E0 4 (some 9) (some (7, true)) (.i (.len (.t 8))),
  E0 5 (some 10) (some (7, true)) (.i (.bin .leq (.t 9) (.k (I64 30)))),
  E0 6 (some 11) none (.i (.pick (.t 7) (.t 10) (.k (.dat none (.bool false))))),
  E0 7 (some 12) none (.i (.mv (.t 11))),
  E0 8 (some 13) (some (12, true)) (.i (.mv (.t 1))),
  E0 9 (some 14) (some (12, true)) (.i (.mkf F_impl_GoodRules_c1 [.t 2])),
  E0 10 (some 15) (some (12, true)) (.call F_slices_ContainsFunc__sRule_Rule false (roA [.t 13, .t 14])),
  E0 11 (some 16) (some (12, true)) (.i (.un .not (.t 15))),
  E0 12 (some 17) none (.i (.pick (.t 12) (.t 16) (.k (.dat none (.bool false))))),
  E0 13 (some 4) none (.i (.mv (.t 17)))]
def impl_GoodRules.fi : FI := { res := [.t 4], code := .seq (.reg 64 2 impl_GoodRules.r0) (.seq (.reg 192 14 impl_GoodRules.r1) (.ret)) }
attribute [go_sem] impl_GoodRules.r0 impl_GoodRules.r1
theorem impl_GoodRules.ok : chkF prog F_impl_GoodRules 2 impl_GoodRules.fi = true := by kernel_rfl

/-! laws_eqIntS -/
def laws_eqIntS.r0 : List Ent := [
  E0 0 (some 4) none (.i (.mv (.k (.dat none (.bool false)))))]
def laws_eqIntS.r1 : List Ent := [
  E0 0 (some 6) none (.i (.mv (.t 0))),
  E0 1 (some 7) none (.i (.len (.t 6))),
  E0 2 (some 8) none (.i (.mv (.t 1))),
  E0 3 (some 9) none (.i (.len (.t 8))),
  E0 4 (some 10) none (.i (.bin .neq (.t 7) (.t 9)))]
def laws_eqIntS.r2 : List Ent := [
  E0 0 (some 4) none (.i (.mv (.k (.dat none (.bool false)))))]
def laws_eqIntS.r3 : List Ent := [
  E0 0 (some 5) none (.i (.mv (.k (I64 0))))]
def laws_eqIntS.r4 : List Ent := [
  E0 0 (some 11) none (.i (.mv (.t 5))),
  E0 1 (some 12) none (.i (.mv (.t 0))),
  E0 2 (some 13) none (.i (.len (.t 12))),
  E0 3 (some 14) none (.i (.bin .lss (.t 11) (.t 13)))]
def laws_eqIntS.r5 : List Ent := [
  E0 0 (some 17) none (.i (.mv (.t 0))),
  E0 1 (some 18) none (.i (.mv (.t 5))),
  ER 2 (some 19) none (.iad 1 (.t 17) (.t 18)),
  ER 3 (some 20) none (.load false false 1 (.t 19)),
  E0 4 (some 21) none (.i (.mv (.t 1))),
  E0 5 (some 22) none (.i (.mv (.t 5))),
  ER 6 (some 23) none (.iad 1 (.t 21) (.t 22)),
  ER 7 (some 24) none (.load false false 1 (.t 23)),
  E0 8 (some 25) none (.i (.bin .neq (.t 20) (.t 24)))]
def laws_eqIntS.r6 : List Ent := [
  E0 0 (some 4) none (.i (.mv (.k (.dat none (.bool false)))))]
def laws_eqIntS.r7 : List Ent := [
  E0 0 (some 15) none (.i (.mv (.t 5))),
  E0 1 (some 16) none (.i (.bin .add (.t 15) (.k (I64 1)))),
  E0 2 (some 5) none (.i (.mv (.t 16)))]
def laws_eqIntS.b0 : KC := .seq (.seq (.reg 576 4 laws_eqIntS.r4) (.cond (.t 14) (.skip) (.exit 0))) (.seq (.block 1 (.seq (.reg 832 9 laws_eqIntS.r5) (.cond (.t 25) (.seq (.reg 1408 1 laws_eqIntS.r6) (.ret)) (.skip)))) (.reg 1472 3 laws_eqIntS.r7))
def laws_eqIntS.r8 : List Ent := [
  E0 0 (some 4) none (.i (.mv (.k (.dat none (.bool true)))))]
def laws_eqIntS.fi : FI := { res := [.t 4], code := .seq (.reg 64 1 laws_eqIntS.r0) (.seq (.seq (.reg 128 5 laws_eqIntS.r1) (.cond (.t 10) (.seq (.reg 448 1 laws_eqIntS.r2) (.ret)) (.skip))) (.seq (.seq (.reg 512 1 laws_eqIntS.r3) (.block 0 (.loop laws_eqIntS.b0))) (.seq (.reg 1664 1 laws_eqIntS.r8) (.ret)))) }
attribute [go_sem] laws_eqIntS.r0 laws_eqIntS.r1 laws_eqIntS.r2 laws_eqIntS.r3 laws_eqIntS.r4 laws_eqIntS.r5 laws_eqIntS.r6 laws_eqIntS.r7 laws_eqIntS.r8
theorem laws_eqIntS.ok : chkF prog F_laws_eqIntS 2 laws_eqIntS.fi = true := by kernel_rfl

/-! laws_eqRule -/
def laws_eqRule.r0 : List Ent := [
  E0 0 (some 2) none (.i (.box (.t 0))),
  E0 1 (some 3) none (.i (.box (.t 1))),
  E0 2 (some 4) none (.i (.mv (.k (.dat none (.bool false)))))]
def laws_eqRule.r1 : List Ent := [
  E0 0 (some 5) none (.i (.fad 0 (.t 2))),
  E0 1 (some 6) none (.i (.load false false 1 (.t 5))),
  E0 2 (some 7) none (.i (.fad 0 (.t 3))),
  E0 3 (some 8) none (.i (.load false false 1 (.t 7))),
  E0 4 (some 9) none (.call F_laws_eqIntS false (roA [.t 6, .t 8])),
  E0 5 (some 10) none (.i (.un .not (.t 9)))]
def laws_eqRule.r2 : List Ent := [
  E0 0 (some 4) none (.i (.mv (.k (.dat none (.bool false)))))]
def laws_eqRule.r3 : List Ent := [
  E0 0 (some 11) none (.i (.fad 1 (.t 2))),
  E0 1 (some 12) none (.i (.load false false 1 (.t 11))),
  E0 2 (some 13) none (.i (.fad 1 (.t 3))),
  E0 3 (some 14) none (.i (.load false false 1 (.t 13))),
  E0 4 (some 15) none (.i (.bin .neq (.t 12) (.t 14)))]
def laws_eqRule.r4 : List Ent := [
  E0 0 (some 4) none (.i (.mv (.k (.dat none (.bool false)))))]
def laws_eqRule.r5 : List Ent := [
  E0 0 (some 4) none (.i (.mv (.k (.dat none (.bool true)))))]
def laws_eqRule.fi : FI := { res := [.t 4], code := .seq (.reg 64 3 laws_eqRule.r0) (.seq (.seq (.reg 256 6 laws_eqRule.r1) (.cond (.t 10) (.seq (.reg 640 1 laws_eqRule.r2) (.ret)) (.skip))) (.seq (.seq (.reg 704 5 laws_eqRule.r3) (.cond (.t 15) (.seq (.reg 1024 1 laws_eqRule.r4) (.ret)) (.skip))) (.seq (.reg 1088 1 laws_eqRule.r5) (.ret)))) }
attribute [go_sem] laws_eqRule.r0 laws_eqRule.r1 laws_eqRule.r2 laws_eqRule.r3 laws_eqRule.r4 laws_eqRule.r5
theorem laws_eqRule.ok : chkF prog F_laws_eqRule 2 laws_eqRule.fi = true := by kernel_rfl

/-! laws_eqRuleS -/
def laws_eqRuleS.r0 : List Ent := [
  E0 0 (some 4) none (.i (.mv (.k (.dat none (.bool false)))))]
def laws_eqRuleS.r1 : List Ent := [
  E0 0 (some 6) none (.i (.mv (.t 0))),
  E0 1 (some 7) none (.i (.len (.t 6))),
  E0 2 (some 8) none (.i (.mv (.t 1))),
  E0 3 (some 9) none (.i (.len (.t 8))),
  E0 4 (some 10) none (.i (.bin .neq (.t 7) (.t 9)))]
def laws_eqRuleS.r2 : List Ent := [
  E0 0 (some 4) none (.i (.mv (.k (.dat none (.bool false)))))]
def laws_eqRuleS.r3 : List Ent := [
  E0 0 (some 5) none (.i (.mv (.k (I64 0))))]
def laws_eqRuleS.r4 : List Ent := [
  E0 0 (some 11) none (.i (.mv (.t 5))),
  E0 1 (some 12) none (.i (.mv (.t 0))),
  E0 2 (some 13) none (.i (.len (.t 12))),
  E0 3 (some 14) none (.i (.bin .lss (.t 11) (.t 13)))]
def laws_eqRuleS.r5 : List Ent := [
  E0 0 (some 17) none (.i (.mv (.t 0))),
  E0 1 (some 18) none (.i (.mv (.t 5))),
  ER 2 (some 19) none (.iad 2 (.t 17) (.t 18)),
  ER 3 (some 20) none (.load false true 2 (.t 19)),
  E0 4 (some 21) none (.i (.mv (.t 1))),
  E0 5 (some 22) none (.i (.mv (.t 5))),
  ER 6 (some 23) none (.iad 2 (.t 21) (.t 22)),
  ER 7 (some 24) none (.load false true 2 (.t 23)),
  E0 8 (some 25) none (.call F_laws_eqRule false (roA [.t 20, .t 24])),
  E0 9 (some 26) none (.i (.un .not (.t 25)))]
def laws_eqRuleS.r6 : List Ent := [
  E0 0 (some 4) none (.i (.mv (.k (.dat none (.bool false)))))]
def laws_eqRuleS.r7 : List Ent := [
  E0 0 (some 15) none (.i (.mv (.t 5))),
  E0 1 (some 16) none (.i (.bin .add (.t 15) (.k (I64 1)))),
  E0 2 (some 5) none (.i (.mv (.t 16)))]
def laws_eqRuleS.b0 : KC := .seq (.seq (.reg 576 4 laws_eqRuleS.r4) (.cond (.t 14) (.skip) (.exit 0))) (.seq (.block 1 (.seq (.reg 832 10 laws_eqRuleS.r5) (.cond (.t 26) (.seq (.reg 1472 1 laws_eqRuleS.r6) (.ret)) (.skip)))) (.reg 1536 3 laws_eqRuleS.r7))
def laws_eqRuleS.r8 : List Ent := [
  E0 0 (some 4) none (.i (.mv (.k (.dat none (.bool true)))))]
def laws_eqRuleS.fi : FI := { res := [.t 4], code := .seq (.reg 64 1 laws_eqRuleS.r0) (.seq (.seq (.reg 128 5 laws_eqRuleS.r1) (.cond (.t 10) (.seq (.reg 448 1 laws_eqRuleS.r2) (.ret)) (.skip))) (.seq (.seq (.reg 512 1 laws_eqRuleS.r3) (.block 0 (.loop laws_eqRuleS.b0))) (.seq (.reg 1728 1 laws_eqRuleS.r8) (.ret)))) }
attribute [go_sem] laws_eqRuleS.r0 laws_eqRuleS.r1 laws_eqRuleS.r2 laws_eqRuleS.r3 laws_eqRuleS.r4 laws_eqRuleS.r5 laws_eqRuleS.r6 laws_eqRuleS.r7 laws_eqRuleS.r8
theorem laws_eqRuleS.ok : chkF prog F_laws_eqRuleS 2 laws_eqRuleS.fi = true := by kernel_rfl

/-! spec_l1Has -/
def spec_l1Has.r0 : List Ent := [
  E0 0 (some 4) none (.i (.mv (.k (.dat none (.bool false)))))]
def spec_l1Has.r1 : List Ent := [
  E0 0 (some 7) none (.i (.mv (.t 0))),
  E0 1 (some 8) none (.i (.len (.t 7))),
  E0 2 (some 9) none (.i (.mv (.k (I64 0))))]
def spec_l1Has.r2 : List Ent := [
  E0 0 (some 10) none (.i (.bin .lss (.t 9) (.t 8)))]
def spec_l1Has.r3 : List Ent := [
  E0 0 (some 11) none (.i (.iad 1 (.t 7) (.t 9))),
  E0 1 (some 12) none (.i (.load false false 1 (.t 11))),
  E0 2 (some 6) none (.i (.mv (.t 12)))]
def spec_l1Has.r4 : List Ent := [
  E0 0 (some 13) none (.i (.mv (.t 6))),
  E0 1 (some 14) none (.i (.mv (.t 1))),
  E0 2 (some 15) none (.i (.bin .eql (.t 13) (.t 14)))]
def spec_l1Has.r5 : List Ent := [
  E0 0 (some 4) none (.i (.mv (.k (.dat none (.bool true)))))]
def spec_l1Has.r6 : List Ent := [
  E0 0 (some 16) none (.i (.bin .add (.t 9) (.k (I64 1)))),
  E0 1 (some 9) none (.i (.mv (.t 16)))]
def spec_l1Has.b0 : KC := .seq (.reg 320 1 spec_l1Has.r2) (.seq (.cond (.t 10) (.skip) (.exit 0)) (.seq (.block 1 (.seq (.reg 384 3 spec_l1Has.r3) (.seq (.reg 576 3 spec_l1Has.r4) (.cond (.t 15) (.seq (.reg 768 1 spec_l1Has.r5) (.ret)) (.skip))))) (.reg 832 2 spec_l1Has.r6)))
def spec_l1Has.r7 : List Ent := [
  E0 0 (some 4) none (.i (.mv (.k (.dat none (.bool false)))))]
def spec_l1Has.fi : FI := { res := [.t 4], code := .seq (.reg 64 1 spec_l1Has.r0) (.seq (.seq (.reg 128 3 spec_l1Has.r1) (.block 0 (.loop spec_l1Has.b0))) (.seq (.reg 960 1 spec_l1Has.r7) (.ret))) }
attribute [go_sem] spec_l1Has.r0 spec_l1Has.r1 spec_l1Has.r2 spec_l1Has.r3 spec_l1Has.r4 spec_l1Has.r5 spec_l1Has.r6 spec_l1Has.r7
theorem spec_l1Has.ok : chkF prog F_spec_l1Has 2 spec_l1Has.fi = true := by kernel_rfl

/-! slices_IndexFunc__sint_int -/
def slices_IndexFunc__sint_int.r0 : List Ent := [
  E0 0 (some 4) none (.i (.mv (.k (I64 0))))]
def slices_IndexFunc__sint_int.r1 : List Ent := [
  E0 0 (some 6) none (.i (.mv (.t 0))),
  E0 1 (some 7) none (.i (.len (.t 6))),
  E0 2 (some 8) none (.i (.mv (.k (I64 0))))]
def slices_IndexFunc__sint_int.r2 : List Ent := [
  E0 0 (some 9) none (.i (.bin .lss (.t 8) (.t 7)))]
def slices_IndexFunc__sint_int.r3 : List Ent := [
  E0 0 (some 10) none (.i (.mv (.t 8))),
  E0 1 (some 5) none (.i (.mv (.t 10)))]
def slices_IndexFunc__sint_int.r4 : List Ent := [
  E0 0 (some 11) none (.i (.mv (.t 1))),
  E0 1 (some 12) none (.i (.mv (.t 0))),
  E0 2 (some 13) none (.i (.mv (.t 5))),
  E0 3 (some 14) none (.i (.iad 1 (.t 12) (.t 13))),
  E0 4 (some 15) none (.i (.load false false 1 (.t 14))),
  E0 5 (some 16) none (.ccl (.t 11) false [.t 15])]
def slices_IndexFunc__sint_int.r5 : List Ent := [
  E0 0 (some 17) none (.i (.mv (.t 5))),
  E0 1 (some 4) none (.i (.mv (.t 17)))]
def slices_IndexFunc__sint_int.r6 : List Ent := [
  E0 0 (some 18) none (.i (.bin .add (.t 8) (.k (I64 1)))),
  E0 1 (some 8) none (.i (.mv (.t 18)))]
def slices_IndexFunc__sint_int.b0 : KC := .seq (.reg 320 1 slices_IndexFunc__sint_int.r2) (.seq (.cond (.t 9) (.skip) (.exit 0)) (.seq (.block 1 (.seq (.reg 384 2 slices_IndexFunc__sint_int.r3) (.seq (.reg 512 6 slices_IndexFunc__sint_int.r4) (.cond (.t 16) (.seq (.reg 896 2 slices_IndexFunc__sint_int.r5) (.ret)) (.skip))))) (.reg 1024 2 slices_IndexFunc__sint_int.r6)))
def slices_IndexFunc__sint_int.r7 : List Ent := [
  E0 0 (some 4) none (.i (.mv (.k (I64 (-1)))))]
def slices_IndexFunc__sint_int.fi : FI := { res := [.t 4], code := .seq (.reg 64 1 slices_IndexFunc__sint_int.r0) (.seq (.seq (.reg 128 3 slices_IndexFunc__sint_int.r1) (.block 0 (.loop slices_IndexFunc__sint_int.b0))) (.seq (.reg 1152 1 slices_IndexFunc__sint_int.r7) (.ret))) }
attribute [go_sem] slices_IndexFunc__sint_int.r0 slices_IndexFunc__sint_int.r1 slices_IndexFunc__sint_int.r2 slices_IndexFunc__sint_int.r3 slices_IndexFunc__sint_int.r4 slices_IndexFunc__sint_int.r5 slices_IndexFunc__sint_int.r6 slices_IndexFunc__sint_int.r7
theorem slices_IndexFunc__sint_int.ok : chkF prog F_slices_IndexFunc__sint_int 2 slices_IndexFunc__sint_int.fi = true := by kernel_rfl

/-! laws_markIntS -/
def laws_markIntS.r0 : List Ent := [
  E0 0 (some 4) none (.i (.mv (.k (I64 0))))]
def laws_markIntS.r1 : List Ent := [
  E0 0 (some 5) none (.i (.mv (.k (I64 0))))]
def laws_markIntS.r2 : List Ent := [
  E0 0 (some 6) none (.i (.mv (.t 5))),
  E0 1 (some 7) none (.i (.mv (.t 0))),
  E0 2 (some 8) none (.i (.len (.t 7))),
  E0 3 (some 9) none (.i (.bin .lss (.t 6) (.t 8)))]
def laws_markIntS.r3 : List Ent := [
  E0 0 (some 12) none (.i (.mv (.t 0))),
  E0 1 (some 13) none (.i (.mv (.t 5))),
  E0 2 (some 14) none (.i (.mv (.t 1))),
  E0 3 (some 15) none (.i (.iad 1 (.t 12) (.t 13))),
  E0 4 none none (.i (.store 1 (.t 15) (.t 14)))]
def laws_markIntS.r4 : List Ent := [
  E0 0 (some 16) none (.i (.mv (.t 1))),
  E0 1 (some 17) none (.i (.bin .add (.t 16) (.k (I64 1)))),
  E0 2 (some 1) none (.i (.mv (.t 17)))]
def laws_markIntS.r5 : List Ent := [
  E0 0 (some 10) none (.i (.mv (.t 5))),
  E0 1 (some 11) none (.i (.bin .add (.t 10) (.k (I64 1)))),
  E0 2 (some 5) none (.i (.mv (.t 11)))]
def laws_markIntS.b0 : KC := .seq (.seq (.reg 192 4 laws_markIntS.r2) (.cond (.t 9) (.skip) (.exit 0))) (.seq (.block 1 (.seq (.reg 448 5 laws_markIntS.r3) (.reg 768 3 laws_markIntS.r4))) (.reg 960 3 laws_markIntS.r5))
def laws_markIntS.r6 : List Ent := [
  E0 0 (some 18) none (.i (.mv (.t 1))),
  E0 1 (some 4) none (.i (.mv (.t 18)))]
def laws_markIntS.fi : FI := { res := [.t 4], code := .seq (.reg 64 1 laws_markIntS.r0) (.seq (.seq (.reg 128 1 laws_markIntS.r1) (.block 0 (.loop laws_markIntS.b0))) (.seq (.reg 1152 2 laws_markIntS.r6) (.ret))) }
attribute [go_sem] laws_markIntS.r0 laws_markIntS.r1 laws_markIntS.r2 laws_markIntS.r3 laws_markIntS.r4 laws_markIntS.r5 laws_markIntS.r6
theorem laws_markIntS.ok : chkF prog F_laws_markIntS 2 laws_markIntS.fi = true := by kernel_rfl

/-! laws_heldIntS -/
def laws_heldIntS.r0 : List Ent := [
  E0 0 (some 4) none (.i (.mv (.k (I64 0))))]
def laws_heldIntS.r1 : List Ent := [
  E0 0 (some 5) none (.i (.mv (.k (I64 0))))]
def laws_heldIntS.r2 : List Ent := [
  E0 0 (some 6) none (.i (.mv (.t 5))),
  E0 1 (some 7) none (.i (.mv (.t 0))),
  E0 2 (some 8) none (.i (.len (.t 7))),
  E0 3 (some 9) none (.i (.bin .lss (.t 6) (.t 8)))]
def laws_heldIntS.r3 : List Ent := [
  E0 0 (some 12) none (.i (.mv (.t 0))),
  E0 1 (some 13) none (.i (.mv (.t 5))),
  E0 2 (some 14) none (.i (.iad 1 (.t 12) (.t 13))),
  E0 3 (some 15) none (.i (.load false false 1 (.t 14))),
  E0 4 (some 16) none (.i (.mv (.t 1))),
  E0 5 (some 17) none (.i (.bin .neq (.t 15) (.t 16)))]
def laws_heldIntS.r4 : List Ent := [
  E0 0 (some 4) none (.i (.mv (.k (I64 (-1)))))]
def laws_heldIntS.r5 : List Ent := [
  E0 0 (some 18) none (.i (.mv (.t 1))),
  E0 1 (some 19) none (.i (.bin .add (.t 18) (.k (I64 1)))),
  E0 2 (some 1) none (.i (.mv (.t 19)))]
def laws_heldIntS.r6 : List Ent := [
  E0 0 (some 10) none (.i (.mv (.t 5))),
  E0 1 (some 11) none (.i (.bin .add (.t 10) (.k (I64 1)))),
  E0 2 (some 5) none (.i (.mv (.t 11)))]
def laws_heldIntS.b0 : KC := .seq (.seq (.reg 192 4 laws_heldIntS.r2) (.cond (.t 9) (.skip) (.exit 0))) (.seq (.block 1 (.seq (.seq (.reg 448 6 laws_heldIntS.r3) (.cond (.t 17) (.seq (.reg 832 1 laws_heldIntS.r4) (.ret)) (.skip))) (.reg 896 3 laws_heldIntS.r5))) (.reg 1088 3 laws_heldIntS.r6))
def laws_heldIntS.r7 : List Ent := [
  E0 0 (some 20) none (.i (.mv (.t 1))),
  E0 1 (some 4) none (.i (.mv (.t 20)))]
def laws_heldIntS.fi : FI := { res := [.t 4], code := .seq (.reg 64 1 laws_heldIntS.r0) (.seq (.seq (.reg 128 1 laws_heldIntS.r1) (.block 0 (.loop laws_heldIntS.b0))) (.seq (.reg 1280 2 laws_heldIntS.r7) (.ret))) }
attribute [go_sem] laws_heldIntS.r0 laws_heldIntS.r1 laws_heldIntS.r2 laws_heldIntS.r3 laws_heldIntS.r4 laws_heldIntS.r5 laws_heldIntS.r6 laws_heldIntS.r7
theorem laws_heldIntS.ok : chkF prog F_laws_heldIntS 2 laws_heldIntS.fi = true := by kernel_rfl

/-! laws_szIntSS -/
def laws_szIntSS.r0 : List Ent := [
  E0 0 (some 4) none (.i (.mv (.k (I64 0))))]
def laws_szIntSS.r1 : List Ent := [
  E0 0 (some 6) none (.i (.mv (.t 1))),
  E0 1 (some 7) none (.i (.mv (.t 0))),
  E0 2 (some 8) none (.i (.len (.t 7))),
  E0 3 (some 9) none (.i (.bin .sub (.t 6) (.t 8))),
  E0 4 (some 1) none (.i (.mv (.t 9)))]
def laws_szIntSS.r2 : List Ent := [
  E0 0 (some 10) none (.i (.mv (.t 1))),
  E0 1 (some 11) none (.i (.bin .lss (.t 10) (.k (I64 0))))]
def laws_szIntSS.r3 : List Ent := [
  E0 0 (some 4) none (.i (.mv (.k (I64 (-1)))))]
def laws_szIntSS.r4 : List Ent := [
  E0 0 (some 5) none (.i (.mv (.k (I64 0))))]
def laws_szIntSS.r5 : List Ent := [
  E0 0 (some 12) none (.i (.mv (.t 5))),
  E0 1 (some 13) none (.i (.mv (.t 0))),
  E0 2 (some 14) none (.i (.len (.t 13))),
  E0 3 (some 15) none (.i (.bin .lss (.t 12) (.t 14)))]
def laws_szIntSS.r6 : List Ent := [
  E0 0 (some 18) none (.i (.mv (.t 0))),
  E0 1 (some 19) none (.i (.mv (.t 5))),
  E0 2 (some 20) none (.i (.iad 1 (.t 18) (.t 19))),
  E0 3 (some 21) none (.i (.load false false 1 (.t 20))),
  E0 4 (some 22) none (.i (.mv (.t 1))),
  E0 5 (some 23) none (.call F_laws_szIntS false (roA [.t 21, .t 22])),
  E0 6 (some 1) none (.i (.mv (.t 23)))]
def laws_szIntSS.r7 : List Ent := [
  E0 0 (some 24) none (.i (.mv (.t 1))),
  E0 1 (some 25) none (.i (.bin .lss (.t 24) (.k (I64 0))))]
def laws_szIntSS.r8 : List Ent := [
  E0 0 (some 4) none (.i (.mv (.k (I64 (-1)))))]
def laws_szIntSS.r9 : List Ent := [
  E0 0 (some 16) none (.i (.mv (.t 5))),
  E0 1 (some 17) none (.i (.bin .add (.t 16) (.k (I64 1)))),
  E0 2 (some 5) none (.i (.mv (.t 17)))]
def laws_szIntSS.b0 : KC := .seq (.seq (.reg 704 4 laws_szIntSS.r5) (.cond (.t 15) (.skip) (.exit 0))) (.seq (.block 1 (.seq (.reg 960 7 laws_szIntSS.r6) (.seq (.reg 1408 2 laws_szIntSS.r7) (.cond (.t 25) (.seq (.reg 1536 1 laws_szIntSS.r8) (.ret)) (.skip))))) (.reg 1600 3 laws_szIntSS.r9))
def laws_szIntSS.r10 : List Ent := [
  E0 0 (some 26) none (.i (.mv (.t 1))),
  E0 1 (some 4) none (.i (.mv (.t 26)))]
def laws_szIntSS.fi : FI := { res := [.t 4], code := .seq (.reg 64 1 laws_szIntSS.r0) (.seq (.reg 128 5 laws_szIntSS.r1) (.seq (.seq (.reg 448 2 laws_szIntSS.r2) (.cond (.t 11) (.seq (.reg 576 1 laws_szIntSS.r3) (.ret)) (.skip))) (.seq (.seq (.reg 640 1 laws_szIntSS.r4) (.block 0 (.loop laws_szIntSS.b0))) (.seq (.reg 1792 2 laws_szIntSS.r10) (.ret))))) }
attribute [go_sem] laws_szIntSS.r0 laws_szIntSS.r1 laws_szIntSS.r2 laws_szIntSS.r3 laws_szIntSS.r4 laws_szIntSS.r5 laws_szIntSS.r6 laws_szIntSS.r7 laws_szIntSS.r8 laws_szIntSS.r9 laws_szIntSS.r10
theorem laws_szIntSS.ok : chkF prog F_laws_szIntSS 2 laws_szIntSS.fi = true := by kernel_rfl

/-! laws_toIntSS -/
def laws_toIntSS.r0 : List Ent := [
  E0 0 (some 2) none (.i (.mv (.k (.nil 1))))]
def laws_toIntSS.r1 : List Ent := [
  E0 0 (some 5) none (.i (.mv (.t 0))),
  E0 1 (some 6) none (.i (.len (.t 5))),
  E0 2 (some 7) none (.i (.mks 1 24 (.sl 1 []) (.t 6) (.t 6))),
  E0 3 (some 3) none (.i (.mv (.t 7)))]
def laws_toIntSS.r2 : List Ent := [
  E0 0 (some 4) none (.i (.mv (.k (I64 0))))]
def laws_toIntSS.r3 : List Ent := [
  E0 0 (some 8) none (.i (.mv (.t 4))),
  E0 1 (some 9) none (.i (.mv (.t 0))),
  E0 2 (some 10) none (.i (.len (.t 9))),
  E0 3 (some 11) none (.i (.bin .lss (.t 8) (.t 10)))]
def laws_toIntSS.r4 : List Ent := [
  E0 0 (some 14) none (.i (.mv (.t 3))),
  E0 1 (some 15) none (.i (.mv (.t 4))),
  E0 2 (some 16) none (.i (.mv (.t 0))),
  E0 3 (some 17) none (.i (.mv (.t 4))),
  E0 4 (some 18) none (.i (.iad 1 (.t 16) (.t 17))),
  E0 5 (some 19) none (.i (.load false false 1 (.t 18))),
  E0 6 (some 20) none (.call F_laws_toIntS false (roA [.t 19])),
  E0 7 (some 21) none (.i (.iad 1 (.t 14) (.t 15))),
  E0 8 none none (.i (.store 1 (.t 21) (.t 20)))]
def laws_toIntSS.r5 : List Ent := [
  E0 0 (some 12) none (.i (.mv (.t 4))),
  E0 1 (some 13) none (.i (.bin .add (.t 12) (.k (I64 1)))),
  E0 2 (some 4) none (.i (.mv (.t 13)))]
def laws_toIntSS.b0 : KC := .seq (.seq (.reg 448 4 laws_toIntSS.r3) (.cond (.t 11) (.skip) (.exit 0))) (.seq (.block 1 (.reg 704 9 laws_toIntSS.r4)) (.reg 1280 3 laws_toIntSS.r5))
def laws_toIntSS.r6 : List Ent := [
  E0 0 (some 22) none (.i (.mv (.t 3))),
  E0 1 (some 2) none (.i (.mv (.t 22)))]
def laws_toIntSS.fi : FI := { res := [.t 2], code := .seq (.reg 64 1 laws_toIntSS.r0) (.seq (.reg 128 4 laws_toIntSS.r1) (.seq (.seq (.reg 384 1 laws_toIntSS.r2) (.block 0 (.loop laws_toIntSS.b0))) (.seq (.reg 1472 2 laws_toIntSS.r6) (.ret)))) }
attribute [go_sem] laws_toIntSS.r0 laws_toIntSS.r1 laws_toIntSS.r2 laws_toIntSS.r3 laws_toIntSS.r4 laws_toIntSS.r5 laws_toIntSS.r6
theorem laws_toIntSS.ok : chkF prog F_laws_toIntSS 1 laws_toIntSS.fi = true := by kernel_rfl

/-! slices_IndexFunc__ssint_sint -/
def slices_IndexFunc__ssint_sint.r0 : List Ent := [
  E0 0 (some 4) none (.i (.mv (.k (I64 0))))]
def slices_IndexFunc__ssint_sint.r1 : List Ent := [
  E0 0 (some 6) none (.i (.mv (.t 0))),
  E0 1 (some 7) none (.i (.len (.t 6))),
  E0 2 (some 8) none (.i (.mv (.k (I64 0))))]
def slices_IndexFunc__ssint_sint.r2 : List Ent := [
  E0 0 (some 9) none (.i (.bin .lss (.t 8) (.t 7)))]
def slices_IndexFunc__ssint_sint.r3 : List Ent := [
  E0 0 (some 10) none (.i (.mv (.t 8))),
  E0 1 (some 5) none (.i (.mv (.t 10)))]
def slices_IndexFunc__ssint_sint.r4 : List Ent := [
  E0 0 (some 11) none (.i (.mv (.t 1))),
  E0 1 (some 12) none (.i (.mv (.t 0))),
  E0 2 (some 13) none (.i (.mv (.t 5))),
  E0 3 (some 14) none (.i (.iad 1 (.t 12) (.t 13))),
  E0 4 (some 15) none (.i (.load false false 1 (.t 14))),
  E0 5 (some 16) none (.ccl (.t 11) false [.t 15])]
def slices_IndexFunc__ssint_sint.r5 : List Ent := [
  E0 0 (some 17) none (.i (.mv (.t 5))),
  E0 1 (some 4) none (.i (.mv (.t 17)))]
def slices_IndexFunc__ssint_sint.r6 : List Ent := [
  E0 0 (some 18) none (.i (.bin .add (.t 8) (.k (I64 1)))),
  E0 1 (some 8) none (.i (.mv (.t 18)))]
def slices_IndexFunc__ssint_sint.b0 : KC := .seq (.reg 320 1 slices_IndexFunc__ssint_sint.r2) (.seq (.cond (.t 9) (.skip) (.exit 0)) (.seq (.block 1 (.seq (.reg 384 2 slices_IndexFunc__ssint_sint.r3) (.seq (.reg 512 6 slices_IndexFunc__ssint_sint.r4) (.cond (.t 16) (.seq (.reg 896 2 slices_IndexFunc__ssint_sint.r5) (.ret)) (.skip))))) (.reg 1024 2 slices_IndexFunc__ssint_sint.r6)))
def slices_IndexFunc__ssint_sint.r7 : List Ent := [
  E0 0 (some 4) none (.i (.mv (.k (I64 (-1)))))]
def slices_IndexFunc__ssint_sint.fi : FI := { res := [.t 4], code := .seq (.reg 64 1 slices_IndexFunc__ssint_sint.r0) (.seq (.seq (.reg 128 3 slices_IndexFunc__ssint_sint.r1) (.block 0 (.loop slices_IndexFunc__ssint_sint.b0))) (.seq (.reg 1152 1 slices_IndexFunc__ssint_sint.r7) (.ret))) }
attribute [go_sem] slices_IndexFunc__ssint_sint.r0 slices_IndexFunc__ssint_sint.r1 slices_IndexFunc__ssint_sint.r2 slices_IndexFunc__ssint_sint.r3 slices_IndexFunc__ssint_sint.r4 slices_IndexFunc__ssint_sint.r5 slices_IndexFunc__ssint_sint.r6 slices_IndexFunc__ssint_sint.r7
theorem slices_IndexFunc__ssint_sint.ok : chkF prog F_slices_IndexFunc__ssint_sint 2 slices_IndexFunc__ssint_sint.fi = true := by kernel_rfl

/-! slices_ContainsFunc__ssint_sint -/
def slices_ContainsFunc__ssint_sint.r0 : List Ent := [
  E0 0 (some 4) none (.i (.mv (.k (.dat none (.bool false)))))]
def slices_ContainsFunc__ssint_sint.r1 : List Ent := [
  E0 0 (some 5) none (.i (.mv (.t 0))),
  E0 1 (some 6) none (.i (.mv (.t 1))),
  E0 2 (some 7) none (.call F_slices_IndexFunc__ssint_sint false (roA [.t 5, .t 6])),
  E0 3 (some 8) none (.i (.bin .geq (.t 7) (.k (I64 0)))),
  E0 4 (some 4) none (.i (.mv (.t 8)))]
def slices_ContainsFunc__ssint_sint.fi : FI := { res := [.t 4], code := .seq (.reg 64 1 slices_ContainsFunc__ssint_sint.r0) (.seq (.reg 128 5 slices_ContainsFunc__ssint_sint.r1) (.ret)) }
attribute [go_sem] slices_ContainsFunc__ssint_sint.r0 slices_ContainsFunc__ssint_sint.r1
theorem slices_ContainsFunc__ssint_sint.ok : chkF prog F_slices_ContainsFunc__ssint_sint 2 slices_ContainsFunc__ssint_sint.fi = true := by kernel_rfl

/-! slices_ContainsFunc__sint_int -/
def slices_ContainsFunc__sint_int.r0 : List Ent := [
  E0 0 (some 4) none (.i (.mv (.k (.dat none (.bool false)))))]
def slices_ContainsFunc__sint_int.r1 : List Ent := [
  E0 0 (some 5) none (.i (.mv (.t 0))),
  E0 1 (some 6) none (.i (.mv (.t 1))),
  E0 2 (some 7) none (.call F_slices_IndexFunc__sint_int false (roA [.t 5, .t 6])),
  E0 3 (some 8) none (.i (.bin .geq (.t 7) (.k (I64 0)))),
  E0 4 (some 4) none (.i (.mv (.t 8)))]
def slices_ContainsFunc__sint_int.fi : FI := { res := [.t 4], code := .seq (.reg 64 1 slices_ContainsFunc__sint_int.r0) (.seq (.reg 128 5 slices_ContainsFunc__sint_int.r1) (.ret)) }
attribute [go_sem] slices_ContainsFunc__sint_int.r0 slices_ContainsFunc__sint_int.r1
theorem slices_ContainsFunc__sint_int.ok : chkF prog F_slices_ContainsFunc__sint_int 2 slices_ContainsFunc__sint_int.fi = true := by kernel_rfl

/-! laws_eqIntSS -/
def laws_eqIntSS.r0 : List Ent := [
  E0 0 (some 4) none (.i (.mv (.k (.dat none (.bool false)))))]
def laws_eqIntSS.r1 : List Ent := [
  E0 0 (some 6) none (.i (.mv (.t 0))),
  E0 1 (some 7) none (.i (.len (.t 6))),
  E0 2 (some 8) none (.i (.mv (.t 1))),
  E0 3 (some 9) none (.i (.len (.t 8))),
  E0 4 (some 10) none (.i (.bin .neq (.t 7) (.t 9)))]
def laws_eqIntSS.r2 : List Ent := [
  E0 0 (some 4) none (.i (.mv (.k (.dat none (.bool false)))))]
def laws_eqIntSS.r3 : List Ent := [
  E0 0 (some 5) none (.i (.mv (.k (I64 0))))]
def laws_eqIntSS.r4 : List Ent := [
  E0 0 (some 11) none (.i (.mv (.t 5))),
  E0 1 (some 12) none (.i (.mv (.t 0))),
  E0 2 (some 13) none (.i (.len (.t 12))),
  E0 3 (some 14) none (.i (.bin .lss (.t 11) (.t 13)))]
def laws_eqIntSS.r5 : List Ent := [
  E0 0 (some 17) none (.i (.mv (.t 0))),
  E0 1 (some 18) none (.i (.mv (.t 5))),
  ER 2 (some 19) none (.iad 1 (.t 17) (.t 18)),
  ER 3 (some 20) none (.load false false 1 (.t 19)),
  E0 4 (some 21) none (.i (.mv (.t 1))),
  E0 5 (some 22) none (.i (.mv (.t 5))),
  ER 6 (some 23) none (.iad 1 (.t 21) (.t 22)),
  ER 7 (some 24) none (.load false false 1 (.t 23)),
  E0 8 (some 25) none (.call F_laws_eqIntS false (roA [.t 20, .t 24])),
  E0 9 (some 26) none (.i (.un .not (.t 25)))]
def laws_eqIntSS.r6 : List Ent := [
  E0 0 (some 4) none (.i (.mv (.k (.dat none (.bool false)))))]
def laws_eqIntSS.r7 : List Ent := [
  E0 0 (some 15) none (.i (.mv (.t 5))),
  E0 1 (some 16) none (.i (.bin .add (.t 15) (.k (I64 1)))),
  E0 2 (some 5) none (.i (.mv (.t 16)))]
def laws_eqIntSS.b0 : KC := .seq (.seq (.reg 576 4 laws_eqIntSS.r4) (.cond (.t 14) (.skip) (.exit 0))) (.seq (.block 1 (.seq (.reg 832 10 laws_eqIntSS.r5) (.cond (.t 26) (.seq (.reg 1472 1 laws_eqIntSS.r6) (.ret)) (.skip)))) (.reg 1536 3 laws_eqIntSS.r7))
def laws_eqIntSS.r8 : List Ent := [
  E0 0 (some 4) none (.i (.mv (.k (.dat none (.bool true)))))]
def laws_eqIntSS.fi : FI := { res := [.t 4], code := .seq (.reg 64 1 laws_eqIntSS.r0) (.seq (.seq (.reg 128 5 laws_eqIntSS.r1) (.cond (.t 10) (.seq (.reg 448 1 laws_eqIntSS.r2) (.ret)) (.skip))) (.seq (.seq (.reg 512 1 laws_eqIntSS.r3) (.block 0 (.loop laws_eqIntSS.b0))) (.seq (.reg 1728 1 laws_eqIntSS.r8) (.ret)))) }
attribute [go_sem] laws_eqIntSS.r0 laws_eqIntSS.r1 laws_eqIntSS.r2 laws_eqIntSS.r3 laws_eqIntSS.r4 laws_eqIntSS.r5 laws_eqIntSS.r6 laws_eqIntSS.r7 laws_eqIntSS.r8
theorem laws_eqIntSS.ok : chkF prog F_laws_eqIntSS 2 laws_eqIntSS.fi = true := by kernel_rfl

/-! spec_l16All -/
def spec_l16All.r0 : List Ent := [
  E0 0 (some 4) none (.i (.mv (.k (.dat none (.bool false)))))]
def spec_l16All.r1 : List Ent := [
  E0 0 (some 7) none (.i (.mv (.t 1))),
  E0 1 (some 8) none (.i (.len (.t 7))),
  E0 2 (some 9) none (.i (.mv (.k (I64 0))))]
def spec_l16All.r2 : List Ent := [
  E0 0 (some 10) none (.i (.bin .lss (.t 9) (.t 8)))]
def spec_l16All.r3 : List Ent := [
  E0 0 (some 11) none (.i (.iad 1 (.t 7) (.t 9))),
  E0 1 (some 12) none (.i (.load false false 1 (.t 11))),
  E0 2 (some 6) none (.i (.mv (.t 12)))]
def spec_l16All.r4 : List Ent := [
  E0 0 (some 13) none (.i (.mv (.t 0))),
  E0 1 (some 14) none (.i (.mv (.t 6))),
  E0 2 (some 15) none (.call F_spec_l1Has false (roA [.t 13, .t 14])),
  E0 3 (some 16) none (.i (.un .not (.t 15)))]
def spec_l16All.r5 : List Ent := [
  E0 0 (some 4) none (.i (.mv (.k (.dat none (.bool false)))))]
def spec_l16All.r6 : List Ent := [
  E0 0 (some 17) none (.i (.bin .add (.t 9) (.k (I64 1)))),
  E0 1 (some 9) none (.i (.mv (.t 17)))]
def spec_l16All.b0 : KC := .seq (.reg 320 1 spec_l16All.r2) (.seq (.cond (.t 10) (.skip) (.exit 0)) (.seq (.block 1 (.seq (.reg 384 3 spec_l16All.r3) (.seq (.reg 576 4 spec_l16All.r4) (.cond (.t 16) (.seq (.reg 832 1 spec_l16All.r5) (.ret)) (.skip))))) (.reg 896 2 spec_l16All.r6)))
def spec_l16All.r7 : List Ent := [
  E0 0 (some 4) none (.i (.mv (.k (.dat none (.bool true)))))]
def spec_l16All.fi : FI := { res := [.t 4], code := .seq (.reg 64 1 spec_l16All.r0) (.seq (.seq (.reg 128 3 spec_l16All.r1) (.block 0 (.loop spec_l16All.b0))) (.seq (.reg 1024 1 spec_l16All.r7) (.ret))) }
attribute [go_sem] spec_l16All.r0 spec_l16All.r1 spec_l16All.r2 spec_l16All.r3 spec_l16All.r4 spec_l16All.r5 spec_l16All.r6 spec_l16All.r7
theorem spec_l16All.ok : chkF prog F_spec_l16All 2 spec_l16All.fi = true := by kernel_rfl

/-! impl_Rule_met_c1 -/
def impl_Rule_met_c1.r0 : List Ent := [
  E0 0 (some 3) none (.i (.mv (.k (.dat none (.bool false)))))]
def impl_Rule_met_c1.r1 : List Ent := [
  E0 0 (some 4) none (.i (.load false false 1 (.t 1))),
  E0 1 (some 5) none (.i (.mv (.t 0))),
  E0 2 (some 6) none (.i (.iad 1 (.t 4) (.t 5))),
  E0 3 (some 7) none (.i (.load false false 1 (.t 6))),
  E0 4 (some 8) none (.i (.un .not (.t 7))),
  E0 5 (some 3) none (.i (.mv (.t 8)))]
def impl_Rule_met_c1.fi : FI := { res := [.t 3], code := .seq (.reg 64 1 impl_Rule_met_c1.r0) (.seq (.reg 128 6 impl_Rule_met_c1.r1) (.ret)) }
attribute [go_sem] impl_Rule_met_c1.r0 impl_Rule_met_c1.r1
theorem impl_Rule_met_c1.ok : chkF prog F_impl_Rule_met_c1 2 impl_Rule_met_c1.fi = true := by kernel_rfl

/-! impl_Rule_met -/
def impl_Rule_met.r0 : List Ent := [
  E0 0 (some 2) none (.i (.box (.t 0))),
  E0 1 (some 3) none (.i (.box (.t 1))),
  E0 2 (some 4) none (.i (.mv (.k (.dat none (.bool false)))))]
def impl_Rule_met.r1 : List Ent := [
  E0 0 (some 5) none (.i (.fad 0 (.t 2))),
  E0 1 (some 6) none (.i (.load false false 1 (.t 5))),
  E0 2 (some 7) none (.i (.mkf F_impl_Rule_met_c1 [.t 3])),
  E0 3 (some 8) none (.call F_slices_ContainsFunc__sint_int false (roA [.t 6, .t 7])),
  E0 4 (some 9) none (.i (.un .not (.t 8))),
  E0 5 (some 4) none (.i (.mv (.t 9)))]
def impl_Rule_met.fi : FI := { res := [.t 4], code := .seq (.reg 64 3 impl_Rule_met.r0) (.seq (.reg 256 6 impl_Rule_met.r1) (.ret)) }
attribute [go_sem] impl_Rule_met.r0 impl_Rule_met.r1
theorem impl_Rule_met.ok : chkF prog F_impl_Rule_met 2 impl_Rule_met.fi = true := by kernel_rfl

/-! impl_HoldsIn_c1 -/
def impl_HoldsIn_c1.r0 : List Ent := [
  E0 0 (some 2) none (.i (.box (.t 0))),
  E0 1 (some 3) none (.i (.mv (.k (.dat none (.bool false)))))]
def impl_HoldsIn_c1.r1 : List Ent := [
  E0 0 (some 4) none (.i (.load false true 2 (.t 2))),
  E0 1 (some 5) none (.i (.load false false 1 (.t 1))),
  E0 2 (some 6) none (.call F_impl_Rule_met false (roA [.t 4, .t 5])),
  E0 3 (some 7) none (.i (.mv (.t 6))),
  E0 4 (some 8) (some (7, true)) (.i (.load false false 1 (.t 1))),
  E0 5 (some 9) (some (7, true)) (.i (.fad 1 (.t 2))),
  E0 6 (some 10) (some (7, true)) (.i (.load false false 1 (.t 9))),
  E0 7 (some 11) (some (7, true)) (.i (.iad 1 (.t 8) (.t 10))),
  E0 8 (some 12) (some (7, true)) (.i (.load false false 1 (.t 11))),
  E0 9 (some 13) (some (7, true)) (.i (.un .not (.t 12))),
  E0 10 (some 14) none (.i (.pick (.t 7) (.t 13) (.k (.dat none (.bool false))))),
  E0 11 (some 3) none (.i (.mv (.t 14)))]
def impl_HoldsIn_c1.fi : FI := { res := [.t 3], code := .seq (.reg 64 2 impl_HoldsIn_c1.r0) (.seq (.reg 192 12 impl_HoldsIn_c1.r1) (.ret)) }
attribute [go_sem] impl_HoldsIn_c1.r0 impl_HoldsIn_c1.r1
theorem impl_HoldsIn_c1.ok : chkF prog F_impl_HoldsIn_c1 2 impl_HoldsIn_c1.fi = true := by kernel_rfl

/-! laws_szArcS -/
def laws_szArcS.r0 : List Ent := [
  E0 0 (some 4) none (.i (.mv (.k (I64 0))))]
def laws_szArcS.r1 : List Ent := [
  E0 0 (some 5) none (.i (.mv (.t 1))),
  E0 1 (some 6) none (.i (.mv (.t 0))),
  E0 2 (some 7) none (.i (.len (.t 6))),
  E0 3 (some 8) none (.i (.bin .sub (.t 5) (.t 7))),
  E0 4 (some 1) none (.i (.mv (.t 8)))]
def laws_szArcS.r2 : List Ent := [
  E0 0 (some 9) none (.i (.mv (.t 1))),
  E0 1 (some 10) none (.i (.bin .lss (.t 9) (.k (I64 0))))]
def laws_szArcS.r3 : List Ent := [
  E0 0 (some 4) none (.i (.mv (.k (I64 (-1)))))]
def laws_szArcS.r4 : List Ent := [
  E0 0 (some 11) none (.i (.mv (.t 1))),
  E0 1 (some 4) none (.i (.mv (.t 11)))]
def laws_szArcS.fi : FI := { res := [.t 4], code := .seq (.reg 64 1 laws_szArcS.r0) (.seq (.reg 128 5 laws_szArcS.r1) (.seq (.seq (.reg 448 2 laws_szArcS.r2) (.cond (.t 10) (.seq (.reg 576 1 laws_szArcS.r3) (.ret)) (.skip))) (.seq (.reg 640 2 laws_szArcS.r4) (.ret)))) }
attribute [go_sem] laws_szArcS.r0 laws_szArcS.r1 laws_szArcS.r2 laws_szArcS.r3 laws_szArcS.r4
theorem laws_szArcS.ok : chkF prog F_laws_szArcS 2 laws_szArcS.fi = true := by kernel_rfl

/-! spec_GoodArcs -/
def spec_GoodArcs.r0 : List Ent := [
  E0 0 (some 4) none (.i (.mv (.k (.dat none (.bool false)))))]
def spec_GoodArcs.r1 : List Ent := [
  E0 0 (some 7) none (.i (.mv (.t 1))),
  E0 1 (some 8) none (.i (.len (.t 7))),
  E0 2 (some 9) none (.i (.mv (.k (I64 0))))]
def spec_GoodArcs.r2 : List Ent := [
  E0 0 (some 10) none (.i (.bin .lss (.t 9) (.t 8)))]
def spec_GoodArcs.r3 : List Ent := [
  E0 0 (some 11) none (.i (.mv (.t 9))),
  E0 1 (some 12) none (.i (.iad 2 (.t 7) (.t 9))),
  E0 2 (some 13) none (.i (.load false true 2 (.t 12))),
  E0 3 (some 6) none (.i (.box (.k (.agg [.dat none (.int .i64 0), .dat none (.int .i64 0)])))),
  E0 4 (some 5) none (.i (.mv (.t 11))),
  E0 5 none none (.i (.store 2 (.t 6) (.t 13)))]
def spec_GoodArcs.r4 : List Ent := [
  E0 0 (some 14) none (.i (.fad 0 (.t 6))),
  E0 1 (some 15) none (.i (.load false false 1 (.t 14))),
  E0 2 (some 16) none (.i (.mv (.t 0))),
  E0 3 (some 17) none (.i (.bin .sub (.t 16) (.k (I64 1)))),
  E0 4 (some 18) none (.call F_spec_l1In false (roA [.t 15, .k (I64 0), .t 17])),
  E0 5 (some 19) none (.i (.un .not (.t 18))),
  E0 6 (some 20) none (.i (.mv (.t 19))),
  E0 7 (some 21) (some (20, false)) (.i (.fad 1 (.t 6))),
  E0 8 (some 22) (some (20, false)) (.i (.load false false 1 (.t 21))),
  E0 9 (some 23) (some (20, false)) (.i (.mv (.t 0))),
  E0 10 (some 24) (some (20, false)) (.i (.bin .sub (.t 23) (.k (I64 1)))),
  E0 11 (some 25) (some (20, false)) (.call F_spec_l1In false (roA [.t 22, .k (I64 0), .t 24])),
  E0 12 (some 26) (some (20, false)) (.i (.un .not (.t 25))),
  E0 13 (some 27) none (.i (.pick (.t 20) (.k (.dat none (.bool true))) (.t 26)))]
def spec_GoodArcs.r5 : List Ent := [
  E0 0 (some 4) none (.i (.mv (.k (.dat none (.bool false)))))]
def spec_GoodArcs.r6 : List Ent := [
  E0 0 (some 28) none (.i (.mv (.t 5))),
  E0 1 (some 29) none (.i (.bin .gtr (.t 28) (.k (I64 0)))),
  E0 2 (some 30) none (.i (.mv (.t 29))),
  E0 3 (some 31) (some (30, true)) (.i (.mv (.t 1))),
  E0 4 (some 32) (some (30, true)) (.i (.mv (.t 5))),
  E0 5 (some 33) (some (30, true)) (.i (.bin .sub (.t 32) (.k (I64 1)))),
  ER 6 (some 34) (some (30, true)) (.iad 2 (.t 31) (.t 33)),
  ER 7 (some 35) (some (30, true)) (.fad 0 (.t 34)),
  ER 8 (some 36) (some (30, true)) (.load false false 1 (.t 35)),
  ER 9 (some 37) (some (30, true)) (.fad 0 (.t 6)),
  ER 10 (some 38) (some (30, true)) (.load false false 1 (.t 37)),
  E0 11 (some 39) (some (30, true)) (.i (.bin .gtr (.t 36) (.t 38))),
  E0 12 (some 40) (some (30, true)) (.i (.mv (.t 39))),
  E0 13 (some 41) (some (40, false)) (.i (.mv (.t 1))),
  E0 14 (some 42) (some (40, false)) (.i (.mv (.t 5))),
  E0 15 (some 43) (some (40, false)) (.i (.bin .sub (.t 42) (.k (I64 1)))),
  ER 16 (some 44) (some (40, false)) (.iad 2 (.t 41) (.t 43)),
  ER 17 (some 45) (some (40, false)) (.fad 0 (.t 44)),
  ER 18 (some 46) (some (40, false)) (.load false false 1 (.t 45)),
  ER 19 (some 47) (some (40, false)) (.fad 0 (.t 6)),
  ER 20 (some 48) (some (40, false)) (.load false false 1 (.t 47)),
  E0 21 (some 49) (some (40, false)) (.i (.bin .eql (.t 46) (.t 48))),
  E0 22 (some 50) (some (40, false)) (.i (.mv (.t 49))),
  E0 23 (some 51) (some (50, true)) (.i (.mv (.t 1))),
  E0 24 (some 52) (some (50, true)) (.i (.mv (.t 5))),
  E0 25 (some 53) (some (50, true)) (.i (.bin .sub (.t 52) (.k (I64 1)))),
  ER 26 (some 54) (some (50, true)) (.iad 2 (.t 51) (.t 53)),
  ER 27 (some 55) (some (50, true)) (.fad 1 (.t 54)),
  ER 28 (some 56) (some (50, true)) (.load false false 1 (.t 55)),
  ER 29 (some 57) (some (50, true)) (.fad 1 (.t 6)),
  ER 30 (some 58) (some (50, true)) (.load false false 1 (.t 57)),
  E0 31 (some 59) (some (50, true)) (.i (.bin .geq (.t 56) (.t 58))),
  E0 32 (some 60) (some (40, false)) (.i (.pick (.t 50) (.t 59) (.k (.dat none (.bool false))))),
  E0 33 (some 61) (some (30, true)) (.i (.pick (.t 40) (.k (.dat none (.bool true))) (.t 60))),
  E0 34 (some 62) none (.i (.pick (.t 30) (.t 61) (.k (.dat none (.bool false)))))]
def spec_GoodArcs.r7 : List Ent := [
  E0 0 (some 4) none (.i (.mv (.k (.dat none (.bool false)))))]
def spec_GoodArcs.r8 : List Ent := [
  E0 0 (some 63) none (.i (.bin .add (.t 9) (.k (I64 1)))),
  E0 1 (some 9) none (.i (.mv (.t 63)))]
def spec_GoodArcs.b0 : KC := .seq (.reg 320 1 spec_GoodArcs.r2) (.seq (.cond (.t 10) (.skip) (.exit 0)) (.seq (.block 1 (.seq (.reg 384 6 spec_GoodArcs.r3) (.seq (.seq (.reg 768 14 spec_GoodArcs.r4) (.cond (.t 27) (.seq (.reg 1664 1 spec_GoodArcs.r5) (.ret)) (.skip))) (.seq (.reg 1728 35 spec_GoodArcs.r6) (.cond (.t 62) (.seq (.reg 3968 1 spec_GoodArcs.r7) (.ret)) (.skip)))))) (.reg 4032 2 spec_GoodArcs.r8)))
def spec_GoodArcs.r9 : List Ent := [
  E0 0 (some 64) none (.i (.mv (.t 0))),
  E0 1 (some 65) none (.call F_spec_l1In false (roA [.t 64, .k (I64 1), .k (I64 6)])),
  E0 2 (some 66) none (.i (.mv (.t 65))),
  E0 3 (some 67) (some (66, true)) (.i (.mv (.t 1))),
  E0 4 (some 68) (some (66, true)) (.i (.len (.t 67))),
  E0 5 (some 69) (some (66, true)) (.i (.bin .leq (.t 68) (.k (I64 30)))),
  E0 6 (some 70) none (.i (.pick (.t 66) (.t 69) (.k (.dat none (.bool false))))),
  E0 7 (some 4) none (.i (.mv (.t 70)))]
def spec_GoodArcs.fi : FI := { res := [.t 4], code := .seq (.reg 64 1 spec_GoodArcs.r0) (.seq (.seq (.reg 128 3 spec_GoodArcs.r1) (.block 0 (.loop spec_GoodArcs.b0))) (.seq (.reg 4160 8 spec_GoodArcs.r9) (.ret))) }
attribute [go_sem] spec_GoodArcs.r0 spec_GoodArcs.r1 spec_GoodArcs.r2 spec_GoodArcs.r3 spec_GoodArcs.r4 spec_GoodArcs.r5 spec_GoodArcs.r6 spec_GoodArcs.r7 spec_GoodArcs.r8 spec_GoodArcs.r9
theorem spec_GoodArcs.ok : chkF prog F_spec_GoodArcs 2 spec_GoodArcs.fi = true := by kernel_rfl

/-! spec_l1Put -/
def spec_l1Put.r0 : List Ent := [
  E0 0 (some 4) none (.i (.mv (.k (.nil 1))))]
def spec_l1Put.r1 : List Ent := [
  E0 0 (some 5) none (.i (.mv (.k (I64 0))))]
def spec_l1Put.r2 : List Ent := [
  E0 0 (some 7) none (.i (.mv (.t 5))),
  E0 1 (some 8) none (.i (.mv (.t 0))),
  E0 2 (some 9) none (.i (.len (.t 8))),
  E0 3 (some 10) none (.i (.bin .lss (.t 7) (.t 9))),
  E0 4 (some 11) none (.i (.mv (.t 10))),
  E0 5 (some 12) (some (11, true)) (.i (.mv (.t 0))),
  E0 6 (some 13) (some (11, true)) (.i (.mv (.t 5))),
  E0 7 (some 14) (some (11, true)) (.i (.iad 1 (.t 12) (.t 13))),
  E0 8 (some 15) (some (11, true)) (.i (.load false false 1 (.t 14))),
  E0 9 (some 16) (some (11, true)) (.i (.mv (.t 1))),
  E0 10 (some 17) (some (11, true)) (.i (.bin .lss (.t 15) (.t 16))),
  E0 11 (some 18) none (.i (.pick (.t 11) (.t 17) (.k (.dat none (.bool false)))))]
def spec_l1Put.r3 : List Ent := [
  E0 0 (some 19) none (.i (.mv (.t 5))),
  E0 1 (some 20) none (.i (.bin .add (.t 19) (.k (I64 1)))),
  E0 2 (some 5) none (.i (.mv (.t 20)))]
def spec_l1Put.b0 : KC := .seq (.seq (.reg 192 12 spec_l1Put.r2) (.cond (.t 18) (.skip) (.exit 0))) (.block 1 (.reg 960 3 spec_l1Put.r3))
def spec_l1Put.r4 : List Ent := [
  E0 0 (some 21) none (.i (.mv (.t 5))),
  E0 1 (some 22) none (.i (.mv (.t 0))),
  E0 2 (some 23) none (.i (.len (.t 22))),
  E0 3 (some 24) none (.i (.bin .lss (.t 21) (.t 23))),
  E0 4 (some 25) none (.i (.mv (.t 24))),
  E0 5 (some 26) (some (25, true)) (.i (.mv (.t 0))),
  E0 6 (some 27) (some (25, true)) (.i (.mv (.t 5))),
  E0 7 (some 28) (some (25, true)) (.i (.iad 1 (.t 26) (.t 27))),
  E0 8 (some 29) (some (25, true)) (.i (.load false false 1 (.t 28))),
  E0 9 (some 30) (some (25, true)) (.i (.mv (.t 1))),
  E0 10 (some 31) (some (25, true)) (.i (.bin .eql (.t 29) (.t 30))),
  E0 11 (some 32) none (.i (.pick (.t 25) (.t 31) (.k (.dat none (.bool false)))))]
def spec_l1Put.r5 : List Ent := [
  E0 0 (some 33) none (.i (.mv (.t 0))),
  E0 1 (some 4) none (.i (.mv (.t 33)))]
def spec_l1Put.r6 : List Ent := [
  E0 0 (some 34) none (.i (.bsl false 1 [])),
  E0 1 (some 35) none (.i (.mv (.t 0))),
  E0 2 (some 36) none (.i (.mv (.t 5))),
  E0 3 (some 37) none (.i (.slc 1 (.t 35) (none) (some (.t 36)))),
  E0 4 (some 38) none (.i (.app 1 8 (.t 34) (.t 37))),
  E0 5 (some 6) none (.i (.mv (.t 38)))]
def spec_l1Put.r7 : List Ent := [
  E0 0 (some 39) none (.i (.mv (.t 6))),
  E0 1 (some 40) none (.i (.mv (.t 1))),
  E0 2 (some 41) none (.i (.bsl true 1 [.t 40])),
  E0 3 (some 42) none (.i (.app 1 8 (.t 39) (.t 41))),
  E0 4 (some 6) none (.i (.mv (.t 42)))]
def spec_l1Put.r8 : List Ent := [
  E0 0 (some 43) none (.i (.mv (.t 6))),
  E0 1 (some 44) none (.i (.mv (.t 0))),
  E0 2 (some 45) none (.i (.mv (.t 5))),
  E0 3 (some 46) none (.i (.slc 1 (.t 44) (some (.t 45)) (none))),
  E0 4 (some 47) none (.i (.app 1 8 (.t 43) (.t 46))),
  E0 5 (some 4) none (.i (.mv (.t 47)))]
def spec_l1Put.fi : FI := { res := [.t 4], code := .seq (.reg 64 1 spec_l1Put.r0) (.seq (.reg 128 1 spec_l1Put.r1) (.seq (.block 0 (.loop spec_l1Put.b0)) (.seq (.seq (.reg 1152 12 spec_l1Put.r4) (.cond (.t 32) (.seq (.reg 1920 2 spec_l1Put.r5) (.fz 4 (.ret))) (.skip))) (.seq (.reg 2048 6 spec_l1Put.r6) (.seq (.reg 2432 5 spec_l1Put.r7) (.seq (.reg 2752 6 spec_l1Put.r8) (.fz 4 (.ret)))))))) }
attribute [go_sem] spec_l1Put.r0 spec_l1Put.r1 spec_l1Put.r2 spec_l1Put.r3 spec_l1Put.r4 spec_l1Put.r5 spec_l1Put.r6 spec_l1Put.r7 spec_l1Put.r8
theorem spec_l1Put.ok : chkF prog F_spec_l1Put 2 spec_l1Put.fi = true := by kernel_rfl

/-! spec_l12Reach -/
def spec_l12Reach.r0 : List Ent := [
  E0 0 (some 6) none (.i (.mv (.k (.nil 1))))]
def spec_l12Reach.r1 : List Ent := [
  E0 0 (some 11) none (.i (.mv (.t 1))),
  E0 1 (some 12) none (.i (.bsl false 1 [.t 11])),
  E0 2 (some 7) none (.i (.mv (.t 12)))]
def spec_l12Reach.r2 : List Ent := [
  E0 0 (some 13) none (.i (.mv (.t 2))),
  E0 1 (some 14) none (.i (.bin .gtr (.t 13) (.k (I64 0))))]
def spec_l12Reach.r3 : List Ent := [
  E0 0 (some 17) none (.i (.mv (.t 7))),
  E0 1 (some 8) none (.i (.mv (.t 17)))]
def spec_l12Reach.r4 : List Ent := [
  E0 0 (some 18) none (.i (.mv (.t 0))),
  E0 1 (some 19) none (.i (.len (.t 18))),
  E0 2 (some 20) none (.i (.mv (.k (I64 0))))]
def spec_l12Reach.r5 : List Ent := [
  E0 0 (some 21) none (.i (.bin .lss (.t 20) (.t 19)))]
def spec_l12Reach.r6 : List Ent := [
  E0 0 (some 22) none (.i (.iad 2 (.t 18) (.t 20))),
  E0 1 (some 23) none (.i (.load false true 2 (.t 22))),
  E0 2 (some 10) none (.i (.box (.k (.agg [.dat none (.int .i64 0), .dat none (.int .i64 0)])))),
  E0 3 none none (.i (.store 2 (.t 10) (.t 23)))]
def spec_l12Reach.r7 : List Ent := [
  E0 0 (some 24) none (.i (.mv (.t 7))),
  E0 1 (some 25) none (.i (.fad 0 (.t 10))),
  E0 2 (some 26) none (.i (.load false false 1 (.t 25))),
  E0 3 (some 27) none (.call F_spec_l1Has false (roA [.t 24, .t 26]))]
def spec_l12Reach.r8 : List Ent := [
  E0 0 (some 28) none (.i (.mv (.t 8))),
  E0 1 (some 29) none (.i (.fad 1 (.t 10))),
  E0 2 (some 30) none (.i (.load false false 1 (.t 29))),
  E0 3 (some 31) none (.call F_spec_l1Put true (roA [.t 28, .t 30])),
  E0 4 (some 8) none (.i (.mv (.t 31)))]
def spec_l12Reach.r9 : List Ent := [
  E0 0 (some 32) none (.i (.bin .add (.t 20) (.k (I64 1)))),
  E0 1 (some 20) none (.i (.mv (.t 32)))]
def spec_l12Reach.b0 : KC := .seq (.reg 768 1 spec_l12Reach.r5) (.seq (.cond (.t 21) (.skip) (.exit 2)) (.seq (.block 3 (.seq (.reg 832 4 spec_l12Reach.r6) (.seq (.reg 1088 4 spec_l12Reach.r7) (.cond (.t 27) (.reg 1344 5 spec_l12Reach.r8) (.skip))))) (.reg 1664 2 spec_l12Reach.r9)))
def spec_l12Reach.r10 : List Ent := [
  E0 0 (some 33) none (.i (.mv (.t 8))),
  E0 1 (some 7) none (.i (.mv (.t 33)))]
def spec_l12Reach.r11 : List Ent := [
  E0 0 (some 15) none (.i (.mv (.t 2))),
  E0 1 (some 16) none (.i (.bin .sub (.t 15) (.k (I64 1)))),
  E0 2 (some 2) none (.i (.mv (.t 16)))]
def spec_l12Reach.b1 : KC := .seq (.seq (.reg 320 2 spec_l12Reach.r2) (.cond (.t 14) (.skip) (.exit 0))) (.seq (.block 1 (.seq (.reg 448 2 spec_l12Reach.r3) (.seq (.seq (.reg 576 3 spec_l12Reach.r4) (.block 2 (.loop spec_l12Reach.b0))) (.reg 1792 2 spec_l12Reach.r10)))) (.reg 1920 3 spec_l12Reach.r11))
def spec_l12Reach.r12 : List Ent := [
  E0 0 (some 34) none (.i (.mv (.t 7))),
  E0 1 (some 6) none (.i (.mv (.t 34)))]
def spec_l12Reach.fi : FI := { res := [.t 6], code := .seq (.reg 64 1 spec_l12Reach.r0) (.seq (.reg 128 3 spec_l12Reach.r1) (.seq (.fz 7 (.block 0 (.loop spec_l12Reach.b1))) (.seq (.reg 2112 2 spec_l12Reach.r12) (.fz 6 (.ret))))) }
attribute [go_sem] spec_l12Reach.r0 spec_l12Reach.r1 spec_l12Reach.r2 spec_l12Reach.r3 spec_l12Reach.r4 spec_l12Reach.r5 spec_l12Reach.r6 spec_l12Reach.r7 spec_l12Reach.r8 spec_l12Reach.r9 spec_l12Reach.r10 spec_l12Reach.r11 spec_l12Reach.r12
theorem spec_l12Reach.ok : chkF prog F_spec_l12Reach 3 spec_l12Reach.fi = true := by kernel_rfl

/-! spec_ReachWithin -/
def spec_ReachWithin.r0 : List Ent := [
  E0 0 (some 8) none (.i (.mv (.k (.nil 1)))),
  E0 1 (some 9) none (.i (.mv (.k (.dat none (.bool false)))))]
def spec_ReachWithin.r1 : List Ent := [
  E0 0 (some 10) none (.i (.mv (.t 0))),
  E0 1 (some 11) none (.i (.mv (.t 1))),
  E0 2 (some 12) none (.call F_spec_GoodArcs false (roA [.t 10, .t 11])),
  E0 3 (some 13) none (.i (.un .not (.t 12))),
  E0 4 (some 14) none (.i (.mv (.t 13))),
  E0 5 (some 15) (some (14, false)) (.i (.mv (.t 2))),
  E0 6 (some 16) (some (14, false)) (.i (.mv (.t 0))),
  E0 7 (some 17) (some (14, false)) (.i (.bin .sub (.t 16) (.k (I64 1)))),
  E0 8 (some 18) (some (14, false)) (.call F_spec_l1In false (roA [.t 15, .k (I64 0), .t 17])),
  E0 9 (some 19) (some (14, false)) (.i (.un .not (.t 18))),
  E0 10 (some 20) none (.i (.pick (.t 14) (.k (.dat none (.bool true))) (.t 19))),
  E0 11 (some 21) none (.i (.mv (.t 20))),
  E0 12 (some 22) (some (21, false)) (.i (.mv (.t 3))),
  E0 13 (some 23) (some (21, false)) (.call F_spec_l1In false (roA [.t 22, .k (I64 0), .k (I64 8)])),
  E0 14 (some 24) (some (21, false)) (.i (.un .not (.t 23))),
  E0 15 (some 25) none (.i (.pick (.t 21) (.k (.dat none (.bool true))) (.t 24)))]
def spec_ReachWithin.r2 : List Ent := [
  E0 0 (some 8) none (.i (.mv (.k (.nil 1)))),
  E0 1 (some 9) none (.i (.mv (.k (.dat none (.bool false)))))]
def spec_ReachWithin.r3 : List Ent := [
  E0 0 (some 26) none (.i (.bsl false 1 [])),
  E0 1 (some 27) none (.i (.mv (.t 1))),
  E0 2 (some 28) none (.i (.mv (.t 2))),
  E0 3 (some 29) none (.i (.mv (.t 3))),
  E0 4 (some 30) none (.call F_spec_l12Reach true (roA [.t 27, .t 28, .t 29])),
  E0 5 (some 31) none (.i (.app 1 8 (.t 26) (.t 30))),
  E0 6 (some 8) none (.i (.mv (.t 31))),
  E0 7 (some 9) none (.i (.mv (.k (.dat none (.bool true)))))]
def spec_ReachWithin.fi : FI := { res := [.t 8, .t 9], code := .seq (.reg 64 2 spec_ReachWithin.r0) (.seq (.seq (.reg 192 16 spec_ReachWithin.r1) (.cond (.t 25) (.seq (.reg 1216 2 spec_ReachWithin.r2) (.ret)) (.skip))) (.seq (.reg 1344 8 spec_ReachWithin.r3) (.ret))) }
attribute [go_sem] spec_ReachWithin.r0 spec_ReachWithin.r1 spec_ReachWithin.r2 spec_ReachWithin.r3
theorem spec_ReachWithin.ok : chkF prog F_spec_ReachWithin 4 spec_ReachWithin.fi = true := by kernel_rfl

/-! laws_toArc -/
def laws_toArc.r0 : List Ent := [
  E0 0 (some 1) none (.i (.box (.t 0))),
  E0 1 (some 2) none (.i (.box (.k (.agg [.dat none (.int .i64 0), .dat none (.int .i64 0)]))))]
def laws_toArc.r1 : List Ent := [
  E0 0 (some 3) none (.i (.box (.k (.agg [.dat none (.int .i64 0), .dat none (.int .i64 0)]))))]
def laws_toArc.r2 : List Ent := [
  E0 0 (some 4) none (.i (.fad 0 (.t 1))),
  E0 1 (some 5) none (.i (.load false false 1 (.t 4))),
  E0 2 (some 6) none (.i (.fad 0 (.t 3))),
  E0 3 none none (.i (.store 1 (.t 6) (.t 5)))]
def laws_toArc.r3 : List Ent := [
  E0 0 (some 7) none (.i (.fad 1 (.t 1))),
  E0 1 (some 8) none (.i (.load false false 1 (.t 7))),
  E0 2 (some 9) none (.i (.fad 1 (.t 3))),
  E0 3 none none (.i (.store 1 (.t 9) (.t 8)))]
def laws_toArc.r4 : List Ent := [
  E0 0 (some 10) none (.i (.load false true 2 (.t 3))),
  E0 1 none none (.i (.store 2 (.t 2) (.t 10)))]
def laws_toArc.fi : FI := { res := [.c 2 true 2], code := .seq (.reg 64 2 laws_toArc.r0) (.seq (.reg 192 1 laws_toArc.r1) (.seq (.reg 256 4 laws_toArc.r2) (.seq (.reg 512 4 laws_toArc.r3) (.seq (.reg 768 2 laws_toArc.r4) (.ret))))) }
attribute [go_sem] laws_toArc.r0 laws_toArc.r1 laws_toArc.r2 laws_toArc.r3 laws_toArc.r4
theorem laws_toArc.ok : chkF prog F_laws_toArc 1 laws_toArc.fi = true := by kernel_rfl

/-! laws_toArcS -/
def laws_toArcS.r0 : List Ent := [
  E0 0 (some 2) none (.i (.mv (.k (.nil 2))))]
def laws_toArcS.r1 : List Ent := [
  E0 0 (some 5) none (.i (.mv (.t 0))),
  E0 1 (some 6) none (.i (.len (.t 5))),
  E0 2 (some 7) none (.i (.mks 2 16 (.agg [.int .i64 0, .int .i64 0]) (.t 6) (.t 6))),
  E0 3 (some 3) none (.i (.mv (.t 7)))]
def laws_toArcS.r2 : List Ent := [
  E0 0 (some 4) none (.i (.mv (.k (I64 0))))]
def laws_toArcS.r3 : List Ent := [
  E0 0 (some 8) none (.i (.mv (.t 4))),
  E0 1 (some 9) none (.i (.mv (.t 0))),
  E0 2 (some 10) none (.i (.len (.t 9))),
  E0 3 (some 11) none (.i (.bin .lss (.t 8) (.t 10)))]
def laws_toArcS.r4 : List Ent := [
  E0 0 (some 14) none (.i (.mv (.t 3))),
  E0 1 (some 15) none (.i (.mv (.t 4))),
  E0 2 (some 16) none (.i (.mv (.t 0))),
  E0 3 (some 17) none (.i (.mv (.t 4))),
  E0 4 (some 18) none (.i (.iad 2 (.t 16) (.t 17))),
  E0 5 (some 19) none (.i (.load false true 2 (.t 18))),
  E0 6 (some 20) none (.call F_laws_toArc false (roA [.t 19])),
  E0 7 (some 21) none (.i (.iad 2 (.t 14) (.t 15))),
  E0 8 none none (.i (.store 2 (.t 21) (.t 20)))]
def laws_toArcS.r5 : List Ent := [
  E0 0 (some 12) none (.i (.mv (.t 4))),
  E0 1 (some 13) none (.i (.bin .add (.t 12) (.k (I64 1)))),
  E0 2 (some 4) none (.i (.mv (.t 13)))]
def laws_toArcS.b0 : KC := .seq (.seq (.reg 448 4 laws_toArcS.r3) (.cond (.t 11) (.skip) (.exit 0))) (.seq (.block 1 (.reg 704 9 laws_toArcS.r4)) (.reg 1280 3 laws_toArcS.r5))
def laws_toArcS.r6 : List Ent := [
  E0 0 (some 22) none (.i (.mv (.t 3))),
  E0 1 (some 2) none (.i (.mv (.t 22)))]
def laws_toArcS.fi : FI := { res := [.t 2], code := .seq (.reg 64 1 laws_toArcS.r0) (.seq (.reg 128 4 laws_toArcS.r1) (.seq (.seq (.reg 384 1 laws_toArcS.r2) (.block 0 (.loop laws_toArcS.b0))) (.seq (.reg 1472 2 laws_toArcS.r6) (.ret)))) }
attribute [go_sem] laws_toArcS.r0 laws_toArcS.r1 laws_toArcS.r2 laws_toArcS.r3 laws_toArcS.r4 laws_toArcS.r5 laws_toArcS.r6
theorem laws_toArcS.ok : chkF prog F_laws_toArcS 1 laws_toArcS.fi = true := by kernel_rfl

/-! impl_isSpots -/
def impl_isSpots.r0 : List Ent := [
  E0 0 (some 2) none (.i (.mv (.k (.dat none (.bool false)))))]
def impl_isSpots.r1 : List Ent := [
  E0 0 (some 3) none (.i (.mv (.t 0))),
  E0 1 (some 4) none (.call F_impl_in false (roA [.t 3, .k (I64 1), .k (I64 6)])),
  E0 2 (some 2) none (.i (.mv (.t 4)))]
def impl_isSpots.fi : FI := { res := [.t 2], code := .seq (.reg 64 1 impl_isSpots.r0) (.seq (.reg 128 3 impl_isSpots.r1) (.ret)) }
attribute [go_sem] impl_isSpots.r0 impl_isSpots.r1
theorem impl_isSpots.ok : chkF prog F_impl_isSpots 1 impl_isSpots.fi = true := by kernel_rfl

/-! impl_GoodArcs -/
def impl_GoodArcs.r0 : List Ent := [
  E0 0 (some 4) none (.i (.mv (.k (.dat none (.bool false)))))]
def impl_GoodArcs.r1 : List Ent := [
  E0 0 (some 8) none (.i (.mv (.t 1))),
  E0 1 (some 9) none (.i (.len (.t 8))),
  E0 2 (some 10) none (.i (.mv (.k (I64 0))))]
def impl_GoodArcs.r2 : List Ent := [
  E0 0 (some 11) none (.i (.bin .lss (.t 10) (.t 9)))]
def impl_GoodArcs.r3 : List Ent := [
  E0 0 (some 12) none (.i (.mv (.t 10))),
  E0 1 (some 13) none (.i (.iad 2 (.t 8) (.t 10))),
  E0 2 (some 14) none (.i (.load false true 2 (.t 13))),
  E0 3 (some 6) none (.i (.box (.k (.agg [.dat none (.int .i64 0), .dat none (.int .i64 0)])))),
  E0 4 (some 5) none (.i (.mv (.t 12))),
  E0 5 none none (.i (.store 2 (.t 6) (.t 14)))]
def impl_GoodArcs.r4 : List Ent := [
  E0 0 (some 15) none (.i (.fad 0 (.t 6))),
  E0 1 (some 16) none (.i (.load false false 1 (.t 15))),
  E0 2 (some 17) none (.i (.mv (.t 0))),
  E0 3 (some 18) none (.i (.bin .sub (.t 17) (.k (I64 1)))),
  E0 4 (some 19) none (.call F_impl_in false (roA [.t 16, .k (I64 0), .t 18])),
  E0 5 (some 20) none (.i (.un .not (.t 19))),
  E0 6 (some 21) none (.i (.mv (.t 20))),
  E0 7 (some 22) (some (21, false)) (.i (.fad 1 (.t 6))),
  E0 8 (some 23) (some (21, false)) (.i (.load false false 1 (.t 22))),
  E0 9 (some 24) (some (21, false)) (.i (.mv (.t 0))),
  E0 10 (some 25) (some (21, false)) (.i (.bin .sub (.t 24) (.k (I64 1)))),
  E0 11 (some 26) (some (21, false)) (.call F_impl_in false (roA [.t 23, .k (I64 0), .t 25])),
  E0 12 (some 27) (some (21, false)) (.i (.un .not (.t 26))),
  E0 13 (some 28) none (.i (.pick (.t 21) (.k (.dat none (.bool true))) (.t 27)))]
def impl_GoodArcs.r5 : List Ent := [
  E0 0 (some 4) none (.i (.mv (.k (.dat none (.bool false)))))]
def impl_GoodArcs.r6 : List Ent := [
  E0 0 (some 29) none (.i (.mv (.t 1))),
  E0 1 (some 30) none (.i (.mv (.t 5))),
  E0 2 (some 31) none (.i (.bin .sub (.t 30) (.k (I64 1)))),
  E0 3 (some 32) none (.i (.mnx true (.k (I64 0)) (.t 31))),
  E0 4 (some 33) none (.i (.iad 2 (.t 29) (.t 32))),
  E0 5 (some 34) none (.i (.load false true 2 (.t 33))),
  E0 6 (some 7) none (.i (.box (.k (.agg [.dat none (.int .i64 0), .dat none (.int .i64 0)])))),
  E0 7 none none (.i (.store 2 (.t 7) (.t 34)))]
def impl_GoodArcs.r7 : List Ent := [
  E0 0 (some 35) none (.i (.mv (.t 5))),
  E0 1 (some 36) none (.i (.bin .gtr (.t 35) (.k (I64 0)))),
  E0 2 (some 37) none (.i (.mv (.t 36))),
  E0 3 (some 38) (some (37, true)) (.i (.fad 0 (.t 7))),
  E0 4 (some 39) (some (37, true)) (.i (.load false false 1 (.t 38))),
  E0 5 (some 40) (some (37, true)) (.i (.fad 0 (.t 6))),
  E0 6 (some 41) (some (37, true)) (.i (.load false false 1 (.t 40))),
  E0 7 (some 42) (some (37, true)) (.i (.bin .gtr (.t 39) (.t 41))),
  E0 8 (some 43) (some (37, true)) (.i (.mv (.t 42))),
  E0 9 (some 44) (some (43, false)) (.i (.fad 0 (.t 7))),
  E0 10 (some 45) (some (43, false)) (.i (.load false false 1 (.t 44))),
  E0 11 (some 46) (some (43, false)) (.i (.fad 0 (.t 6))),
  E0 12 (some 47) (some (43, false)) (.i (.load false false 1 (.t 46))),
  E0 13 (some 48) (some (43, false)) (.i (.bin .eql (.t 45) (.t 47))),
  E0 14 (some 49) (some (43, false)) (.i (.mv (.t 48))),
  E0 15 (some 50) (some (49, true)) (.i (.fad 1 (.t 7))),
  E0 16 (some 51) (some (49, true)) (.i (.load false false 1 (.t 50))),
  E0 17 (some 52) (some (49, true)) (.i (.fad 1 (.t 6))),
  E0 18 (some 53) (some (49, true)) (.i (.load false false 1 (.t 52))),
  E0 19 (some 54) (some (49, true)) (.i (.bin .geq (.t 51) (.t 53))),
  E0 20 (some 55) (some (43, false)) (.i (.pick (.t 49) (.t 54) (.k (.dat none (.bool false))))),
  E0 21 (some 56) (some (37, true)) (.i (.pick (.t 43) (.k (.dat none (.bool true))) (.t 55))),
  E0 22 (some 57) none (.i (.pick (.t 37) (.t 56) (.k (.dat none (.bool false)))))]
def impl_GoodArcs.r8 : List Ent := [
  E0 0 (some 4) none (.i (.mv (.k (.dat none (.bool false)))))]
def impl_GoodArcs.r9 : List Ent := [
  E0 0 (some 58) none (.i (.bin .add (.t 10) (.k (I64 1)))),
  E0 1 (some 10) none (.i (.mv (.t 58)))]
def impl_GoodArcs.b0 : KC := .seq (.reg 320 1 impl_GoodArcs.r2) (.seq (.cond (.t 11) (.skip) (.exit 0)) (.seq (.block 1 (.seq (.reg 384 6 impl_GoodArcs.r3) (.seq (.seq (.reg 768 14 impl_GoodArcs.r4) (.cond (.t 28) (.seq (.reg 1664 1 impl_GoodArcs.r5) (.ret)) (.skip))) (.seq (.reg 1728 8 impl_GoodArcs.r6) (.seq (.reg 2240 23 impl_GoodArcs.r7) (.cond (.t 57) (.seq (.reg 3712 1 impl_GoodArcs.r8) (.ret)) (.skip))))))) (.reg 3776 2 impl_GoodArcs.r9)))
def impl_GoodArcs.r10 : List Ent := [
  E0 0 (some 59) none (.i (.mv (.t 0))),
  E0 1 (some 60) none (.call F_impl_isSpots false (roA [.t 59])),
  E0 2 (some 61) none (.i (.mv (.t 60))),
  E0 3 (some 62) (some (61, true)) (.i (.mv (.t 1))),
  E0 4 (some 63) (some (61, true)) (.i (.len (.t 62))),
  E0 5 (some 64) (some (61, true)) (.i (.bin .leq (.t 63) (.k (I64 30)))),
  E0 6 (some 65) none (.i (.pick (.t 61) (.t 64) (.k (.dat none (.bool false))))),
  E0 7 (some 4) none (.i (.mv (.t 65)))]
def impl_GoodArcs.fi : FI := { res := [.t 4], code := .seq (.reg 64 1 impl_GoodArcs.r0) (.seq (.seq (.reg 128 3 impl_GoodArcs.r1) (.block 0 (.loop impl_GoodArcs.b0))) (.seq (.reg 3904 8 impl_GoodArcs.r10) (.ret))) }
attribute [go_sem] impl_GoodArcs.r0 impl_GoodArcs.r1 impl_GoodArcs.r2 impl_GoodArcs.r3 impl_GoodArcs.r4 impl_GoodArcs.r5 impl_GoodArcs.r6 impl_GoodArcs.r7 impl_GoodArcs.r8 impl_GoodArcs.r9 impl_GoodArcs.r10
theorem impl_GoodArcs.ok : chkF prog F_impl_GoodArcs 2 impl_GoodArcs.fi = true := by kernel_rfl

/-! slices_Clone__sbool_bool -/
def slices_Clone__sbool_bool.r0 : List Ent := [
  E0 0 (some 2) none (.i (.mv (.k (.nil 1))))]
def slices_Clone__sbool_bool.r1 : List Ent := [
  E0 0 (some 3) none (.i (.mv (.t 0))),
  E0 1 (some 4) none (.i (.eqnil false (.t 3)))]
def slices_Clone__sbool_bool.r2 : List Ent := [
  E0 0 (some 2) none (.i (.mv (.k (.nil 1))))]
def slices_Clone__sbool_bool.r3 : List Ent := [
  E0 0 (some 5) none (.i (.bsl false 1 [])),
  E0 1 (some 6) none (.i (.mv (.t 0))),
  E0 2 (some 7) none (.i (.app 1 1 (.t 5) (.t 6))),
  E0 3 (some 2) none (.i (.mv (.t 7)))]
def slices_Clone__sbool_bool.fi : FI := { res := [.t 2], code := .seq (.reg 64 1 slices_Clone__sbool_bool.r0) (.seq (.seq (.reg 128 2 slices_Clone__sbool_bool.r1) (.cond (.t 4) (.seq (.reg 256 1 slices_Clone__sbool_bool.r2) (.ret)) (.skip))) (.seq (.reg 320 4 slices_Clone__sbool_bool.r3) (.ret))) }
attribute [go_sem] slices_Clone__sbool_bool.r0 slices_Clone__sbool_bool.r1 slices_Clone__sbool_bool.r2 slices_Clone__sbool_bool.r3
theorem slices_Clone__sbool_bool.ok : chkF prog F_slices_Clone__sbool_bool 1 slices_Clone__sbool_bool.fi = true := by kernel_rfl

/-! impl_within -/
def impl_within.r0 : List Ent := [
  E0 0 (some 8) none (.i (.mv (.k (.nil 1))))]
def impl_within.r1 : List Ent := [
  E0 0 (some 13) none (.i (.mv (.t 0))),
  E0 1 (some 14) none (.i (.mks 1 1 (.bool false) (.t 13) (.t 13))),
  E0 2 (some 9) none (.i (.mv (.t 14)))]
def impl_within.r2 : List Ent := [
  E0 0 (some 15) none (.i (.mv (.t 9))),
  E0 1 (some 16) none (.i (.mv (.t 2))),
  E0 2 (some 17) none (.i (.iad 1 (.t 15) (.t 16))),
  E0 3 none none (.i (.store 1 (.t 17) (.k (.dat none (.bool true)))))]
def impl_within.r3 : List Ent := [
  E0 0 (some 18) none (.i (.mv (.t 3))),
  E0 1 (some 19) none (.i (.mv (.k (I64 0))))]
def impl_within.r4 : List Ent := [
  E0 0 (some 20) none (.i (.bin .lss (.t 19) (.t 18)))]
def impl_within.r5 : List Ent := [
  E0 0 (some 21) none (.i (.mv (.t 9))),
  E0 1 (some 22) none (.call F_slices_Clone__sbool_bool false (roA [.t 21])),
  E0 2 (some 10) none (.i (.mv (.t 22)))]
def impl_within.r6 : List Ent := [
  E0 0 (some 23) none (.i (.mv (.t 1))),
  E0 1 (some 24) none (.i (.len (.t 23))),
  E0 2 (some 25) none (.i (.mv (.k (I64 0))))]
def impl_within.r7 : List Ent := [
  E0 0 (some 26) none (.i (.bin .lss (.t 25) (.t 24)))]
def impl_within.r8 : List Ent := [
  E0 0 (some 27) none (.i (.iad 2 (.t 23) (.t 25))),
  E0 1 (some 28) none (.i (.load false true 2 (.t 27))),
  E0 2 (some 12) none (.i (.box (.k (.agg [.dat none (.int .i64 0), .dat none (.int .i64 0)])))),
  E0 3 none none (.i (.store 2 (.t 12) (.t 28)))]
def impl_within.r9 : List Ent := [
  E0 0 (some 29) none (.i (.mv (.t 10))),
  E0 1 (some 30) none (.i (.fad 0 (.t 12))),
  E0 2 (some 31) none (.i (.load false false 1 (.t 30))),
  E0 3 (some 32) none (.i (.iad 1 (.t 29) (.t 31))),
  E0 4 (some 33) none (.i (.load false false 1 (.t 32)))]
def impl_within.r10 : List Ent := [
  E0 0 (some 34) none (.i (.mv (.t 9))),
  E0 1 (some 35) none (.i (.fad 1 (.t 12))),
  E0 2 (some 36) none (.i (.load false false 1 (.t 35))),
  E0 3 (some 37) none (.i (.iad 1 (.t 34) (.t 36))),
  E0 4 none none (.i (.store 1 (.t 37) (.k (.dat none (.bool true)))))]
def impl_within.r11 : List Ent := [
  E0 0 (some 38) none (.i (.bin .add (.t 25) (.k (I64 1)))),
  E0 1 (some 25) none (.i (.mv (.t 38)))]
def impl_within.b0 : KC := .seq (.reg 1152 1 impl_within.r7) (.seq (.cond (.t 26) (.skip) (.exit 2)) (.seq (.block 3 (.seq (.reg 1216 4 impl_within.r8) (.seq (.reg 1472 5 impl_within.r9) (.cond (.t 33) (.reg 1792 5 impl_within.r10) (.skip))))) (.reg 2112 2 impl_within.r11)))
def impl_within.r12 : List Ent := [
  E0 0 (some 39) none (.i (.bin .add (.t 19) (.k (I64 1)))),
  E0 1 (some 19) none (.i (.mv (.t 39)))]
def impl_within.b1 : KC := .seq (.reg 704 1 impl_within.r4) (.seq (.cond (.t 20) (.skip) (.exit 0)) (.seq (.block 1 (.seq (.reg 768 3 impl_within.r5) (.seq (.reg 960 3 impl_within.r6) (.block 2 (.loop impl_within.b0))))) (.reg 2240 2 impl_within.r12)))
def impl_within.r13 : List Ent := [
  E0 0 (some 40) none (.i (.mv (.t 9))),
  E0 1 (some 8) none (.i (.mv (.t 40)))]
def impl_within.fi : FI := { res := [.t 8], code := .seq (.reg 64 1 impl_within.r0) (.seq (.reg 128 3 impl_within.r1) (.seq (.reg 320 4 impl_within.r2) (.seq (.seq (.reg 576 2 impl_within.r3) (.block 0 (.loop impl_within.b1))) (.seq (.reg 2368 2 impl_within.r13) (.ret))))) }
attribute [go_sem] impl_within.r0 impl_within.r1 impl_within.r2 impl_within.r3 impl_within.r4 impl_within.r5 impl_within.r6 impl_within.r7 impl_within.r8 impl_within.r9 impl_within.r10 impl_within.r11 impl_within.r12 impl_within.r13
theorem impl_within.ok : chkF prog F_impl_within 4 impl_within.fi = true := by kernel_rfl

/-! impl_list -/
def impl_list.r0 : List Ent := [
  E0 0 (some 4) none (.i (.mv (.k (.nil 1))))]
def impl_list.r1 : List Ent := [
  E0 0 (some 5) none (.i (.mv (.k (.nil 1))))]
def impl_list.r2 : List Ent := [
  E0 0 (some 7) none (.i (.mv (.t 0))),
  E0 1 (some 8) none (.i (.mv (.k (I64 0))))]
def impl_list.r3 : List Ent := [
  E0 0 (some 9) none (.i (.bin .lss (.t 8) (.t 7)))]
def impl_list.r4 : List Ent := [
  E0 0 (some 10) none (.i (.mv (.t 8))),
  E0 1 (some 6) none (.i (.mv (.t 10)))]
def impl_list.r5 : List Ent := [
  E0 0 (some 11) none (.i (.mv (.t 1))),
  E0 1 (some 12) none (.i (.mv (.t 6))),
  E0 2 (some 13) none (.ccl (.t 11) false [.t 12])]
def impl_list.r6 : List Ent := [
  E0 0 (some 14) none (.i (.mv (.t 5))),
  E0 1 (some 15) none (.i (.mv (.t 6))),
  E0 2 (some 16) none (.i (.bsl true 1 [.t 15])),
  E0 3 (some 17) none (.i (.app 1 8 (.t 14) (.t 16))),
  E0 4 (some 5) none (.i (.mv (.t 17)))]
def impl_list.r7 : List Ent := [
  E0 0 (some 18) none (.i (.bin .add (.t 8) (.k (I64 1)))),
  E0 1 (some 8) none (.i (.mv (.t 18)))]
def impl_list.b0 : KC := .seq (.reg 320 1 impl_list.r3) (.seq (.cond (.t 9) (.skip) (.exit 0)) (.seq (.block 1 (.seq (.reg 384 2 impl_list.r4) (.seq (.reg 512 3 impl_list.r5) (.cond (.t 13) (.reg 704 5 impl_list.r6) (.skip))))) (.reg 1024 2 impl_list.r7)))
def impl_list.r8 : List Ent := [
  E0 0 (some 19) none (.i (.mv (.t 5))),
  E0 1 (some 4) none (.i (.mv (.t 19)))]
def impl_list.fi : FI := { res := [.t 4], code := .seq (.reg 64 1 impl_list.r0) (.seq (.reg 128 1 impl_list.r1) (.seq (.seq (.reg 192 2 impl_list.r2) (.nrm 5 896 1 (.block 0 (.loop impl_list.b0)))) (.seq (.reg 1152 2 impl_list.r8) (.ret)))) }
attribute [go_sem] impl_list.r0 impl_list.r1 impl_list.r2 impl_list.r3 impl_list.r4 impl_list.r5 impl_list.r6 impl_list.r7 impl_list.r8
theorem impl_list.ok : chkF prog F_impl_list 2 impl_list.fi = true := by kernel_rfl

/-! impl_ReachWithin_c1 -/
def impl_ReachWithin_c1.r0 : List Ent := [
  E0 0 (some 3) none (.i (.mv (.k (.dat none (.bool false)))))]
def impl_ReachWithin_c1.r1 : List Ent := [
  E0 0 (some 4) none (.i (.load false false 1 (.t 1))),
  E0 1 (some 5) none (.i (.mv (.t 0))),
  E0 2 (some 6) none (.i (.iad 1 (.t 4) (.t 5))),
  E0 3 (some 7) none (.i (.load false false 1 (.t 6))),
  E0 4 (some 3) none (.i (.mv (.t 7)))]
def impl_ReachWithin_c1.fi : FI := { res := [.t 3], code := .seq (.reg 64 1 impl_ReachWithin_c1.r0) (.seq (.reg 128 5 impl_ReachWithin_c1.r1) (.ret)) }
attribute [go_sem] impl_ReachWithin_c1.r0 impl_ReachWithin_c1.r1
theorem impl_ReachWithin_c1.ok : chkF prog F_impl_ReachWithin_c1 2 impl_ReachWithin_c1.fi = true := by kernel_rfl

/-! impl_ReachWithin -/
def impl_ReachWithin.r0 : List Ent := [
  E0 0 (some 8) none (.i (.mv (.k (.nil 1)))),
  E0 1 (some 9) none (.i (.mv (.k (.dat none (.bool false)))))]
def impl_ReachWithin.r1 : List Ent := [
  E0 0 (some 11) none (.i (.mv (.t 0))),
  E0 1 (some 12) none (.i (.mv (.t 1))),
  E0 2 (some 13) none (.call F_impl_GoodArcs false (roA [.t 11, .t 12])),
  E0 3 (some 14) none (.i (.un .not (.t 13))),
  E0 4 (some 15) none (.i (.mv (.t 14))),
  E0 5 (some 16) (some (15, false)) (.i (.mv (.t 2))),
  E0 6 (some 17) (some (15, false)) (.i (.mv (.t 0))),
  E0 7 (some 18) (some (15, false)) (.i (.bin .sub (.t 17) (.k (I64 1)))),
  E0 8 (some 19) (some (15, false)) (.call F_impl_in false (roA [.t 16, .k (I64 0), .t 18])),
  E0 9 (some 20) (some (15, false)) (.i (.un .not (.t 19))),
  E0 10 (some 21) none (.i (.pick (.t 15) (.k (.dat none (.bool true))) (.t 20))),
  E0 11 (some 22) none (.i (.mv (.t 21))),
  E0 12 (some 23) (some (22, false)) (.i (.mv (.t 3))),
  E0 13 (some 24) (some (22, false)) (.call F_impl_in false (roA [.t 23, .k (I64 0), .k (I64 8)])),
  E0 14 (some 25) (some (22, false)) (.i (.un .not (.t 24))),
  E0 15 (some 26) none (.i (.pick (.t 22) (.k (.dat none (.bool true))) (.t 25)))]
def impl_ReachWithin.r2 : List Ent := [
  E0 0 (some 8) none (.i (.mv (.k (.nil 1)))),
  E0 1 (some 9) none (.i (.mv (.k (.dat none (.bool false)))))]
def impl_ReachWithin.r3 : List Ent := [
  E0 0 (some 27) none (.i (.mv (.t 0))),
  E0 1 (some 28) none (.i (.mv (.t 1))),
  E0 2 (some 29) none (.i (.mv (.t 2))),
  E0 3 (some 30) none (.i (.mv (.t 3))),
  E0 4 (some 31) none (.call F_impl_within false (roA [.t 27, .t 28, .t 29, .t 30])),
  E0 5 (some 10) none (.i (.box (.k (.nil 1)))),
  E0 6 none none (.i (.store 1 (.t 10) (.t 31)))]
def impl_ReachWithin.r4 : List Ent := [
  E0 0 (some 32) none (.i (.mv (.t 0))),
  E0 1 (some 33) none (.i (.mkf F_impl_ReachWithin_c1 [.t 10])),
  E0 2 (some 34) none (.call F_impl_list false (roA [.t 32, .t 33])),
  E0 3 (some 8) none (.i (.mv (.t 34))),
  E0 4 (some 9) none (.i (.mv (.k (.dat none (.bool true)))))]
def impl_ReachWithin.fi : FI := { res := [.t 8, .t 9], code := .seq (.reg 64 2 impl_ReachWithin.r0) (.seq (.seq (.reg 192 16 impl_ReachWithin.r1) (.cond (.t 26) (.seq (.reg 1216 2 impl_ReachWithin.r2) (.ret)) (.skip))) (.seq (.reg 1344 7 impl_ReachWithin.r3) (.seq (.reg 1792 5 impl_ReachWithin.r4) (.ret)))) }
attribute [go_sem] impl_ReachWithin.r0 impl_ReachWithin.r1 impl_ReachWithin.r2 impl_ReachWithin.r3 impl_ReachWithin.r4
theorem impl_ReachWithin.ok : chkF prog F_impl_ReachWithin 4 impl_ReachWithin.fi = true := by kernel_rfl

/-! laws_eqArc -/
def laws_eqArc.r0 : List Ent := [
  E0 0 (some 2) none (.i (.box (.t 0))),
  E0 1 (some 3) none (.i (.box (.t 1))),
  E0 2 (some 4) none (.i (.mv (.k (.dat none (.bool false)))))]
def laws_eqArc.r1 : List Ent := [
  E0 0 (some 5) none (.i (.fad 0 (.t 2))),
  E0 1 (some 6) none (.i (.load false false 1 (.t 5))),
  E0 2 (some 7) none (.i (.fad 0 (.t 3))),
  E0 3 (some 8) none (.i (.load false false 1 (.t 7))),
  E0 4 (some 9) none (.i (.bin .neq (.t 6) (.t 8)))]
def laws_eqArc.r2 : List Ent := [
  E0 0 (some 4) none (.i (.mv (.k (.dat none (.bool false)))))]
def laws_eqArc.r3 : List Ent := [
  E0 0 (some 10) none (.i (.fad 1 (.t 2))),
  E0 1 (some 11) none (.i (.load false false 1 (.t 10))),
  E0 2 (some 12) none (.i (.fad 1 (.t 3))),
  E0 3 (some 13) none (.i (.load false false 1 (.t 12))),
  E0 4 (some 14) none (.i (.bin .neq (.t 11) (.t 13)))]
def laws_eqArc.r4 : List Ent := [
  E0 0 (some 4) none (.i (.mv (.k (.dat none (.bool false)))))]
def laws_eqArc.r5 : List Ent := [
  E0 0 (some 4) none (.i (.mv (.k (.dat none (.bool true)))))]
def laws_eqArc.fi : FI := { res := [.t 4], code := .seq (.reg 64 3 laws_eqArc.r0) (.seq (.seq (.reg 256 5 laws_eqArc.r1) (.cond (.t 9) (.seq (.reg 576 1 laws_eqArc.r2) (.ret)) (.skip))) (.seq (.seq (.reg 640 5 laws_eqArc.r3) (.cond (.t 14) (.seq (.reg 960 1 laws_eqArc.r4) (.ret)) (.skip))) (.seq (.reg 1024 1 laws_eqArc.r5) (.ret)))) }
attribute [go_sem] laws_eqArc.r0 laws_eqArc.r1 laws_eqArc.r2 laws_eqArc.r3 laws_eqArc.r4 laws_eqArc.r5
theorem laws_eqArc.ok : chkF prog F_laws_eqArc 2 laws_eqArc.fi = true := by kernel_rfl

/-! laws_eqArcS -/
def laws_eqArcS.r0 : List Ent := [
  E0 0 (some 4) none (.i (.mv (.k (.dat none (.bool false)))))]
def laws_eqArcS.r1 : List Ent := [
  E0 0 (some 6) none (.i (.mv (.t 0))),
  E0 1 (some 7) none (.i (.len (.t 6))),
  E0 2 (some 8) none (.i (.mv (.t 1))),
  E0 3 (some 9) none (.i (.len (.t 8))),
  E0 4 (some 10) none (.i (.bin .neq (.t 7) (.t 9)))]
def laws_eqArcS.r2 : List Ent := [
  E0 0 (some 4) none (.i (.mv (.k (.dat none (.bool false)))))]
def laws_eqArcS.r3 : List Ent := [
  E0 0 (some 5) none (.i (.mv (.k (I64 0))))]
def laws_eqArcS.r4 : List Ent := [
  E0 0 (some 11) none (.i (.mv (.t 5))),
  E0 1 (some 12) none (.i (.mv (.t 0))),
  E0 2 (some 13) none (.i (.len (.t 12))),
  E0 3 (some 14) none (.i (.bin .lss (.t 11) (.t 13)))]
def laws_eqArcS.r5 : List Ent := [
  E0 0 (some 17) none (.i (.mv (.t 0))),
  E0 1 (some 18) none (.i (.mv (.t 5))),
  ER 2 (some 19) none (.iad 2 (.t 17) (.t 18)),
  ER 3 (some 20) none (.load false true 2 (.t 19)),
  E0 4 (some 21) none (.i (.mv (.t 1))),
  E0 5 (some 22) none (.i (.mv (.t 5))),
  ER 6 (some 23) none (.iad 2 (.t 21) (.t 22)),
  ER 7 (some 24) none (.load false true 2 (.t 23)),
  E0 8 (some 25) none (.call F_laws_eqArc false (roA [.t 20, .t 24])),
  E0 9 (some 26) none (.i (.un .not (.t 25)))]
def laws_eqArcS.r6 : List Ent := [
  E0 0 (some 4) none (.i (.mv (.k (.dat none (.bool false)))))]
def laws_eqArcS.r7 : List Ent := [
  E0 0 (some 15) none (.i (.mv (.t 5))),
  E0 1 (some 16) none (.i (.bin .add (.t 15) (.k (I64 1)))),
  E0 2 (some 5) none (.i (.mv (.t 16)))]
def laws_eqArcS.b0 : KC := .seq (.seq (.reg 576 4 laws_eqArcS.r4) (.cond (.t 14) (.skip) (.exit 0))) (.seq (.block 1 (.seq (.reg 832 10 laws_eqArcS.r5) (.cond (.t 26) (.seq (.reg 1472 1 laws_eqArcS.r6) (.ret)) (.skip)))) (.reg 1536 3 laws_eqArcS.r7))
def laws_eqArcS.r8 : List Ent := [
  E0 0 (some 4) none (.i (.mv (.k (.dat none (.bool true)))))]
def laws_eqArcS.fi : FI := { res := [.t 4], code := .seq (.reg 64 1 laws_eqArcS.r0) (.seq (.seq (.reg 128 5 laws_eqArcS.r1) (.cond (.t 10) (.seq (.reg 448 1 laws_eqArcS.r2) (.ret)) (.skip))) (.seq (.seq (.reg 512 1 laws_eqArcS.r3) (.block 0 (.loop laws_eqArcS.b0))) (.seq (.reg 1728 1 laws_eqArcS.r8) (.ret)))) }
attribute [go_sem] laws_eqArcS.r0 laws_eqArcS.r1 laws_eqArcS.r2 laws_eqArcS.r3 laws_eqArcS.r4 laws_eqArcS.r5 laws_eqArcS.r6 laws_eqArcS.r7 laws_eqArcS.r8
theorem laws_eqArcS.ok : chkF prog F_laws_eqArcS 2 laws_eqArcS.fi = true := by kernel_rfl

/-! laws_markArcS -/
def laws_markArcS.r0 : List Ent := [
  E0 0 (some 4) none (.i (.mv (.k (I64 0))))]
def laws_markArcS.r1 : List Ent := [
  E0 0 (some 5) none (.i (.mv (.k (I64 0))))]
def laws_markArcS.r2 : List Ent := [
  E0 0 (some 6) none (.i (.mv (.t 5))),
  E0 1 (some 7) none (.i (.mv (.t 0))),
  E0 2 (some 8) none (.i (.len (.t 7))),
  E0 3 (some 9) none (.i (.bin .lss (.t 6) (.t 8)))]
def laws_markArcS.r3 : List Ent := [
  E0 0 (some 12) none (.i (.mv (.t 0))),
  E0 1 (some 13) none (.i (.mv (.t 5))),
  E0 2 (some 14) none (.i (.mv (.t 1))),
  E0 3 (some 15) none (.i (.iad 2 (.t 12) (.t 13))),
  E0 4 (some 16) none (.i (.fad 0 (.t 15))),
  E0 5 none none (.i (.store 1 (.t 16) (.t 14)))]
def laws_markArcS.r4 : List Ent := [
  E0 0 (some 17) none (.i (.mv (.t 1))),
  E0 1 (some 18) none (.i (.bin .add (.t 17) (.k (I64 1)))),
  E0 2 (some 1) none (.i (.mv (.t 18)))]
def laws_markArcS.r5 : List Ent := [
  E0 0 (some 19) none (.i (.mv (.t 0))),
  E0 1 (some 20) none (.i (.mv (.t 5))),
  E0 2 (some 21) none (.i (.mv (.t 1))),
  E0 3 (some 22) none (.i (.iad 2 (.t 19) (.t 20))),
  E0 4 (some 23) none (.i (.fad 1 (.t 22))),
  E0 5 none none (.i (.store 1 (.t 23) (.t 21)))]
def laws_markArcS.r6 : List Ent := [
  E0 0 (some 24) none (.i (.mv (.t 1))),
  E0 1 (some 25) none (.i (.bin .add (.t 24) (.k (I64 1)))),
  E0 2 (some 1) none (.i (.mv (.t 25)))]
def laws_markArcS.r7 : List Ent := [
  E0 0 (some 10) none (.i (.mv (.t 5))),
  E0 1 (some 11) none (.i (.bin .add (.t 10) (.k (I64 1)))),
  E0 2 (some 5) none (.i (.mv (.t 11)))]
def laws_markArcS.b0 : KC := .seq (.seq (.reg 192 4 laws_markArcS.r2) (.cond (.t 9) (.skip) (.exit 0))) (.seq (.block 1 (.seq (.reg 448 6 laws_markArcS.r3) (.seq (.reg 832 3 laws_markArcS.r4) (.seq (.reg 1024 6 laws_markArcS.r5) (.reg 1408 3 laws_markArcS.r6))))) (.reg 1600 3 laws_markArcS.r7))
def laws_markArcS.r8 : List Ent := [
  E0 0 (some 26) none (.i (.mv (.t 1))),
  E0 1 (some 4) none (.i (.mv (.t 26)))]
def laws_markArcS.fi : FI := { res := [.t 4], code := .seq (.reg 64 1 laws_markArcS.r0) (.seq (.seq (.reg 128 1 laws_markArcS.r1) (.block 0 (.loop laws_markArcS.b0))) (.seq (.reg 1792 2 laws_markArcS.r8) (.ret))) }
attribute [go_sem] laws_markArcS.r0 laws_markArcS.r1 laws_markArcS.r2 laws_markArcS.r3 laws_markArcS.r4 laws_markArcS.r5 laws_markArcS.r6 laws_markArcS.r7 laws_markArcS.r8
theorem laws_markArcS.ok : chkF prog F_laws_markArcS 2 laws_markArcS.fi = true := by kernel_rfl

/-! laws_FnExactReachWithin -/
def laws_FnExactReachWithin.r0 : List Ent := [
  E0 0 (some 8) none (.i (.mv (.k (.dat none (.bool false)))))]
def laws_FnExactReachWithin.r1 : List Ent := [
  E0 0 (some 9) none (.i (.mv (.k (I64 1048576))))]
def laws_FnExactReachWithin.r2 : List Ent := [
  E0 0 (some 20) none (.i (.mv (.t 1))),
  E0 1 (some 21) none (.i (.mv (.t 9))),
  E0 2 (some 22) none (.call F_laws_szArcS false (roA [.t 20, .t 21])),
  E0 3 (some 9) none (.i (.mv (.t 22)))]
def laws_FnExactReachWithin.r3 : List Ent := [
  E0 0 (some 23) none (.i (.mv (.t 9))),
  E0 1 (some 24) none (.i (.bin .lss (.t 23) (.k (I64 0))))]
def laws_FnExactReachWithin.r4 : List Ent := [
  E0 0 (some 8) none (.i (.mv (.k (.dat none (.bool true)))))]
def laws_FnExactReachWithin.r5 : List Ent := [
  E0 0 (some 26) none (.i (.mv (.t 0))),
  E0 1 (some 27) none (.i (.mv (.t 1))),
  E0 2 (some 28) none (.call F_laws_toArcS false (roA [.t 27])),
  E0 3 (some 29) none (.i (.mv (.t 2))),
  E0 4 (some 30) none (.i (.mv (.t 3))),
  E0 5 (some 31) none (.call F_spec_ReachWithin false (roA [.t 26, .t 28, .t 29, .t 30])),
  E0 6 (some 25) none (.i (.mv (.t 31))),
  E0 7 (some 32) none (.i (.ext 0 (.t 25))),
  E0 8 (some 33) none (.i (.ext 1 (.t 25))),
  E0 9 (some 10) none (.i (.mv (.t 32))),
  E0 10 (some 11) none (.i (.mv (.t 33)))]
def laws_FnExactReachWithin.r6 : List Ent := [
  E0 0 (some 34) none (.i (.mv (.t 1))),
  E0 1 (some 35) none (.call F_laws_toArcS false (roA [.t 34])),
  E0 2 (some 12) none (.i (.mv (.t 35)))]
def laws_FnExactReachWithin.r7 : List Ent := [
  E0 0 (some 37) none (.i (.mv (.t 0))),
  E0 1 (some 38) none (.i (.mv (.t 12))),
  E0 2 (some 39) none (.i (.mv (.t 2))),
  E0 3 (some 40) none (.i (.mv (.t 3))),
  E0 4 (some 41) none (.call F_impl_ReachWithin false (roA [.t 37, .t 38, .t 39, .t 40])),
  E0 5 (some 36) none (.i (.mv (.t 41))),
  E0 6 (some 42) none (.i (.ext 0 (.t 36))),
  E0 7 (some 43) none (.i (.ext 1 (.t 36))),
  E0 8 (some 13) none (.i (.mv (.t 42))),
  E0 9 (some 14) none (.i (.mv (.t 43)))]
def laws_FnExactReachWithin.r8 : List Ent := [
  E0 0 (some 44) none (.i (.mv (.t 13))),
  E0 1 (some 45) none (.i (.mv (.t 10))),
  E0 2 (some 46) none (.call F_laws_eqIntS false (roA [.t 44, .t 45])),
  E0 3 (some 47) none (.i (.un .not (.t 46))),
  E0 4 (some 48) none (.i (.mv (.t 47))),
  E0 5 (some 49) (some (48, false)) (.i (.mv (.t 14))),
  E0 6 (some 50) (some (48, false)) (.i (.mv (.t 11))),
  E0 7 (some 51) (some (48, false)) (.i (.eqb true (.t 49) (.t 50))),
  E0 8 (some 52) none (.i (.pick (.t 48) (.k (.dat none (.bool true))) (.t 51)))]
def laws_FnExactReachWithin.r9 : List Ent := [
  E0 0 (some 8) none (.i (.mv (.k (.dat none (.bool false)))))]
def laws_FnExactReachWithin.r10 : List Ent := [
  E0 0 (some 53) none (.i (.mv (.t 12))),
  E0 1 (some 54) none (.i (.mv (.t 1))),
  E0 2 (some 55) none (.call F_laws_toArcS false (roA [.t 54])),
  E0 3 (some 56) none (.call F_laws_eqArcS false (roA [.t 53, .t 55])),
  E0 4 (some 57) none (.i (.un .not (.t 56)))]
def laws_FnExactReachWithin.r11 : List Ent := [
  E0 0 (some 8) none (.i (.mv (.k (.dat none (.bool false)))))]
def laws_FnExactReachWithin.r12 : List Ent := [
  E0 0 (some 15) none (.i (.mv (.k (I64 1))))]
def laws_FnExactReachWithin.r13 : List Ent := [
  E0 0 (some 58) none (.i (.mv (.t 12))),
  E0 1 (some 59) none (.i (.mv (.t 15))),
  E0 2 (some 60) none (.call F_laws_markArcS false [(.io, .t 58), (.ro, .t 59)]),
  E0 3 (some 15) none (.i (.mv (.t 60)))]
def laws_FnExactReachWithin.r14 : List Ent := [
  E0 0 (some 61) none (.i (.mv (.t 15))),
  E0 1 (some 62) none (.i (.bin .lss (.t 61) (.k (I64 0)))),
  E0 2 (some 63) none (.i (.mv (.t 62))),
  E0 3 (some 64) (some (63, false)) (.i (.mv (.t 13))),
  E0 4 (some 65) (some (63, false)) (.i (.mv (.t 10))),
  E0 5 (some 66) (some (63, false)) (.call F_laws_eqIntS false (roA [.t 64, .t 65])),
  E0 6 (some 67) (some (63, false)) (.i (.un .not (.t 66))),
  E0 7 (some 68) none (.i (.pick (.t 63) (.k (.dat none (.bool true))) (.t 67))),
  E0 8 (some 69) none (.i (.mv (.t 68))),
  E0 9 (some 70) (some (69, false)) (.i (.mv (.t 14))),
  E0 10 (some 71) (some (69, false)) (.i (.mv (.t 11))),
  E0 11 (some 72) (some (69, false)) (.i (.eqb true (.t 70) (.t 71))),
  E0 12 (some 73) none (.i (.pick (.t 69) (.k (.dat none (.bool true))) (.t 72)))]
def laws_FnExactReachWithin.r15 : List Ent := [
  E0 0 (some 8) none (.i (.mv (.k (.dat none (.bool false)))))]
def laws_FnExactReachWithin.r16 : List Ent := [
  E0 0 (some 16) none (.i (.mv (.k (I64 1))))]
def laws_FnExactReachWithin.r17 : List Ent := [
  E0 0 (some 74) none (.i (.mv (.t 13))),
  E0 1 (some 75) none (.i (.mv (.t 16))),
  E0 2 (some 76) none (.call F_laws_markIntS false [(.io, .t 74), (.ro, .t 75)]),
  E0 3 (some 16) none (.i (.mv (.t 76)))]
def laws_FnExactReachWithin.r18 : List Ent := [
  E0 0 (some 17) none (.i (.mv (.k (I64 1))))]
def laws_FnExactReachWithin.r19 : List Ent := [
  E0 0 (some 77) none (.i (.mv (.t 13))),
  E0 1 (some 78) none (.i (.mv (.t 17))),
  E0 2 (some 79) none (.call F_laws_heldIntS false (roA [.t 77, .t 78])),
  E0 3 (some 17) none (.i (.mv (.t 79)))]
def laws_FnExactReachWithin.r20 : List Ent := [
  E0 0 (some 80) none (.i (.mv (.t 17))),
  E0 1 (some 81) none (.i (.bin .lss (.t 80) (.k (I64 0))))]
def laws_FnExactReachWithin.r21 : List Ent := [
  E0 0 (some 8) none (.i (.mv (.k (.dat none (.bool false)))))]
def laws_FnExactReachWithin.r22 : List Ent := [
  E0 0 (some 82) none (.i (.mv (.t 17))),
  E0 1 (some 83) none (.i (.mv (.t 16))),
  E0 2 (some 84) none (.i (.bin .neq (.t 82) (.t 83)))]
def laws_FnExactReachWithin.r23 : List Ent := [
  E0 0 (some 8) none (.i (.mv (.k (.dat none (.bool false)))))]
def laws_FnExactReachWithin.r24 : List Ent := [
  E0 0 (some 86) none (.i (.mv (.t 0))),
  E0 1 (some 87) none (.i (.mv (.t 1))),
  E0 2 (some 88) none (.call F_laws_toArcS false (roA [.t 87])),
  E0 3 (some 89) none (.i (.mv (.t 2))),
  E0 4 (some 90) none (.i (.mv (.t 3))),
  E0 5 (some 91) none (.call F_impl_ReachWithin false (roA [.t 86, .t 88, .t 89, .t 90])),
  E0 6 (some 85) none (.i (.mv (.t 91))),
  E0 7 (some 92) none (.i (.ext 0 (.t 85))),
  E0 8 (some 93) none (.i (.ext 1 (.t 85))),
  E0 9 (some 18) none (.i (.mv (.t 92))),
  E0 10 (some 19) none (.i (.mv (.t 93)))]
def laws_FnExactReachWithin.r25 : List Ent := [
  E0 0 (some 94) none (.i (.mv (.t 18))),
  E0 1 (some 95) none (.i (.mv (.t 10))),
  E0 2 (some 96) none (.call F_laws_eqIntS false (roA [.t 94, .t 95])),
  E0 3 (some 97) none (.i (.un .not (.t 96))),
  E0 4 (some 98) none (.i (.mv (.t 97))),
  E0 5 (some 99) (some (98, false)) (.i (.mv (.t 19))),
  E0 6 (some 100) (some (98, false)) (.i (.mv (.t 11))),
  E0 7 (some 101) (some (98, false)) (.i (.eqb true (.t 99) (.t 100))),
  E0 8 (some 102) none (.i (.pick (.t 98) (.k (.dat none (.bool true))) (.t 101)))]
def laws_FnExactReachWithin.r26 : List Ent := [
  E0 0 (some 8) none (.i (.mv (.k (.dat none (.bool false)))))]
def laws_FnExactReachWithin.r27 : List Ent := [
  E0 0 (some 17) none (.i (.mv (.k (I64 1))))]
def laws_FnExactReachWithin.r28 : List Ent := [
  E0 0 (some 103) none (.i (.mv (.t 13))),
  E0 1 (some 104) none (.i (.mv (.t 17))),
  E0 2 (some 105) none (.call F_laws_heldIntS false (roA [.t 103, .t 104])),
  E0 3 (some 17) none (.i (.mv (.t 105)))]
def laws_FnExactReachWithin.r29 : List Ent := [
  E0 0 (some 106) none (.i (.mv (.t 17))),
  E0 1 (some 107) none (.i (.bin .lss (.t 106) (.k (I64 0))))]
def laws_FnExactReachWithin.r30 : List Ent := [
  E0 0 (some 8) none (.i (.mv (.k (.dat none (.bool false)))))]
def laws_FnExactReachWithin.r31 : List Ent := [
  E0 0 (some 108) none (.i (.mv (.t 17))),
  E0 1 (some 109) none (.i (.mv (.t 16))),
  E0 2 (some 110) none (.i (.bin .neq (.t 108) (.t 109)))]
def laws_FnExactReachWithin.r32 : List Ent := [
  E0 0 (some 8) none (.i (.mv (.k (.dat none (.bool false)))))]
def laws_FnExactReachWithin.r33 : List Ent := [
  E0 0 (some 8) none (.i (.mv (.k (.dat none (.bool true)))))]
def laws_FnExactReachWithin.fi : FI := { res := [.t 8], code := .seq (.reg 64 1 laws_FnExactReachWithin.r0) (.seq (.reg 128 1 laws_FnExactReachWithin.r1) (.seq (.reg 192 4 laws_FnExactReachWithin.r2) (.seq (.seq (.reg 448 2 laws_FnExactReachWithin.r3) (.cond (.t 24) (.seq (.reg 576 1 laws_FnExactReachWithin.r4) (.ret)) (.skip))) (.seq (.reg 640 11 laws_FnExactReachWithin.r5) (.seq (.reg 1344 3 laws_FnExactReachWithin.r6) (.seq (.reg 1536 10 laws_FnExactReachWithin.r7) (.seq (.seq (.reg 2176 9 laws_FnExactReachWithin.r8) (.cond (.t 52) (.seq (.reg 2752 1 laws_FnExactReachWithin.r9) (.ret)) (.skip))) (.seq (.seq (.reg 2816 5 laws_FnExactReachWithin.r10) (.cond (.t 57) (.seq (.reg 3136 1 laws_FnExactReachWithin.r11) (.ret)) (.skip))) (.seq (.reg 3200 1 laws_FnExactReachWithin.r12) (.seq (.reg 3264 4 laws_FnExactReachWithin.r13) (.seq (.seq (.reg 3520 13 laws_FnExactReachWithin.r14) (.cond (.t 73) (.seq (.reg 4352 1 laws_FnExactReachWithin.r15) (.ret)) (.skip))) (.seq (.reg 4416 1 laws_FnExactReachWithin.r16) (.seq (.reg 4480 4 laws_FnExactReachWithin.r17) (.seq (.reg 4736 1 laws_FnExactReachWithin.r18) (.seq (.reg 4800 4 laws_FnExactReachWithin.r19) (.seq (.seq (.reg 5056 2 laws_FnExactReachWithin.r20) (.cond (.t 81) (.seq (.reg 5184 1 laws_FnExactReachWithin.r21) (.ret)) (.skip))) (.seq (.seq (.reg 5248 3 laws_FnExactReachWithin.r22) (.cond (.t 84) (.seq (.reg 5440 1 laws_FnExactReachWithin.r23) (.ret)) (.skip))) (.seq (.reg 5504 11 laws_FnExactReachWithin.r24) (.seq (.seq (.reg 6208 9 laws_FnExactReachWithin.r25) (.cond (.t 102) (.seq (.reg 6784 1 laws_FnExactReachWithin.r26) (.ret)) (.skip))) (.seq (.reg 6848 1 laws_FnExactReachWithin.r27) (.seq (.reg 6912 4 laws_FnExactReachWithin.r28) (.seq (.seq (.reg 7168 2 laws_FnExactReachWithin.r29) (.cond (.t 107) (.seq (.reg 7296 1 laws_FnExactReachWithin.r30) (.ret)) (.skip))) (.seq (.seq (.reg 7360 3 laws_FnExactReachWithin.r31) (.cond (.t 110) (.seq (.reg 7552 1 laws_FnExactReachWithin.r32) (.ret)) (.skip))) (.seq (.reg 7616 1 laws_FnExactReachWithin.r33) (.ret))))))))))))))))))))))))) }
attribute [go_sem] laws_FnExactReachWithin.r0 laws_FnExactReachWithin.r1 laws_FnExactReachWithin.r2 laws_FnExactReachWithin.r3 laws_FnExactReachWithin.r4 laws_FnExactReachWithin.r5 laws_FnExactReachWithin.r6 laws_FnExactReachWithin.r7 laws_FnExactReachWithin.r8 laws_FnExactReachWithin.r9 laws_FnExactReachWithin.r10 laws_FnExactReachWithin.r11 laws_FnExactReachWithin.r12 laws_FnExactReachWithin.r13 laws_FnExactReachWithin.r14 laws_FnExactReachWithin.r15 laws_FnExactReachWithin.r16 laws_FnExactReachWithin.r17 laws_FnExactReachWithin.r18 laws_FnExactReachWithin.r19 laws_FnExactReachWithin.r20 laws_FnExactReachWithin.r21 laws_FnExactReachWithin.r22 laws_FnExactReachWithin.r23 laws_FnExactReachWithin.r24 laws_FnExactReachWithin.r25 laws_FnExactReachWithin.r26 laws_FnExactReachWithin.r27 laws_FnExactReachWithin.r28 laws_FnExactReachWithin.r29 laws_FnExactReachWithin.r30 laws_FnExactReachWithin.r31 laws_FnExactReachWithin.r32 laws_FnExactReachWithin.r33
theorem laws_FnExactReachWithin.ok : chkF prog F_laws_FnExactReachWithin 4 laws_FnExactReachWithin.fi = true := by kernel_rfl
end Go.Vm.Ytedcnkglldmkbaa
