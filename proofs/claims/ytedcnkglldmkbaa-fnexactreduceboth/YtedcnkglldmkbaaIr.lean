/- The functions that the law reaches, in the text of the interpreter, and that this text fits them (no condition). -/
import Derived.Test.YtedcnkglldmkbaaVmc
import Derived.Test.YtedcnkglldmkbaaProg
import Derived.KernelRfl
/- PRINTED BY irgen.py, a program of this claim's author: the functions that the claim reaches, in the text of the interpreter, and that they fit. -/
namespace Go.Vm.Ytedcnkglldmkbaa
open Go Go.Vm
set_option linter.unusedVariables false
set_option maxRecDepth 100000
noncomputable abbrev prog : Program := Go.Proofs.Try.prog
abbrev F_laws_FnExactReduceBoth : FuncId := 3
abbrev F_laws_FnExactGoodRules : FuncId := 4
abbrev F_laws_FnExactMeetOf : FuncId := 5
abbrev F_laws_FnExactIsTwo : FuncId := 6
abbrev F_laws_FnExactTwoOf : FuncId := 7
abbrev F_laws_FnExactHoldsIn : FuncId := 8
abbrev F_laws_FnExactIsHorn : FuncId := 9
abbrev F_laws_FnExactReachWithin : FuncId := 10
abbrev F_laws_FnExactBackArcs : FuncId := 11
abbrev F_laws_FnExactWhyOf : FuncId := 12
abbrev F_laws_FnExactLeastOf : FuncId := 13
abbrev F_laws_FnExactRulesAsClauses : FuncId := 14
abbrev F_spec_ReduceBoth : FuncId := 15
abbrev F_laws_toStretch : FuncId := 16
abbrev F_laws_toKnown : FuncId := 17
abbrev F_impl_ReduceBoth : FuncId := 18
abbrev F_laws_eqStretch : FuncId := 19
abbrev F_laws_eqKnown : FuncId := 20
abbrev F_laws_szRuleS : FuncId := 21
abbrev F_spec_GoodRules : FuncId := 22
abbrev F_laws_toRuleS : FuncId := 23
abbrev F_impl_GoodRules : FuncId := 24
abbrev F_laws_eqRuleS : FuncId := 25
abbrev F_spec_MeetOf : FuncId := 26
abbrev F_laws_toIntS : FuncId := 27
abbrev F_impl_MeetOf : FuncId := 28
abbrev F_laws_eqIntS : FuncId := 29
abbrev F_laws_markIntS : FuncId := 30
abbrev F_laws_heldIntS : FuncId := 31
abbrev F_laws_szIntSS : FuncId := 32
abbrev F_spec_IsTwo : FuncId := 33
abbrev F_laws_toIntSS : FuncId := 34
abbrev F_impl_IsTwo : FuncId := 35
abbrev F_laws_eqIntSS : FuncId := 36
abbrev F_spec_TwoOf : FuncId := 37
abbrev F_impl_TwoOf : FuncId := 38
abbrev F_laws_markIntSS : FuncId := 39
abbrev F_laws_heldIntSS : FuncId := 40
abbrev F_spec_HoldsIn : FuncId := 41
abbrev F_impl_HoldsIn : FuncId := 42
abbrev F_spec_IsHorn : FuncId := 43
abbrev F_impl_IsHorn : FuncId := 44
abbrev F_laws_szArcS : FuncId := 45
abbrev F_spec_ReachWithin : FuncId := 46
abbrev F_laws_toArcS : FuncId := 47
abbrev F_impl_ReachWithin : FuncId := 48
abbrev F_laws_eqArcS : FuncId := 49
abbrev F_laws_markArcS : FuncId := 50
abbrev F_spec_BackArcs : FuncId := 51
abbrev F_impl_BackArcs : FuncId := 52
abbrev F_spec_WhyOf : FuncId := 53
abbrev F_impl_WhyOf : FuncId := 54
abbrev F_laws_markRuleS : FuncId := 55
abbrev F_spec_LeastOf : FuncId := 56
abbrev F_impl_LeastOf : FuncId := 57
abbrev F_spec_RulesAsClauses : FuncId := 58
abbrev F_impl_RulesAsClauses : FuncId := 59
abbrev F_spec_GoodStretch : FuncId := 60
abbrev F_spec_GoodKnown : FuncId := 61
abbrev F_spec_l13Reduce : FuncId := 62
abbrev F_impl_GoodStretch : FuncId := 63
abbrev F_impl_GoodKnown : FuncId := 64
abbrev F_impl_reduceBoth : FuncId := 65
abbrev F_laws_szRule : FuncId := 66
abbrev F_spec_l16Facts : FuncId := 67
abbrev F_spec_l1In : FuncId := 68
abbrev F_laws_toRule : FuncId := 69
abbrev F_impl_in : FuncId := 70
abbrev F_slices_ContainsFunc__sRule_Rule : FuncId := 71
abbrev F_impl_GoodRules_c1 : FuncId := 72
abbrev F_impl_areFacts : FuncId := 73
abbrev F_laws_eqRule : FuncId := 74
abbrev F_spec_l1Has : FuncId := 75
abbrev F_slices_DeleteFunc__sint_int : FuncId := 76
abbrev F_slices_Clone__sint_int : FuncId := 77
abbrev F_impl_MeetOf_c1 : FuncId := 78
abbrev F_slices_Contains__sint_int : FuncId := 79
abbrev F_laws_szIntS : FuncId := 80
abbrev F_spec_GoodClauses : FuncId := 81
abbrev F_impl_GoodClauses : FuncId := 82
abbrev F_slices_ContainsFunc__ssint_sint : FuncId := 83
abbrev F_impl_IsTwo_c1 : FuncId := 84
abbrev F_spec_l4Clause : FuncId := 85
abbrev F_impl_isClause : FuncId := 86
abbrev F_spec_l16All : FuncId := 87
abbrev F_impl_HoldsIn_c1 : FuncId := 88
abbrev F_impl_Rule_met : FuncId := 89
abbrev F_impl_IsHorn_c1 : FuncId := 90
abbrev F_spec_GoodArcs : FuncId := 91
abbrev F_spec_l12Reach : FuncId := 92
abbrev F_laws_toArc : FuncId := 93
abbrev F_impl_GoodArcs : FuncId := 94
abbrev F_impl_within : FuncId := 95
abbrev F_impl_list : FuncId := 96
abbrev F_impl_ReachWithin_c1 : FuncId := 97
abbrev F_laws_eqArc : FuncId := 98
abbrev F_impl_BackArcs_c1 : FuncId := 99
abbrev F_spec_l16Least : FuncId := 100
abbrev F_impl_least : FuncId := 101
abbrev F_slices_IndexFunc__sint_int : FuncId := 102
abbrev F_impl_WhyOf_c1 : FuncId := 103
abbrev F_impl_LeastOf_c1 : FuncId := 104
abbrev F_impl_LeastOf_c2 : FuncId := 105
abbrev F_spec_l5Negate : FuncId := 106
abbrev F_impl_learn : FuncId := 107
abbrev F_spec_l1Word : FuncId := 108
abbrev F_spec_l1Most : FuncId := 109
abbrev F_spec_l1Least : FuncId := 110
abbrev F_spec_l10May : FuncId := 111
abbrev F_impl_isWord : FuncId := 112
abbrev F_impl_Known_matches : FuncId := 113
abbrev F_impl_exact : FuncId := 114
abbrev F_spec_l1Rising : FuncId := 115
abbrev F_slices_IndexFunc__sRule_Rule : FuncId := 116
abbrev F_slices_Index__sint_int : FuncId := 117
abbrev F_spec_l4Good : FuncId := 118
abbrev F_impl_areClauses : FuncId := 119
abbrev F_slices_IndexFunc__ssint_sint : FuncId := 120
abbrev F_impl_isLiteral : FuncId := 121
abbrev F_slices_ContainsFunc__sint_int : FuncId := 122
abbrev F_impl_isClause_c1 : FuncId := 123
abbrev F_impl_variable : FuncId := 124
abbrev F_impl_Rule_met_c1 : FuncId := 125
abbrev F_spec_l1Put : FuncId := 126
abbrev F_impl_isSpots : FuncId := 127
abbrev F_slices_Clone__sbool_bool : FuncId := 128
abbrev F_impl_least_c1 : FuncId := 129
abbrev F_impl_areClauses_c1 : FuncId := 130

/-! spec_l1In -/
def spec_l1In.r0 : List Ent := [
  E0 0 (some 6) none (.i (.mv (.k (.dat none (.bool false)))))]
def spec_l1In.r1 : List Ent := [
  E0 0 (some 7) none (.i (.mv (.t 0))),
  E0 1 (some 8) none (.i (.mv (.t 1))),
  E0 2 (some 9) none (.i (.bin .geq (.t 7) (.t 8))),
  E0 3 (some 10) none (.i (.mv (.t 9))),
  E0 4 (some 11) (some (10, true)) (.i (.mv (.t 0))),
  E0 5 (some 12) (some (10, true)) (.i (.mv (.t 2))),
  E0 6 (some 13) (some (10, true)) (.i (.bin .leq (.t 11) (.t 12))),
  E0 7 (some 14) none (.i (.pick (.t 10) (.t 13) (.k (.dat none (.bool false))))),
  E0 8 (some 6) none (.i (.mv (.t 14)))]
def spec_l1In.fi : FI := { res := [.t 6], code := .seq (.reg 64 1 spec_l1In.r0) (.seq (.reg 128 9 spec_l1In.r1) (.ret)) }
attribute [go_sem] spec_l1In.r0 spec_l1In.r1
theorem spec_l1In.ok : chkF prog F_spec_l1In 3 spec_l1In.fi = true := by kernel_rfl

/-! spec_l1Word -/
def spec_l1Word.r0 : List Ent := [
  E0 0 (some 2) none (.i (.mv (.k (.dat none (.bool false)))))]
def spec_l1Word.r1 : List Ent := [
  E0 0 (some 3) none (.i (.mv (.t 0))),
  E0 1 (some 4) none (.call F_spec_l1In false (roA [.t 3, .k (I64 0), .k (I64 65535)])),
  E0 2 (some 2) none (.i (.mv (.t 4)))]
def spec_l1Word.fi : FI := { res := [.t 2], code := .seq (.reg 64 1 spec_l1Word.r0) (.seq (.reg 128 3 spec_l1Word.r1) (.ret)) }
attribute [go_sem] spec_l1Word.r0 spec_l1Word.r1
theorem spec_l1Word.ok : chkF prog F_spec_l1Word 1 spec_l1Word.fi = true := by kernel_rfl

/-! spec_GoodStretch -/
def spec_GoodStretch.r0 : List Ent := [
  E0 0 (some 1) none (.i (.box (.t 0))),
  E0 1 (some 2) none (.i (.mv (.k (.dat none (.bool false)))))]
def spec_GoodStretch.r1 : List Ent := [
  E0 0 (some 3) none (.i (.fad 0 (.t 1))),
  E0 1 (some 4) none (.i (.load false false 1 (.t 3))),
  E0 2 (some 5) none (.call F_spec_l1Word false (roA [.t 4])),
  E0 3 (some 6) none (.i (.mv (.t 5))),
  E0 4 (some 7) (some (6, true)) (.i (.fad 1 (.t 1))),
  E0 5 (some 8) (some (6, true)) (.i (.load false false 1 (.t 7))),
  E0 6 (some 9) (some (6, true)) (.call F_spec_l1Word false (roA [.t 8])),
  E0 7 (some 10) none (.i (.pick (.t 6) (.t 9) (.k (.dat none (.bool false))))),
  E0 8 (some 11) none (.i (.mv (.t 10))),
  E0 9 (some 12) (some (11, true)) (.i (.fad 0 (.t 1))),
  E0 10 (some 13) (some (11, true)) (.i (.load false false 1 (.t 12))),
  E0 11 (some 14) (some (11, true)) (.i (.fad 1 (.t 1))),
  E0 12 (some 15) (some (11, true)) (.i (.load false false 1 (.t 14))),
  E0 13 (some 16) (some (11, true)) (.i (.bin .leq (.t 13) (.t 15))),
  E0 14 (some 17) none (.i (.pick (.t 11) (.t 16) (.k (.dat none (.bool false))))),
  E0 15 (some 2) none (.i (.mv (.t 17)))]
def spec_GoodStretch.fi : FI := { res := [.t 2], code := .seq (.reg 64 2 spec_GoodStretch.r0) (.seq (.reg 192 16 spec_GoodStretch.r1) (.ret)) }
attribute [go_sem] spec_GoodStretch.r0 spec_GoodStretch.r1
theorem spec_GoodStretch.ok : chkF prog F_spec_GoodStretch 1 spec_GoodStretch.fi = true := by kernel_rfl

/-! spec_GoodKnown -/
def spec_GoodKnown.r0 : List Ent := [
  E0 0 (some 1) none (.i (.box (.t 0))),
  E0 1 (some 2) none (.i (.mv (.k (.dat none (.bool false)))))]
def spec_GoodKnown.r1 : List Ent := [
  E0 0 (some 3) none (.i (.fad 0 (.t 1))),
  E0 1 (some 4) none (.i (.load false false 1 (.t 3))),
  E0 2 (some 5) none (.call F_spec_l1Word false (roA [.t 4])),
  E0 3 (some 6) none (.i (.mv (.t 5))),
  E0 4 (some 7) (some (6, true)) (.i (.fad 1 (.t 1))),
  E0 5 (some 8) (some (6, true)) (.i (.load false false 1 (.t 7))),
  E0 6 (some 9) (some (6, true)) (.call F_spec_l1Word false (roA [.t 8])),
  E0 7 (some 10) none (.i (.pick (.t 6) (.t 9) (.k (.dat none (.bool false))))),
  E0 8 (some 11) none (.i (.mv (.t 10))),
  E0 9 (some 12) (some (11, true)) (.i (.fad 0 (.t 1))),
  E0 10 (some 13) (some (11, true)) (.i (.load false false 1 (.t 12))),
  E0 11 (some 14) (some (11, true)) (.i (.fad 1 (.t 1))),
  E0 12 (some 15) (some (11, true)) (.i (.load false false 1 (.t 14))),
  E0 13 (some 16) (some (11, true)) (.i (.bin .and (.t 13) (.t 15))),
  E0 14 (some 17) (some (11, true)) (.i (.bin .eql (.t 16) (.k (I64 0)))),
  E0 15 (some 18) none (.i (.pick (.t 11) (.t 17) (.k (.dat none (.bool false))))),
  E0 16 (some 2) none (.i (.mv (.t 18)))]
def spec_GoodKnown.fi : FI := { res := [.t 2], code := .seq (.reg 64 2 spec_GoodKnown.r0) (.seq (.reg 192 17 spec_GoodKnown.r1) (.ret)) }
attribute [go_sem] spec_GoodKnown.r0 spec_GoodKnown.r1
theorem spec_GoodKnown.ok : chkF prog F_spec_GoodKnown 1 spec_GoodKnown.fi = true := by kernel_rfl

/-! spec_l1Most -/
def spec_l1Most.r0 : List Ent := [
  E0 0 (some 4) none (.i (.mv (.k (I64 0))))]
def spec_l1Most.r1 : List Ent := [
  E0 0 (some 5) none (.i (.mv (.t 0))),
  E0 1 (some 6) none (.i (.mv (.t 1))),
  E0 2 (some 7) none (.i (.bin .gtr (.t 5) (.t 6)))]
def spec_l1Most.r2 : List Ent := [
  E0 0 (some 8) none (.i (.mv (.t 0))),
  E0 1 (some 4) none (.i (.mv (.t 8)))]
def spec_l1Most.r3 : List Ent := [
  E0 0 (some 9) none (.i (.mv (.t 1))),
  E0 1 (some 4) none (.i (.mv (.t 9)))]
def spec_l1Most.fi : FI := { res := [.t 4], code := .seq (.reg 64 1 spec_l1Most.r0) (.seq (.seq (.reg 128 3 spec_l1Most.r1) (.cond (.t 7) (.seq (.reg 320 2 spec_l1Most.r2) (.ret)) (.skip))) (.seq (.reg 448 2 spec_l1Most.r3) (.ret))) }
attribute [go_sem] spec_l1Most.r0 spec_l1Most.r1 spec_l1Most.r2 spec_l1Most.r3
theorem spec_l1Most.ok : chkF prog F_spec_l1Most 2 spec_l1Most.fi = true := by kernel_rfl

/-! spec_l1Least -/
def spec_l1Least.r0 : List Ent := [
  E0 0 (some 4) none (.i (.mv (.k (I64 0))))]
def spec_l1Least.r1 : List Ent := [
  E0 0 (some 5) none (.i (.mv (.t 0))),
  E0 1 (some 6) none (.i (.mv (.t 1))),
  E0 2 (some 7) none (.i (.bin .lss (.t 5) (.t 6)))]
def spec_l1Least.r2 : List Ent := [
  E0 0 (some 8) none (.i (.mv (.t 0))),
  E0 1 (some 4) none (.i (.mv (.t 8)))]
def spec_l1Least.r3 : List Ent := [
  E0 0 (some 9) none (.i (.mv (.t 1))),
  E0 1 (some 4) none (.i (.mv (.t 9)))]
def spec_l1Least.fi : FI := { res := [.t 4], code := .seq (.reg 64 1 spec_l1Least.r0) (.seq (.seq (.reg 128 3 spec_l1Least.r1) (.cond (.t 7) (.seq (.reg 320 2 spec_l1Least.r2) (.ret)) (.skip))) (.seq (.reg 448 2 spec_l1Least.r3) (.ret))) }
attribute [go_sem] spec_l1Least.r0 spec_l1Least.r1 spec_l1Least.r2 spec_l1Least.r3
theorem spec_l1Least.ok : chkF prog F_spec_l1Least 2 spec_l1Least.fi = true := by kernel_rfl

/-! spec_l10May -/
def spec_l10May.r0 : List Ent := [
  E0 0 (some 2) none (.i (.box (.t 0))),
  E0 1 (some 4) none (.i (.mv (.k (.dat none (.bool false)))))]
def spec_l10May.r1 : List Ent := [
  E0 0 (some 5) none (.i (.mv (.t 1))),
  E0 1 (some 6) none (.i (.fad 1 (.t 2))),
  E0 2 (some 7) none (.i (.load false false 1 (.t 6))),
  E0 3 (some 8) none (.i (.bin .andNot (.t 5) (.t 7))),
  E0 4 (some 9) none (.i (.fad 0 (.t 2))),
  E0 5 (some 10) none (.i (.load false false 1 (.t 9))),
  E0 6 (some 11) none (.i (.bin .eql (.t 8) (.t 10))),
  E0 7 (some 4) none (.i (.mv (.t 11)))]
def spec_l10May.fi : FI := { res := [.t 4], code := .seq (.reg 64 2 spec_l10May.r0) (.seq (.reg 192 8 spec_l10May.r1) (.ret)) }
attribute [go_sem] spec_l10May.r0 spec_l10May.r1
theorem spec_l10May.ok : chkF prog F_spec_l10May 2 spec_l10May.fi = true := by kernel_rfl

/-! spec_l13Reduce -/
def spec_l13Reduce.r0 : List Ent := [
  E0 0 (some 2) none (.i (.box (.t 0))),
  E0 1 (some 3) none (.i (.box (.t 1))),
  E0 2 (some 4) none (.i (.box (.k (.agg [.dat none (.int .i64 0), .dat none (.int .i64 0)])))),
  E0 3 (some 5) none (.i (.box (.k (.agg [.dat none (.int .i64 0), .dat none (.int .i64 0)])))),
  E0 4 (some 6) none (.i (.mv (.k (.dat none (.bool false)))))]
def spec_l13Reduce.r1 : List Ent := [
  EX 0 (some 8) none (.i (.fad 0 (.t 2))) 2 [14] [] false,
  EX 1 (some 9) none (.i (.load false false 1 (.t 8))) 2 [14] [] false,
  EX 2 (some 10) none (.i (.fad 0 (.t 3))) 2 [14] [] false,
  EX 3 (some 11) none (.i (.load false false 1 (.t 10))) 2 [14] [] false,
  EX 4 (some 12) none (.call F_spec_l1Most false (roA [.t 9, .t 11])) 2 [14] [] false,
  EX 5 (some 13) none (.i (.fad 1 (.t 2))) 2 [14] [] false,
  EX 6 (some 14) none (.i (.load false false 1 (.t 13))) 2 [14] [] false,
  EX 7 (some 15) none (.i (.fad 0 (.t 3))) 2 [14] [] false,
  EX 8 (some 16) none (.i (.load false false 1 (.t 15))) 2 [14] [] false,
  EX 9 (some 17) none (.i (.fad 1 (.t 3))) 2 [14] [] false,
  EX 10 (some 18) none (.i (.load false false 1 (.t 17))) 2 [14] [] false,
  E0 11 (some 19) none (.i (.bin .add (.t 16) (.t 18))),
  EX 12 (some 20) none (.call F_spec_l1Least false (roA [.t 14, .t 19])) 2 [14] [] false,
  EX 13 (some 21) none (.i (.bld [.t 12, .t 20])) 2 [14] [] false,
  EP 14 (some 7) none (.i (.box (.k (.agg [.dat none (.int .i64 0), .dat none (.int .i64 0)])))) 1 false,
  E0 15 none none (.i (.store 2 (.t 7) (.t 21)))]
def spec_l13Reduce.r2 : List Ent := [
  E0 0 (some 22) none (.i (.fad 0 (.t 7))),
  E0 1 (some 23) none (.i (.load false false 1 (.t 22))),
  E0 2 (some 24) none (.i (.fad 1 (.t 7))),
  E0 3 (some 25) none (.i (.load false false 1 (.t 24))),
  E0 4 (some 26) none (.i (.bin .gtr (.t 23) (.t 25))),
  E0 5 (some 27) none (.i (.mv (.t 26))),
  E0 6 (some 28) (some (27, false)) (.i (.fad 0 (.t 7))),
  E0 7 (some 29) (some (27, false)) (.i (.load false false 1 (.t 28))),
  E0 8 (some 30) (some (27, false)) (.i (.fad 1 (.t 7))),
  E0 9 (some 31) (some (27, false)) (.i (.load false false 1 (.t 30))),
  E0 10 (some 32) (some (27, false)) (.i (.bin .eql (.t 29) (.t 31))),
  E0 11 (some 33) (some (27, false)) (.i (.mv (.t 32))),
  E0 12 (some 34) (some (33, true)) (.i (.load false true 2 (.t 3))),
  E0 13 (some 35) (some (33, true)) (.i (.fad 0 (.t 7))),
  E0 14 (some 36) (some (33, true)) (.i (.load false false 1 (.t 35))),
  E0 15 (some 37) (some (33, true)) (.call F_spec_l10May false (roA [.t 34, .t 36])),
  E0 16 (some 38) (some (33, true)) (.i (.un .not (.t 37))),
  E0 17 (some 39) (some (27, false)) (.i (.pick (.t 33) (.t 38) (.k (.dat none (.bool false))))),
  E0 18 (some 40) none (.i (.pick (.t 27) (.k (.dat none (.bool true))) (.t 39)))]
def spec_l13Reduce.r3 : List Ent := [
  E0 0 (some 41) none (.i (.bld [.k (.dat none (.int .i64 0)), .k (.dat none (.int .i64 0))])),
  E0 1 (some 42) none (.i (.bld [.k (.dat none (.int .i64 0)), .k (.dat none (.int .i64 0))])),
  E0 2 none none (.i (.store 2 (.t 4) (.t 41))),
  E0 3 none none (.i (.store 2 (.t 5) (.t 42))),
  E0 4 (some 6) none (.i (.mv (.k (.dat none (.bool false)))))]
def spec_l13Reduce.r4 : List Ent := [
  E0 0 (some 43) none (.i (.fad 0 (.t 7))),
  E0 1 (some 44) none (.i (.load false false 1 (.t 43))),
  E0 2 (some 45) none (.i (.fad 1 (.t 7))),
  E0 3 (some 46) none (.i (.load false false 1 (.t 45))),
  E0 4 (some 47) none (.i (.bin .eql (.t 44) (.t 46)))]
def spec_l13Reduce.r5 : List Ent := [
  E0 0 (some 48) none (.i (.fad 0 (.t 7))),
  E0 1 (some 49) none (.i (.load false false 1 (.t 48))),
  E0 2 (some 50) none (.i (.bld [.t 49, .k (.dat none (.int .i64 0))])),
  E0 3 none none (.i (.store 2 (.t 3) (.t 50)))]
def spec_l13Reduce.r6 : List Ent := [
  ER 0 (some 51) none (.load false true 2 (.t 7)),
  EP 2 none none (.i (.store 2 (.t 4) (.t 51))) 0 true,
  EX 1 (some 52) none (.i (.load false true 2 (.t 3))) 2 [] [2] false,
  E0 3 none none (.i (.store 2 (.t 5) (.t 52))),
  E0 4 (some 6) none (.i (.mv (.k (.dat none (.bool true)))))]
def spec_l13Reduce.fi : FI := { res := [.c 4 true 2, .c 5 true 2, .t 6], code := .seq (.reg 64 5 spec_l13Reduce.r0) (.seq (.reg 384 16 spec_l13Reduce.r1) (.seq (.seq (.reg 1408 19 spec_l13Reduce.r2) (.cond (.t 40) (.seq (.reg 2624 5 spec_l13Reduce.r3) (.ret)) (.skip))) (.seq (.seq (.reg 2944 5 spec_l13Reduce.r4) (.cond (.t 47) (.reg 3264 4 spec_l13Reduce.r5) (.skip))) (.seq (.reg 3520 5 spec_l13Reduce.r6) (.ret))))) }
attribute [go_sem] spec_l13Reduce.r0 spec_l13Reduce.r1 spec_l13Reduce.r2 spec_l13Reduce.r3 spec_l13Reduce.r4 spec_l13Reduce.r5 spec_l13Reduce.r6
theorem spec_l13Reduce.ok : chkF prog F_spec_l13Reduce 2 spec_l13Reduce.fi = true := by kernel_rfl

/-! spec_ReduceBoth -/
def spec_ReduceBoth.r0 : List Ent := [
  E0 0 (some 2) none (.i (.box (.t 0))),
  E0 1 (some 3) none (.i (.box (.t 1))),
  E0 2 (some 4) none (.i (.box (.k (.agg [.dat none (.int .i64 0), .dat none (.int .i64 0)])))),
  E0 3 (some 5) none (.i (.box (.k (.agg [.dat none (.int .i64 0), .dat none (.int .i64 0)])))),
  E0 4 (some 6) none (.i (.mv (.k (.dat none (.bool false)))))]
def spec_ReduceBoth.r1 : List Ent := [
  E0 0 (some 7) none (.i (.load false true 2 (.t 2))),
  E0 1 (some 8) none (.call F_spec_GoodStretch false (roA [.t 7])),
  E0 2 (some 9) none (.i (.un .not (.t 8))),
  E0 3 (some 10) none (.i (.mv (.t 9))),
  E0 4 (some 11) (some (10, false)) (.i (.load false true 2 (.t 3))),
  E0 5 (some 12) (some (10, false)) (.call F_spec_GoodKnown false (roA [.t 11])),
  E0 6 (some 13) (some (10, false)) (.i (.un .not (.t 12))),
  E0 7 (some 14) none (.i (.pick (.t 10) (.k (.dat none (.bool true))) (.t 13)))]
def spec_ReduceBoth.r2 : List Ent := [
  E0 0 (some 15) none (.i (.bld [.k (.dat none (.int .i64 0)), .k (.dat none (.int .i64 0))])),
  E0 1 (some 16) none (.i (.bld [.k (.dat none (.int .i64 0)), .k (.dat none (.int .i64 0))])),
  E0 2 none none (.i (.store 2 (.t 4) (.t 15))),
  E0 3 none none (.i (.store 2 (.t 5) (.t 16))),
  E0 4 (some 6) none (.i (.mv (.k (.dat none (.bool false)))))]
def spec_ReduceBoth.r3 : List Ent := [
  E0 0 (some 17) none (.i (.load false true 2 (.t 2))),
  E0 1 (some 18) none (.i (.load false true 2 (.t 3))),
  E0 2 (some 19) none (.call F_spec_l13Reduce false (roA [.t 17, .t 18])),
  E0 3 (some 20) none (.i (.ext 0 (.t 19))),
  E0 4 (some 21) none (.i (.ext 1 (.t 19))),
  E0 5 (some 22) none (.i (.ext 2 (.t 19))),
  E0 6 none none (.i (.store 2 (.t 4) (.t 20))),
  E0 7 none none (.i (.store 2 (.t 5) (.t 21))),
  E0 8 (some 6) none (.i (.mv (.t 22)))]
def spec_ReduceBoth.fi : FI := { res := [.c 4 true 2, .c 5 true 2, .t 6], code := .seq (.reg 64 5 spec_ReduceBoth.r0) (.seq (.seq (.reg 384 8 spec_ReduceBoth.r1) (.cond (.t 14) (.seq (.reg 896 5 spec_ReduceBoth.r2) (.ret)) (.skip))) (.seq (.reg 1216 9 spec_ReduceBoth.r3) (.ret))) }
attribute [go_sem] spec_ReduceBoth.r0 spec_ReduceBoth.r1 spec_ReduceBoth.r2 spec_ReduceBoth.r3
theorem spec_ReduceBoth.ok : chkF prog F_spec_ReduceBoth 2 spec_ReduceBoth.fi = true := by kernel_rfl

/-! laws_toStretch -/
def laws_toStretch.r0 : List Ent := [
  E0 0 (some 1) none (.i (.box (.t 0))),
  E0 1 (some 2) none (.i (.box (.k (.agg [.dat none (.int .i64 0), .dat none (.int .i64 0)]))))]
def laws_toStretch.r1 : List Ent := [
  E0 0 (some 3) none (.i (.box (.k (.agg [.dat none (.int .i64 0), .dat none (.int .i64 0)]))))]
def laws_toStretch.r2 : List Ent := [
  E0 0 (some 4) none (.i (.fad 0 (.t 1))),
  E0 1 (some 5) none (.i (.load false false 1 (.t 4))),
  E0 2 (some 6) none (.i (.fad 0 (.t 3))),
  E0 3 none none (.i (.store 1 (.t 6) (.t 5)))]
def laws_toStretch.r3 : List Ent := [
  E0 0 (some 7) none (.i (.fad 1 (.t 1))),
  E0 1 (some 8) none (.i (.load false false 1 (.t 7))),
  E0 2 (some 9) none (.i (.fad 1 (.t 3))),
  E0 3 none none (.i (.store 1 (.t 9) (.t 8)))]
def laws_toStretch.r4 : List Ent := [
  E0 0 (some 10) none (.i (.load false true 2 (.t 3))),
  E0 1 none none (.i (.store 2 (.t 2) (.t 10)))]
def laws_toStretch.fi : FI := { res := [.c 2 true 2], code := .seq (.reg 64 2 laws_toStretch.r0) (.seq (.reg 192 1 laws_toStretch.r1) (.seq (.reg 256 4 laws_toStretch.r2) (.seq (.reg 512 4 laws_toStretch.r3) (.seq (.reg 768 2 laws_toStretch.r4) (.ret))))) }
attribute [go_sem] laws_toStretch.r0 laws_toStretch.r1 laws_toStretch.r2 laws_toStretch.r3 laws_toStretch.r4
theorem laws_toStretch.ok : chkF prog F_laws_toStretch 1 laws_toStretch.fi = true := by kernel_rfl

/-! laws_toKnown -/
def laws_toKnown.r0 : List Ent := [
  E0 0 (some 1) none (.i (.box (.t 0))),
  E0 1 (some 2) none (.i (.box (.k (.agg [.dat none (.int .i64 0), .dat none (.int .i64 0)]))))]
def laws_toKnown.r1 : List Ent := [
  E0 0 (some 3) none (.i (.box (.k (.agg [.dat none (.int .i64 0), .dat none (.int .i64 0)]))))]
def laws_toKnown.r2 : List Ent := [
  E0 0 (some 4) none (.i (.fad 0 (.t 1))),
  E0 1 (some 5) none (.i (.load false false 1 (.t 4))),
  E0 2 (some 6) none (.i (.fad 0 (.t 3))),
  E0 3 none none (.i (.store 1 (.t 6) (.t 5)))]
def laws_toKnown.r3 : List Ent := [
  E0 0 (some 7) none (.i (.fad 1 (.t 1))),
  E0 1 (some 8) none (.i (.load false false 1 (.t 7))),
  E0 2 (some 9) none (.i (.fad 1 (.t 3))),
  E0 3 none none (.i (.store 1 (.t 9) (.t 8)))]
def laws_toKnown.r4 : List Ent := [
  E0 0 (some 10) none (.i (.load false true 2 (.t 3))),
  E0 1 none none (.i (.store 2 (.t 2) (.t 10)))]
def laws_toKnown.fi : FI := { res := [.c 2 true 2], code := .seq (.reg 64 2 laws_toKnown.r0) (.seq (.reg 192 1 laws_toKnown.r1) (.seq (.reg 256 4 laws_toKnown.r2) (.seq (.reg 512 4 laws_toKnown.r3) (.seq (.reg 768 2 laws_toKnown.r4) (.ret))))) }
attribute [go_sem] laws_toKnown.r0 laws_toKnown.r1 laws_toKnown.r2 laws_toKnown.r3 laws_toKnown.r4
theorem laws_toKnown.ok : chkF prog F_laws_toKnown 1 laws_toKnown.fi = true := by kernel_rfl

/-! impl_in -/
def impl_in.r0 : List Ent := [
  E0 0 (some 6) none (.i (.mv (.k (.dat none (.bool false)))))]
def impl_in.r1 : List Ent := [
  E0 0 (some 7) none (.i (.mv (.t 0))),
  E0 1 (some 8) none (.i (.mv (.t 1))),
  E0 2 (some 9) none (.i (.bin .geq (.t 7) (.t 8))),
  E0 3 (some 10) none (.i (.mv (.t 9))),
  E0 4 (some 11) (some (10, true)) (.i (.mv (.t 0))),
  E0 5 (some 12) (some (10, true)) (.i (.mv (.t 2))),
  E0 6 (some 13) (some (10, true)) (.i (.bin .leq (.t 11) (.t 12))),
  E0 7 (some 14) none (.i (.pick (.t 10) (.t 13) (.k (.dat none (.bool false))))),
  E0 8 (some 6) none (.i (.mv (.t 14)))]
def impl_in.fi : FI := { res := [.t 6], code := .seq (.reg 64 1 impl_in.r0) (.seq (.reg 128 9 impl_in.r1) (.ret)) }
attribute [go_sem] impl_in.r0 impl_in.r1
theorem impl_in.ok : chkF prog F_impl_in 3 impl_in.fi = true := by kernel_rfl

/-! impl_isWord -/
def impl_isWord.r0 : List Ent := [
  E0 0 (some 2) none (.i (.mv (.k (.dat none (.bool false)))))]
def impl_isWord.r1 : List Ent := [
  E0 0 (some 3) none (.i (.mv (.t 0))),
  E0 1 (some 4) none (.call F_impl_in false (roA [.t 3, .k (I64 0), .k (I64 65535)])),
  E0 2 (some 2) none (.i (.mv (.t 4)))]
def impl_isWord.fi : FI := { res := [.t 2], code := .seq (.reg 64 1 impl_isWord.r0) (.seq (.reg 128 3 impl_isWord.r1) (.ret)) }
attribute [go_sem] impl_isWord.r0 impl_isWord.r1
theorem impl_isWord.ok : chkF prog F_impl_isWord 1 impl_isWord.fi = true := by kernel_rfl

/-! impl_GoodStretch -/
def impl_GoodStretch.r0 : List Ent := [
  E0 0 (some 1) none (.i (.box (.t 0))),
  E0 1 (some 2) none (.i (.mv (.k (.dat none (.bool false)))))]
def impl_GoodStretch.r1 : List Ent := [
  E0 0 (some 3) none (.i (.fad 0 (.t 1))),
  E0 1 (some 4) none (.i (.load false false 1 (.t 3))),
  E0 2 (some 5) none (.call F_impl_isWord false (roA [.t 4])),
  E0 3 (some 6) none (.i (.mv (.t 5))),
  E0 4 (some 7) (some (6, true)) (.i (.fad 1 (.t 1))),
  E0 5 (some 8) (some (6, true)) (.i (.load false false 1 (.t 7))),
  E0 6 (some 9) (some (6, true)) (.call F_impl_isWord false (roA [.t 8])),
  E0 7 (some 10) none (.i (.pick (.t 6) (.t 9) (.k (.dat none (.bool false))))),
  E0 8 (some 11) none (.i (.mv (.t 10))),
  E0 9 (some 12) (some (11, true)) (.i (.fad 0 (.t 1))),
  E0 10 (some 13) (some (11, true)) (.i (.load false false 1 (.t 12))),
  E0 11 (some 14) (some (11, true)) (.i (.fad 1 (.t 1))),
  E0 12 (some 15) (some (11, true)) (.i (.load false false 1 (.t 14))),
  E0 13 (some 16) (some (11, true)) (.i (.bin .leq (.t 13) (.t 15))),
  E0 14 (some 17) none (.i (.pick (.t 11) (.t 16) (.k (.dat none (.bool false))))),
  E0 15 (some 2) none (.i (.mv (.t 17)))]
def impl_GoodStretch.fi : FI := { res := [.t 2], code := .seq (.reg 64 2 impl_GoodStretch.r0) (.seq (.reg 192 16 impl_GoodStretch.r1) (.ret)) }
attribute [go_sem] impl_GoodStretch.r0 impl_GoodStretch.r1
theorem impl_GoodStretch.ok : chkF prog F_impl_GoodStretch 1 impl_GoodStretch.fi = true := by kernel_rfl

/-! impl_GoodKnown -/
def impl_GoodKnown.r0 : List Ent := [
  E0 0 (some 1) none (.i (.box (.t 0))),
  E0 1 (some 2) none (.i (.mv (.k (.dat none (.bool false)))))]
def impl_GoodKnown.r1 : List Ent := [
  E0 0 (some 3) none (.i (.fad 0 (.t 1))),
  E0 1 (some 4) none (.i (.load false false 1 (.t 3))),
  E0 2 (some 5) none (.call F_impl_isWord false (roA [.t 4])),
  E0 3 (some 6) none (.i (.mv (.t 5))),
  E0 4 (some 7) (some (6, true)) (.i (.fad 1 (.t 1))),
  E0 5 (some 8) (some (6, true)) (.i (.load false false 1 (.t 7))),
  E0 6 (some 9) (some (6, true)) (.call F_impl_isWord false (roA [.t 8])),
  E0 7 (some 10) none (.i (.pick (.t 6) (.t 9) (.k (.dat none (.bool false))))),
  E0 8 (some 11) none (.i (.mv (.t 10))),
  E0 9 (some 12) (some (11, true)) (.i (.fad 0 (.t 1))),
  E0 10 (some 13) (some (11, true)) (.i (.load false false 1 (.t 12))),
  E0 11 (some 14) (some (11, true)) (.i (.fad 1 (.t 1))),
  E0 12 (some 15) (some (11, true)) (.i (.load false false 1 (.t 14))),
  E0 13 (some 16) (some (11, true)) (.i (.bin .and (.t 13) (.t 15))),
  E0 14 (some 17) (some (11, true)) (.i (.bin .eql (.t 16) (.k (I64 0)))),
  E0 15 (some 18) none (.i (.pick (.t 11) (.t 17) (.k (.dat none (.bool false))))),
  E0 16 (some 2) none (.i (.mv (.t 18)))]
def impl_GoodKnown.fi : FI := { res := [.t 2], code := .seq (.reg 64 2 impl_GoodKnown.r0) (.seq (.reg 192 17 impl_GoodKnown.r1) (.ret)) }
attribute [go_sem] impl_GoodKnown.r0 impl_GoodKnown.r1
theorem impl_GoodKnown.ok : chkF prog F_impl_GoodKnown 1 impl_GoodKnown.fi = true := by kernel_rfl

/-! impl_Known_matches -/
def impl_Known_matches.r0 : List Ent := [
  E0 0 (some 2) none (.i (.box (.t 0))),
  E0 1 (some 4) none (.i (.mv (.k (.dat none (.bool false)))))]
def impl_Known_matches.r1 : List Ent := [
  E0 0 (some 5) none (.i (.mv (.t 1))),
  E0 1 (some 6) none (.i (.fad 1 (.t 2))),
  E0 2 (some 7) none (.i (.load false false 1 (.t 6))),
  E0 3 (some 8) none (.i (.bin .andNot (.t 5) (.t 7))),
  E0 4 (some 9) none (.i (.fad 0 (.t 2))),
  E0 5 (some 10) none (.i (.load false false 1 (.t 9))),
  E0 6 (some 11) none (.i (.bin .eql (.t 8) (.t 10))),
  E0 7 (some 4) none (.i (.mv (.t 11)))]
def impl_Known_matches.fi : FI := { res := [.t 4], code := .seq (.reg 64 2 impl_Known_matches.r0) (.seq (.reg 192 8 impl_Known_matches.r1) (.ret)) }
attribute [go_sem] impl_Known_matches.r0 impl_Known_matches.r1
theorem impl_Known_matches.ok : chkF prog F_impl_Known_matches 2 impl_Known_matches.fi = true := by kernel_rfl

/-! impl_exact -/
def impl_exact.r0 : List Ent := [
  E0 0 (some 2) none (.i (.box (.k (.agg [.dat none (.int .i64 0), .dat none (.int .i64 0)]))))]
def impl_exact.r1 : List Ent := [
  E0 0 (some 3) none (.i (.mv (.t 0))),
  E0 1 (some 4) none (.i (.bld [.t 3, .k (.dat none (.int .i64 0))])),
  E0 2 none none (.i (.store 2 (.t 2) (.t 4)))]
def impl_exact.fi : FI := { res := [.c 2 true 2], code := .seq (.reg 64 1 impl_exact.r0) (.seq (.reg 128 3 impl_exact.r1) (.ret)) }
attribute [go_sem] impl_exact.r0 impl_exact.r1
theorem impl_exact.ok : chkF prog F_impl_exact 1 impl_exact.fi = true := by kernel_rfl

/-! impl_reduceBoth -/
def impl_reduceBoth.r0 : List Ent := [
  E0 0 (some 2) none (.i (.box (.t 0))),
  E0 1 (some 3) none (.i (.box (.t 1))),
  E0 2 (some 4) none (.i (.box (.k (.agg [.dat none (.int .i64 0), .dat none (.int .i64 0)])))),
  E0 3 (some 5) none (.i (.box (.k (.agg [.dat none (.int .i64 0), .dat none (.int .i64 0)])))),
  E0 4 (some 6) none (.i (.mv (.k (.dat none (.bool false)))))]
def impl_reduceBoth.r1 : List Ent := [
  E0 0 (some 8) none (.i (.fad 0 (.t 2))),
  E0 1 (some 9) none (.i (.load false false 1 (.t 8))),
  E0 2 (some 10) none (.i (.fad 0 (.t 3))),
  E0 3 (some 11) none (.i (.load false false 1 (.t 10))),
  E0 4 (some 12) none (.i (.mnx true (.t 9) (.t 11))),
  E0 5 (some 13) none (.i (.fad 1 (.t 2))),
  E0 6 (some 14) none (.i (.load false false 1 (.t 13))),
  E0 7 (some 15) none (.i (.fad 0 (.t 3))),
  E0 8 (some 16) none (.i (.load false false 1 (.t 15))),
  E0 9 (some 17) none (.i (.fad 1 (.t 3))),
  E0 10 (some 18) none (.i (.load false false 1 (.t 17))),
  E0 11 (some 19) none (.i (.bin .add (.t 16) (.t 18))),
  E0 12 (some 20) none (.i (.mnx false (.t 14) (.t 19))),
  E0 13 (some 21) none (.i (.bld [.t 12, .t 20])),
  E0 14 (some 7) none (.i (.box (.k (.agg [.dat none (.int .i64 0), .dat none (.int .i64 0)])))),
  E0 15 none none (.i (.store 2 (.t 7) (.t 21)))]
def impl_reduceBoth.r2 : List Ent := [
  E0 0 (some 22) none (.i (.fad 0 (.t 7))),
  E0 1 (some 23) none (.i (.load false false 1 (.t 22))),
  E0 2 (some 24) none (.i (.fad 1 (.t 7))),
  E0 3 (some 25) none (.i (.load false false 1 (.t 24))),
  E0 4 (some 26) none (.i (.bin .gtr (.t 23) (.t 25)))]
def impl_reduceBoth.r3 : List Ent := [
  E0 0 (some 27) none (.i (.bld [.k (.dat none (.int .i64 0)), .k (.dat none (.int .i64 0))])),
  E0 1 (some 28) none (.i (.bld [.k (.dat none (.int .i64 0)), .k (.dat none (.int .i64 0))])),
  E0 2 none none (.i (.store 2 (.t 4) (.t 27))),
  E0 3 none none (.i (.store 2 (.t 5) (.t 28))),
  E0 4 (some 6) none (.i (.mv (.k (.dat none (.bool false)))))]
def impl_reduceBoth.r4 : List Ent := [
  E0 0 (some 29) none (.i (.fad 0 (.t 7))),
  E0 1 (some 30) none (.i (.load false false 1 (.t 29))),
  E0 2 (some 31) none (.i (.fad 1 (.t 7))),
  E0 3 (some 32) none (.i (.load false false 1 (.t 31))),
  E0 4 (some 33) none (.i (.bin .lss (.t 30) (.t 32)))]
def impl_reduceBoth.r5 : List Ent := [
  ER 0 (some 34) none (.load false true 2 (.t 7)),
  EP 2 none none (.i (.store 2 (.t 4) (.t 34))) 0 true,
  EX 1 (some 35) none (.i (.load false true 2 (.t 3))) 2 [] [2] false,
  E0 3 none none (.i (.store 2 (.t 5) (.t 35))),
  E0 4 (some 6) none (.i (.mv (.k (.dat none (.bool true)))))]
def impl_reduceBoth.r6 : List Ent := [
  E0 0 (some 36) none (.i (.load false true 2 (.t 3))),
  E0 1 (some 37) none (.i (.fad 0 (.t 7))),
  E0 2 (some 38) none (.i (.load false false 1 (.t 37))),
  E0 3 (some 39) none (.call F_impl_Known_matches false (roA [.t 36, .t 38])),
  E0 4 (some 40) none (.i (.un .not (.t 39)))]
def impl_reduceBoth.r7 : List Ent := [
  E0 0 (some 41) none (.i (.bld [.k (.dat none (.int .i64 0)), .k (.dat none (.int .i64 0))])),
  E0 1 (some 42) none (.i (.bld [.k (.dat none (.int .i64 0)), .k (.dat none (.int .i64 0))])),
  E0 2 none none (.i (.store 2 (.t 4) (.t 41))),
  E0 3 none none (.i (.store 2 (.t 5) (.t 42))),
  E0 4 (some 6) none (.i (.mv (.k (.dat none (.bool false)))))]
def impl_reduceBoth.r8 : List Ent := [
  ER 0 (some 43) none (.load false true 2 (.t 7)),
  ER 1 (some 44) none (.fad 0 (.t 7)),
  ER 2 (some 45) none (.load false false 1 (.t 44)),
  E2 3 (some 46) none (.call F_impl_exact false (roA [.t 45])),
  E0 4 none none (.i (.store 2 (.t 4) (.t 43))),
  E0 5 none none (.i (.store 2 (.t 5) (.t 46))),
  E0 6 (some 6) none (.i (.mv (.k (.dat none (.bool true)))))]
def impl_reduceBoth.fi : FI := { res := [.c 4 true 2, .c 5 true 2, .t 6], code := .seq (.reg 64 5 impl_reduceBoth.r0) (.seq (.reg 384 16 impl_reduceBoth.r1) (.seq (.seq (.reg 1408 5 impl_reduceBoth.r2) (.cond (.t 26) (.seq (.reg 1728 5 impl_reduceBoth.r3) (.ret)) (.skip))) (.seq (.seq (.reg 2048 5 impl_reduceBoth.r4) (.cond (.t 33) (.seq (.reg 2368 5 impl_reduceBoth.r5) (.ret)) (.skip))) (.seq (.seq (.reg 2688 5 impl_reduceBoth.r6) (.cond (.t 40) (.seq (.reg 3008 5 impl_reduceBoth.r7) (.ret)) (.skip))) (.seq (.reg 3328 7 impl_reduceBoth.r8) (.ret)))))) }
attribute [go_sem] impl_reduceBoth.r0 impl_reduceBoth.r1 impl_reduceBoth.r2 impl_reduceBoth.r3 impl_reduceBoth.r4 impl_reduceBoth.r5 impl_reduceBoth.r6 impl_reduceBoth.r7 impl_reduceBoth.r8
theorem impl_reduceBoth.ok : chkF prog F_impl_reduceBoth 2 impl_reduceBoth.fi = true := by kernel_rfl

/-! impl_ReduceBoth -/
def impl_ReduceBoth.r0 : List Ent := [
  E0 0 (some 2) none (.i (.box (.t 0))),
  E0 1 (some 3) none (.i (.box (.t 1))),
  E0 2 (some 4) none (.i (.box (.k (.agg [.dat none (.int .i64 0), .dat none (.int .i64 0)])))),
  E0 3 (some 5) none (.i (.box (.k (.agg [.dat none (.int .i64 0), .dat none (.int .i64 0)])))),
  E0 4 (some 6) none (.i (.mv (.k (.dat none (.bool false)))))]
def impl_ReduceBoth.r1 : List Ent := [
  E0 0 (some 7) none (.i (.load false true 2 (.t 2))),
  E0 1 (some 8) none (.call F_impl_GoodStretch false (roA [.t 7])),
  E0 2 (some 9) none (.i (.un .not (.t 8))),
  E0 3 (some 10) none (.i (.mv (.t 9))),
  E0 4 (some 11) (some (10, false)) (.i (.load false true 2 (.t 3))),
  E0 5 (some 12) (some (10, false)) (.call F_impl_GoodKnown false (roA [.t 11])),
  E0 6 (some 13) (some (10, false)) (.i (.un .not (.t 12))),
  E0 7 (some 14) none (.i (.pick (.t 10) (.k (.dat none (.bool true))) (.t 13)))]
def impl_ReduceBoth.r2 : List Ent := [
  E0 0 (some 15) none (.i (.bld [.k (.dat none (.int .i64 0)), .k (.dat none (.int .i64 0))])),
  E0 1 (some 16) none (.i (.bld [.k (.dat none (.int .i64 0)), .k (.dat none (.int .i64 0))])),
  E0 2 none none (.i (.store 2 (.t 4) (.t 15))),
  E0 3 none none (.i (.store 2 (.t 5) (.t 16))),
  E0 4 (some 6) none (.i (.mv (.k (.dat none (.bool false)))))]
def impl_ReduceBoth.r3 : List Ent := [
  E0 0 (some 17) none (.i (.load false true 2 (.t 2))),
  E0 1 (some 18) none (.i (.load false true 2 (.t 3))),
  E0 2 (some 19) none (.call F_impl_reduceBoth false (roA [.t 17, .t 18])),
  E0 3 (some 20) none (.i (.ext 0 (.t 19))),
  E0 4 (some 21) none (.i (.ext 1 (.t 19))),
  E0 5 (some 22) none (.i (.ext 2 (.t 19))),
  E0 6 none none (.i (.store 2 (.t 4) (.t 20))),
  E0 7 none none (.i (.store 2 (.t 5) (.t 21))),
  E0 8 (some 6) none (.i (.mv (.t 22)))]
def impl_ReduceBoth.fi : FI := { res := [.c 4 true 2, .c 5 true 2, .t 6], code := .seq (.reg 64 5 impl_ReduceBoth.r0) (.seq (.seq (.reg 384 8 impl_ReduceBoth.r1) (.cond (.t 14) (.seq (.reg 896 5 impl_ReduceBoth.r2) (.ret)) (.skip))) (.seq (.reg 1216 9 impl_ReduceBoth.r3) (.ret))) }
attribute [go_sem] impl_ReduceBoth.r0 impl_ReduceBoth.r1 impl_ReduceBoth.r2 impl_ReduceBoth.r3
theorem impl_ReduceBoth.ok : chkF prog F_impl_ReduceBoth 2 impl_ReduceBoth.fi = true := by kernel_rfl

/-! laws_eqStretch -/
def laws_eqStretch.r0 : List Ent := [
  E0 0 (some 2) none (.i (.box (.t 0))),
  E0 1 (some 3) none (.i (.box (.t 1))),
  E0 2 (some 4) none (.i (.mv (.k (.dat none (.bool false)))))]
def laws_eqStretch.r1 : List Ent := [
  E0 0 (some 5) none (.i (.fad 0 (.t 2))),
  E0 1 (some 6) none (.i (.load false false 1 (.t 5))),
  E0 2 (some 7) none (.i (.fad 0 (.t 3))),
  E0 3 (some 8) none (.i (.load false false 1 (.t 7))),
  E0 4 (some 9) none (.i (.bin .neq (.t 6) (.t 8)))]
def laws_eqStretch.r2 : List Ent := [
  E0 0 (some 4) none (.i (.mv (.k (.dat none (.bool false)))))]
def laws_eqStretch.r3 : List Ent := [
  E0 0 (some 10) none (.i (.fad 1 (.t 2))),
  E0 1 (some 11) none (.i (.load false false 1 (.t 10))),
  E0 2 (some 12) none (.i (.fad 1 (.t 3))),
  E0 3 (some 13) none (.i (.load false false 1 (.t 12))),
  E0 4 (some 14) none (.i (.bin .neq (.t 11) (.t 13)))]
def laws_eqStretch.r4 : List Ent := [
  E0 0 (some 4) none (.i (.mv (.k (.dat none (.bool false)))))]
def laws_eqStretch.r5 : List Ent := [
  E0 0 (some 4) none (.i (.mv (.k (.dat none (.bool true)))))]
def laws_eqStretch.fi : FI := { res := [.t 4], code := .seq (.reg 64 3 laws_eqStretch.r0) (.seq (.seq (.reg 256 5 laws_eqStretch.r1) (.cond (.t 9) (.seq (.reg 576 1 laws_eqStretch.r2) (.ret)) (.skip))) (.seq (.seq (.reg 640 5 laws_eqStretch.r3) (.cond (.t 14) (.seq (.reg 960 1 laws_eqStretch.r4) (.ret)) (.skip))) (.seq (.reg 1024 1 laws_eqStretch.r5) (.ret)))) }
attribute [go_sem] laws_eqStretch.r0 laws_eqStretch.r1 laws_eqStretch.r2 laws_eqStretch.r3 laws_eqStretch.r4 laws_eqStretch.r5
theorem laws_eqStretch.ok : chkF prog F_laws_eqStretch 2 laws_eqStretch.fi = true := by kernel_rfl

/-! laws_eqKnown -/
def laws_eqKnown.r0 : List Ent := [
  E0 0 (some 2) none (.i (.box (.t 0))),
  E0 1 (some 3) none (.i (.box (.t 1))),
  E0 2 (some 4) none (.i (.mv (.k (.dat none (.bool false)))))]
def laws_eqKnown.r1 : List Ent := [
  E0 0 (some 5) none (.i (.fad 0 (.t 2))),
  E0 1 (some 6) none (.i (.load false false 1 (.t 5))),
  E0 2 (some 7) none (.i (.fad 0 (.t 3))),
  E0 3 (some 8) none (.i (.load false false 1 (.t 7))),
  E0 4 (some 9) none (.i (.bin .neq (.t 6) (.t 8)))]
def laws_eqKnown.r2 : List Ent := [
  E0 0 (some 4) none (.i (.mv (.k (.dat none (.bool false)))))]
def laws_eqKnown.r3 : List Ent := [
  E0 0 (some 10) none (.i (.fad 1 (.t 2))),
  E0 1 (some 11) none (.i (.load false false 1 (.t 10))),
  E0 2 (some 12) none (.i (.fad 1 (.t 3))),
  E0 3 (some 13) none (.i (.load false false 1 (.t 12))),
  E0 4 (some 14) none (.i (.bin .neq (.t 11) (.t 13)))]
def laws_eqKnown.r4 : List Ent := [
  E0 0 (some 4) none (.i (.mv (.k (.dat none (.bool false)))))]
def laws_eqKnown.r5 : List Ent := [
  E0 0 (some 4) none (.i (.mv (.k (.dat none (.bool true)))))]
def laws_eqKnown.fi : FI := { res := [.t 4], code := .seq (.reg 64 3 laws_eqKnown.r0) (.seq (.seq (.reg 256 5 laws_eqKnown.r1) (.cond (.t 9) (.seq (.reg 576 1 laws_eqKnown.r2) (.ret)) (.skip))) (.seq (.seq (.reg 640 5 laws_eqKnown.r3) (.cond (.t 14) (.seq (.reg 960 1 laws_eqKnown.r4) (.ret)) (.skip))) (.seq (.reg 1024 1 laws_eqKnown.r5) (.ret)))) }
attribute [go_sem] laws_eqKnown.r0 laws_eqKnown.r1 laws_eqKnown.r2 laws_eqKnown.r3 laws_eqKnown.r4 laws_eqKnown.r5
theorem laws_eqKnown.ok : chkF prog F_laws_eqKnown 2 laws_eqKnown.fi = true := by kernel_rfl

/-! laws_FnExactReduceBoth -/
def laws_FnExactReduceBoth.r0 : List Ent := [
  E0 0 (some 2) none (.i (.box (.t 0))),
  E0 1 (some 3) none (.i (.box (.t 1))),
  E0 2 (some 4) none (.i (.mv (.k (.dat none (.bool false)))))]
def laws_FnExactReduceBoth.r1 : List Ent := [
  EX 0 (some 12) none (.i (.load false true 2 (.t 2))) 2 [9, 10] [] false,
  EX 1 (some 13) none (.call F_laws_toStretch false (roA [.t 12])) 2 [9, 10] [] false,
  EX 2 (some 14) none (.i (.load false true 2 (.t 3))) 2 [9, 10] [] false,
  EX 3 (some 15) none (.call F_laws_toKnown false (roA [.t 14])) 2 [9, 10] [] false,
  EX 4 (some 16) none (.call F_spec_ReduceBoth false (roA [.t 13, .t 15])) 2 [9, 10] [] false,
  E0 5 (some 11) none (.i (.mv (.t 16))),
  EX 6 (some 17) none (.i (.ext 0 (.t 11))) 2 [9, 10] [] false,
  EX 9 (some 5) none (.i (.box (.k (.agg [.dat none (.int .i64 0), .dat none (.int .i64 0)])))) 1 [10] [] false,
  EX 10 (some 6) none (.i (.box (.k (.agg [.dat none (.int .i64 0), .dat none (.int .i64 0)])))) 1 [9] [] false,
  EP 11 none none (.i (.store 2 (.t 5) (.t 17))) 0 true,
  EX 7 (some 18) none (.i (.ext 1 (.t 11))) 2 [9, 10] [11] false,
  EP 12 none none (.i (.store 2 (.t 6) (.t 18))) 0 true,
  EX 8 (some 19) none (.i (.ext 2 (.t 11))) 2 [9, 10] [11, 12] false,
  E0 13 (some 7) none (.i (.mv (.t 19)))]
def laws_FnExactReduceBoth.r2 : List Ent := [
  EX 0 (some 21) none (.i (.load false true 2 (.t 2))) 2 [9, 10] [] false,
  EX 1 (some 22) none (.call F_laws_toStretch false (roA [.t 21])) 2 [9, 10] [] false,
  EX 2 (some 23) none (.i (.load false true 2 (.t 3))) 2 [9, 10] [] false,
  EX 3 (some 24) none (.call F_laws_toKnown false (roA [.t 23])) 2 [9, 10] [] false,
  EX 4 (some 25) none (.call F_impl_ReduceBoth false (roA [.t 22, .t 24])) 2 [9, 10] [] false,
  E0 5 (some 20) none (.i (.mv (.t 25))),
  EX 6 (some 26) none (.i (.ext 0 (.t 20))) 2 [9, 10] [] false,
  EX 9 (some 8) none (.i (.box (.k (.agg [.dat none (.int .i64 0), .dat none (.int .i64 0)])))) 1 [10] [] false,
  EX 10 (some 9) none (.i (.box (.k (.agg [.dat none (.int .i64 0), .dat none (.int .i64 0)])))) 1 [9] [] false,
  EP 11 none none (.i (.store 2 (.t 8) (.t 26))) 0 true,
  EX 7 (some 27) none (.i (.ext 1 (.t 20))) 2 [9, 10] [11] false,
  EP 12 none none (.i (.store 2 (.t 9) (.t 27))) 0 true,
  EX 8 (some 28) none (.i (.ext 2 (.t 20))) 2 [9, 10] [11, 12] false,
  E0 13 (some 10) none (.i (.mv (.t 28)))]
def laws_FnExactReduceBoth.r3 : List Ent := [
  E0 0 (some 29) none (.i (.load false true 2 (.t 8))),
  E0 1 (some 30) none (.i (.load false true 2 (.t 5))),
  E0 2 (some 31) none (.call F_laws_eqStretch false (roA [.t 29, .t 30])),
  E0 3 (some 32) none (.i (.un .not (.t 31))),
  E0 4 (some 33) none (.i (.mv (.t 32))),
  E0 5 (some 34) (some (33, false)) (.i (.load false true 2 (.t 9))),
  E0 6 (some 35) (some (33, false)) (.i (.load false true 2 (.t 6))),
  E0 7 (some 36) (some (33, false)) (.call F_laws_eqKnown false (roA [.t 34, .t 35])),
  E0 8 (some 37) (some (33, false)) (.i (.un .not (.t 36))),
  E0 9 (some 38) none (.i (.pick (.t 33) (.k (.dat none (.bool true))) (.t 37))),
  E0 10 (some 39) none (.i (.mv (.t 38))),
  E0 11 (some 40) (some (39, false)) (.i (.mv (.t 10))),
  E0 12 (some 41) (some (39, false)) (.i (.mv (.t 7))),
  E0 13 (some 42) (some (39, false)) (.i (.eqb true (.t 40) (.t 41))),
  E0 14 (some 43) none (.i (.pick (.t 39) (.k (.dat none (.bool true))) (.t 42)))]
def laws_FnExactReduceBoth.r4 : List Ent := [
  E0 0 (some 4) none (.i (.mv (.k (.dat none (.bool false)))))]
def laws_FnExactReduceBoth.r5 : List Ent := [
  E0 0 (some 4) none (.i (.mv (.k (.dat none (.bool true)))))]
def laws_FnExactReduceBoth.fi : FI := { res := [.t 4], code := .seq (.reg 64 3 laws_FnExactReduceBoth.r0) (.seq (.reg 256 14 laws_FnExactReduceBoth.r1) (.seq (.reg 1152 14 laws_FnExactReduceBoth.r2) (.seq (.seq (.reg 2048 15 laws_FnExactReduceBoth.r3) (.cond (.t 43) (.seq (.reg 3008 1 laws_FnExactReduceBoth.r4) (.ret)) (.skip))) (.seq (.reg 3072 1 laws_FnExactReduceBoth.r5) (.ret))))) }
attribute [go_sem] laws_FnExactReduceBoth.r0 laws_FnExactReduceBoth.r1 laws_FnExactReduceBoth.r2 laws_FnExactReduceBoth.r3 laws_FnExactReduceBoth.r4 laws_FnExactReduceBoth.r5
theorem laws_FnExactReduceBoth.ok : chkF prog F_laws_FnExactReduceBoth 2 laws_FnExactReduceBoth.fi = true := by kernel_rfl

/-! laws_szIntS -/
def laws_szIntS.r0 : List Ent := [
  E0 0 (some 4) none (.i (.mv (.k (I64 0))))]
def laws_szIntS.r1 : List Ent := [
  E0 0 (some 5) none (.i (.mv (.t 1))),
  E0 1 (some 6) none (.i (.mv (.t 0))),
  E0 2 (some 7) none (.i (.len (.t 6))),
  E0 3 (some 8) none (.i (.bin .sub (.t 5) (.t 7))),
  E0 4 (some 1) none (.i (.mv (.t 8)))]
def laws_szIntS.r2 : List Ent := [
  E0 0 (some 9) none (.i (.mv (.t 1))),
  E0 1 (some 10) none (.i (.bin .lss (.t 9) (.k (I64 0))))]
def laws_szIntS.r3 : List Ent := [
  E0 0 (some 4) none (.i (.mv (.k (I64 (-1)))))]
def laws_szIntS.r4 : List Ent := [
  E0 0 (some 11) none (.i (.mv (.t 1))),
  E0 1 (some 4) none (.i (.mv (.t 11)))]
def laws_szIntS.fi : FI := { res := [.t 4], code := .seq (.reg 64 1 laws_szIntS.r0) (.seq (.reg 128 5 laws_szIntS.r1) (.seq (.seq (.reg 448 2 laws_szIntS.r2) (.cond (.t 10) (.seq (.reg 576 1 laws_szIntS.r3) (.ret)) (.skip))) (.seq (.reg 640 2 laws_szIntS.r4) (.ret)))) }
attribute [go_sem] laws_szIntS.r0 laws_szIntS.r1 laws_szIntS.r2 laws_szIntS.r3 laws_szIntS.r4
theorem laws_szIntS.ok : chkF prog F_laws_szIntS 2 laws_szIntS.fi = true := by kernel_rfl

/-! laws_eqIntS -/
def laws_eqIntS.r0 : List Ent := [
  E0 0 (some 4) none (.i (.mv (.k (.dat none (.bool false)))))]
def laws_eqIntS.r1 : List Ent := [
  E0 0 (some 6) none (.i (.mv (.t 0))),
  E0 1 (some 7) none (.i (.len (.t 6))),
  E0 2 (some 8) none (.i (.mv (.t 1))),
  E0 3 (some 9) none (.i (.len (.t 8))),
  E0 4 (some 10) none (.i (.bin .neq (.t 7) (.t 9)))]
def laws_eqIntS.r2 : List Ent := [
  E0 0 (some 4) none (.i (.mv (.k (.dat none (.bool false)))))]
def laws_eqIntS.r3 : List Ent := [
  E0 0 (some 5) none (.i (.mv (.k (I64 0))))]
def laws_eqIntS.r4 : List Ent := [
  E0 0 (some 11) none (.i (.mv (.t 5))),
  E0 1 (some 12) none (.i (.mv (.t 0))),
  E0 2 (some 13) none (.i (.len (.t 12))),
  E0 3 (some 14) none (.i (.bin .lss (.t 11) (.t 13)))]
def laws_eqIntS.r5 : List Ent := [
  E0 0 (some 17) none (.i (.mv (.t 0))),
  E0 1 (some 18) none (.i (.mv (.t 5))),
  ER 2 (some 19) none (.iad 1 (.t 17) (.t 18)),
  ER 3 (some 20) none (.load false false 1 (.t 19)),
  E0 4 (some 21) none (.i (.mv (.t 1))),
  E0 5 (some 22) none (.i (.mv (.t 5))),
  ER 6 (some 23) none (.iad 1 (.t 21) (.t 22)),
  ER 7 (some 24) none (.load false false 1 (.t 23)),
  E0 8 (some 25) none (.i (.bin .neq (.t 20) (.t 24)))]
def laws_eqIntS.r6 : List Ent := [
  E0 0 (some 4) none (.i (.mv (.k (.dat none (.bool false)))))]
def laws_eqIntS.r7 : List Ent := [
  E0 0 (some 15) none (.i (.mv (.t 5))),
  E0 1 (some 16) none (.i (.bin .add (.t 15) (.k (I64 1)))),
  E0 2 (some 5) none (.i (.mv (.t 16)))]
def laws_eqIntS.b0 : KC := .seq (.seq (.reg 576 4 laws_eqIntS.r4) (.cond (.t 14) (.skip) (.exit 0))) (.seq (.block 1 (.seq (.reg 832 9 laws_eqIntS.r5) (.cond (.t 25) (.seq (.reg 1408 1 laws_eqIntS.r6) (.ret)) (.skip)))) (.reg 1472 3 laws_eqIntS.r7))
def laws_eqIntS.r8 : List Ent := [
  E0 0 (some 4) none (.i (.mv (.k (.dat none (.bool true)))))]
def laws_eqIntS.fi : FI := { res := [.t 4], code := .seq (.reg 64 1 laws_eqIntS.r0) (.seq (.seq (.reg 128 5 laws_eqIntS.r1) (.cond (.t 10) (.seq (.reg 448 1 laws_eqIntS.r2) (.ret)) (.skip))) (.seq (.seq (.reg 512 1 laws_eqIntS.r3) (.block 0 (.loop laws_eqIntS.b0))) (.seq (.reg 1664 1 laws_eqIntS.r8) (.ret)))) }
attribute [go_sem] laws_eqIntS.r0 laws_eqIntS.r1 laws_eqIntS.r2 laws_eqIntS.r3 laws_eqIntS.r4 laws_eqIntS.r5 laws_eqIntS.r6 laws_eqIntS.r7 laws_eqIntS.r8
theorem laws_eqIntS.ok : chkF prog F_laws_eqIntS 2 laws_eqIntS.fi = true := by kernel_rfl
end Go.Vm.Ytedcnkglldmkbaa
