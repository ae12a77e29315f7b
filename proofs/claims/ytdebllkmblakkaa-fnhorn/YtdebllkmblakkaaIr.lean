/- The functions that the law reaches, in the text of the interpreter, and that this text fits them (no condition). -/
import Derived.Test.YtdebllkmblakkaaVmd
import Derived.Test.YtdebllkmblakkaaProg
import Derived.KernelRfl
namespace Go.Vm.Ytdebllkmblakkaa
open Go Go.Vm
set_option linter.unusedVariables false
set_option maxRecDepth 100000
noncomputable abbrev prog:Program:=Go.Proofs.Try.prog
abbrev xF:X:=.k (.dat none (.bool false))
abbrev xT:X:=.k (.dat none (.bool true))
abbrev xN (n:Int):X:=.k (I64 n)
abbrev qm (j d n:Nat):Ent:=E0 j (some d) none (.i (.mv (.t n)))
abbrev qe (j d:Nat) (x:I):Ent:=E0 j (some d) none (.i x)
abbrev qs (j:Nat) (x:I):Ent:=E0 j none none (.i x)
abbrev qc (j d:Nat) (x:KO):Ent:=E0 j (some d) none x
abbrev qt (j d g:Nat) (x:I):Ent:=E0 j (some d) (some (g,true)) (.i x)
abbrev qf (j d g:Nat) (x:I):Ent:=E0 j (some d) (some (g,false)) (.i x)
abbrev qh (j d g:Nat) (x:KO):Ent:=E0 j (some d) (some (g,true)) x
abbrev qj (j d g:Nat) (x:KO):Ent:=E0 j (some d) (some (g,false)) x
abbrev qM (n:Nat):I:=.mv (.t n)
abbrev qL (n a:Nat):I:=.load false false n (.t a)
abbrev qA (n a:Nat):I:=.load false true n (.t a)
abbrev qD (k a:Nat):I:=.fad k (.t a)
abbrev qN (a:Nat):I:=.un .not (.t a)
abbrev qI (z a b:Nat):I:=.iad z (.t a) (.t b)
abbrev qZ (a:Nat):I:=.len (.t a)
abbrev qB (o:BinOp) (a b:Nat):I:=.bin o (.t a) (.t b)
abbrev qK (o:BinOp) (a:Nat) (n:Int):I:=.bin o (.t a) (.k (I64 n))
abbrev qX (j a:Nat):I:=.ext j (.t a)
abbrev qW (k:Nat) (a b:Nat):I:=.store k (.t a) (.t b)
abbrev qr (j d:Nat) (x:I):Ent:=ER j (some d) none x
abbrev qx (j d:Nat) (x:I) (k:Nat) (a b:List Nat) (w:Bool):Ent:=EX j (some d) none (.i x) k a b w
abbrev qC (f:FuncId) (l:List X):KO:=.call f false (roA l)
abbrev qV (f:FuncId) (a:Nat):KO:=.call f false (roA [.t a])
abbrev F_laws_FnExactOpposed:FuncId:=3
abbrev F_laws_FnExactLeadsTo:FuncId:=4
abbrev F_laws_FnExactFixed:FuncId:=5
abbrev F_laws_FnExactLoopsOf:FuncId:=6
abbrev F_laws_FnExactSolveTwo:FuncId:=7
abbrev F_laws_FnLeads:FuncId:=8
abbrev F_laws_FnTwos:FuncId:=9
abbrev F_laws_FnLeast:FuncId:=10
abbrev F_laws_FnHorn:FuncId:=11
abbrev F_laws_FnEnough:FuncId:=12
abbrev F_laws_FnLaidOut:FuncId:=13
abbrev F_laws_szIntSS:FuncId:=14
abbrev F_spec_Opposed:FuncId:=15
abbrev F_laws_toIntSS:FuncId:=16
abbrev F_impl_Opposed:FuncId:=17
abbrev F_laws_eqIntSS:FuncId:=18
abbrev F_spec_LeadsTo:FuncId:=19
abbrev F_impl_LeadsTo:FuncId:=20
abbrev F_laws_eqIntS:FuncId:=21
abbrev F_laws_markIntSS:FuncId:=22
abbrev F_laws_markIntS:FuncId:=23
abbrev F_laws_heldIntS:FuncId:=24
abbrev F_spec_Fixed:FuncId:=25
abbrev F_impl_Fixed:FuncId:=26
abbrev F_spec_LoopsOf:FuncId:=27
abbrev F_impl_LoopsOf:FuncId:=28
abbrev F_laws_heldIntSS:FuncId:=29
abbrev F_spec_SolveTwo:FuncId:=30
abbrev F_impl_SolveTwo:FuncId:=31
abbrev F_laws_eqBoolS:FuncId:=32
abbrev F_laws_markBoolS:FuncId:=33
abbrev F_laws_heldBoolS:FuncId:=34
abbrev F_spec_DrawLeadsTo:FuncId:=35
abbrev F_laws_sameInts:FuncId:=36
abbrev F_laws_has:FuncId:=37
abbrev F_spec_DrawLoopsOf:FuncId:=38
abbrev F_spec_DrawTwoOf:FuncId:=39
abbrev F_impl_TwoOf:FuncId:=40
abbrev F_spec_TwoOf:FuncId:=41
abbrev F_laws_sameRows:FuncId:=42
abbrev F_spec_DrawSolveTwo:FuncId:=43
abbrev F_laws_sameBools:FuncId:=44
abbrev F_impl_IsTwo:FuncId:=45
abbrev F_impl_CountModels:FuncId:=46
abbrev F_impl_Solve:FuncId:=47
abbrev F_impl_HoldsAll:FuncId:=48
abbrev F_laws_allIn:FuncId:=49
abbrev F_impl_SolveWith:FuncId:=50
abbrev F_spec_DrawFixed:FuncId:=51
abbrev F_spec_DrawLeastOf:FuncId:=52
abbrev F_impl_LeastOf:FuncId:=53
abbrev F_spec_LeastOf:FuncId:=54
abbrev F_impl_GoodRules:FuncId:=55
abbrev F_impl_HoldsIn:FuncId:=56
abbrev F_impl_RulesAsClauses:FuncId:=57
abbrev F_impl_IsHorn:FuncId:=58
abbrev F_laws_modelOf:FuncId:=59
abbrev F_spec_DrawHoldsIn:FuncId:=60
abbrev F_spec_HoldsIn:FuncId:=61
abbrev F_spec_DrawWhyOf:FuncId:=62
abbrev F_impl_WhyOf:FuncId:=63
abbrev F_spec_WhyOf:FuncId:=64
abbrev F_laws_listOf:FuncId:=65
abbrev F_laws_numberOf:FuncId:=66
abbrev F_impl_MeetOf:FuncId:=67
abbrev F_spec_DrawMeetOf:FuncId:=68
abbrev F_spec_MeetOf:FuncId:=69
abbrev F_spec_DrawRulesAsClauses:FuncId:=70
abbrev F_spec_RulesAsClauses:FuncId:=71
abbrev F_spec_DrawIsHorn:FuncId:=72
abbrev F_spec_IsHorn:FuncId:=73
abbrev F_laws_sameRules:FuncId:=74
abbrev F_spec_DrawEnoughFor:FuncId:=75
abbrev F_impl_EnoughFor:FuncId:=76
abbrev F_spec_EnoughFor:FuncId:=77
abbrev F_impl_ReachWithin:FuncId:=78
abbrev F_spec_DrawWalksOf:FuncId:=79
abbrev F_impl_WalksOf:FuncId:=80
abbrev F_spec_WalksOf:FuncId:=81
abbrev F_laws_hasArc:FuncId:=82
abbrev F_spec_DrawReachWithin:FuncId:=83
abbrev F_spec_ReachWithin:FuncId:=84
abbrev F_spec_DrawIsWalk:FuncId:=85
abbrev F_impl_IsWalk:FuncId:=86
abbrev F_spec_IsWalk:FuncId:=87
abbrev F_impl_LaidWalk:FuncId:=88
abbrev F_spec_LaidWalk:FuncId:=89
abbrev F_impl_LayOut:FuncId:=90
abbrev F_spec_DrawLayOut:FuncId:=91
abbrev F_spec_LayOut:FuncId:=92
abbrev F_impl_BackArcs:FuncId:=93
abbrev F_spec_BackArcs:FuncId:=94
abbrev F_laws_sameArcs:FuncId:=95
abbrev F_impl_GoodArcs:FuncId:=96
abbrev F_laws_szIntS:FuncId:=97
abbrev F_spec_IsTwo:FuncId:=98
abbrev F_spec_l15Opposed:FuncId:=99
abbrev F_laws_toIntS:FuncId:=100
abbrev F_impl_opposed:FuncId:=101
abbrev F_spec_l1In:FuncId:=102
abbrev F_spec_l15Leads:FuncId:=103
abbrev F_impl_isLiteral:FuncId:=104
abbrev F_impl_leadsTo:FuncId:=105
abbrev F_spec_l1Has:FuncId:=106
abbrev F_impl_leads:FuncId:=107
abbrev F_slices_DeleteFunc__sint_int:FuncId:=108
abbrev F_impl_LoopsOf_c1:FuncId:=109
abbrev F_spec_l1Put:FuncId:=110
abbrev F_slices_Contains__sint_int:FuncId:=111
abbrev F_spec_pl1Cur_twos:FuncId:=112
abbrev F_spec_pl1Cur_pick:FuncId:=113
abbrev F_spec_DrawIsTwo:FuncId:=114
abbrev F_spec_pl1Cur_one:FuncId:=115
abbrev F_impl_in:FuncId:=116
abbrev F_impl_isClause:FuncId:=117
abbrev F_spec_l4Clause:FuncId:=118
abbrev F_impl_GoodClauses:FuncId:=119
abbrev F_slices_ContainsFunc__ssint_sint:FuncId:=120
abbrev F_impl_IsTwo_c1:FuncId:=121
abbrev F_impl_countModels:FuncId:=122
abbrev F_impl_solve:FuncId:=123
abbrev F_impl_holds:FuncId:=124
abbrev F_slices_Concat__ssint_sint:FuncId:=125
abbrev F_impl_units:FuncId:=126
abbrev F_spec_DrawGoodRules:FuncId:=127
abbrev F_impl_least:FuncId:=128
abbrev F_slices_ContainsFunc__sRule_Rule:FuncId:=129
abbrev F_impl_LeastOf_c1:FuncId:=130
abbrev F_impl_Rule_met:FuncId:=131
abbrev F_impl_list:FuncId:=132
abbrev F_impl_LeastOf_c2:FuncId:=133
abbrev F_spec_GoodRules:FuncId:=134
abbrev F_spec_l16Least:FuncId:=135
abbrev F_impl_GoodRules_c1:FuncId:=136
abbrev F_impl_areFacts:FuncId:=137
abbrev F_impl_HoldsIn_c1:FuncId:=138
abbrev F_impl_learn:FuncId:=139
abbrev F_slices_Clone__sint_int:FuncId:=140
abbrev F_impl_IsHorn_c1:FuncId:=141
abbrev F_spec_pl1Cur_rules:FuncId:=142
abbrev F_spec_pl1Cur_facts:FuncId:=143
abbrev F_spec_l16Facts:FuncId:=144
abbrev F_spec_l16All:FuncId:=145
abbrev F_slices_IndexFunc__sint_int:FuncId:=146
abbrev F_impl_WhyOf_c1:FuncId:=147
abbrev F_impl_MeetOf_c1:FuncId:=148
abbrev F_spec_l5Negate:FuncId:=149
abbrev F_spec_DrawGoodClauses:FuncId:=150
abbrev F_spec_GoodClauses:FuncId:=151
abbrev F_slices_Equal__sbool_bool:FuncId:=152
abbrev F_impl_within:FuncId:=153
abbrev F_spec_GoodArcs:FuncId:=154
abbrev F_spec_l12Reach:FuncId:=155
abbrev F_impl_ReachWithin_c1:FuncId:=156
abbrev F_spec_pl1Cur_arcs:FuncId:=157
abbrev F_spec_pl1Cur_walk:FuncId:=158
abbrev F_impl_isVertices:FuncId:=159
abbrev F_slices_Contains__sArc_Arc:FuncId:=160
abbrev F_spec_l12Walk:FuncId:=161
abbrev F_spec_l12Arc:FuncId:=162
abbrev F_impl_isSpots:FuncId:=163
abbrev F_impl_BackArcs_c1:FuncId:=164
abbrev F_spec_l15Next:FuncId:=165
abbrev F_slices_Sort__sint_int:FuncId:=166
abbrev F_slices_Index__sint_int:FuncId:=167
abbrev F_spec_pl1Cur_among:FuncId:=168
abbrev F_spec_pl1Cur_lit:FuncId:=169
abbrev F_spec_CleanClause:FuncId:=170
abbrev F_spec_pl1Cur_among3:FuncId:=171
abbrev F_spec_pl1Cur_next:FuncId:=172
abbrev F_slices_ContainsFunc__sint_int:FuncId:=173
abbrev F_impl_isClause_c1:FuncId:=174
abbrev F_impl_variable:FuncId:=175
abbrev F_impl_areClauses:FuncId:=176
abbrev F_slices_IndexFunc__ssint_sint:FuncId:=177
abbrev F_impl_model:FuncId:=178
abbrev F_impl_propagate:FuncId:=179
abbrev F_impl_decide:FuncId:=180
abbrev F_impl_holds_c1:FuncId:=181
abbrev F_slices_Grow__ssint_sint:FuncId:=182
abbrev F_slices_IndexFunc__sRule_Rule:FuncId:=183
abbrev F_impl_least_c1:FuncId:=184
abbrev F_impl_Rule_met_c1:FuncId:=185
abbrev F_spec_l1Least:FuncId:=186
abbrev F_spec_l1Rising:FuncId:=187
abbrev F_spec_pl1Cur_clauses:FuncId:=188
abbrev F_spec_l4Good:FuncId:=189
abbrev F_slices_Clone__sbool_bool:FuncId:=190
abbrev F_impl_isVertices_c1:FuncId:=191
abbrev F_slices_Index__sArc_Arc:FuncId:=192
abbrev F_spec_l1All:FuncId:=193
abbrev F_slices_pdqsortOrdered__int:FuncId:=194
abbrev F_bits_Len:FuncId:=195
abbrev F_impl_areClauses_c1:FuncId:=196
abbrev F_impl_meets:FuncId:=197
abbrev F_impl_without:FuncId:=198
abbrev F_slices_insertionSortOrdered__int:FuncId:=199
abbrev F_slices_heapSortOrdered__int:FuncId:=200
abbrev F_slices_breakPatternsOrdered__int:FuncId:=201
abbrev F_slices_choosePivotOrdered__int:FuncId:=202
abbrev F_slices_reverseRangeOrdered__int:FuncId:=203
abbrev F_slices_partialInsertionSortOrdered__int:FuncId:=204
abbrev F_cmp_Less__int:FuncId:=205
abbrev F_slices_partitionEqualOrdered__int:FuncId:=206
abbrev F_slices_partitionOrdered__int:FuncId:=207
abbrev F_bits_Len32:FuncId:=208
abbrev F_bits_Len64:FuncId:=209
abbrev F_impl_meets_c1:FuncId:=210
abbrev F_impl_without_c1:FuncId:=211
abbrev F_slices_siftDownOrdered__int:FuncId:=212
abbrev F_slices_nextPowerOfTwo:FuncId:=213
abbrev F_slices_pxorshift_Next:FuncId:=214
abbrev F_slices_medianAdjacentOrdered__int:FuncId:=215
abbrev F_slices_medianOrdered__int:FuncId:=216
abbrev F_cmp_isNaN__int:FuncId:=217
abbrev F_slices_order2Ordered__int:FuncId:=218
abbrev F_runtime_boundsError_Error:FuncId:=219
abbrev F_runtime_boundsError_RuntimeError:FuncId:=220
abbrev F_runtime_errorString_Error:FuncId:=221
abbrev F_runtime_errorString_RuntimeError:FuncId:=222
abbrev F_runtime_plainError_Error:FuncId:=223
abbrev F_runtime_plainError_RuntimeError:FuncId:=224
abbrev F_runtime_errorAddressString_Error:FuncId:=225
abbrev F_runtime_errorAddressString_RuntimeError:FuncId:=226
abbrev F_runtime_pTypeAssertionError_Error:FuncId:=227
abbrev F_runtime_pTypeAssertionError_RuntimeError:FuncId:=228
abbrev F_runtime_pPanicNilError_Error:FuncId:=229
abbrev F_runtime_pPanicNilError_RuntimeError:FuncId:=230
abbrev F_abi_pType_Align:FuncId:=231
abbrev F_maps_unhashableTypeError_Error:FuncId:=232
abbrev F_maps_unhashableTypeError_RuntimeError:FuncId:=233
abbrev F_abi_Kind_String:FuncId:=234
namespace spec_l1In
def r0:List Ent:=[
 qe 0 6 (.mv xF)]
def r1:List Ent:=[
 qm 0 7 0,
 qm 1 8 1,
 qe 2 9 (qB .geq 7 8),
 qm 3 10 9,
 qt 4 11 10 (qM 0),
 qt 5 12 10 (qM 2),
 qt 6 13 10 (qB .leq 11 12),
 qe 7 14 (.pick (.t 10) (.t 13) xF),
 qm 8 6 14]
def fi:FI:={ res:=[.t 6],code:=.seq (.reg 64 1 r0) (.seq (.reg 128 9 r1) (.ret)) }
attribute [go_sem] r0 r1
theorem ok:chkF prog F_spec_l1In 3 fi=true:=by kernel_rfl
end spec_l1In
namespace spec_l1Has
def r0:List Ent:=[
 qe 0 4 (.mv xF)]
def r1:List Ent:=[
 qm 0 7 0,
 qe 1 8 (qZ 7),
 qe 2 9 (.mv (xN 0))]
def r2:List Ent:=[
 qe 0 10 (qB .lss 9 8)]
def r3:List Ent:=[
 qe 0 11 (qI 1 7 9),
 qe 1 12 (qL 1 11),
 qm 2 6 12]
def r4:List Ent:=[
 qm 0 13 6,
 qm 1 14 1,
 qe 2 15 (qB .eql 13 14)]
def r5:List Ent:=[
 qe 0 4 (.mv xT)]
def r6:List Ent:=[
 qe 0 16 (qK .add 9 1),
 qm 1 9 16]
def b0:KC:=.seq (.reg 320 1 r2) (.seq (.cond (.t 10) (.skip) (.exit 0)) (.seq (.block 1 (.seq (.reg 384 3 r3) (.seq (.reg 576 3 r4) (.cond (.t 15) (.seq (.reg 768 1 r5) (.ret)) (.skip))))) (.reg 832 2 r6)))
def r7:List Ent:=[
 qe 0 4 (.mv xF)]
def fi:FI:={ res:=[.t 4],code:=.seq (.reg 64 1 r0) (.seq (.seq (.reg 128 3 r1) (.block 0 (.loop b0))) (.seq (.reg 960 1 r7) (.ret))) }
attribute [go_sem] r0 r1 r2 r3 r4 r5 r6 r7
theorem ok:chkF prog F_spec_l1Has 2 fi=true:=by kernel_rfl
end spec_l1Has
namespace spec_l4Clause
def r0:List Ent:=[
 qe 0 4 (.mv xF)]
def r1:List Ent:=[
 qm 0 7 1,
 qe 1 8 (qZ 7),
 qe 2 9 (.mv (xN 0))]
def r2:List Ent:=[
 qe 0 10 (qB .lss 9 8)]
def r3:List Ent:=[
 qm 0 11 9,
 qe 1 12 (qI 1 7 9),
 qe 2 13 (qL 1 12),
 qm 3 5 11,
 qm 4 6 13]
def r4:List Ent:=[
 qm 0 14 6,
 qe 1 15 (qK .eql 14 0),
 qm 2 16 15,
 qf 3 17 16 (qM 6),
 qf 4 18 16 (qM 0),
 qf 5 19 16 (.un .neg (.t 18)),
 qf 6 20 16 (qM 0),
 qj 7 21 16 (qC F_spec_l1In [.t 17,.t 19,.t 20]),
 qf 8 22 16 (qN 21),
 qe 9 23 (.pick (.t 16) xT (.t 22)),
 qm 10 24 23,
 qf 11 25 24 (qM 1),
 qf 12 26 24 (qM 5),
 qf 13 27 24 (.slc 1 (.t 25) (none) (some (.t 26))),
 qf 14 28 24 (qM 6),
 qj 15 29 24 (qC F_spec_l1Has [.t 27,.t 28]),
 qe 16 30 (.pick (.t 24) xT (.t 29)),
 qm 17 31 30,
 qf 18 32 31 (qM 1),
 qf 19 33 31 (qM 5),
 qf 20 34 31 (.slc 1 (.t 32) (none) (some (.t 33))),
 qf 21 35 31 (qM 6),
 qf 22 36 31 (.un .neg (.t 35)),
 qj 23 37 31 (qC F_spec_l1Has [.t 34,.t 36]),
 qe 24 38 (.pick (.t 31) xT (.t 37))]
def r5:List Ent:=[
 qe 0 4 (.mv xF)]
def r6:List Ent:=[
 qe 0 39 (qK .add 9 1),
 qm 1 9 39]
def b0:KC:=.seq (.reg 320 1 r2) (.seq (.cond (.t 10) (.skip) (.exit 0)) (.seq (.block 1 (.seq (.reg 384 5 r3) (.seq (.reg 704 25 r4) (.cond (.t 38) (.seq (.reg 2304 1 r5) (.ret)) (.skip))))) (.reg 2368 2 r6)))
def r7:List Ent:=[
 qm 0 40 1,
 qe 1 41 (qZ 40),
 qe 2 42 (qK .leq 41 12),
 qm 3 4 42]
def fi:FI:={ res:=[.t 4],code:=.seq (.reg 64 1 r0) (.seq (.seq (.reg 128 3 r1) (.block 0 (.loop b0))) (.seq (.reg 2496 4 r7) (.ret))) }
attribute [go_sem] r0 r1 r2 r3 r4 r5 r6 r7
theorem ok:chkF prog F_spec_l4Clause 2 fi=true:=by kernel_rfl
end spec_l4Clause
namespace spec_l4Good
def r0:List Ent:=[
 qe 0 6 (.mv xF)]
def r1:List Ent:=[
 qm 0 9 0,
 qc 1 10 (qC F_spec_l1In [.t 9,xN 0,xN 12]),
 qe 2 11 (qN 10),
 qm 3 12 11,
 qf 4 13 12 (qM 1),
 qf 5 14 12 (qZ 13),
 qf 6 15 12 (qM 2),
 qf 7 16 12 (qB .gtr 14 15),
 qe 8 17 (.pick (.t 12) xT (.t 16))]
def r2:List Ent:=[
 qe 0 6 (.mv xF)]
def r3:List Ent:=[
 qm 0 18 1,
 qe 1 19 (qZ 18),
 qe 2 20 (.mv (xN 0))]
def r4:List Ent:=[
 qe 0 21 (qB .lss 20 19)]
def r5:List Ent:=[
 qe 0 22 (qI 1 18 20),
 qe 1 23 (qL 1 22),
 qm 2 8 23]
def r6:List Ent:=[
 qm 0 24 0,
 qm 1 25 8,
 qc 2 26 (qC F_spec_l4Clause [.t 24,.t 25]),
 qe 3 27 (qN 26)]
def r7:List Ent:=[
 qe 0 6 (.mv xF)]
def r8:List Ent:=[
 qe 0 28 (qK .add 20 1),
 qm 1 20 28]
def b0:KC:=.seq (.reg 960 1 r4) (.seq (.cond (.t 21) (.skip) (.exit 0)) (.seq (.block 1 (.seq (.reg 1024 3 r5) (.seq (.reg 1216 4 r6) (.cond (.t 27) (.seq (.reg 1472 1 r7) (.ret)) (.skip))))) (.reg 1536 2 r8)))
def r9:List Ent:=[
 qe 0 6 (.mv xT)]
def fi:FI:={ res:=[.t 6],code:=.seq (.reg 64 1 r0) (.seq (.seq (.reg 128 9 r1) (.cond (.t 17) (.seq (.reg 704 1 r2) (.ret)) (.skip))) (.seq (.seq (.reg 768 3 r3) (.block 0 (.loop b0))) (.seq (.reg 1664 1 r9) (.ret)))) }
attribute [go_sem] r0 r1 r2 r3 r4 r5 r6 r7 r8 r9
theorem ok:chkF prog F_spec_l4Good 3 fi=true:=by kernel_rfl
end spec_l4Good
namespace spec_GoodClauses
def r0:List Ent:=[
 qe 0 4 (.mv xF)]
def r1:List Ent:=[
 qm 0 5 0,
 qm 1 6 1,
 qc 2 7 (qC F_spec_l4Good [.t 5,.t 6,xN 60]),
 qm 3 4 7]
def fi:FI:={ res:=[.t 4],code:=.seq (.reg 64 1 r0) (.seq (.reg 128 4 r1) (.ret)) }
attribute [go_sem] r0 r1
theorem ok:chkF prog F_spec_GoodClauses 2 fi=true:=by kernel_rfl
end spec_GoodClauses
namespace impl_in
def r0:List Ent:=[
 qe 0 6 (.mv xF)]
def r1:List Ent:=[
 qm 0 7 0,
 qm 1 8 1,
 qe 2 9 (qB .geq 7 8),
 qm 3 10 9,
 qt 4 11 10 (qM 0),
 qt 5 12 10 (qM 2),
 qt 6 13 10 (qB .leq 11 12),
 qe 7 14 (.pick (.t 10) (.t 13) xF),
 qm 8 6 14]
def fi:FI:={ res:=[.t 6],code:=.seq (.reg 64 1 r0) (.seq (.reg 128 9 r1) (.ret)) }
attribute [go_sem] r0 r1
theorem ok:chkF prog F_impl_in 3 fi=true:=by kernel_rfl
end impl_in
namespace slices_IndexFunc__ssint_sint
def r0:List Ent:=[
 qe 0 4 (.mv (xN 0))]
def r1:List Ent:=[
 qm 0 6 0,
 qe 1 7 (qZ 6),
 qe 2 8 (.mv (xN 0))]
def r2:List Ent:=[
 qe 0 9 (qB .lss 8 7)]
def r3:List Ent:=[
 qm 0 10 8,
 qm 1 5 10]
def r4:List Ent:=[
 qm 0 11 1,
 qm 1 12 0,
 qm 2 13 5,
 qe 3 14 (qI 1 12 13),
 qe 4 15 (qL 1 14),
 qc 5 16 (.ccl (.t 11) false [.t 15])]
def r5:List Ent:=[
 qm 0 17 5,
 qm 1 4 17]
def r6:List Ent:=[
 qe 0 18 (qK .add 8 1),
 qm 1 8 18]
def b0:KC:=.seq (.reg 320 1 r2) (.seq (.cond (.t 9) (.skip) (.exit 0)) (.seq (.block 1 (.seq (.reg 384 2 r3) (.seq (.reg 512 6 r4) (.cond (.t 16) (.seq (.reg 896 2 r5) (.ret)) (.skip))))) (.reg 1024 2 r6)))
def r7:List Ent:=[
 qe 0 4 (.mv (xN (-1)))]
def fi:FI:={ res:=[.t 4],code:=.seq (.reg 64 1 r0) (.seq (.seq (.reg 128 3 r1) (.block 0 (.loop b0))) (.seq (.reg 1152 1 r7) (.ret))) }
attribute [go_sem] r0 r1 r2 r3 r4 r5 r6 r7
theorem ok:chkF prog F_slices_IndexFunc__ssint_sint 2 fi=true:=by kernel_rfl
end slices_IndexFunc__ssint_sint
namespace slices_ContainsFunc__ssint_sint
def r0:List Ent:=[
 qe 0 4 (.mv xF)]
def r1:List Ent:=[
 qm 0 5 0,
 qm 1 6 1,
 qc 2 7 (qC F_slices_IndexFunc__ssint_sint [.t 5,.t 6]),
 qe 3 8 (qK .geq 7 0),
 qm 4 4 8]
def fi:FI:={ res:=[.t 4],code:=.seq (.reg 64 1 r0) (.seq (.reg 128 5 r1) (.ret)) }
attribute [go_sem] r0 r1
theorem ok:chkF prog F_slices_ContainsFunc__ssint_sint 2 fi=true:=by kernel_rfl
end slices_ContainsFunc__ssint_sint
namespace impl_isLiteral
def r0:List Ent:=[
 qe 0 4 (.mv xF)]
def r1:List Ent:=[
 qm 0 5 0,
 qe 1 6 (qK .neq 5 0),
 qm 2 7 6,
 qt 3 8 7 (qM 0),
 qt 4 9 7 (qM 1),
 qt 5 10 7 (.un .neg (.t 9)),
 qt 6 11 7 (qM 1),
 qh 7 12 7 (qC F_impl_in [.t 8,.t 10,.t 11]),
 qe 8 13 (.pick (.t 7) (.t 12) xF),
 qm 9 4 13]
def fi:FI:={ res:=[.t 4],code:=.seq (.reg 64 1 r0) (.seq (.reg 128 10 r1) (.ret)) }
attribute [go_sem] r0 r1
theorem ok:chkF prog F_impl_isLiteral 2 fi=true:=by kernel_rfl
end impl_isLiteral
namespace slices_IndexFunc__sint_int
def r0:List Ent:=[
 qe 0 4 (.mv (xN 0))]
def r1:List Ent:=[
 qm 0 6 0,
 qe 1 7 (qZ 6),
 qe 2 8 (.mv (xN 0))]
def r2:List Ent:=[
 qe 0 9 (qB .lss 8 7)]
def r3:List Ent:=[
 qm 0 10 8,
 qm 1 5 10]
def r4:List Ent:=[
 qm 0 11 1,
 qm 1 12 0,
 qm 2 13 5,
 qe 3 14 (qI 1 12 13),
 qe 4 15 (qL 1 14),
 qc 5 16 (.ccl (.t 11) false [.t 15])]
def r5:List Ent:=[
 qm 0 17 5,
 qm 1 4 17]
def r6:List Ent:=[
 qe 0 18 (qK .add 8 1),
 qm 1 8 18]
def b0:KC:=.seq (.reg 320 1 r2) (.seq (.cond (.t 9) (.skip) (.exit 0)) (.seq (.block 1 (.seq (.reg 384 2 r3) (.seq (.reg 512 6 r4) (.cond (.t 16) (.seq (.reg 896 2 r5) (.ret)) (.skip))))) (.reg 1024 2 r6)))
def r7:List Ent:=[
 qe 0 4 (.mv (xN (-1)))]
def fi:FI:={ res:=[.t 4],code:=.seq (.reg 64 1 r0) (.seq (.seq (.reg 128 3 r1) (.block 0 (.loop b0))) (.seq (.reg 1152 1 r7) (.ret))) }
attribute [go_sem] r0 r1 r2 r3 r4 r5 r6 r7
theorem ok:chkF prog F_slices_IndexFunc__sint_int 2 fi=true:=by kernel_rfl
end slices_IndexFunc__sint_int
namespace slices_ContainsFunc__sint_int
def r0:List Ent:=[
 qe 0 4 (.mv xF)]
def r1:List Ent:=[
 qm 0 5 0,
 qm 1 6 1,
 qc 2 7 (qC F_slices_IndexFunc__sint_int [.t 5,.t 6]),
 qe 3 8 (qK .geq 7 0),
 qm 4 4 8]
def fi:FI:={ res:=[.t 4],code:=.seq (.reg 64 1 r0) (.seq (.reg 128 5 r1) (.ret)) }
attribute [go_sem] r0 r1
theorem ok:chkF prog F_slices_ContainsFunc__sint_int 2 fi=true:=by kernel_rfl
end slices_ContainsFunc__sint_int
namespace impl_variable
def r0:List Ent:=[
 qe 0 2 (.mv (xN 0))]
def r1:List Ent:=[
 qm 0 3 0,
 qm 1 4 0,
 qe 2 5 (.un .neg (.t 4)),
 qe 3 6 (.mnx true (.t 3) (.t 5)),
 qm 4 2 6]
def fi:FI:={ res:=[.t 2],code:=.seq (.reg 64 1 r0) (.seq (.reg 128 5 r1) (.ret)) }
attribute [go_sem] r0 r1
theorem ok:chkF prog F_impl_variable 1 fi=true:=by kernel_rfl
end impl_variable
namespace impl_isClause_c1
def r0:List Ent:=[
 qe 0 3 (.mv xF)]
def r1:List Ent:=[
 qm 0 4 0,
  E2 1 (some 5) none (.call F_impl_variable false (roA [.t 4])),
 qr 2 6 (qL 1 1),
 qc 3 7 (qV F_impl_variable 6),
 qe 4 8 (qB .eql 5 7),
 qm 5 3 8]
def fi:FI:={ res:=[.t 3],code:=.seq (.reg 64 1 r0) (.seq (.reg 128 6 r1) (.ret)) }
attribute [go_sem] r0 r1
theorem ok:chkF prog F_impl_isClause_c1 2 fi=true:=by kernel_rfl
end impl_isClause_c1
namespace impl_isClause
def r0:List Ent:=[
 qe 0 4 (.mv xF)]
def r1:List Ent:=[
 qm 0 7 0,
 qe 1 8 (qZ 7),
 qe 2 9 (.mv (xN 0))]
def r2:List Ent:=[
 qe 0 10 (qB .lss 9 8)]
def r3:List Ent:=[
 qm 0 11 9,
 qe 1 12 (qI 1 7 9),
 qe 2 13 (qL 1 12),
 qe 3 6 (.box (.k (.dat none (.int .i64 0)))),
 qm 4 5 11,
 qs 5 (qW 1 6 13)]
def r4:List Ent:=[
 qe 0 14 (qL 1 6),
 qm 1 15 1,
 qc 2 16 (qC F_impl_isLiteral [.t 14,.t 15]),
 qe 3 17 (qN 16),
 qm 4 18 17,
 qf 5 19 18 (qM 0),
 qf 6 20 18 (qM 5),
 qf 7 21 18 (.slc 1 (.t 19) (none) (some (.t 20))),
 qf 8 22 18 (.mkf F_impl_isClause_c1 [.t 6]),
 qj 9 23 18 (qC F_slices_ContainsFunc__sint_int [.t 21,.t 22]),
 qe 10 24 (.pick (.t 18) xT (.t 23))]
def r5:List Ent:=[
 qe 0 4 (.mv xF)]
def r6:List Ent:=[
 qe 0 25 (qK .add 9 1),
 qm 1 9 25]
def b0:KC:=.seq (.reg 320 1 r2) (.seq (.cond (.t 10) (.skip) (.exit 0)) (.seq (.block 1 (.seq (.reg 384 6 r3) (.seq (.reg 768 11 r4) (.cond (.t 24) (.seq (.reg 1472 1 r5) (.ret)) (.skip))))) (.reg 1536 2 r6)))
def r7:List Ent:=[
 qm 0 26 0,
 qe 1 27 (qZ 26),
 qe 2 28 (qK .leq 27 12),
 qm 3 4 28]
def fi:FI:={ res:=[.t 4],code:=.seq (.reg 64 1 r0) (.seq (.seq (.reg 128 3 r1) (.block 0 (.loop b0))) (.seq (.reg 1664 4 r7) (.ret))) }
attribute [go_sem] r0 r1 r2 r3 r4 r5 r6 r7
theorem ok:chkF prog F_impl_isClause 2 fi=true:=by kernel_rfl
end impl_isClause
namespace impl_areClauses_c1
def r0:List Ent:=[
 qe 0 3 (.mv xF)]
def r1:List Ent:=[
 qm 0 4 0,
 qe 1 5 (qL 1 1),
 qc 2 6 (qC F_impl_isClause [.t 4,.t 5]),
 qe 3 7 (qN 6),
 qm 4 3 7]
def fi:FI:={ res:=[.t 3],code:=.seq (.reg 64 1 r0) (.seq (.reg 128 5 r1) (.ret)) }
attribute [go_sem] r0 r1
theorem ok:chkF prog F_impl_areClauses_c1 2 fi=true:=by kernel_rfl
end impl_areClauses_c1
namespace impl_areClauses
def r0:List Ent:=[
 qe 0 3 (.box (.t 1)),
 qe 1 4 (.mv xF)]
def r1:List Ent:=[
 qm 0 5 0,
 qe 1 6 (.mkf F_impl_areClauses_c1 [.t 3]),
 qc 2 7 (qC F_slices_ContainsFunc__ssint_sint [.t 5,.t 6]),
 qe 3 8 (qN 7),
 qm 4 4 8]
def fi:FI:={ res:=[.t 4],code:=.seq (.reg 64 2 r0) (.seq (.reg 192 5 r1) (.ret)) }
attribute [go_sem] r0 r1
theorem ok:chkF prog F_impl_areClauses 2 fi=true:=by kernel_rfl
end impl_areClauses
namespace impl_GoodClauses
def r0:List Ent:=[
 qe 0 4 (.mv xF)]
def r1:List Ent:=[
 qm 0 5 0,
 qc 1 6 (qC F_impl_in [.t 5,xN 0,xN 12]),
 qm 2 7 6,
 qt 3 8 7 (qM 1),
 qt 4 9 7 (qZ 8),
 qt 5 10 7 (qK .leq 9 60),
 qe 6 11 (.pick (.t 7) (.t 10) xF),
 qm 7 12 11,
 qt 8 13 12 (qM 1),
 qt 9 14 12 (qM 0),
 qh 10 15 12 (qC F_impl_areClauses [.t 13,.t 14]),
 qe 11 16 (.pick (.t 12) (.t 15) xF),
 qm 12 4 16]
def fi:FI:={ res:=[.t 4],code:=.seq (.reg 64 1 r0) (.seq (.reg 128 13 r1) (.ret)) }
attribute [go_sem] r0 r1
theorem ok:chkF prog F_impl_GoodClauses 2 fi=true:=by kernel_rfl
end impl_GoodClauses
namespace slices_Index__sint_int
def r0:List Ent:=[
 qe 0 4 (.mv (xN 0))]
def r1:List Ent:=[
 qm 0 6 0,
 qe 1 7 (qZ 6),
 qe 2 8 (.mv (xN 0))]
def r2:List Ent:=[
 qe 0 9 (qB .lss 8 7)]
def r3:List Ent:=[
 qm 0 10 8,
 qm 1 5 10]
def r4:List Ent:=[
 qm 0 11 1,
 qm 1 12 0,
 qm 2 13 5,
 qe 3 14 (qI 1 12 13),
 qe 4 15 (qL 1 14),
 qe 5 16 (qB .eql 11 15)]
def r5:List Ent:=[
 qm 0 17 5,
 qm 1 4 17]
def r6:List Ent:=[
 qe 0 18 (qK .add 8 1),
 qm 1 8 18]
def b0:KC:=.seq (.reg 320 1 r2) (.seq (.cond (.t 9) (.skip) (.exit 0)) (.seq (.block 1 (.seq (.reg 384 2 r3) (.seq (.reg 512 6 r4) (.cond (.t 16) (.seq (.reg 896 2 r5) (.ret)) (.skip))))) (.reg 1024 2 r6)))
def r7:List Ent:=[
 qe 0 4 (.mv (xN (-1)))]
def fi:FI:={ res:=[.t 4],code:=.seq (.reg 64 1 r0) (.seq (.seq (.reg 128 3 r1) (.block 0 (.loop b0))) (.seq (.reg 1152 1 r7) (.ret))) }
attribute [go_sem] r0 r1 r2 r3 r4 r5 r6 r7
theorem ok:chkF prog F_slices_Index__sint_int 2 fi=true:=by kernel_rfl
end slices_Index__sint_int
namespace slices_Contains__sint_int
def r0:List Ent:=[
 qe 0 4 (.mv xF)]
def r1:List Ent:=[
 qm 0 5 0,
 qm 1 6 1,
 qc 2 7 (qC F_slices_Index__sint_int [.t 5,.t 6]),
 qe 3 8 (qK .geq 7 0),
 qm 4 4 8]
def fi:FI:={ res:=[.t 4],code:=.seq (.reg 64 1 r0) (.seq (.reg 128 5 r1) (.ret)) }
attribute [go_sem] r0 r1
theorem ok:chkF prog F_slices_Contains__sint_int 2 fi=true:=by kernel_rfl
end slices_Contains__sint_int
namespace slices_DeleteFunc__sint_int
def r0:List Ent:=[
 qe 0 4 (.mv (.k (.nil 1)))]
def r1:List Ent:=[
 qm 0 8 0,
 qm 1 9 1,
 qc 2 10 (qC F_slices_IndexFunc__sint_int [.t 8,.t 9]),
 qm 3 5 10]
def r2:List Ent:=[
 qm 0 11 5,
 qe 1 12 (qK .eql 11 (-1))]
def r3:List Ent:=[
 qm 0 13 0,
 qm 1 4 13]
def r4:List Ent:=[
 qm 0 14 5,
 qe 1 15 (qK .add 14 1),
 qm 2 6 15]
def r5:List Ent:=[
 qm 0 16 6,
 qm 1 17 0,
 qe 2 18 (qZ 17),
 qe 3 19 (qB .lss 16 18)]
def r6:List Ent:=[
 qm 0 22 0,
 qm 1 23 6,
 qe 2 24 (qI 1 22 23),
 qe 3 25 (qL 1 24),
 qm 4 7 25]
def r7:List Ent:=[
 qm 0 26 1,
 qm 1 27 7,
 qc 2 28 (.ccl (.t 26) false [.t 27]),
 qe 3 29 (qN 28)]
def r8:List Ent:=[
 qm 0 30 0,
 qm 1 31 5,
 qm 2 32 7,
 qe 3 33 (qI 1 30 31),
 qs 4 (qW 1 33 32)]
def r9:List Ent:=[
 qm 0 34 5,
 qe 1 35 (qK .add 34 1),
 qm 2 5 35]
def r10:List Ent:=[
 qm 0 20 6,
 qe 1 21 (qK .add 20 1),
 qm 2 6 21]
def b0:KC:=.seq (.seq (.reg 832 4 r5) (.cond (.t 19) (.skip) (.exit 0))) (.seq (.block 1 (.seq (.reg 1088 5 r6) (.seq (.reg 1408 4 r7) (.cond (.t 29) (.seq (.reg 1664 5 r8) (.reg 1984 3 r9)) (.skip))))) (.reg 2176 3 r10))
def r11:List Ent:=[
 qm 0 36 0,
 qm 1 37 5,
 qe 2 38 (.slc 1 (.t 36) (some (.t 37)) (none)),
 qs 3 (.clr 1 (.int .i64 0) (.t 38))]
def r12:List Ent:=[
 qm 0 39 0,
 qm 1 40 5,
 qe 2 41 (.slc 1 (.t 39) (none) (some (.t 40))),
 qm 3 4 41]
def fi:FI:={ res:=[.t 4],code:=.seq (.reg 64 1 r0) (.seq (.reg 128 4 r1) (.seq (.seq (.reg 384 2 r2) (.cond (.t 12) (.seq (.reg 512 2 r3) (.ret)) (.skip))) (.seq (.seq (.reg 640 3 r4) (.block 0 (.loop b0))) (.seq (.reg 2368 4 r11) (.seq (.reg 2624 4 r12) (.ret)))))) }
attribute [go_sem] r0 r1 r2 r3 r4 r5 r6 r7 r8 r9 r10 r11 r12
theorem ok:chkF prog F_slices_DeleteFunc__sint_int 2 fi=true:=by kernel_rfl
end slices_DeleteFunc__sint_int
namespace spec_pl1Cur_next
def r0:List Ent:=[
 qe 0 2 (.mv (xN 0))]
def r1:List Ent:=[
 qe 0 3 (.mv (xN 0))]
def r2:List Ent:=[
 qm 0 4 0,
 qe 1 5 (.nck (.t 4)),
 qr 2 6 (qD 1 5),
 qr 3 7 (qL 1 6),
 qm 4 8 0,
 qe 5 9 (.nck (.t 8)),
 qr 6 10 (qD 0 9),
 qr 7 11 (qL 1 10),
 qr 8 12 (qZ 11),
 qe 9 13 (qB .lss 7 12)]
def r3:List Ent:=[
 qm 0 14 0,
 qe 1 15 (.nck (.t 14)),
 qr 2 16 (qD 0 15),
 qr 3 17 (qL 1 16),
 qm 4 18 0,
 qe 5 19 (.nck (.t 18)),
 qr 6 20 (qD 1 19),
 qr 7 21 (qL 1 20),
 qe 8 22 (qI 1 17 21),
 qe 9 23 (qL 1 22),
 qe 10 24 (.cnv .i64 (.t 23)),
 qm 11 3 24]
def r4:List Ent:=[
 qm 0 25 0,
 qe 1 26 (.nck (.t 25)),
 qe 2 27 (qD 1 26),
 qe 3 28 (qL 1 27),
 qe 4 29 (qK .add 28 1),
 qe 5 30 (.nck (.t 25)),
 qe 6 31 (qD 1 30),
 qs 7 (qW 1 31 29)]
def r5:List Ent:=[
 qm 0 32 0,
 qm 1 33 0,
 qe 2 34 (.nck (.t 33)),
 qe 3 35 (qD 2 34),
 qe 4 36 (qL 1 35),
 qe 5 37 (.bin .mul (.t 36) (.k (.dat none (.int .u64 6364136223846793005)))),
 qm 6 38 3,
 qe 7 39 (.cnv .u64 (.t 38)),
 qe 8 40 (qB .add 37 39),
 qe 9 41 (.bin .add (.t 40) (.k (.dat none (.int .u64 1442695040888963407)))),
 qe 10 42 (.nck (.t 32)),
 qe 11 43 (qD 2 42),
 qs 12 (qW 1 43 41)]
def r6:List Ent:=[
 qm 0 44 0,
 qe 1 45 (.nck (.t 44)),
 qr 2 46 (qD 1 45),
 qr 3 47 (qL 1 46),
 qm 4 48 0,
 qe 5 49 (.nck (.t 48)),
 qr 6 50 (qD 0 49),
 qr 7 51 (qL 1 50),
 qr 8 52 (qZ 51),
 qe 9 53 (qB .leq 47 52)]
def r7:List Ent:=[
 qm 0 54 3,
 qm 1 2 54]
def r8:List Ent:=[
 qm 0 55 0,
 qe 1 56 (.nck (.t 55)),
 qe 2 57 (qD 2 56),
 qe 3 58 (qL 1 57),
 qe 4 59 (.bin .shr (.t 58) (.k (.dat none (.int .u64 40)))),
 qe 5 60 (.bin .and (.t 59) (.k (.dat none (.int .u64 255)))),
 qe 6 61 (.cnv .i64 (.t 60)),
 qm 7 2 61]
def fi:FI:={ res:=[.t 2],code:=.seq (.reg 64 1 r0) (.seq (.reg 128 1 r1) (.seq (.seq (.reg 192 10 r2) (.cond (.t 13) (.reg 832 12 r3) (.skip))) (.seq (.reg 1600 8 r4) (.seq (.reg 2112 13 r5) (.seq (.seq (.reg 2944 10 r6) (.cond (.t 53) (.seq (.reg 3584 2 r7) (.ret)) (.skip))) (.seq (.reg 3712 8 r8) (.ret))))))) }
attribute [go_sem] r0 r1 r2 r3 r4 r5 r6 r7 r8
theorem ok:chkF prog F_spec_pl1Cur_next 1 fi=true:=by kernel_rfl
end spec_pl1Cur_next
namespace spec_pl1Cur_pick
def r0:List Ent:=[
 qe 0 4 (.mv (xN 0))]
def r1:List Ent:=[
 qm 0 6 1,
 qe 1 7 (qK .leq 6 1)]
def r2:List Ent:=[
 qe 0 4 (.mv (xN 0))]
def r3:List Ent:=[
 qm 0 8 0,
 qc 1 9 (.call F_spec_pl1Cur_next true [(.io,.t 8)]),
 qm 2 5 9]
def r4:List Ent:=[
 qm 0 10 1,
 qe 1 11 (qK .gtr 10 200)]
def r5:List Ent:=[
 qm 0 12 5,
 qe 1 13 (qK .mul 12 256),
 qm 2 14 0,
 qc 3 15 (.call F_spec_pl1Cur_next true [(.io,.t 14)]),
 qe 4 16 (qB .add 13 15),
 qm 5 5 16]
def r6:List Ent:=[
 qm 0 17 5,
 qm 1 18 1,
 qe 2 19 (qB .rem 17 18),
 qm 3 4 19]
def fi:FI:={ res:=[.t 4],code:=.seq (.reg 64 1 r0) (.seq (.seq (.reg 128 2 r1) (.cond (.t 7) (.seq (.reg 256 1 r2) (.ret)) (.skip))) (.seq (.reg 320 3 r3) (.seq (.seq (.reg 512 2 r4) (.cond (.t 11) (.reg 640 6 r5) (.skip))) (.seq (.reg 1024 4 r6) (.ret))))) }
attribute [go_sem] r0 r1 r2 r3 r4 r5 r6
theorem ok:chkF prog F_spec_pl1Cur_pick 2 fi=true:=by kernel_rfl
end spec_pl1Cur_pick
namespace spec_pl1Cur_one
def r0:List Ent:=[
 qe 0 4 (.mv xF)]
def r1:List Ent:=[
 qm 0 5 0,
 qm 1 6 1,
 qc 2 7 (.call F_spec_pl1Cur_pick true [(.io,.t 5),(.ro,.t 6)]),
 qe 3 8 (qK .eql 7 0),
 qm 4 4 8]
def fi:FI:={ res:=[.t 4],code:=.seq (.reg 64 1 r0) (.seq (.reg 128 5 r1) (.ret)) }
attribute [go_sem] r0 r1
theorem ok:chkF prog F_spec_pl1Cur_one 2 fi=true:=by kernel_rfl
end spec_pl1Cur_one
namespace spec_pl1Cur_among
def r0:List Ent:=[
 qe 0 4 (.mv (xN 0))]
def r1:List Ent:=[
 qm 0 5 1,
 qm 1 6 0,
 qm 2 7 1,
 qe 3 8 (qZ 7),
 qc 4 9 (.call F_spec_pl1Cur_pick true [(.io,.t 6),(.ro,.t 8)]),
 qe 5 10 (qI 1 5 9),
 qe 6 11 (qL 1 10),
 qm 7 4 11]
def fi:FI:={ res:=[.t 4],code:=.seq (.reg 64 1 r0) (.seq (.reg 128 8 r1) (.ret)) }
attribute [go_sem] r0 r1
theorem ok:chkF prog F_spec_pl1Cur_among 2 fi=true:=by kernel_rfl
end spec_pl1Cur_among
namespace spec_pl1Cur_lit
def r0:List Ent:=[
 qe 0 4 (.mv (xN 0))]
def r1:List Ent:=[
 qm 0 6 0,
 qm 1 7 1,
 qc 2 8 (.call F_spec_pl1Cur_pick true [(.io,.t 6),(.ro,.t 7)]),
 qe 3 9 (.bin .add (xN 1) (.t 8)),
 qm 4 5 9]
def r2:List Ent:=[
 qm 0 10 0,
 qc 1 11 (.call F_spec_pl1Cur_one true [(.io,.t 10),(.ro,xN 2)])]
def r3:List Ent:=[
 qm 0 12 5,
 qe 1 13 (.un .neg (.t 12)),
 qm 2 4 13]
def r4:List Ent:=[
 qm 0 14 5,
 qm 1 4 14]
def fi:FI:={ res:=[.t 4],code:=.seq (.reg 64 1 r0) (.seq (.reg 128 5 r1) (.seq (.seq (.reg 448 2 r2) (.cond (.t 11) (.seq (.reg 576 3 r3) (.ret)) (.skip))) (.seq (.reg 768 2 r4) (.ret)))) }
attribute [go_sem] r0 r1 r2 r3 r4
theorem ok:chkF prog F_spec_pl1Cur_lit 2 fi=true:=by kernel_rfl
end spec_pl1Cur_lit
namespace spec_CleanClause
def r0:List Ent:=[
 qe 0 2 (.mv (.k (.nil 1))),
 qe 1 3 (.mv xF)]
def r1:List Ent:=[
 qm 0 7 0,
 qe 1 8 (qZ 7),
 qe 2 9 (qK .gtr 8 40)]
def r2:List Ent:=[
 qe 0 2 (.mv (.k (.nil 1))),
 qe 1 3 (.mv xF)]
def r3:List Ent:=[
 qe 0 4 (.mv (.k (.nil 1)))]
def r4:List Ent:=[
 qm 0 10 0,
 qe 1 11 (qZ 10),
 qe 2 12 (.mv (xN 0))]
def r5:List Ent:=[
 qe 0 13 (qB .lss 12 11)]
def r6:List Ent:=[
 qe 0 14 (qI 1 10 12),
 qe 1 15 (qL 1 14),
 qm 2 6 15]
def r7:List Ent:=[
 qm 0 16 6,
 qe 1 17 (qK .eql 16 0),
 qm 2 18 17,
 qf 3 19 18 (qM 6),
 qj 4 20 18 (qC F_spec_l1In [.t 19,xN (-12),xN 12]),
 qf 5 21 18 (qN 20),
 qe 6 22 (.pick (.t 18) xT (.t 21)),
 qm 7 23 22,
 qf 8 24 23 (qM 4),
 qf 9 25 23 (qM 6),
 qf 10 26 23 (.un .neg (.t 25)),
 qj 11 27 23 (qC F_spec_l1Has [.t 24,.t 26]),
 qe 12 28 (.pick (.t 23) xT (.t 27))]
def r8:List Ent:=[
 qe 0 2 (.mv (.k (.nil 1))),
 qe 1 3 (.mv xF)]
def r9:List Ent:=[
 qm 0 29 4,
 qm 1 30 6,
 qc 2 31 (qC F_spec_l1Has [.t 29,.t 30]),
 qe 3 32 (qN 31)]
def r10:List Ent:=[
 qm 0 33 4,
 qm 1 34 6,
 qe 2 35 (.bsl true 1 [.t 34]),
 qe 3 36 (.app 1 8 (.t 33) (.t 35)),
 qm 4 4 36]
def r11:List Ent:=[
 qe 0 37 (qK .add 12 1),
 qm 1 12 37]
def b0:KC:=.seq (.reg 768 1 r5) (.seq (.cond (.t 13) (.skip) (.exit 0)) (.seq (.block 1 (.seq (.reg 832 3 r6) (.seq (.seq (.reg 1024 13 r7) (.cond (.t 28) (.seq (.reg 1856 2 r8) (.ret)) (.skip))) (.seq (.reg 1984 4 r9) (.cond (.t 32) (.reg 2240 5 r10) (.skip)))))) (.reg 2560 2 r11)))
def r12:List Ent:=[
 qm 0 38 4,
 qm 1 2 38,
 qe 2 3 (.mv xT)]
def fi:FI:={ res:=[.t 2,.t 3],code:=.seq (.reg 64 2 r0) (.seq (.seq (.reg 192 3 r1) (.cond (.t 9) (.seq (.reg 384 2 r2) (.ret)) (.skip))) (.seq (.reg 512 1 r3) (.seq (.seq (.reg 576 3 r4) (.nrm 4 2432 1 (.block 0 (.loop b0)))) (.seq (.reg 2688 3 r12) (.ret))))) }
attribute [go_sem] r0 r1 r2 r3 r4 r5 r6 r7 r8 r9 r10 r11 r12
theorem ok:chkF prog F_spec_CleanClause 1 fi=true:=by kernel_rfl
end spec_CleanClause
namespace laws_sameInts
def r0:List Ent:=[
 qe 0 4 (.mv xF)]
def r1:List Ent:=[
 qm 0 6 0,
 qe 1 7 (qZ 6),
 qm 2 8 1,
 qe 3 9 (qZ 8),
 qe 4 10 (qB .neq 7 9)]
def r2:List Ent:=[
 qe 0 4 (.mv xF)]
def r3:List Ent:=[
 qm 0 11 0,
 qe 1 12 (qZ 11),
 qe 2 13 (.mv (xN 0))]
def r4:List Ent:=[
 qe 0 14 (qB .lss 13 12)]
def r5:List Ent:=[
 qm 0 15 13,
 qm 1 5 15]
def r6:List Ent:=[
 qm 0 16 0,
 qm 1 17 5,
 qr 2 18 (qI 1 16 17),
 qr 3 19 (qL 1 18),
 qm 4 20 1,
 qm 5 21 5,
 qr 6 22 (qI 1 20 21),
 qr 7 23 (qL 1 22),
 qe 8 24 (qB .neq 19 23)]
def r7:List Ent:=[
 qe 0 4 (.mv xF)]
def r8:List Ent:=[
 qe 0 25 (qK .add 13 1),
 qm 1 13 25]
def b0:KC:=.seq (.reg 704 1 r4) (.seq (.cond (.t 14) (.skip) (.exit 0)) (.seq (.block 1 (.seq (.reg 768 2 r5) (.seq (.reg 896 9 r6) (.cond (.t 24) (.seq (.reg 1472 1 r7) (.ret)) (.skip))))) (.reg 1536 2 r8)))
def r9:List Ent:=[
 qe 0 4 (.mv xT)]
def fi:FI:={ res:=[.t 4],code:=.seq (.reg 64 1 r0) (.seq (.seq (.reg 128 5 r1) (.cond (.t 10) (.seq (.reg 448 1 r2) (.ret)) (.skip))) (.seq (.seq (.reg 512 3 r3) (.block 0 (.loop b0))) (.seq (.reg 1664 1 r9) (.ret)))) }
attribute [go_sem] r0 r1 r2 r3 r4 r5 r6 r7 r8 r9
theorem ok:chkF prog F_laws_sameInts 2 fi=true:=by kernel_rfl
end laws_sameInts
namespace laws_has
def r0:List Ent:=[
 qe 0 4 (.mv xF)]
def r1:List Ent:=[
 qm 0 7 0,
 qe 1 8 (qZ 7),
 qe 2 9 (.mv (xN 0))]
def r2:List Ent:=[
 qe 0 10 (qB .lss 9 8)]
def r3:List Ent:=[
 qe 0 11 (qI 1 7 9),
 qe 1 12 (qL 1 11),
 qm 2 6 12]
def r4:List Ent:=[
 qm 0 13 6,
 qm 1 14 1,
 qe 2 15 (qB .eql 13 14)]
def r5:List Ent:=[
 qe 0 4 (.mv xT)]
def r6:List Ent:=[
 qe 0 16 (qK .add 9 1),
 qm 1 9 16]
def b0:KC:=.seq (.reg 320 1 r2) (.seq (.cond (.t 10) (.skip) (.exit 0)) (.seq (.block 1 (.seq (.reg 384 3 r3) (.seq (.reg 576 3 r4) (.cond (.t 15) (.seq (.reg 768 1 r5) (.ret)) (.skip))))) (.reg 832 2 r6)))
def r7:List Ent:=[
 qe 0 4 (.mv xF)]
def fi:FI:={ res:=[.t 4],code:=.seq (.reg 64 1 r0) (.seq (.seq (.reg 128 3 r1) (.block 0 (.loop b0))) (.seq (.reg 960 1 r7) (.ret))) }
attribute [go_sem] r0 r1 r2 r3 r4 r5 r6 r7
theorem ok:chkF prog F_laws_has 2 fi=true:=by kernel_rfl
end laws_has
namespace laws_sameRows
def r0:List Ent:=[
 qe 0 4 (.mv xF)]
def r1:List Ent:=[
 qm 0 6 0,
 qe 1 7 (qZ 6),
 qm 2 8 1,
 qe 3 9 (qZ 8),
 qe 4 10 (qB .neq 7 9)]
def r2:List Ent:=[
 qe 0 4 (.mv xF)]
def r3:List Ent:=[
 qm 0 11 0,
 qe 1 12 (qZ 11),
 qe 2 13 (.mv (xN 0))]
def r4:List Ent:=[
 qe 0 14 (qB .lss 13 12)]
def r5:List Ent:=[
 qm 0 15 13,
 qm 1 5 15]
def r6:List Ent:=[
 qm 0 16 0,
 qm 1 17 5,
 qr 2 18 (qI 1 16 17),
 qr 3 19 (qL 1 18),
 qm 4 20 1,
 qm 5 21 5,
 qr 6 22 (qI 1 20 21),
 qr 7 23 (qL 1 22),
 qc 8 24 (qC F_laws_sameInts [.t 19,.t 23]),
 qe 9 25 (qN 24)]
def r7:List Ent:=[
 qe 0 4 (.mv xF)]
def r8:List Ent:=[
 qe 0 26 (qK .add 13 1),
 qm 1 13 26]
def b0:KC:=.seq (.reg 704 1 r4) (.seq (.cond (.t 14) (.skip) (.exit 0)) (.seq (.block 1 (.seq (.reg 768 2 r5) (.seq (.reg 896 10 r6) (.cond (.t 25) (.seq (.reg 1536 1 r7) (.ret)) (.skip))))) (.reg 1600 2 r8)))
def r9:List Ent:=[
 qe 0 4 (.mv xT)]
def fi:FI:={ res:=[.t 4],code:=.seq (.reg 64 1 r0) (.seq (.seq (.reg 128 5 r1) (.cond (.t 10) (.seq (.reg 448 1 r2) (.ret)) (.skip))) (.seq (.seq (.reg 512 3 r3) (.block 0 (.loop b0))) (.seq (.reg 1728 1 r9) (.ret)))) }
attribute [go_sem] r0 r1 r2 r3 r4 r5 r6 r7 r8 r9
theorem ok:chkF prog F_laws_sameRows 2 fi=true:=by kernel_rfl
end laws_sameRows
namespace impl_learn
def r0:List Ent:=[
 qe 0 2 (.mv (.k (.nil 1)))]
def r1:List Ent:=[
 qe 0 3 (.mv (.k (.nil 1)))]
def r2:List Ent:=[
 qm 0 6 0,
 qe 1 7 (qZ 6),
 qe 2 8 (.mv (xN 0))]
def r3:List Ent:=[
 qe 0 9 (qB .lss 8 7)]
def r4:List Ent:=[
 qe 0 10 (qI 1 6 8),
 qe 1 11 (qL 1 10),
 qm 2 5 11]
def r5:List Ent:=[
 qm 0 12 3,
 qm 1 13 5,
 qe 2 14 (.un .neg (.t 13)),
 qe 3 15 (.bsl true 1 [.t 14]),
 qe 4 16 (.app 1 8 (.t 12) (.t 15)),
 qm 5 3 16]
def r6:List Ent:=[
 qe 0 17 (qK .add 8 1),
 qm 1 8 17]
def b0:KC:=.seq (.reg 384 1 r3) (.seq (.cond (.t 9) (.skip) (.exit 0)) (.seq (.block 1 (.seq (.reg 448 3 r4) (.reg 640 6 r5))) (.reg 1024 2 r6)))
def r7:List Ent:=[
 qm 0 18 3,
 qm 1 2 18]
def fi:FI:={ res:=[.t 2],code:=.seq (.reg 64 1 r0) (.seq (.reg 128 1 r1) (.seq (.seq (.reg 192 3 r2) (.nrm 3 896 1 (.block 0 (.loop b0)))) (.seq (.reg 1152 2 r7) (.ret)))) }
attribute [go_sem] r0 r1 r2 r3 r4 r5 r6 r7
theorem ok:chkF prog F_impl_learn 1 fi=true:=by kernel_rfl
end impl_learn
namespace slices_Clone__sint_int
def r0:List Ent:=[
 qe 0 2 (.mv (.k (.nil 1)))]
def r1:List Ent:=[
 qm 0 3 0,
 qe 1 4 (.eqnil false (.t 3))]
def r2:List Ent:=[
 qe 0 2 (.mv (.k (.nil 1)))]
def r3:List Ent:=[
 qe 0 5 (.bsl false 1 []),
 qm 1 6 0,
 qe 2 7 (.app 1 8 (.t 5) (.t 6)),
 qm 3 2 7]
def fi:FI:={ res:=[.t 2],code:=.seq (.reg 64 1 r0) (.seq (.seq (.reg 128 2 r1) (.condu (.t 4) (.seq (.reg 256 1 r2) (.ret)) (.skip))) (.seq (.reg 320 4 r3) (.ret))) }
attribute [go_sem] r0 r1 r2 r3
theorem ok:chkF prog F_slices_Clone__sint_int 1 fi=true:=by kernel_rfl
end slices_Clone__sint_int
namespace spec_pl1Cur_facts
def r0:List Ent:=[
 qe 0 4 (.mv (.k (.nil 1)))]
def r1:List Ent:=[
 qe 0 5 (.mv (.k (.nil 1)))]
def r2:List Ent:=[
 qe 0 6 (.mv (xN 1))]
def r3:List Ent:=[
 qm 0 7 6,
 qm 1 8 1,
 qe 2 9 (qB .leq 7 8)]
def r4:List Ent:=[
 qm 0 12 0,
 qc 1 13 (.call F_spec_pl1Cur_one true [(.io,.t 12),(.ro,xN 3)])]
def r5:List Ent:=[
 qm 0 14 5,
 qm 1 15 6,
 qe 2 16 (.bsl true 1 [.t 15]),
 qe 3 17 (.app 1 8 (.t 14) (.t 16)),
 qm 4 5 17]
def r6:List Ent:=[
 qm 0 10 6,
 qe 1 11 (qK .add 10 1),
 qm 2 6 11]
def b0:KC:=.seq (.seq (.reg 256 3 r3) (.cond (.t 9) (.skip) (.exit 0))) (.seq (.block 1 (.seq (.reg 448 2 r4) (.cond (.t 13) (.reg 576 5 r5) (.skip)))) (.reg 896 3 r6))
def r7:List Ent:=[
 qm 0 18 5,
 qm 1 4 18]
def fi:FI:={ res:=[.t 4],code:=.seq (.reg 64 1 r0) (.seq (.reg 128 1 r1) (.seq (.seq (.reg 192 1 r2) (.nrm 5 768 1 (.block 0 (.loop b0)))) (.seq (.reg 1088 2 r7) (.ret)))) }
attribute [go_sem] r0 r1 r2 r3 r4 r5 r6 r7
theorem ok:chkF prog F_spec_pl1Cur_facts 2 fi=true:=by kernel_rfl
end spec_pl1Cur_facts
namespace spec_l1Least
def r0:List Ent:=[
 qe 0 4 (.mv (xN 0))]
def r1:List Ent:=[
 qm 0 5 0,
 qm 1 6 1,
 qe 2 7 (qB .lss 5 6)]
def r2:List Ent:=[
 qm 0 8 0,
 qm 1 4 8]
def r3:List Ent:=[
 qm 0 9 1,
 qm 1 4 9]
def fi:FI:={ res:=[.t 4],code:=.seq (.reg 64 1 r0) (.seq (.seq (.reg 128 3 r1) (.cond (.t 7) (.seq (.reg 320 2 r2) (.ret)) (.skip))) (.seq (.reg 448 2 r3) (.ret))) }
attribute [go_sem] r0 r1 r2 r3
theorem ok:chkF prog F_spec_l1Least 2 fi=true:=by kernel_rfl
end spec_l1Least
namespace spec_pl1Cur_rules
def r0:List Ent:=[
 qe 0 2 (.mv (xN 0)),
 qe 1 3 (.mv (.k (.nil 2)))]
def r1:List Ent:=[
 qm 0 8 0,
 qc 1 9 (.call F_spec_pl1Cur_pick true [(.io,.t 8),(.ro,xN 7)]),
 qe 2 10 (.bin .add (xN 1) (.t 9)),
 qm 3 4 10]
def r2:List Ent:=[
 qm 0 11 0,
 qc 1 12 (.call F_spec_pl1Cur_one true [(.io,.t 11),(.ro,xN 30)])]
def r3:List Ent:=[
 qm 0 13 0,
 qe 1 14 (.bsl false 1 [xN 0,xN 12,xN 13]),
 qc 2 15 (.call F_spec_pl1Cur_among true [(.io,.t 13),(.co,.t 14)]),
 qm 3 4 15]
def r4:List Ent:=[
 qe 0 5 (.mv (.k (.nil 2)))]
def r5:List Ent:=[
 qm 0 16 0,
 qc 1 17 (.call F_spec_pl1Cur_pick true [(.io,.t 16),(.ro,xN 10)]),
 qm 2 6 17]
def r6:List Ent:=[
 qm 0 18 0,
 qc 1 19 (.call F_spec_pl1Cur_one true [(.io,.t 18),(.ro,xN 20)])]
def r7:List Ent:=[
 qm 0 20 0,
 qc 1 21 (.call F_spec_pl1Cur_pick true [(.io,.t 20),(.ro,xN 2)]),
 qe 2 22 (.bin .add (xN 30) (.t 21)),
 qm 3 6 22]
def r8:List Ent:=[
 qm 0 23 6,
 qe 1 24 (qK .gtr 23 0)]
def r9:List Ent:=[
 qm 0 27 0,
 qm 1 28 4,
 qc 2 29 (qC F_spec_l1Least [.t 28,xN 4]),
 qc 3 30 (.call F_spec_pl1Cur_facts true [(.io,.t 27),(.ro,.t 29)]),
 qm 4 31 0,
 qm 5 32 4,
 qe 6 33 (qK .add 32 1),
 qc 7 34 (.call F_spec_pl1Cur_pick true [(.io,.t 31),(.ro,.t 33)]),
 qe 8 35 (.bld [.t 30,.t 34]),
 qe 9 7 (.box (.k (.agg [.nil 1,.dat none (.int .i64 0)]))),
 qs 10 (qW 2 7 35)]
def r10:List Ent:=[
 qm 0 36 0,
 qc 1 37 (.call F_spec_pl1Cur_one true [(.io,.t 36),(.ro,xN 4)])]
def r11:List Ent:=[
 qe 0 38 (qD 0 7),
 qs 1 (.store 1 (.t 38) (.k (.nil 1)))]
def r12:List Ent:=[
 qm 0 39 5,
 qe 1 40 (qA 2 7),
 qe 2 41 (.bsl false 2 [.t 40]),
 qe 3 42 (.app 2 32 (.t 39) (.t 41)),
 qm 4 5 42]
def r13:List Ent:=[
 qm 0 25 6,
 qe 1 26 (qK .sub 25 1),
 qm 2 6 26]
def b0:KC:=.seq (.seq (.reg 1472 2 r8) (.cond (.t 24) (.skip) (.exit 0))) (.seq (.block 1 (.seq (.reg 1600 11 r9) (.seq (.seq (.reg 2304 2 r10) (.cond (.t 37) (.reg 2432 2 r11) (.skip))) (.reg 2560 5 r12)))) (.reg 2880 3 r13))
def r14:List Ent:=[
 qm 0 43 5,
 qe 1 44 (qZ 43),
 qe 2 45 (qK .gtr 44 0),
 qm 3 46 45,
 qt 4 47 46 (qM 0),
 qh 5 48 46 (.call F_spec_pl1Cur_one true [(.io,.t 47),(.ro,xN 30)]),
 qe 6 49 (.pick (.t 46) (.t 48) xF)]
def r15:List Ent:=[
 qm 0 50 5,
 qm 1 51 0,
 qc 2 52 (.call F_spec_pl1Cur_pick true [(.io,.t 51),(.ro,xN 14)]),
 qe 3 53 (.bsl false 1 [.t 52]),
 qm 4 54 0,
 qe 5 55 (.bsl false 1 [xN (-1),xN 13]),
 qc 6 56 (.call F_spec_pl1Cur_among true [(.io,.t 54),(.co,.t 55)]),
 qe 7 57 (.bld [.t 53,.t 56]),
 qe 8 58 (.iad 2 (.t 50) (xN 0)),
 qs 9 (qW 2 58 57)]
def r16:List Ent:=[
 qm 0 59 4,
 qm 1 60 5,
 qm 2 2 59,
 qm 3 3 60]
def fi:FI:={ res:=[.t 2,.t 3],code:=.seq (.reg 64 2 r0) (.seq (.reg 192 4 r1) (.seq (.seq (.reg 448 2 r2) (.cond (.t 12) (.reg 576 4 r3) (.skip))) (.seq (.reg 832 1 r4) (.seq (.reg 896 3 r5) (.seq (.seq (.reg 1088 2 r6) (.cond (.t 19) (.reg 1216 4 r7) (.skip))) (.seq (.nrm 5 2752 2 (.block 0 (.loop b0))) (.seq (.seq (.reg 3072 7 r14) (.cond (.t 49) (.reg 3520 10 r15) (.skip))) (.seq (.reg 4160 4 r16) (.ret))))))))) }
attribute [go_sem] r0 r1 r2 r3 r4 r5 r6 r7 r8 r9 r10 r11 r12 r13 r14 r15 r16
theorem ok:chkF prog F_spec_pl1Cur_rules 1 fi=true:=by kernel_rfl
end spec_pl1Cur_rules
namespace spec_DrawGoodRules
def r0:List Ent:=[
 qe 0 2 (.mv (xN 0)),
 qe 1 3 (.mv (.k (.nil 2)))]
def r1:List Ent:=[
 qm 0 5 0,
 qe 1 6 (.bld [.t 5,.k (.dat none (.int .i64 0)),.k (.dat none (.int .u64 0))]),
 qe 2 7 (.box (.t 6)),
 qm 3 4 7]
def r2:List Ent:=[
 qm 0 8 4,
 qc 1 9 (.call F_spec_pl1Cur_rules true [(.io,.t 8)]),
 qe 2 10 (qX 0 9),
 qe 3 11 (qX 1 9),
 qm 4 2 10,
 qm 5 3 11]
def fi:FI:={ res:=[.t 2,.t 3],code:=.seq (.reg 64 2 r0) (.seq (.reg 192 4 r1) (.seq (.reg 448 6 r2) (.ret))) }
attribute [go_sem] r0 r1 r2
theorem ok:chkF prog F_spec_DrawGoodRules 1 fi=true:=by kernel_rfl
end spec_DrawGoodRules
namespace slices_IndexFunc__sRule_Rule
def r0:List Ent:=[
 qe 0 4 (.mv (xN 0))]
def r1:List Ent:=[
 qm 0 6 0,
 qe 1 7 (qZ 6),
 qe 2 8 (.mv (xN 0))]
def r2:List Ent:=[
 qe 0 9 (qB .lss 8 7)]
def r3:List Ent:=[
 qm 0 10 8,
 qm 1 5 10]
def r4:List Ent:=[
 qm 0 11 1,
 qm 1 12 0,
 qm 2 13 5,
 qe 3 14 (qI 2 12 13),
 qe 4 15 (qA 2 14),
 qc 5 16 (.ccl (.t 11) false [.t 15])]
def r5:List Ent:=[
 qm 0 17 5,
 qm 1 4 17]
def r6:List Ent:=[
 qe 0 18 (qK .add 8 1),
 qm 1 8 18]
def b0:KC:=.seq (.reg 320 1 r2) (.seq (.cond (.t 9) (.skip) (.exit 0)) (.seq (.block 1 (.seq (.reg 384 2 r3) (.seq (.reg 512 6 r4) (.cond (.t 16) (.seq (.reg 896 2 r5) (.ret)) (.skip))))) (.reg 1024 2 r6)))
def r7:List Ent:=[
 qe 0 4 (.mv (xN (-1)))]
def fi:FI:={ res:=[.t 4],code:=.seq (.reg 64 1 r0) (.seq (.seq (.reg 128 3 r1) (.block 0 (.loop b0))) (.seq (.reg 1152 1 r7) (.ret))) }
attribute [go_sem] r0 r1 r2 r3 r4 r5 r6 r7
theorem ok:chkF prog F_slices_IndexFunc__sRule_Rule 2 fi=true:=by kernel_rfl
end slices_IndexFunc__sRule_Rule
namespace slices_ContainsFunc__sRule_Rule
def r0:List Ent:=[
 qe 0 4 (.mv xF)]
def r1:List Ent:=[
 qm 0 5 0,
 qm 1 6 1,
 qc 2 7 (qC F_slices_IndexFunc__sRule_Rule [.t 5,.t 6]),
 qe 3 8 (qK .geq 7 0),
 qm 4 4 8]
def fi:FI:={ res:=[.t 4],code:=.seq (.reg 64 1 r0) (.seq (.reg 128 5 r1) (.ret)) }
attribute [go_sem] r0 r1
theorem ok:chkF prog F_slices_ContainsFunc__sRule_Rule 2 fi=true:=by kernel_rfl
end slices_ContainsFunc__sRule_Rule
namespace impl_areFacts
def r0:List Ent:=[
 qe 0 4 (.mv xF)]
def r1:List Ent:=[
 qm 0 7 0,
 qe 1 8 (qZ 7),
 qe 2 9 (.mv (xN 0))]
def r2:List Ent:=[
 qe 0 10 (qB .lss 9 8)]
def r3:List Ent:=[
 qm 0 11 9,
 qe 1 12 (qI 1 7 9),
 qe 2 13 (qL 1 12),
 qm 3 5 11,
 qm 4 6 13]
def r4:List Ent:=[
 qm 0 14 6,
 qm 1 15 1,
 qc 2 16 (qC F_impl_in [.t 14,xN 1,.t 15]),
 qe 3 17 (qN 16),
 qm 4 18 17,
 qf 5 19 18 (qM 5),
 qf 6 20 18 (qK .gtr 19 0),
 qf 7 21 18 (qM 20),
 qt 8 22 21 (qM 0),
 qt 9 23 21 (qM 5),
 qt 10 24 21 (qK .sub 23 1),
 qt 11 25 21 (qI 1 22 24),
 qt 12 26 21 (qL 1 25),
 qt 13 27 21 (qM 6),
 qt 14 28 21 (qB .geq 26 27),
 qf 15 29 18 (.pick (.t 21) (.t 28) xF),
 qe 16 30 (.pick (.t 18) xT (.t 29))]
def r5:List Ent:=[
 qe 0 4 (.mv xF)]
def r6:List Ent:=[
 qe 0 31 (qK .add 9 1),
 qm 1 9 31]
def b0:KC:=.seq (.reg 320 1 r2) (.seq (.cond (.t 10) (.skip) (.exit 0)) (.seq (.block 1 (.seq (.reg 384 5 r3) (.seq (.reg 704 17 r4) (.cond (.t 30) (.seq (.reg 1792 1 r5) (.ret)) (.skip))))) (.reg 1856 2 r6)))
def r7:List Ent:=[
 qe 0 4 (.mv xT)]
def fi:FI:={ res:=[.t 4],code:=.seq (.reg 64 1 r0) (.seq (.seq (.reg 128 3 r1) (.block 0 (.loop b0))) (.seq (.reg 1984 1 r7) (.ret))) }
attribute [go_sem] r0 r1 r2 r3 r4 r5 r6 r7
theorem ok:chkF prog F_impl_areFacts 2 fi=true:=by kernel_rfl
end impl_areFacts
namespace impl_GoodRules_c1
def r0:List Ent:=[
 qe 0 2 (.box (.t 0)),
 qe 1 3 (.mv xF)]
def r1:List Ent:=[
 qe 0 4 (qD 0 2),
 qe 1 5 (qL 1 4),
 qe 2 6 (qL 1 1),
 qc 3 7 (qC F_impl_areFacts [.t 5,.t 6]),
 qe 4 8 (qN 7),
 qm 5 9 8,
 qf 6 10 9 (qD 1 2),
 qf 7 11 9 (qL 1 10),
 qf 8 12 9 (qL 1 1),
 qj 9 13 9 (qC F_impl_in [.t 11,xN 0,.t 12]),
 qf 10 14 9 (qN 13),
 qe 11 15 (.pick (.t 9) xT (.t 14)),
 qm 12 3 15]
def fi:FI:={ res:=[.t 3],code:=.seq (.reg 64 2 r0) (.seq (.reg 192 13 r1) (.ret)) }
attribute [go_sem] r0 r1
theorem ok:chkF prog F_impl_GoodRules_c1 2 fi=true:=by kernel_rfl
end impl_GoodRules_c1
namespace impl_GoodRules
def r0:List Ent:=[
 qe 0 2 (.box (.t 0)),
 qe 1 4 (.mv xF)]
def r1:List Ent:=[
 qe 0 5 (qL 1 2),
 qc 1 6 (qC F_impl_in [.t 5,xN 1,xN 12]),
 qm 2 7 6,
 qt 3 8 7 (qM 1),
 qt 4 9 7 (qZ 8),
 qt 5 10 7 (qK .leq 9 30),
 qe 6 11 (.pick (.t 7) (.t 10) xF),
 qm 7 12 11,
 qt 8 13 12 (qM 1),
 qt 9 14 12 (.mkf F_impl_GoodRules_c1 [.t 2]),
 qh 10 15 12 (qC F_slices_ContainsFunc__sRule_Rule [.t 13,.t 14]),
 qt 11 16 12 (qN 15),
 qe 12 17 (.pick (.t 12) (.t 16) xF),
 qm 13 4 17]
def fi:FI:={ res:=[.t 4],code:=.seq (.reg 64 2 r0) (.seq (.reg 192 14 r1) (.ret)) }
attribute [go_sem] r0 r1
theorem ok:chkF prog F_impl_GoodRules 2 fi=true:=by kernel_rfl
end impl_GoodRules
namespace impl_Rule_met_c1
def r0:List Ent:=[
 qe 0 3 (.mv xF)]
def r1:List Ent:=[
 qe 0 4 (qL 1 1),
 qm 1 5 0,
 qe 2 6 (qI 1 4 5),
 qe 3 7 (qL 1 6),
 qe 4 8 (qN 7),
 qm 5 3 8]
def fi:FI:={ res:=[.t 3],code:=.seq (.reg 64 1 r0) (.seq (.reg 128 6 r1) (.ret)) }
attribute [go_sem] r0 r1
theorem ok:chkF prog F_impl_Rule_met_c1 2 fi=true:=by kernel_rfl
end impl_Rule_met_c1
namespace impl_Rule_met
def r0:List Ent:=[
 qe 0 2 (.box (.t 0)),
 qe 1 3 (.box (.t 1)),
 qe 2 4 (.mv xF)]
def r1:List Ent:=[
 qe 0 5 (qD 0 2),
 qe 1 6 (qL 1 5),
 qe 2 7 (.mkf F_impl_Rule_met_c1 [.t 3]),
 qc 3 8 (qC F_slices_ContainsFunc__sint_int [.t 6,.t 7]),
 qe 4 9 (qN 8),
 qm 5 4 9]
def fi:FI:={ res:=[.t 4],code:=.seq (.reg 64 3 r0) (.seq (.reg 256 6 r1) (.ret)) }
attribute [go_sem] r0 r1
theorem ok:chkF prog F_impl_Rule_met 2 fi=true:=by kernel_rfl
end impl_Rule_met
namespace impl_least_c1
def r0:List Ent:=[
 qe 0 2 (.box (.t 0)),
 qe 1 3 (.mv xF)]
def r1:List Ent:=[
 qe 0 4 (qD 1 2),
 qe 1 5 (qL 1 4),
 qe 2 6 (qK .gtr 5 0),
 qm 3 7 6,
 qt 4 8 7 (qL 1 1),
 qt 5 9 7 (qD 1 2),
 qt 6 10 7 (qL 1 9),
 qt 7 11 7 (qI 1 8 10),
 qt 8 12 7 (qL 1 11),
 qt 9 13 7 (qN 12),
 qe 10 14 (.pick (.t 7) (.t 13) xF),
 qm 11 15 14,
 qt 12 16 15 (qA 2 2),
 qt 13 17 15 (qL 1 1),
 qh 14 18 15 (qC F_impl_Rule_met [.t 16,.t 17]),
 qe 15 19 (.pick (.t 15) (.t 18) xF),
 qm 16 3 19]
def fi:FI:={ res:=[.t 3],code:=.seq (.reg 64 2 r0) (.seq (.reg 192 17 r1) (.ret)) }
attribute [go_sem] r0 r1
theorem ok:chkF prog F_impl_least_c1 2 fi=true:=by kernel_rfl
end impl_least_c1
namespace impl_least
def r0:List Ent:=[
 qe 0 4 (.mv (.k (.nil 1))),
 qe 1 5 (.mv (.k (.nil 1)))]
def r1:List Ent:=[
 qm 0 9 0,
 qe 1 10 (qK .add 9 1),
 qe 2 11 (.mks 1 1 (.bool false) (.t 10) (.t 10)),
 qe 3 6 (.box (.k (.nil 1))),
 qs 4 (qW 1 6 11)]
def r2:List Ent:=[
 qe 0 7 (.mv (.k (.nil 1)))]
def r3:List Ent:=[
 qm 0 12 1,
 qe 1 13 (.mkf F_impl_least_c1 [.t 6]),
 qc 2 14 (qC F_slices_IndexFunc__sRule_Rule [.t 12,.t 13]),
 qm 3 8 14]
def r4:List Ent:=[
 qm 0 15 8,
 qe 1 16 (qK .lss 15 0)]
def r5:List Ent:=[
 qe 0 17 (qL 1 6),
 qm 1 18 7,
 qm 2 4 17,
 qm 3 5 18]
def r6:List Ent:=[
 qr 0 19 (qL 1 6),
 qm 1 20 1,
 qm 2 21 8,
 qr 3 22 (qI 2 20 21),
 qr 4 23 (qD 1 22),
 qr 5 24 (qL 1 23),
 qe 6 25 (qI 1 19 24),
 qs 7 (.store 1 (.t 25) xT)]
def r7:List Ent:=[
 qm 0 26 7,
 qm 1 27 8,
 qe 2 28 (.bsl true 1 [.t 27]),
 qe 3 29 (.app 1 8 (.t 26) (.t 28)),
 qm 4 7 29]
def b0:KC:=.block 1 (.seq (.reg 576 4 r3) (.seq (.seq (.reg 832 2 r4) (.cond (.t 16) (.seq (.reg 960 4 r5) (.ret)) (.skip))) (.seq (.reg 1216 8 r6) (.reg 1728 5 r7))))
def fi:FI:={ res:=[.t 4,.t 5],code:=.seq (.reg 64 2 r0) (.seq (.reg 192 5 r1) (.seq (.reg 512 1 r2) (.nrm 7 1920 1 (.block 0 (.loop b0))))) }
attribute [go_sem] r0 r1 r2 r3 r4 r5 r6 r7
theorem ok:chkF prog F_impl_least 2 fi=true:=by kernel_rfl
end impl_least
namespace impl_LeastOf_c1
def r0:List Ent:=[
 qe 0 2 (.box (.t 0)),
 qe 1 3 (.mv xF)]
def r1:List Ent:=[
 qe 0 4 (qD 1 2),
 qe 1 5 (qL 1 4),
 qe 2 6 (qK .eql 5 0),
 qm 3 7 6,
 qt 4 8 7 (qA 2 2),
 qt 5 9 7 (qL 1 1),
 qh 6 10 7 (qC F_impl_Rule_met [.t 8,.t 9]),
 qe 7 11 (.pick (.t 7) (.t 10) xF),
 qm 8 3 11]
def fi:FI:={ res:=[.t 3],code:=.seq (.reg 64 2 r0) (.seq (.reg 192 9 r1) (.ret)) }
attribute [go_sem] r0 r1
theorem ok:chkF prog F_impl_LeastOf_c1 2 fi=true:=by kernel_rfl
end impl_LeastOf_c1
namespace impl_list
def r0:List Ent:=[
 qe 0 4 (.mv (.k (.nil 1)))]
def r1:List Ent:=[
 qe 0 5 (.mv (.k (.nil 1)))]
def r2:List Ent:=[
 qm 0 7 0,
 qe 1 8 (.mv (xN 0))]
def r3:List Ent:=[
 qe 0 9 (qB .lss 8 7)]
def r4:List Ent:=[
 qm 0 10 8,
 qm 1 6 10]
def r5:List Ent:=[
 qm 0 11 1,
 qm 1 12 6,
 qc 2 13 (.ccl (.t 11) false [.t 12])]
def r6:List Ent:=[
 qm 0 14 5,
 qm 1 15 6,
 qe 2 16 (.bsl true 1 [.t 15]),
 qe 3 17 (.app 1 8 (.t 14) (.t 16)),
 qm 4 5 17]
def r7:List Ent:=[
 qe 0 18 (qK .add 8 1),
 qm 1 8 18]
def b0:KC:=.seq (.reg 320 1 r3) (.seq (.cond (.t 9) (.skip) (.exit 0)) (.seq (.block 1 (.seq (.reg 384 2 r4) (.seq (.reg 512 3 r5) (.cond (.t 13) (.reg 704 5 r6) (.skip))))) (.reg 1024 2 r7)))
def r8:List Ent:=[
 qm 0 19 5,
 qm 1 4 19]
def fi:FI:={ res:=[.t 4],code:=.seq (.reg 64 1 r0) (.seq (.reg 128 1 r1) (.seq (.seq (.reg 192 2 r2) (.nrm 5 896 1 (.block 0 (.loop b0)))) (.seq (.reg 1152 2 r8) (.ret)))) }
attribute [go_sem] r0 r1 r2 r3 r4 r5 r6 r7 r8
theorem ok:chkF prog F_impl_list 2 fi=true:=by kernel_rfl
end impl_list
namespace impl_LeastOf_c2
def r0:List Ent:=[
 qe 0 3 (.mv xF)]
def r1:List Ent:=[
 qe 0 4 (qL 1 1),
 qm 1 5 0,
 qe 2 6 (qI 1 4 5),
 qe 3 7 (qL 1 6),
 qm 4 3 7]
def fi:FI:={ res:=[.t 3],code:=.seq (.reg 64 1 r0) (.seq (.reg 128 5 r1) (.ret)) }
attribute [go_sem] r0 r1
theorem ok:chkF prog F_impl_LeastOf_c2 2 fi=true:=by kernel_rfl
end impl_LeastOf_c2
namespace impl_LeastOf
def r0:List Ent:=[
 qe 0 4 (.mv (.k (.nil 1))),
 qe 1 5 (.mv xF),
 qe 2 6 (.mv xF)]
def r1:List Ent:=[
 qm 0 10 0,
 qm 1 11 1,
 qc 2 12 (qC F_impl_GoodRules [.t 10,.t 11]),
 qe 3 13 (qN 12)]
def r2:List Ent:=[
 qe 0 4 (.mv (.k (.nil 1))),
 qe 1 5 (.mv xF),
 qe 2 6 (.mv xF)]
def r3:List Ent:=[
 qm 0 15 0,
 qm 1 16 1,
 qc 2 17 (qC F_impl_least [.t 15,.t 16]),
 qm 3 14 17,
 qe 4 18 (qX 0 14),
 qe 5 19 (qX 1 14),
 qe 6 7 (.box (.k (.nil 1))),
 qs 7 (qW 1 7 18),
 qm 8 8 19]
def r4:List Ent:=[
 qm 0 20 1,
 qe 1 21 (.mkf F_impl_LeastOf_c1 [.t 7]),
 qc 2 22 (qC F_slices_ContainsFunc__sRule_Rule [.t 20,.t 21]),
 qe 3 23 (qN 22),
 qm 4 9 23]
def r5:List Ent:=[
 qm 0 24 0,
 qe 1 25 (qK .add 24 1),
 qe 2 26 (.mkf F_impl_LeastOf_c2 [.t 7]),
 qc 3 27 (qC F_impl_list [.t 25,.t 26]),
 qm 4 28 9,
 qm 5 4 27,
 qm 6 5 28,
 qe 7 6 (.mv xT)]
def fi:FI:={ res:=[.t 4,.t 5,.t 6],code:=.seq (.reg 64 3 r0) (.seq (.seq (.reg 256 4 r1) (.cond (.t 13) (.seq (.reg 512 3 r2) (.ret)) (.skip))) (.seq (.reg 704 9 r3) (.seq (.reg 1280 5 r4) (.seq (.reg 1600 8 r5) (.ret))))) }
attribute [go_sem] r0 r1 r2 r3 r4 r5
theorem ok:chkF prog F_impl_LeastOf 2 fi=true:=by kernel_rfl
end impl_LeastOf
namespace spec_l1Rising
def r0:List Ent:=[
 qe 0 6 (.mv xF)]
def r1:List Ent:=[
 qm 0 9 0,
 qe 1 10 (qZ 9),
 qe 2 11 (.mv (xN 0))]
def r2:List Ent:=[
 qe 0 12 (qB .lss 11 10)]
def r3:List Ent:=[
 qm 0 13 11,
 qe 1 14 (qI 1 9 11),
 qe 2 15 (qL 1 14),
 qm 3 7 13,
 qm 4 8 15]
def r4:List Ent:=[
 qm 0 16 8,
 qm 1 17 1,
 qm 2 18 2,
 qc 3 19 (qC F_spec_l1In [.t 16,.t 17,.t 18]),
 qe 4 20 (qN 19),
 qm 5 21 20,
 qf 6 22 21 (qM 7),
 qf 7 23 21 (qK .gtr 22 0),
 qf 8 24 21 (qM 23),
 qt 9 25 24 (qM 0),
 qt 10 26 24 (qM 7),
 qt 11 27 24 (qK .sub 26 1),
 qt 12 28 24 (qI 1 25 27),
 qt 13 29 24 (qL 1 28),
 qt 14 30 24 (qM 8),
 qt 15 31 24 (qB .geq 29 30),
 qf 16 32 21 (.pick (.t 24) (.t 31) xF),
 qe 17 33 (.pick (.t 21) xT (.t 32))]
def r5:List Ent:=[
 qe 0 6 (.mv xF)]
def r6:List Ent:=[
 qe 0 34 (qK .add 11 1),
 qm 1 11 34]
def b0:KC:=.seq (.reg 320 1 r2) (.seq (.cond (.t 12) (.skip) (.exit 0)) (.seq (.block 1 (.seq (.reg 384 5 r3) (.seq (.reg 704 18 r4) (.cond (.t 33) (.seq (.reg 1856 1 r5) (.ret)) (.skip))))) (.reg 1920 2 r6)))
def r7:List Ent:=[
 qe 0 6 (.mv xT)]
def fi:FI:={ res:=[.t 6],code:=.seq (.reg 64 1 r0) (.seq (.seq (.reg 128 3 r1) (.block 0 (.loop b0))) (.seq (.reg 2048 1 r7) (.ret))) }
attribute [go_sem] r0 r1 r2 r3 r4 r5 r6 r7
theorem ok:chkF prog F_spec_l1Rising 3 fi=true:=by kernel_rfl
end spec_l1Rising
namespace spec_l16Facts
def r0:List Ent:=[
 qe 0 4 (.mv xF)]
def r1:List Ent:=[
 qm 0 5 1,
 qm 1 6 0,
 qc 2 7 (qC F_spec_l1Rising [.t 5,xN 1,.t 6]),
 qm 3 4 7]
def fi:FI:={ res:=[.t 4],code:=.seq (.reg 64 1 r0) (.seq (.reg 128 4 r1) (.ret)) }
attribute [go_sem] r0 r1
theorem ok:chkF prog F_spec_l16Facts 2 fi=true:=by kernel_rfl
end spec_l16Facts
namespace spec_GoodRules
def r0:List Ent:=[
 qe 0 4 (.mv xF)]
def r1:List Ent:=[
 qm 0 7 1,
 qe 1 8 (qZ 7),
 qe 2 9 (.mv (xN 0))]
def r2:List Ent:=[
 qe 0 10 (qB .lss 9 8)]
def r3:List Ent:=[
 qe 0 11 (qI 2 7 9),
 qe 1 12 (qA 2 11),
 qe 2 6 (.box (.k (.agg [.nil 1,.dat none (.int .i64 0)]))),
 qs 3 (qW 2 6 12)]
def r4:List Ent:=[
 qm 0 13 0,
 qe 1 14 (qD 0 6),
 qe 2 15 (qL 1 14),
 qc 3 16 (qC F_spec_l16Facts [.t 13,.t 15]),
 qe 4 17 (qN 16),
 qm 5 18 17,
 qf 6 19 18 (qD 1 6),
 qf 7 20 18 (qL 1 19),
 qf 8 21 18 (qM 0),
 qj 9 22 18 (qC F_spec_l1In [.t 20,xN 0,.t 21]),
 qf 10 23 18 (qN 22),
 qe 11 24 (.pick (.t 18) xT (.t 23))]
def r5:List Ent:=[
 qe 0 4 (.mv xF)]
def r6:List Ent:=[
 qe 0 25 (qK .add 9 1),
 qm 1 9 25]
def b0:KC:=.seq (.reg 320 1 r2) (.seq (.cond (.t 10) (.skip) (.exit 0)) (.seq (.block 1 (.seq (.reg 384 4 r3) (.seq (.reg 640 12 r4) (.cond (.t 24) (.seq (.reg 1408 1 r5) (.ret)) (.skip))))) (.reg 1472 2 r6)))
def r7:List Ent:=[
 qm 0 26 0,
 qc 1 27 (qC F_spec_l1In [.t 26,xN 1,xN 12]),
 qm 2 28 27,
 qt 3 29 28 (qM 1),
 qt 4 30 28 (qZ 29),
 qt 5 31 28 (qK .leq 30 30),
 qe 6 32 (.pick (.t 28) (.t 31) xF),
 qm 7 4 32]
def fi:FI:={ res:=[.t 4],code:=.seq (.reg 64 1 r0) (.seq (.seq (.reg 128 3 r1) (.block 0 (.loop b0))) (.seq (.reg 1600 8 r7) (.ret))) }
attribute [go_sem] r0 r1 r2 r3 r4 r5 r6 r7
theorem ok:chkF prog F_spec_GoodRules 2 fi=true:=by kernel_rfl
end spec_GoodRules
namespace spec_l16All
def r0:List Ent:=[
 qe 0 4 (.mv xF)]
def r1:List Ent:=[
 qm 0 7 1,
 qe 1 8 (qZ 7),
 qe 2 9 (.mv (xN 0))]
def r2:List Ent:=[
 qe 0 10 (qB .lss 9 8)]
def r3:List Ent:=[
 qe 0 11 (qI 1 7 9),
 qe 1 12 (qL 1 11),
 qm 2 6 12]
def r4:List Ent:=[
 qm 0 13 0,
 qm 1 14 6,
 qc 2 15 (qC F_spec_l1Has [.t 13,.t 14]),
 qe 3 16 (qN 15)]
def r5:List Ent:=[
 qe 0 4 (.mv xF)]
def r6:List Ent:=[
 qe 0 17 (qK .add 9 1),
 qm 1 9 17]
def b0:KC:=.seq (.reg 320 1 r2) (.seq (.cond (.t 10) (.skip) (.exit 0)) (.seq (.block 1 (.seq (.reg 384 3 r3) (.seq (.reg 576 4 r4) (.cond (.t 16) (.seq (.reg 832 1 r5) (.ret)) (.skip))))) (.reg 896 2 r6)))
def r7:List Ent:=[
 qe 0 4 (.mv xT)]
def fi:FI:={ res:=[.t 4],code:=.seq (.reg 64 1 r0) (.seq (.seq (.reg 128 3 r1) (.block 0 (.loop b0))) (.seq (.reg 1024 1 r7) (.ret))) }
attribute [go_sem] r0 r1 r2 r3 r4 r5 r6 r7
theorem ok:chkF prog F_spec_l16All 2 fi=true:=by kernel_rfl
end spec_l16All
namespace spec_l16Least
def r0:List Ent:=[
 qe 0 2 (.mv (.k (.nil 1))),
 qe 1 3 (.mv (.k (.nil 1))),
 qe 2 4 (.mv xF)]
def r1:List Ent:=[
 qe 0 5 (.mv (.k (.nil 1))),
 qe 1 6 (.mv (.k (.nil 1)))]
def r2:List Ent:=[
 qe 0 7 (.mv xT)]
def r3:List Ent:=[
 qm 0 12 7]
def r4:List Ent:=[
 qe 0 7 (.mv xF)]
def r5:List Ent:=[
 qm 0 13 0,
 qe 1 14 (qZ 13),
 qe 2 15 (.mv (xN 0))]
def r6:List Ent:=[
 qe 0 16 (qB .lss 15 14)]
def r7:List Ent:=[
 qm 0 17 15,
 qe 1 18 (qI 2 13 15),
 qe 2 19 (qA 2 18),
 qe 3 9 (.box (.k (.agg [.nil 1,.dat none (.int .i64 0)]))),
 qm 4 8 17,
 qs 5 (qW 2 9 19)]
def r8:List Ent:=[
 qe 0 20 (qD 1 9),
 qe 1 21 (qL 1 20),
 qe 2 22 (qK .gtr 21 0),
 qm 3 23 22,
 qt 4 24 23 (qM 5),
 qt 5 25 23 (qD 1 9),
 qt 6 26 23 (qL 1 25),
 qh 7 27 23 (qC F_spec_l1Has [.t 24,.t 26]),
 qt 8 28 23 (qN 27),
 qe 9 29 (.pick (.t 23) (.t 28) xF),
 qm 10 30 29,
 qt 11 31 30 (qM 5),
 qt 12 32 30 (qD 0 9),
 qt 13 33 30 (qL 1 32),
 qh 14 34 30 (qC F_spec_l16All [.t 31,.t 33]),
 qe 15 35 (.pick (.t 30) (.t 34) xF)]
def r9:List Ent:=[
 qm 0 36 5,
 qe 1 37 (qD 1 9),
 qe 2 38 (qL 1 37),
 qc 3 39 (.call F_spec_l1Put false [(.co,.t 36),(.ro,.t 38)]),
 qm 4 5 39]
def r10:List Ent:=[
 qm 0 40 6,
 qm 1 41 8,
 qe 2 42 (.bsl true 1 [.t 41]),
 qe 3 43 (.app 1 8 (.t 40) (.t 42)),
 qm 4 6 43]
def r11:List Ent:=[
 qe 0 7 (.mv xT)]
def r12:List Ent:=[
 qe 0 44 (qK .add 15 1),
 qm 1 15 44]
def b0:KC:=.seq (.reg 768 1 r6) (.seq (.cond (.t 16) (.skip) (.exit 2)) (.seq (.block 3 (.seq (.reg 832 6 r7) (.seq (.reg 1216 16 r8) (.cond (.t 35) (.seq (.reg 2240 5 r9) (.seq (.reg 2560 5 r10) (.seq (.reg 2880 1 r11) (.exit 2)))) (.skip))))) (.reg 2944 2 r12)))
def b1:KC:=.seq (.seq (.reg 448 1 r3) (.cond (.t 12) (.skip) (.exit 0))) (.block 1 (.seq (.reg 512 1 r4) (.seq (.reg 576 3 r5) (.block 2 (.loop b0)))))
def r13:List Ent:=[
 qm 0 45 0,
 qe 1 46 (qZ 45),
 qe 2 47 (.mv (xN 0))]
def r14:List Ent:=[
 qe 0 48 (qB .lss 47 46)]
def r15:List Ent:=[
 qe 0 49 (qI 2 45 47),
 qe 1 50 (qA 2 49),
 qe 2 11 (.box (.k (.agg [.nil 1,.dat none (.int .i64 0)]))),
 qs 3 (qW 2 11 50)]
def r16:List Ent:=[
 qe 0 51 (qD 1 11),
 qe 1 52 (qL 1 51),
 qe 2 53 (qK .eql 52 0),
 qm 3 54 53,
 qt 4 55 54 (qM 5),
 qt 5 56 54 (qD 0 11),
 qt 6 57 54 (qL 1 56),
 qh 7 58 54 (qC F_spec_l16All [.t 55,.t 57]),
 qe 8 59 (.pick (.t 54) (.t 58) xF)]
def r17:List Ent:=[
 qm 0 60 5,
 qm 1 61 6,
 qm 2 2 60,
 qm 3 3 61,
 qe 4 4 (.mv xF)]
def r18:List Ent:=[
 qe 0 62 (qK .add 47 1),
 qm 1 47 62]
def b2:KC:=.seq (.reg 3264 1 r14) (.seq (.cond (.t 48) (.skip) (.exit 4)) (.seq (.block 5 (.seq (.reg 3328 4 r15) (.seq (.reg 3584 9 r16) (.cond (.t 59) (.seq (.reg 4160 5 r17) (.ret)) (.skip))))) (.reg 4480 2 r18)))
def r19:List Ent:=[
 qm 0 63 5,
 qm 1 64 6,
 qm 2 2 63,
 qm 3 3 64,
 qe 4 4 (.mv xT)]
def fi:FI:={ res:=[.t 2,.t 3,.t 4],code:=.seq (.reg 64 3 r0) (.seq (.reg 256 2 r1) (.seq (.seq (.reg 384 1 r2) (.nrm 5 2432 1 (.nrm 6 2752 1 (.block 0 (.loop b1))))) (.seq (.seq (.reg 3072 3 r13) (.block 4 (.loop b2))) (.seq (.reg 4608 5 r19) (.ret))))) }
attribute [go_sem] r0 r1 r2 r3 r4 r5 r6 r7 r8 r9 r10 r11 r12 r13 r14 r15 r16 r17 r18 r19
theorem ok:chkF prog F_spec_l16Least 1 fi=true:=by kernel_rfl
end spec_l16Least
namespace impl_HoldsIn_c1
def r0:List Ent:=[
 qe 0 2 (.box (.t 0)),
 qe 1 3 (.mv xF)]
def r1:List Ent:=[
 qe 0 4 (qA 2 2),
 qe 1 5 (qL 1 1),
 qc 2 6 (qC F_impl_Rule_met [.t 4,.t 5]),
 qm 3 7 6,
 qt 4 8 7 (qL 1 1),
 qt 5 9 7 (qD 1 2),
 qt 6 10 7 (qL 1 9),
 qt 7 11 7 (qI 1 8 10),
 qt 8 12 7 (qL 1 11),
 qt 9 13 7 (qN 12),
 qe 10 14 (.pick (.t 7) (.t 13) xF),
 qm 11 3 14]
def fi:FI:={ res:=[.t 3],code:=.seq (.reg 64 2 r0) (.seq (.reg 192 12 r1) (.ret)) }
attribute [go_sem] r0 r1
theorem ok:chkF prog F_impl_HoldsIn_c1 2 fi=true:=by kernel_rfl
end impl_HoldsIn_c1
namespace impl_HoldsIn
def r0:List Ent:=[
 qe 0 6 (.mv xF),
 qe 1 7 (.mv xF)]
def r1:List Ent:=[
 qm 0 11 0,
 qm 1 12 1,
 qc 2 13 (qC F_impl_GoodRules [.t 11,.t 12]),
 qe 3 14 (qN 13),
 qm 4 15 14,
 qf 5 16 15 (qM 2),
 qf 6 17 15 (qM 0),
 qj 7 18 15 (qC F_impl_areFacts [.t 16,.t 17]),
 qf 8 19 15 (qN 18),
 qe 9 20 (.pick (.t 15) xT (.t 19))]
def r2:List Ent:=[
 qe 0 6 (.mv xF),
 qe 1 7 (.mv xF)]
def r3:List Ent:=[
 qm 0 21 0,
 qe 1 22 (qK .add 21 1),
 qe 2 23 (.mks 1 1 (.bool false) (.t 22) (.t 22)),
 qe 3 8 (.box (.k (.nil 1))),
 qs 4 (qW 1 8 23)]
def r4:List Ent:=[
 qm 0 24 2,
 qe 1 25 (qZ 24),
 qe 2 26 (.mv (xN 0))]
def r5:List Ent:=[
 qe 0 27 (qB .lss 26 25)]
def r6:List Ent:=[
 qe 0 28 (qI 1 24 26),
 qe 1 29 (qL 1 28),
 qm 2 10 29]
def r7:List Ent:=[
 qe 0 30 (qL 1 8),
 qm 1 31 10,
 qe 2 32 (qI 1 30 31),
 qs 3 (.store 1 (.t 32) xT)]
def r8:List Ent:=[
 qe 0 33 (qK .add 26 1),
 qm 1 26 33]
def b0:KC:=.seq (.reg 1472 1 r5) (.seq (.cond (.t 27) (.skip) (.exit 0)) (.seq (.block 1 (.seq (.reg 1536 3 r6) (.reg 1728 4 r7))) (.reg 1984 2 r8)))
def r9:List Ent:=[
 qm 0 34 1,
 qe 1 35 (.mkf F_impl_HoldsIn_c1 [.t 8]),
 qc 2 36 (qC F_slices_ContainsFunc__sRule_Rule [.t 34,.t 35]),
 qe 3 37 (qN 36),
 qm 4 6 37,
 qe 5 7 (.mv xT)]
def fi:FI:={ res:=[.t 6,.t 7],code:=.seq (.reg 64 2 r0) (.seq (.seq (.reg 192 10 r1) (.cond (.t 20) (.seq (.reg 832 2 r2) (.ret)) (.skip))) (.seq (.reg 960 5 r3) (.seq (.seq (.reg 1280 3 r4) (.block 0 (.loop b0))) (.seq (.reg 2112 6 r9) (.ret))))) }
attribute [go_sem] r0 r1 r2 r3 r4 r5 r6 r7 r8 r9
theorem ok:chkF prog F_impl_HoldsIn 3 fi=true:=by kernel_rfl
end impl_HoldsIn
namespace impl_RulesAsClauses
def r0:List Ent:=[
 qe 0 4 (.mv (.k (.nil 1))),
 qe 1 5 (.mv xF)]
def r1:List Ent:=[
 qm 0 10 0,
 qm 1 11 1,
 qc 2 12 (qC F_impl_GoodRules [.t 10,.t 11]),
 qe 3 13 (qN 12)]
def r2:List Ent:=[
 qe 0 4 (.mv (.k (.nil 1))),
 qe 1 5 (.mv xF)]
def r3:List Ent:=[
 qe 0 6 (.mv (.k (.nil 1)))]
def r4:List Ent:=[
 qm 0 14 1,
 qe 1 15 (qZ 14),
 qe 2 16 (.mv (xN 0))]
def r5:List Ent:=[
 qe 0 17 (qB .lss 16 15)]
def r6:List Ent:=[
 qe 0 18 (qI 2 14 16),
 qe 1 19 (qA 2 18),
 qe 2 8 (.box (.k (.agg [.nil 1,.dat none (.int .i64 0)]))),
 qs 3 (qW 2 8 19)]
def r7:List Ent:=[
 qe 0 20 (qD 0 8),
 qe 1 21 (qL 1 20),
 qe 2 22 (qD 1 8),
 qe 3 23 (qL 1 22),
 qc 4 24 (qC F_slices_Contains__sint_int [.t 21,.t 23])]
def r8:List Ent:=[
 qe 0 25 (qD 0 8),
 qe 1 26 (qL 1 25),
 qc 2 27 (qV F_impl_learn 26),
 qm 3 9 27]
def r9:List Ent:=[
 qe 0 28 (qD 1 8),
 qe 1 29 (qL 1 28),
 qe 2 30 (qK .gtr 29 0)]
def r10:List Ent:=[
 qm 0 31 9,
 qe 1 32 (qD 1 8),
 qe 2 33 (qL 1 32),
 qe 3 34 (.bsl true 1 [.t 33]),
 qe 4 35 (.app 1 8 (.t 31) (.t 34)),
 qm 5 9 35]
def r11:List Ent:=[
 qm 0 36 6,
 qm 1 37 9,
 qe 2 38 (.bsl false 1 [.t 37]),
 qe 3 39 (.app 1 24 (.t 36) (.t 38)),
 qm 4 6 39]
def r12:List Ent:=[
 qe 0 40 (qK .add 16 1),
 qm 1 16 40]
def b0:KC:=.seq (.reg 832 1 r5) (.seq (.cond (.t 17) (.skip) (.exit 0)) (.seq (.block 1 (.seq (.reg 896 4 r6) (.seq (.seq (.reg 1152 5 r7) (.cond (.t 24) (.exit 1) (.skip))) (.seq (.reg 1472 4 r8) (.seq (.seq (.reg 1728 3 r9) (.cond (.t 30) (.reg 1920 6 r10) (.skip))) (.reg 2304 5 r11)))))) (.reg 2624 2 r12)))
def r13:List Ent:=[
 qm 0 41 6,
 qm 1 4 41,
 qe 2 5 (.mv xT)]
def fi:FI:={ res:=[.t 4,.t 5],code:=.seq (.reg 64 2 r0) (.seq (.seq (.reg 192 4 r1) (.cond (.t 13) (.seq (.reg 448 2 r2) (.ret)) (.skip))) (.seq (.reg 576 1 r3) (.seq (.seq (.reg 640 3 r4) (.nrm 6 2496 1 (.nrm 9 2176 1 (.block 0 (.loop b0))))) (.seq (.reg 2752 3 r13) (.ret))))) }
attribute [go_sem] r0 r1 r2 r3 r4 r5 r6 r7 r8 r9 r10 r11 r12 r13
theorem ok:chkF prog F_impl_RulesAsClauses 2 fi=true:=by kernel_rfl
end impl_RulesAsClauses
namespace impl_IsHorn_c1
def r0:List Ent:=[
 qe 0 2 (.mv xF)]
def r1:List Ent:=[
 qm 0 3 0,
 qe 1 4 (qK .lss 3 0),
 qm 2 2 4]
def fi:FI:={ res:=[.t 2],code:=.seq (.reg 64 1 r0) (.seq (.reg 128 3 r1) (.ret)) }
attribute [go_sem] r0 r1
theorem ok:chkF prog F_impl_IsHorn_c1 1 fi=true:=by kernel_rfl
end impl_IsHorn_c1
namespace impl_IsHorn
def r0:List Ent:=[
 qe 0 4 (.mv xF),
 qe 1 5 (.mv xF)]
def r1:List Ent:=[
 qm 0 9 0,
 qm 1 10 1,
 qc 2 11 (qC F_impl_GoodClauses [.t 9,.t 10]),
 qe 3 12 (qN 11)]
def r2:List Ent:=[
 qe 0 4 (.mv xF),
 qe 1 5 (.mv xF)]
def r3:List Ent:=[
 qm 0 13 1,
 qe 1 14 (qZ 13),
 qe 2 15 (.mv (xN 0))]
def r4:List Ent:=[
 qe 0 16 (qB .lss 15 14)]
def r5:List Ent:=[
 qe 0 17 (qI 1 13 15),
 qe 1 18 (qL 1 17),
 qm 2 7 18]
def r6:List Ent:=[
 qm 0 19 7,
 qc 1 20 (qV F_slices_Clone__sint_int 19),
 qc 2 21 (.call F_slices_DeleteFunc__sint_int false [(.co,.t 20),(.ro,.k (.clo F_impl_IsHorn_c1 []))]),
 qm 3 8 21]
def r7:List Ent:=[
 qm 0 22 8,
 qe 1 23 (qZ 22),
 qe 2 24 (qK .gtr 23 1)]
def r8:List Ent:=[
 qe 0 4 (.mv xF),
 qe 1 5 (.mv xT)]
def r9:List Ent:=[
 qe 0 25 (qK .add 15 1),
 qm 1 15 25]
def b0:KC:=.seq (.reg 768 1 r4) (.seq (.cond (.t 16) (.skip) (.exit 0)) (.seq (.block 1 (.seq (.reg 832 3 r5) (.seq (.reg 1024 4 r6) (.seq (.reg 1280 3 r7) (.cond (.t 24) (.seq (.reg 1472 2 r8) (.ret)) (.skip)))))) (.reg 1600 2 r9)))
def r10:List Ent:=[
 qe 0 4 (.mv xT),
 qe 1 5 (.mv xT)]
def fi:FI:={ res:=[.t 4,.t 5],code:=.seq (.reg 64 2 r0) (.seq (.seq (.reg 192 4 r1) (.cond (.t 12) (.seq (.reg 448 2 r2) (.ret)) (.skip))) (.seq (.seq (.reg 576 3 r3) (.block 0 (.loop b0))) (.seq (.reg 1728 2 r10) (.ret)))) }
attribute [go_sem] r0 r1 r2 r3 r4 r5 r6 r7 r8 r9 r10
theorem ok:chkF prog F_impl_IsHorn 2 fi=true:=by kernel_rfl
end impl_IsHorn
namespace spec_DrawWhyOf
def r0:List Ent:=[
 qe 0 2 (.mv (xN 0)),
 qe 1 3 (.mv (.k (.nil 2))),
 qe 2 4 (.mv (xN 0))]
def r1:List Ent:=[
 qm 0 8 0,
 qe 1 9 (.bld [.t 8,.k (.dat none (.int .i64 0)),.k (.dat none (.int .u64 0))]),
 qe 2 10 (.box (.t 9)),
 qm 3 5 10]
def r2:List Ent:=[
 qm 0 12 5,
 qc 1 13 (.call F_spec_pl1Cur_rules true [(.io,.t 12)]),
 qm 2 11 13,
 qe 3 14 (qX 0 11),
 qe 4 15 (qX 1 11),
 qm 5 6 14,
 qm 6 7 15]
def r3:List Ent:=[
 qm 0 16 6,
 qm 1 17 7,
 qm 2 18 5,
 qm 3 19 6,
 qe 4 20 (qK .add 19 2),
 qc 5 21 (.call F_spec_pl1Cur_pick true [(.io,.t 18),(.ro,.t 20)]),
 qm 6 2 16,
 qm 7 3 17,
 qm 8 4 21]
def fi:FI:={ res:=[.t 2,.t 3,.t 4],code:=.seq (.reg 64 3 r0) (.seq (.reg 256 4 r1) (.seq (.reg 512 7 r2) (.seq (.reg 960 9 r3) (.ret)))) }
attribute [go_sem] r0 r1 r2 r3
theorem ok:chkF prog F_spec_DrawWhyOf 1 fi=true:=by kernel_rfl
end spec_DrawWhyOf
namespace impl_WhyOf_c1
def r0:List Ent:=[
 qe 0 4 (.mv xF)]
def r1:List Ent:=[
 qr 0 5 (qL 1 1),
 qm 1 6 0,
 qr 2 7 (qI 2 5 6),
 qr 3 8 (qD 1 7),
 qr 4 9 (qL 1 8),
 qr 5 10 (qL 1 2),
 qe 6 11 (qB .eql 9 10),
 qm 7 4 11]
def fi:FI:={ res:=[.t 4],code:=.seq (.reg 64 1 r0) (.seq (.reg 128 8 r1) (.ret)) }
attribute [go_sem] r0 r1
theorem ok:chkF prog F_impl_WhyOf_c1 3 fi=true:=by kernel_rfl
end impl_WhyOf_c1
namespace impl_WhyOf
def r0:List Ent:=[
 qe 0 4 (.box (.t 1)),
 qe 1 5 (.box (.t 2)),
 qe 2 6 (.mv (.k (.nil 1))),
 qe 3 7 (.mv xF)]
def r1:List Ent:=[
 qm 0 11 0,
 qe 1 12 (qL 1 4),
 qc 2 13 (qC F_impl_GoodRules [.t 11,.t 12]),
 qe 3 14 (qN 13),
 qm 4 15 14,
 qf 5 16 15 (qL 1 5),
 qf 6 17 15 (qM 0),
 qj 7 18 15 (qC F_impl_in [.t 16,xN 1,.t 17]),
 qf 8 19 15 (qN 18),
 qe 9 20 (.pick (.t 15) xT (.t 19))]
def r2:List Ent:=[
 qe 0 6 (.mv (.k (.nil 1))),
 qe 1 7 (.mv xF)]
def r3:List Ent:=[
 qm 0 22 0,
 qe 1 23 (qL 1 4),
 qc 2 24 (qC F_impl_least [.t 22,.t 23]),
 qm 3 21 24,
 qe 4 25 (qX 0 21),
 qe 5 26 (qX 1 21),
 qm 6 8 25,
 qm 7 9 26]
def r4:List Ent:=[
 qm 0 27 9,
 qe 1 28 (.mkf F_impl_WhyOf_c1 [.t 4,.t 5]),
 qc 2 29 (qC F_slices_IndexFunc__sint_int [.t 27,.t 28]),
 qm 3 10 29]
def r5:List Ent:=[
 qm 0 30 10,
 qe 1 31 (qK .lss 30 0)]
def r6:List Ent:=[
 qe 0 6 (.mv (.k (.nil 1))),
 qe 1 7 (.mv xF)]
def r7:List Ent:=[
 qm 0 32 9,
 qm 1 33 10,
 qe 2 34 (qK .add 33 1),
 qe 3 35 (.slc 1 (.t 32) (none) (some (.t 34))),
 qm 4 6 35,
 qe 5 7 (.mv xT)]
def fi:FI:={ res:=[.t 6,.t 7],code:=.seq (.reg 64 4 r0) (.seq (.seq (.reg 320 10 r1) (.cond (.t 20) (.seq (.reg 960 2 r2) (.ret)) (.skip))) (.seq (.reg 1088 8 r3) (.seq (.reg 1600 4 r4) (.seq (.seq (.reg 1856 2 r5) (.cond (.t 31) (.seq (.reg 1984 2 r6) (.ret)) (.skip))) (.seq (.reg 2112 6 r7) (.ret)))))) }
attribute [go_sem] r0 r1 r2 r3 r4 r5 r6 r7
theorem ok:chkF prog F_impl_WhyOf 3 fi=true:=by kernel_rfl
end impl_WhyOf
namespace spec_WhyOf
def r0:List Ent:=[
 qe 0 6 (.mv (.k (.nil 1))),
 qe 1 7 (.mv xF)]
def r1:List Ent:=[
 qm 0 13 0,
 qm 1 14 1,
 qc 2 15 (qC F_spec_GoodRules [.t 13,.t 14]),
 qe 3 16 (qN 15)]
def r2:List Ent:=[
 qe 0 6 (.mv (.k (.nil 1))),
 qe 1 7 (.mv xF)]
def r3:List Ent:=[
 qm 0 18 1,
 qc 1 19 (qV F_spec_l16Least 18),
 qm 2 17 19,
 qe 3 20 (qX 0 17),
 qe 4 21 (qX 1 17),
 qe 5 22 (qX 2 17),
 qm 6 8 20,
 qm 7 9 21,
 qm 8 10 22]
def r4:List Ent:=[
 qm 0 23 9,
 qe 1 24 (qZ 23),
 qe 2 25 (.mv (xN 0))]
def r5:List Ent:=[
 qe 0 26 (qB .lss 25 24)]
def r6:List Ent:=[
 qm 0 27 25,
 qe 1 28 (qI 1 23 25),
 qe 2 29 (qL 1 28),
 qm 3 11 27,
 qm 4 12 29]
def r7:List Ent:=[
 qm 0 30 1,
 qm 1 31 12,
 qe 2 32 (qI 2 30 31),
 qe 3 33 (qD 1 32),
 qe 4 34 (qL 1 33),
 qm 5 35 2,
 qe 6 36 (qB .eql 34 35)]
def r8:List Ent:=[
 qe 0 37 (.bsl false 1 []),
 qm 1 38 9,
 qm 2 39 11,
 qe 3 40 (qK .add 39 1),
 qe 4 41 (.slc 1 (.t 38) (none) (some (.t 40))),
 qe 5 42 (.app 1 8 (.t 37) (.t 41)),
 qm 6 6 42,
 qe 7 7 (.mv xT)]
def r9:List Ent:=[
 qe 0 43 (qK .add 25 1),
 qm 1 25 43]
def b0:KC:=.seq (.reg 1344 1 r5) (.seq (.cond (.t 26) (.skip) (.exit 0)) (.seq (.block 1 (.seq (.reg 1408 5 r6) (.seq (.reg 1728 7 r7) (.cond (.t 36) (.seq (.reg 2176 8 r8) (.ret)) (.skip))))) (.reg 2688 2 r9)))
def r10:List Ent:=[
 qe 0 6 (.mv (.k (.nil 1))),
 qe 1 7 (.mv xF)]
def fi:FI:={ res:=[.t 6,.t 7],code:=.seq (.reg 64 2 r0) (.seq (.seq (.reg 192 4 r1) (.cond (.t 16) (.seq (.reg 448 2 r2) (.ret)) (.skip))) (.seq (.reg 576 9 r3) (.seq (.seq (.reg 1152 3 r4) (.block 0 (.loop b0))) (.seq (.reg 2816 2 r10) (.ret))))) }
attribute [go_sem] r0 r1 r2 r3 r4 r5 r6 r7 r8 r9 r10
theorem ok:chkF prog F_spec_WhyOf 3 fi=true:=by kernel_rfl
end spec_WhyOf
namespace laws_listOf
def r0:List Ent:=[
 qe 0 4 (.mv (.k (.nil 1)))]
def r1:List Ent:=[
 qe 0 5 (.mv (.k (.nil 1)))]
def r2:List Ent:=[
 qe 0 6 (.mv (xN 0))]
def r3:List Ent:=[
 qm 0 7 6,
 qm 1 8 0,
 qe 2 9 (qB .lss 7 8)]
def r4:List Ent:=[
 qm 0 12 1,
 qm 1 13 6,
 qe 2 14 (.cnv .u64 (.t 13)),
 qe 3 15 (qB .shr 12 14),
 qe 4 16 (qK .and 15 1),
 qe 5 17 (qK .eql 16 1)]
def r5:List Ent:=[
 qm 0 18 5,
 qm 1 19 6,
 qe 2 20 (qK .add 19 1),
 qe 3 21 (.bsl true 1 [.t 20]),
 qe 4 22 (.app 1 8 (.t 18) (.t 21)),
 qm 5 5 22]
def r6:List Ent:=[
 qm 0 10 6,
 qe 1 11 (qK .add 10 1),
 qm 2 6 11]
def b0:KC:=.seq (.seq (.reg 256 3 r3) (.cond (.t 9) (.skip) (.exit 0))) (.seq (.block 1 (.seq (.reg 448 6 r4) (.cond (.t 17) (.reg 832 6 r5) (.skip)))) (.reg 1216 3 r6))
def r7:List Ent:=[
 qm 0 23 5,
 qm 1 4 23]
def fi:FI:={ res:=[.t 4],code:=.seq (.reg 64 1 r0) (.seq (.reg 128 1 r1) (.seq (.seq (.reg 192 1 r2) (.nrm 5 1088 1 (.block 0 (.loop b0)))) (.seq (.reg 1408 2 r7) (.ret)))) }
attribute [go_sem] r0 r1 r2 r3 r4 r5 r6 r7
theorem ok:chkF prog F_laws_listOf 2 fi=true:=by kernel_rfl
end laws_listOf
namespace laws_numberOf
def r0:List Ent:=[
 qe 0 2 (.mv (xN 0))]
def r1:List Ent:=[
 qe 0 3 (.mv (xN 0))]
def r2:List Ent:=[
 qm 0 6 0,
 qe 1 7 (qZ 6),
 qe 2 8 (.mv (xN 0))]
def r3:List Ent:=[
 qe 0 9 (qB .lss 8 7)]
def r4:List Ent:=[
 qe 0 10 (qI 1 6 8),
 qe 1 11 (qL 1 10),
 qm 2 5 11]
def r5:List Ent:=[
 qm 0 12 3,
 qe 1 13 (.bin .mul (xN 31) (.t 12)),
 qm 2 14 5,
 qe 3 15 (.cnv .i64 (.t 14)),
 qe 4 16 (qB .add 13 15),
 qe 5 17 (qK .rem 16 1000003),
 qm 6 3 17]
def r6:List Ent:=[
 qe 0 18 (qK .add 8 1),
 qm 1 8 18]
def b0:KC:=.seq (.reg 384 1 r3) (.seq (.cond (.t 9) (.skip) (.exit 0)) (.seq (.block 1 (.seq (.reg 448 3 r4) (.reg 640 7 r5))) (.reg 1088 2 r6)))
def r7:List Ent:=[
 qm 0 19 3,
 qm 1 2 19]
def fi:FI:={ res:=[.t 2],code:=.seq (.reg 64 1 r0) (.seq (.reg 128 1 r1) (.seq (.seq (.reg 192 3 r2) (.block 0 (.loop b0))) (.seq (.reg 1216 2 r7) (.ret)))) }
attribute [go_sem] r0 r1 r2 r3 r4 r5 r6 r7
theorem ok:chkF prog F_laws_numberOf 1 fi=true:=by kernel_rfl
end laws_numberOf
namespace impl_MeetOf_c1
def r0:List Ent:=[
 qe 0 3 (.mv xF)]
def r1:List Ent:=[
 qe 0 4 (qL 1 1),
 qm 1 5 0,
 qc 2 6 (qC F_slices_Contains__sint_int [.t 4,.t 5]),
 qe 3 7 (qN 6),
 qm 4 3 7]
def fi:FI:={ res:=[.t 3],code:=.seq (.reg 64 1 r0) (.seq (.reg 128 5 r1) (.ret)) }
attribute [go_sem] r0 r1
theorem ok:chkF prog F_impl_MeetOf_c1 2 fi=true:=by kernel_rfl
end impl_MeetOf_c1
namespace impl_MeetOf
def r0:List Ent:=[
 qe 0 3 (.box (.t 1)),
 qe 1 4 (.mv (.k (.nil 1))),
 qe 2 5 (.mv xF)]
def r1:List Ent:=[
 qm 0 6 0,
 qc 1 7 (qC F_impl_areFacts [.t 6,xN 12]),
 qe 2 8 (qN 7),
 qm 3 9 8,
 qf 4 10 9 (qL 1 3),
 qj 5 11 9 (qC F_impl_areFacts [.t 10,xN 12]),
 qf 6 12 9 (qN 11),
 qe 7 13 (.pick (.t 9) xT (.t 12))]
def r2:List Ent:=[
 qe 0 4 (.mv (.k (.nil 1))),
 qe 1 5 (.mv xF)]
def r3:List Ent:=[
 qm 0 14 0,
 qc 1 15 (qV F_slices_Clone__sint_int 14),
 qe 2 16 (.mkf F_impl_MeetOf_c1 [.t 3]),
 qc 3 17 (.call F_slices_DeleteFunc__sint_int false [(.co,.t 15),(.ro,.t 16)]),
 qm 4 4 17,
 qe 5 5 (.mv xT)]
def fi:FI:={ res:=[.t 4,.t 5],code:=.seq (.reg 64 3 r0) (.seq (.seq (.reg 256 8 r1) (.cond (.t 13) (.seq (.reg 768 2 r2) (.ret)) (.skip))) (.seq (.reg 896 6 r3) (.ret))) }
attribute [go_sem] r0 r1 r2 r3
theorem ok:chkF prog F_impl_MeetOf 2 fi=true:=by kernel_rfl
end impl_MeetOf
namespace spec_DrawMeetOf
def r0:List Ent:=[
 qe 0 2 (.mv (.k (.nil 1))),
 qe 1 3 (.mv (.k (.nil 1)))]
def r1:List Ent:=[
 qm 0 5 0,
 qe 1 6 (.bld [.t 5,.k (.dat none (.int .i64 0)),.k (.dat none (.int .u64 0))]),
 qe 2 7 (.box (.t 6)),
 qm 3 4 7]
def r2:List Ent:=[
 qm 0 8 4,
 qm 1 9 4,
 qc 2 10 (.call F_spec_pl1Cur_pick true [(.io,.t 9),(.ro,xN 20)]),
 qe 3 11 (qK .quo 10 19),
 qe 4 12 (.bin .add (xN 12) (.t 11)),
 qc 5 13 (.call F_spec_pl1Cur_facts true [(.io,.t 8),(.ro,.t 12)]),
 qm 6 14 4,
 qc 7 15 (.call F_spec_pl1Cur_facts true [(.io,.t 14),(.ro,xN 8)]),
 qm 8 2 13,
 qm 9 3 15]
def fi:FI:={ res:=[.t 2,.t 3],code:=.seq (.reg 64 2 r0) (.seq (.reg 192 4 r1) (.seq (.reg 448 10 r2) (.ret))) }
attribute [go_sem] r0 r1 r2
theorem ok:chkF prog F_spec_DrawMeetOf 1 fi=true:=by kernel_rfl
end spec_DrawMeetOf
namespace spec_MeetOf
def r0:List Ent:=[
 qe 0 4 (.mv (.k (.nil 1))),
 qe 1 5 (.mv xF)]
def r1:List Ent:=[
 qm 0 9 0,
 qc 1 10 (qC F_spec_l16Facts [xN 12,.t 9]),
 qe 2 11 (qN 10),
 qm 3 12 11,
 qf 4 13 12 (qM 1),
 qj 5 14 12 (qC F_spec_l16Facts [xN 12,.t 13]),
 qf 6 15 12 (qN 14),
 qe 7 16 (.pick (.t 12) xT (.t 15))]
def r2:List Ent:=[
 qe 0 4 (.mv (.k (.nil 1))),
 qe 1 5 (.mv xF)]
def r3:List Ent:=[
 qe 0 6 (.mv (.k (.nil 1)))]
def r4:List Ent:=[
 qm 0 17 0,
 qe 1 18 (qZ 17),
 qe 2 19 (.mv (xN 0))]
def r5:List Ent:=[
 qe 0 20 (qB .lss 19 18)]
def r6:List Ent:=[
 qe 0 21 (qI 1 17 19),
 qe 1 22 (qL 1 21),
 qm 2 8 22]
def r7:List Ent:=[
 qm 0 23 1,
 qm 1 24 8,
 qc 2 25 (qC F_spec_l1Has [.t 23,.t 24])]
def r8:List Ent:=[
 qm 0 26 6,
 qm 1 27 8,
 qe 2 28 (.bsl true 1 [.t 27]),
 qe 3 29 (.app 1 8 (.t 26) (.t 28)),
 qm 4 6 29]
def r9:List Ent:=[
 qe 0 30 (qK .add 19 1),
 qm 1 19 30]
def b0:KC:=.seq (.reg 1088 1 r5) (.seq (.cond (.t 20) (.skip) (.exit 0)) (.seq (.block 1 (.seq (.reg 1152 3 r6) (.seq (.reg 1344 3 r7) (.cond (.t 25) (.reg 1536 5 r8) (.skip))))) (.reg 1856 2 r9)))
def r10:List Ent:=[
 qm 0 31 6,
 qm 1 4 31,
 qe 2 5 (.mv xT)]
def fi:FI:={ res:=[.t 4,.t 5],code:=.seq (.reg 64 2 r0) (.seq (.seq (.reg 192 8 r1) (.cond (.t 16) (.seq (.reg 704 2 r2) (.ret)) (.skip))) (.seq (.reg 832 1 r3) (.seq (.seq (.reg 896 3 r4) (.nrm 6 1728 1 (.block 0 (.loop b0)))) (.seq (.reg 1984 3 r10) (.ret))))) }
attribute [go_sem] r0 r1 r2 r3 r4 r5 r6 r7 r8 r9 r10
theorem ok:chkF prog F_spec_MeetOf 2 fi=true:=by kernel_rfl
end spec_MeetOf
namespace spec_DrawRulesAsClauses
def r0:List Ent:=[
 qe 0 2 (.mv (xN 0)),
 qe 1 3 (.mv (.k (.nil 2)))]
def r1:List Ent:=[
 qm 0 4 0,
 qc 1 5 (qV F_spec_DrawGoodRules 4),
 qe 2 6 (qX 0 5),
 qe 3 7 (qX 1 5),
 qm 4 2 6,
 qm 5 3 7]
def fi:FI:={ res:=[.t 2,.t 3],code:=.seq (.reg 64 2 r0) (.seq (.reg 192 6 r1) (.ret)) }
attribute [go_sem] r0 r1
theorem ok:chkF prog F_spec_DrawRulesAsClauses 1 fi=true:=by kernel_rfl
end spec_DrawRulesAsClauses
namespace spec_l5Negate
def r0:List Ent:=[
 qe 0 2 (.mv (.k (.nil 1)))]
def r1:List Ent:=[
 qe 0 3 (.mv (.k (.nil 1)))]
def r2:List Ent:=[
 qm 0 6 0,
 qe 1 7 (qZ 6),
 qe 2 8 (.mv (xN 0))]
def r3:List Ent:=[
 qe 0 9 (qB .lss 8 7)]
def r4:List Ent:=[
 qe 0 10 (qI 1 6 8),
 qe 1 11 (qL 1 10),
 qm 2 5 11]
def r5:List Ent:=[
 qm 0 12 3,
 qm 1 13 5,
 qe 2 14 (.un .neg (.t 13)),
 qe 3 15 (.bsl true 1 [.t 14]),
 qe 4 16 (.app 1 8 (.t 12) (.t 15)),
 qm 5 3 16]
def r6:List Ent:=[
 qe 0 17 (qK .add 8 1),
 qm 1 8 17]
def b0:KC:=.seq (.reg 384 1 r3) (.seq (.cond (.t 9) (.skip) (.exit 0)) (.seq (.block 1 (.seq (.reg 448 3 r4) (.reg 640 6 r5))) (.reg 1024 2 r6)))
def r7:List Ent:=[
 qm 0 18 3,
 qm 1 2 18]
def fi:FI:={ res:=[.t 2],code:=.seq (.reg 64 1 r0) (.seq (.reg 128 1 r1) (.seq (.seq (.reg 192 3 r2) (.nrm 3 896 1 (.block 0 (.loop b0)))) (.seq (.reg 1152 2 r7) (.ret)))) }
attribute [go_sem] r0 r1 r2 r3 r4 r5 r6 r7
theorem ok:chkF prog F_spec_l5Negate 1 fi=true:=by kernel_rfl
end spec_l5Negate
namespace spec_RulesAsClauses
def r0:List Ent:=[
 qe 0 4 (.mv (.k (.nil 1))),
 qe 1 5 (.mv xF)]
def r1:List Ent:=[
 qm 0 10 0,
 qm 1 11 1,
 qc 2 12 (qC F_spec_GoodRules [.t 10,.t 11]),
 qe 3 13 (qN 12)]
def r2:List Ent:=[
 qe 0 4 (.mv (.k (.nil 1))),
 qe 1 5 (.mv xF)]
def r3:List Ent:=[
 qe 0 6 (.mv (.k (.nil 1)))]
def r4:List Ent:=[
 qm 0 14 1,
 qe 1 15 (qZ 14),
 qe 2 16 (.mv (xN 0))]
def r5:List Ent:=[
 qe 0 17 (qB .lss 16 15)]
def r6:List Ent:=[
 qe 0 18 (qI 2 14 16),
 qe 1 19 (qA 2 18),
 qe 2 8 (.box (.k (.agg [.nil 1,.dat none (.int .i64 0)]))),
 qs 3 (qW 2 8 19)]
def r7:List Ent:=[
 qe 0 20 (qD 0 8),
 qe 1 21 (qL 1 20),
 qc 2 22 (qV F_spec_l5Negate 21),
 qm 3 9 22]
def r8:List Ent:=[
 qe 0 23 (qD 1 8),
 qe 1 24 (qL 1 23),
 qe 2 25 (qK .gtr 24 0)]
def r9:List Ent:=[
 qm 0 26 9,
 qe 1 27 (qD 1 8),
 qe 2 28 (qL 1 27),
 qe 3 29 (.bsl true 1 [.t 28]),
 qe 4 30 (.app 1 8 (.t 26) (.t 29)),
 qm 5 9 30]
def r10:List Ent:=[
 qm 0 31 0,
 qm 1 32 9,
 qc 2 33 (qC F_spec_l4Clause [.t 31,.t 32])]
def r11:List Ent:=[
 qm 0 34 6,
 qm 1 35 9,
 qe 2 36 (.bsl false 1 [.t 35]),
 qe 3 37 (.app 1 24 (.t 34) (.t 36)),
 qm 4 6 37]
def r12:List Ent:=[
 qe 0 38 (qK .add 16 1),
 qm 1 16 38]
def b0:KC:=.seq (.reg 832 1 r5) (.seq (.cond (.t 17) (.skip) (.exit 0)) (.seq (.block 1 (.seq (.reg 896 4 r6) (.seq (.reg 1152 4 r7) (.seq (.seq (.reg 1408 3 r8) (.cond (.t 25) (.reg 1600 6 r9) (.skip))) (.seq (.reg 1984 3 r10) (.cond (.t 33) (.reg 2176 5 r11) (.skip))))))) (.reg 2496 2 r12)))
def r13:List Ent:=[
 qm 0 39 6,
 qm 1 4 39,
 qe 2 5 (.mv xT)]
def fi:FI:={ res:=[.t 4,.t 5],code:=.seq (.reg 64 2 r0) (.seq (.seq (.reg 192 4 r1) (.cond (.t 13) (.seq (.reg 448 2 r2) (.ret)) (.skip))) (.seq (.reg 576 1 r3) (.seq (.seq (.reg 640 3 r4) (.nrm 6 2368 1 (.nrm 9 1856 1 (.block 0 (.loop b0))))) (.seq (.reg 2624 3 r13) (.ret))))) }
attribute [go_sem] r0 r1 r2 r3 r4 r5 r6 r7 r8 r9 r10 r11 r12 r13
theorem ok:chkF prog F_spec_RulesAsClauses 2 fi=true:=by kernel_rfl
end spec_RulesAsClauses
namespace spec_pl1Cur_clauses
def r0:List Ent:=[
 qe 0 2 (.mv (xN 0)),
 qe 1 3 (.mv (.k (.nil 1)))]
def r1:List Ent:=[
 qm 0 11 0,
 qc 1 12 (.call F_spec_pl1Cur_pick true [(.io,.t 11),(.ro,xN 6)]),
 qe 2 13 (.bin .add (xN 1) (.t 12)),
 qm 3 4 13]
def r2:List Ent:=[
 qm 0 14 0,
 qc 1 15 (.call F_spec_pl1Cur_one true [(.io,.t 14),(.ro,xN 30)])]
def r3:List Ent:=[
 qm 0 16 0,
 qe 1 17 (.bsl false 1 [xN 0,xN 10,xN 13]),
 qc 2 18 (.call F_spec_pl1Cur_among true [(.io,.t 16),(.co,.t 17)]),
 qm 3 4 18]
def r4:List Ent:=[
 qe 0 5 (.mv (.k (.nil 1)))]
def r5:List Ent:=[
 qm 0 19 0,
 qc 1 20 (.call F_spec_pl1Cur_pick true [(.io,.t 19),(.ro,xN 14)]),
 qm 2 6 20]
def r6:List Ent:=[
 qm 0 21 4,
 qe 1 22 (qK .eql 21 0)]
def r7:List Ent:=[
 qe 0 6 (.mv (xN 0))]
def r8:List Ent:=[
 qm 0 23 6,
 qe 1 24 (qK .gtr 23 0)]
def r9:List Ent:=[
 qe 0 7 (.mv (.k (.nil 1)))]
def r10:List Ent:=[
 qm 0 27 0,
 qc 1 28 (.call F_spec_pl1Cur_pick true [(.io,.t 27),(.ro,xN 3)]),
 qe 2 29 (.bin .add (xN 1) (.t 28)),
 qm 3 8 29]
def r11:List Ent:=[
 qm 0 30 8,
 qe 1 31 (qK .gtr 30 0)]
def r12:List Ent:=[
 qm 0 34 7,
 qm 1 35 0,
 qm 2 36 4,
 qc 3 37 (.call F_spec_pl1Cur_lit true [(.io,.t 35),(.ro,.t 36)]),
 qe 4 38 (.bsl true 1 [.t 37]),
 qe 5 39 (.app 1 8 (.t 34) (.t 38)),
 qm 6 7 39]
def r13:List Ent:=[
 qm 0 32 8,
 qe 1 33 (qK .sub 32 1),
 qm 2 8 33]
def b0:KC:=.seq (.seq (.reg 1728 2 r11) (.cond (.t 31) (.skip) (.exit 2))) (.seq (.block 3 (.reg 1856 7 r12)) (.reg 2304 3 r13))
def r14:List Ent:=[
 qm 0 41 7,
 qc 1 42 (qV F_spec_CleanClause 41),
 qm 2 40 42,
 qe 3 43 (qX 0 40),
 qe 4 44 (qX 1 40),
 qm 5 9 43,
 qm 6 10 44]
def r15:List Ent:=[
 qm 0 45 10]
def r16:List Ent:=[
 qm 0 46 5,
 qm 1 47 9,
 qe 2 48 (.bsl false 1 [.t 47]),
 qe 3 49 (.app 1 24 (.t 46) (.t 48)),
 qm 4 5 49]
def r17:List Ent:=[
 qm 0 25 6,
 qe 1 26 (qK .sub 25 1),
 qm 2 6 26]
def b1:KC:=.seq (.seq (.reg 1280 2 r8) (.cond (.t 24) (.skip) (.exit 0))) (.seq (.block 1 (.seq (.reg 1408 1 r9) (.seq (.seq (.reg 1472 4 r10) (.block 2 (.loop b0))) (.seq (.reg 2496 7 r14) (.seq (.reg 2944 1 r15) (.cond (.t 45) (.reg 3008 5 r16) (.skip))))))) (.reg 3328 3 r17))
def r18:List Ent:=[
 qm 0 50 5,
 qe 1 51 (qZ 50),
 qe 2 52 (qK .gtr 51 0),
 qm 3 53 52,
 qt 4 54 53 (qM 0),
 qh 5 55 53 (.call F_spec_pl1Cur_one true [(.io,.t 54),(.ro,xN 30)]),
 qe 6 56 (.pick (.t 53) (.t 55) xF)]
def r19:List Ent:=[
 qm 0 57 5,
 qm 1 58 5,
 qm 4 61 0,
 EP 5 (some 62) none (.i (.bsl false 1 [xN 0,xN 13,xN 1])) 1 false,
  EPB 6 (some 63) (.call F_spec_pl1Cur_among true [(.io,.t 61),(.co,.t 62)]) 0 true,
  EB 2 (some 59) (.i (.iad 1 (.t 58) (xN 0))) 2 [5,7] [6] false,
  EB 3 (some 60) (.i (.load true false 1 (.t 59))) 2 [5,7] [6] false,
 EP 7 (some 64) none (.i (.bsl true 1 [.t 63])) 1 false,
 qe 8 65 (.apr 1 8 (.t 60) (.t 64)),
 qe 9 66 (.iad 1 (.t 57) (xN 0)),
 qs 10 (qW 1 66 65)]
def r20:List Ent:=[
 qm 0 67 4,
 qm 1 68 5,
 qm 2 2 67,
 qm 3 3 68]
def fi:FI:={ res:=[.t 2,.t 3],code:=.seq (.reg 64 2 r0) (.seq (.reg 192 4 r1) (.seq (.seq (.reg 448 2 r2) (.cond (.t 15) (.reg 576 4 r3) (.skip))) (.seq (.reg 832 1 r4) (.seq (.reg 896 3 r5) (.seq (.seq (.reg 1088 2 r6) (.cond (.t 22) (.reg 1216 1 r7) (.skip))) (.seq (.nrm 5 3200 1 (.nrm 7 2176 1 (.block 0 (.loop b1)))) (.seq (.seq (.reg 3520 7 r18) (.cond (.t 56) (.reg 3968 11 r19) (.skip))) (.seq (.reg 4672 4 r20) (.ret))))))))) }
attribute [go_sem] r0 r1 r2 r3 r4 r5 r6 r7 r8 r9 r10 r11 r12 r13 r14 r15 r16 r17 r18 r19 r20
theorem ok:chkF prog F_spec_pl1Cur_clauses 1 fi=true:=by kernel_rfl
end spec_pl1Cur_clauses
namespace spec_DrawGoodClauses
def r0:List Ent:=[
 qe 0 2 (.mv (xN 0)),
 qe 1 3 (.mv (.k (.nil 1)))]
def r1:List Ent:=[
 qm 0 5 0,
 qe 1 6 (.bld [.t 5,.k (.dat none (.int .i64 0)),.k (.dat none (.int .u64 0))]),
 qe 2 7 (.box (.t 6)),
 qm 3 4 7]
def r2:List Ent:=[
 qm 0 8 4,
 qc 1 9 (.call F_spec_pl1Cur_clauses true [(.io,.t 8)]),
 qe 2 10 (qX 0 9),
 qe 3 11 (qX 1 9),
 qm 4 2 10,
 qm 5 3 11]
def fi:FI:={ res:=[.t 2,.t 3],code:=.seq (.reg 64 2 r0) (.seq (.reg 192 4 r1) (.seq (.reg 448 6 r2) (.ret))) }
attribute [go_sem] r0 r1 r2
theorem ok:chkF prog F_spec_DrawGoodClauses 1 fi=true:=by kernel_rfl
end spec_DrawGoodClauses
namespace spec_DrawIsHorn
def r0:List Ent:=[
 qe 0 2 (.mv (xN 0)),
 qe 1 3 (.mv (.k (.nil 1)))]
def r1:List Ent:=[
 qm 0 4 0,
 qc 1 5 (qV F_spec_DrawGoodClauses 4),
 qe 2 6 (qX 0 5),
 qe 3 7 (qX 1 5),
 qm 4 2 6,
 qm 5 3 7]
def fi:FI:={ res:=[.t 2,.t 3],code:=.seq (.reg 64 2 r0) (.seq (.reg 192 6 r1) (.ret)) }
attribute [go_sem] r0 r1
theorem ok:chkF prog F_spec_DrawIsHorn 1 fi=true:=by kernel_rfl
end spec_DrawIsHorn
namespace spec_IsHorn
def r0:List Ent:=[
 qe 0 4 (.mv xF),
 qe 1 5 (.mv xF)]
def r1:List Ent:=[
 qm 0 11 0,
 qm 1 12 1,
 qc 2 13 (qC F_spec_GoodClauses [.t 11,.t 12]),
 qe 3 14 (qN 13)]
def r2:List Ent:=[
 qe 0 4 (.mv xF),
 qe 1 5 (.mv xF)]
def r3:List Ent:=[
 qm 0 15 1,
 qe 1 16 (qZ 15),
 qe 2 17 (.mv (xN 0))]
def r4:List Ent:=[
 qe 0 18 (qB .lss 17 16)]
def r5:List Ent:=[
 qe 0 19 (qI 1 15 17),
 qe 1 20 (qL 1 19),
 qm 2 7 20]
def r6:List Ent:=[
 qe 0 8 (.mv (xN 0))]
def r7:List Ent:=[
 qm 0 21 7,
 qe 1 22 (qZ 21),
 qe 2 23 (.mv (xN 0))]
def r8:List Ent:=[
 qe 0 24 (qB .lss 23 22)]
def r9:List Ent:=[
 qe 0 25 (qI 1 21 23),
 qe 1 26 (qL 1 25),
 qm 2 10 26]
def r10:List Ent:=[
 qm 0 27 10,
 qe 1 28 (qK .gtr 27 0)]
def r11:List Ent:=[
 qm 0 29 8,
 qe 1 30 (qK .add 29 1),
 qm 2 8 30]
def r12:List Ent:=[
 qe 0 31 (qK .add 23 1),
 qm 1 23 31]
def b0:KC:=.seq (.reg 1280 1 r8) (.seq (.cond (.t 24) (.skip) (.exit 2)) (.seq (.block 3 (.seq (.reg 1344 3 r9) (.seq (.reg 1536 2 r10) (.cond (.t 28) (.reg 1664 3 r11) (.skip))))) (.reg 1856 2 r12)))
def r13:List Ent:=[
 qm 0 32 8,
 qe 1 33 (qK .gtr 32 1)]
def r14:List Ent:=[
 qe 0 4 (.mv xF),
 qe 1 5 (.mv xT)]
def r15:List Ent:=[
 qe 0 34 (qK .add 17 1),
 qm 1 17 34]
def b1:KC:=.seq (.reg 768 1 r4) (.seq (.cond (.t 18) (.skip) (.exit 0)) (.seq (.block 1 (.seq (.reg 832 3 r5) (.seq (.reg 1024 1 r6) (.seq (.seq (.reg 1088 3 r7) (.block 2 (.loop b0))) (.seq (.reg 1984 2 r13) (.cond (.t 33) (.seq (.reg 2112 2 r14) (.ret)) (.skip))))))) (.reg 2240 2 r15)))
def r16:List Ent:=[
 qe 0 4 (.mv xT),
 qe 1 5 (.mv xT)]
def fi:FI:={ res:=[.t 4,.t 5],code:=.seq (.reg 64 2 r0) (.seq (.seq (.reg 192 4 r1) (.cond (.t 14) (.seq (.reg 448 2 r2) (.ret)) (.skip))) (.seq (.seq (.reg 576 3 r3) (.block 0 (.loop b1))) (.seq (.reg 2368 2 r16) (.ret)))) }
attribute [go_sem] r0 r1 r2 r3 r4 r5 r6 r7 r8 r9 r10 r11 r12 r13 r14 r15 r16
theorem ok:chkF prog F_spec_IsHorn 2 fi=true:=by kernel_rfl
end spec_IsHorn
namespace laws_sameRules
def r0:List Ent:=[
 qe 0 4 (.mv xF)]
def r1:List Ent:=[
 qm 0 5 0,
 qm 1 6 1,
 qc 2 7 (qC F_laws_sameRows [.t 5,.t 6]),
 qm 3 4 7]
def fi:FI:={ res:=[.t 4],code:=.seq (.reg 64 1 r0) (.seq (.reg 128 4 r1) (.ret)) }
attribute [go_sem] r0 r1
theorem ok:chkF prog F_laws_sameRules 2 fi=true:=by kernel_rfl
end laws_sameRules
namespace laws_FnHorn
def r0:List Ent:=[
 qe 0 4 (.mv xF)]
def r1:List Ent:=[
 qm 0 48 0,
 qe 1 49 (qZ 48),
 qm 2 50 1,
 qe 3 51 (qZ 50),
 qe 4 52 (qB .add 49 51),
 qe 5 53 (qK .gtr 52 1048576)]
def r2:List Ent:=[
 qe 0 4 (.mv xT)]
def r3:List Ent:=[
 qm 0 55 0,
 qc 1 56 (qV F_spec_DrawWhyOf 55),
 qm 2 54 56,
 qe 3 57 (qX 0 54),
 qe 4 58 (qX 1 54),
 qe 5 59 (qX 2 54),
 qm 6 5 57,
 qm 7 6 58,
 qm 8 7 59]
def r4:List Ent:=[
 qm 0 61 5,
 qm 1 62 6,
 qm 2 63 7,
 qc 3 64 (qC F_impl_WhyOf [.t 61,.t 62,.t 63]),
 qm 4 60 64,
 qe 5 65 (qX 0 60),
 qe 6 66 (qX 1 60),
 qm 7 8 65,
 qm 8 9 66]
def r5:List Ent:=[
 qm 0 68 5,
 qm 1 69 6,
 qm 2 70 7,
 qc 3 71 (qC F_spec_WhyOf [.t 68,.t 69,.t 70]),
 qm 4 67 71,
 qe 5 72 (qX 0 67),
 qe 6 73 (qX 1 67),
 qm 7 10 72,
 qm 8 11 73]
def r6:List Ent:=[
 qm 0 74 9,
 qm 1 75 11,
 qe 2 76 (.eqb true (.t 74) (.t 75)),
 qm 3 77 76,
 qf 4 78 77 (qM 8),
 qf 5 79 77 (qM 10),
 qj 6 80 77 (qC F_laws_sameInts [.t 78,.t 79]),
 qf 7 81 77 (qN 80),
 qe 8 82 (.pick (.t 77) xT (.t 81))]
def r7:List Ent:=[
 qe 0 4 (.mv xF)]
def r8:List Ent:=[
 qm 0 83 9]
def r9:List Ent:=[
 qe 0 12 (.mv (.k (.nil 1)))]
def r10:List Ent:=[
 qm 0 84 8,
 qe 1 85 (qZ 84),
 qe 2 86 (.mv (xN 0))]
def r11:List Ent:=[
 qe 0 87 (qB .lss 86 85)]
def r12:List Ent:=[
 qe 0 88 (qI 1 84 86),
 qe 1 89 (qL 1 88),
 qm 2 14 89]
def r13:List Ent:=[
 qm 0 90 6,
 qm 1 91 14,
 qe 2 92 (qI 2 90 91),
 qe 3 93 (qD 0 92),
 qe 4 94 (qL 1 93),
 qe 5 95 (qZ 94),
 qe 6 96 (.mv (xN 0))]
def r14:List Ent:=[
 qe 0 97 (qB .lss 96 95)]
def r15:List Ent:=[
 qe 0 98 (qI 1 94 96),
 qe 1 99 (qL 1 98),
 qm 2 16 99]
def r16:List Ent:=[
 qm 0 100 12,
 qm 1 101 16,
 qc 2 102 (qC F_laws_has [.t 100,.t 101]),
 qe 3 103 (qN 102)]
def r17:List Ent:=[
 qe 0 4 (.mv xF)]
def r18:List Ent:=[
 qe 0 104 (qK .add 96 1),
 qm 1 96 104]
def b0:KC:=.seq (.reg 3968 1 r14) (.seq (.cond (.t 97) (.skip) (.exit 2)) (.seq (.block 3 (.seq (.reg 4032 3 r15) (.seq (.reg 4224 4 r16) (.cond (.t 103) (.seq (.reg 4480 1 r17) (.ret)) (.skip))))) (.reg 4544 2 r18)))
def r19:List Ent:=[
 qm 0 105 12,
 qm 1 106 6,
 qm 2 107 14,
 qe 3 108 (qI 2 106 107),
 qe 4 109 (qD 1 108),
 qe 5 110 (qL 1 109),
 qe 6 111 (.bsl true 1 [.t 110]),
 qe 7 112 (.app 1 8 (.t 105) (.t 111)),
 qm 8 12 112]
def r20:List Ent:=[
 qe 0 113 (qK .add 86 1),
 qm 1 86 113]
def b1:KC:=.seq (.reg 3264 1 r11) (.seq (.cond (.t 87) (.skip) (.exit 0)) (.seq (.block 1 (.seq (.reg 3328 3 r12) (.seq (.seq (.reg 3520 7 r13) (.block 2 (.loop b0))) (.reg 4672 9 r19)))) (.reg 5248 2 r20)))
def r21:List Ent:=[
 qm 0 115 5,
 qm 1 116 6,
 qc 2 117 (qC F_impl_LeastOf [.t 115,.t 116]),
 qm 3 114 117,
 qe 4 118 (qX 0 114),
 qe 5 119 (qX 1 114),
 qe 6 120 (qX 2 114),
 qm 7 17 118,
 qm 8 18 119,
 qm 9 19 120]
def r22:List Ent:=[
 qm 0 121 19,
 qe 1 122 (qN 121),
 qm 2 123 122,
 qf 3 124 123 (qM 12),
 qf 4 125 123 (qZ 124),
 qf 5 126 123 (qK .eql 125 0),
 qe 6 127 (.pick (.t 123) xT (.t 126)),
 qm 7 128 127,
 qf 8 129 128 (qM 12),
 qf 9 130 128 (qM 12),
 qf 10 131 128 (qZ 130),
 qf 11 132 128 (qK .sub 131 1),
 qf 12 133 128 (qI 1 129 132),
 qf 13 134 128 (qL 1 133),
 qf 14 135 128 (qM 7),
 qf 15 136 128 (qB .neq 134 135),
 qe 16 137 (.pick (.t 128) xT (.t 136)),
 qm 17 138 137,
 qf 18 139 138 (qM 17),
 qf 19 140 138 (qM 7),
 qj 20 141 138 (qC F_laws_has [.t 139,.t 140]),
 qf 21 142 138 (qN 141),
 qe 22 143 (.pick (.t 138) xT (.t 142))]
def r23:List Ent:=[
 qe 0 4 (.mv xF)]
def r24:List Ent:=[
 qm 0 144 5,
 qm 1 145 6,
 qc 2 146 (qC F_impl_GoodRules [.t 144,.t 145]),
 qm 3 147 146,
 qt 4 148 147 (qM 5),
 qt 5 149 147 (qK .leq 148 8),
 qe 6 150 (.pick (.t 147) (.t 149) xF)]
def r25:List Ent:=[
 qm 0 151 5,
 qm 1 152 1,
 qc 2 153 (qV F_laws_numberOf 152),
 qc 3 154 (qC F_laws_listOf [.t 151,.t 153]),
 qm 4 20 154]
def r26:List Ent:=[
 qm 0 155 5,
 qm 1 156 1,
 qc 2 157 (qV F_laws_numberOf 156),
 qe 3 158 (qK .quo 157 256),
 qc 4 159 (qC F_laws_listOf [.t 155,.t 158]),
 qm 5 21 159]
def r27:List Ent:=[
 qm 0 161 5,
 qm 1 162 6,
 qm 2 163 20,
 qc 3 164 (qC F_impl_HoldsIn [.t 161,.t 162,.t 163]),
 qm 4 160 164,
 qe 5 165 (qX 0 160),
 qe 6 166 (qX 1 160),
 qm 7 22 165,
 qm 8 23 166]
def r28:List Ent:=[
 qm 0 168 5,
 qm 1 169 6,
 qm 2 170 21,
 qc 3 171 (qC F_impl_HoldsIn [.t 168,.t 169,.t 170]),
 qm 4 167 171,
 qe 5 172 (qX 0 167),
 qe 6 173 (qX 1 167),
 qm 7 24 172,
 qm 8 25 173]
def r29:List Ent:=[
 qm 0 175 20,
 qm 1 176 21,
 qc 2 177 (qC F_impl_MeetOf [.t 175,.t 176]),
 qm 3 174 177,
 qe 4 178 (qX 0 174),
 qe 5 179 (qX 1 174),
 qm 6 26 178,
 qm 7 27 179]
def r30:List Ent:=[
 qm 0 181 5,
 qm 1 182 6,
 qm 2 183 26,
 qc 3 184 (qC F_impl_HoldsIn [.t 181,.t 182,.t 183]),
 qm 4 180 184,
 qe 5 185 (qX 0 180),
 qe 6 186 (qX 1 180),
 qm 7 28 185,
 qm 8 29 186]
def r31:List Ent:=[
 qm 0 187 23,
 qe 1 188 (qN 187),
 qm 2 189 188,
 qf 3 190 189 (qM 25),
 qf 4 191 189 (qN 190),
 qe 5 192 (.pick (.t 189) xT (.t 191)),
 qm 6 193 192,
 qf 7 194 193 (qM 27),
 qf 8 195 193 (qN 194),
 qe 9 196 (.pick (.t 193) xT (.t 195)),
 qm 10 197 196,
 qf 11 198 197 (qM 29),
 qf 12 199 197 (qN 198),
 qe 13 200 (.pick (.t 197) xT (.t 199)),
 qm 14 201 200,
 qf 15 202 201 (qM 22),
 qf 16 203 201 (qM 202),
 qt 17 204 203 (qM 24),
 qf 18 205 201 (.pick (.t 203) (.t 204) xF),
 qf 19 206 201 (qM 205),
 qt 20 207 206 (qM 28),
 qt 21 208 206 (qN 207),
 qf 22 209 201 (.pick (.t 206) (.t 208) xF),
 qe 23 210 (.pick (.t 201) xT (.t 209))]
def r32:List Ent:=[
 qe 0 4 (.mv xF)]
def r33:List Ent:=[
 qm 0 212 1,
 qc 1 213 (qV F_spec_DrawMeetOf 212),
 qm 2 211 213,
 qe 3 214 (qX 0 211),
 qe 4 215 (qX 1 211),
 qm 5 30 214,
 qm 6 31 215]
def r34:List Ent:=[
 qm 0 217 30,
 qm 1 218 31,
 qc 2 219 (qC F_impl_MeetOf [.t 217,.t 218]),
 qm 3 216 219,
 qe 4 220 (qX 0 216),
 qe 5 221 (qX 1 216),
 qm 6 32 220,
 qm 7 33 221]
def r35:List Ent:=[
 qm 0 223 30,
 qm 1 224 31,
 qc 2 225 (qC F_spec_MeetOf [.t 223,.t 224]),
 qm 3 222 225,
 qe 4 226 (qX 0 222),
 qe 5 227 (qX 1 222),
 qm 6 34 226,
 qm 7 35 227]
def r36:List Ent:=[
 qm 0 229 1,
 qc 1 230 (qV F_spec_DrawRulesAsClauses 229),
 qm 2 228 230,
 qe 3 231 (qX 0 228),
 qe 4 232 (qX 1 228),
 qm 5 36 231,
 qm 6 37 232]
def r37:List Ent:=[
 qm 0 234 36,
 qm 1 235 37,
 qc 2 236 (qC F_impl_RulesAsClauses [.t 234,.t 235]),
 qm 3 233 236,
 qe 4 237 (qX 0 233),
 qe 5 238 (qX 1 233),
 qm 6 38 237,
 qm 7 39 238]
def r38:List Ent:=[
 qm 0 240 36,
 qm 1 241 37,
 qc 2 242 (qC F_spec_RulesAsClauses [.t 240,.t 241]),
 qm 3 239 242,
 qe 4 243 (qX 0 239),
 qe 5 244 (qX 1 239),
 qm 6 40 243,
 qm 7 41 244]
def r39:List Ent:=[
 qm 0 246 1,
 qc 1 247 (qV F_spec_DrawIsHorn 246),
 qm 2 245 247,
 qe 3 248 (qX 0 245),
 qe 4 249 (qX 1 245),
 qm 5 42 248,
 qm 6 43 249]
def r40:List Ent:=[
 qm 0 251 42,
 qm 1 252 43,
 qc 2 253 (qC F_impl_IsHorn [.t 251,.t 252]),
 qm 3 250 253,
 qe 4 254 (qX 0 250),
 qe 5 255 (qX 1 250),
 qm 6 44 254,
 qm 7 45 255]
def r41:List Ent:=[
 qm 0 257 42,
 qm 1 258 43,
 qc 2 259 (qC F_spec_IsHorn [.t 257,.t 258]),
 qm 3 256 259,
 qe 4 260 (qX 0 256),
 qe 5 261 (qX 1 256),
 qm 6 46 260,
 qm 7 47 261]
def r42:List Ent:=[
 qm 0 262 33,
 qm 1 263 35,
 qe 2 264 (.eqb false (.t 262) (.t 263)),
 qm 3 265 264,
 qt 4 266 265 (qM 32),
 qt 5 267 265 (qM 34),
 qh 6 268 265 (qC F_laws_sameInts [.t 266,.t 267]),
 qe 7 269 (.pick (.t 265) (.t 268) xF),
 qm 8 270 269,
 qt 9 271 270 (qM 39),
 qt 10 272 270 (qM 41),
 qt 11 273 270 (.eqb false (.t 271) (.t 272)),
 qe 12 274 (.pick (.t 270) (.t 273) xF),
 qm 13 275 274,
 qt 14 276 275 (qM 38),
 qt 15 277 275 (qM 40),
 qh 16 278 275 (qC F_laws_sameRules [.t 276,.t 277]),
 qe 17 279 (.pick (.t 275) (.t 278) xF),
 qm 18 280 279,
 qt 19 281 280 (qM 45),
 qt 20 282 280 (qM 47),
 qt 21 283 280 (.eqb false (.t 281) (.t 282)),
 qe 22 284 (.pick (.t 280) (.t 283) xF),
 qm 23 285 284,
 qt 24 286 285 (qM 44),
 qt 25 287 285 (qM 46),
 qt 26 288 285 (.eqb false (.t 286) (.t 287)),
 qe 27 289 (.pick (.t 285) (.t 288) xF),
 qm 28 4 289]
def fi:FI:={ res:=[.t 4],code:=.seq (.reg 64 1 r0) (.seq (.seq (.reg 128 6 r1) (.cond (.t 53) (.seq (.reg 512 1 r2) (.ret)) (.skip))) (.seq (.reg 576 9 r3) (.seq (.fz 6 (.reg 1152 9 r4)) (.seq (.reg 1728 9 r5) (.seq (.seq (.reg 2304 9 r6) (.cond (.t 82) (.seq (.reg 2880 1 r7) (.ret)) (.skip))) (.seq (.seq (.reg 2944 1 r8) (.cond (.t 83) (.seq (.reg 3008 1 r9) (.seq (.seq (.fz 8 (.reg 3072 3 r10)) (.nrm 12 5120 1 (.block 0 (.loop b1)))) (.seq (.reg 5376 10 r21) (.seq (.reg 6016 23 r22) (.cond (.t 143) (.seq (.reg 7488 1 r23) (.ret)) (.skip)))))) (.skip))) (.seq (.seq (.reg 7552 7 r24) (.cond (.t 150) (.seq (.reg 8000 5 r25) (.seq (.reg 8320 6 r26) (.seq (.reg 8704 9 r27) (.seq (.reg 9280 9 r28) (.seq (.reg 9856 8 r29) (.seq (.reg 10368 9 r30) (.seq (.reg 10944 24 r31) (.cond (.t 210) (.seq (.reg 12480 1 r32) (.ret)) (.skip))))))))) (.skip))) (.seq (.reg 12544 7 r33) (.seq (.reg 12992 8 r34) (.seq (.reg 13504 8 r35) (.seq (.reg 14016 7 r36) (.seq (.reg 14464 8 r37) (.seq (.reg 14976 8 r38) (.seq (.reg 15488 7 r39) (.seq (.reg 15936 8 r40) (.seq (.reg 16448 8 r41) (.seq (.reg 16960 29 r42) (.ret)))))))))))))))))) }
attribute [go_sem] r0 r1 r2 r3 r4 r5 r6 r7 r8 r9 r10 r11 r12 r13 r14 r15 r16 r17 r18 r19 r20 r21 r22 r23 r24 r25 r26 r27 r28 r29 r30 r31 r32 r33 r34 r35 r36 r37 r38 r39 r40 r41 r42
theorem ok:chkF prog F_laws_FnHorn 2 fi=true:=by kernel_rfl
end laws_FnHorn
namespace spec_l1Put_co
def r0:List Ent:=[
 qe 0 4 (.mv (.k (.nil 1)))]
def r1:List Ent:=[
 qe 0 5 (.mv (xN 0))]
def r2:List Ent:=[
 qm 0 7 5,
 qm 1 8 0,
 qe 2 9 (qZ 8),
 qe 3 10 (qB .lss 7 9),
 qm 4 11 10,
 qt 5 12 11 (qM 0),
 qt 6 13 11 (qM 5),
 qt 7 14 11 (qI 1 12 13),
 qt 8 15 11 (qL 1 14),
 qt 9 16 11 (qM 1),
 qt 10 17 11 (qB .lss 15 16),
 qe 11 18 (.pick (.t 11) (.t 17) xF)]
def r3:List Ent:=[
 qm 0 19 5,
 qe 1 20 (qK .add 19 1),
 qm 2 5 20]
def b0:KC:=.seq (.seq (.reg 192 12 r2) (.cond (.t 18) (.skip) (.exit 0))) (.block 1 (.reg 960 3 r3))
def r4:List Ent:=[
 qm 0 21 5,
 qm 1 22 0,
 qe 2 23 (qZ 22),
 qe 3 24 (qB .lss 21 23),
 qm 4 25 24,
 qt 5 26 25 (qM 0),
 qt 6 27 25 (qM 5),
 qt 7 28 25 (qI 1 26 27),
 qt 8 29 25 (qL 1 28),
 qt 9 30 25 (qM 1),
 qt 10 31 25 (qB .eql 29 30),
 qe 11 32 (.pick (.t 25) (.t 31) xF)]
def r5:List Ent:=[
 qm 0 33 0,
 qm 1 4 33]
def r6:List Ent:=[
 qe 0 34 (.bsl false 1 []),
 qm 1 35 0,
 qm 2 36 5,
 qe 3 37 (.slc 1 (.t 35) (none) (some (.t 36))),
 qe 4 38 (.app 1 8 (.t 34) (.t 37)),
 qm 5 6 38]
def r7:List Ent:=[
 qm 0 39 6,
 qm 1 40 1,
 qe 2 41 (.bsl true 1 [.t 40]),
 qe 3 42 (.app 1 8 (.t 39) (.t 41)),
 qm 4 6 42]
def r8:List Ent:=[
 qm 0 43 6,
 qm 1 44 0,
 qm 2 45 5,
 qe 3 46 (.slc 1 (.t 44) (some (.t 45)) (none)),
 qe 4 47 (.app 1 8 (.t 43) (.t 46)),
 qm 5 4 47]
def fi:FI:={ res:=[.t 4],code:=.seq (.reg 64 1 r0) (.seq (.reg 128 1 r1) (.seq (.block 0 (.loop b0)) (.seq (.seq (.reg 1152 12 r4) (.cond (.t 32) (.seq (.reg 1920 2 r5) (.ret)) (.skip))) (.seq (.reg 2048 6 r6) (.seq (.reg 2432 5 r7) (.seq (.reg 2752 6 r8) (.ret))))))) }
attribute [go_sem] r0 r1 r2 r3 r4 r5 r6 r7 r8
theorem ok:chkF prog F_spec_l1Put 2 fi=true:=by kernel_rfl
end spec_l1Put_co
end Go.Vm.Ytdebllkmblakkaa
