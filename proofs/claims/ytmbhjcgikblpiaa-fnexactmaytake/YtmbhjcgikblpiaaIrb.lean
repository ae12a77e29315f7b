/- The functions that the law reaches, in the text of the interpreter, and that this text fits them: part 2 (no condition). -/
import Derived.Test.YtmbhjcgikblpiaaIra
import Derived.Test.YtmbhjcgikblpiaaProg
import Derived.KernelRfl
namespace Go.Vm.Ytmbhjcgikblpiaa
open Go Go.Vm
set_option linter.unusedVariables false
set_option maxRecDepth 100000
namespace impl_heedJump
def r0:List Ent:=[
 qe 0 3 (.box (.t 0)),
 qe 1 4 (.box (.t 1)),
 qe 2 6 (.box (.k (.agg [.nil 2,.nil 2,.nil 2,.nil 1]))),
 qe 3 7 (.mv xF)]
def r1:List Ent:=[
 qe 0 19 (qA 4 4),
 qc 1 20 (qV F_impl_May_own 19),
 qe 2 8 (.box (.k (.agg [.nil 2,.nil 2,.nil 2,.nil 1]))),
 qs 3 (qW 4 8 20)]
def r2:List Ent:=[
  EX 0 (some 21) none (.i (qD 0 4)) 2 [12,13] [] false,
  EX 1 (some 22) none (.i (qL 1 21)) 2 [12,13] [] false,
  EX 2 (some 23) none (.i (qD 2 3)) 2 [12,13] [] false,
  EX 3 (some 24) none (.i (qL 1 23)) 2 [12,13] [] false,
  EX 4 (some 25) none (.i (qI 2 22 24)) 2 [12,13] [] false,
  EX 5 (some 26) none (.i (qA 2 25)) 2 [12,13] [] false,
  EX 12 (some 9) none (.i (.box (.k (.agg [.dat none (.int .i64 0),.dat none (.int .i64 0)])))) 1 [13] [] false,
  EX 13 (some 10) none (.i (.box (.k (.agg [.dat none (.int .i64 0),.dat none (.int .i64 0)])))) 1 [12] [] false,
  EP 14 none none (.i (qW 2 9 26)) 0 true,
  EX 6 (some 27) none (.i (qD 0 4)) 2 [12,13] [14] false,
  EX 7 (some 28) none (.i (qL 1 27)) 2 [12,13] [14] false,
  EX 8 (some 29) none (.i (qD 3 3)) 2 [12,13] [14] false,
  EX 9 (some 30) none (.i (qL 1 29)) 2 [12,13] [14] false,
  EX 10 (some 31) none (.i (qI 2 28 30)) 2 [12,13] [14] false,
  EX 11 (some 32) none (.i (qA 2 31)) 2 [12,13] [14] false,
 qs 15 (qW 2 10 32)]
def r3:List Ent:=[
 qe 0 11 (.mv xT)]
def r4:List Ent:=[
 qe 0 34 (qD 0 3),
 qe 1 35 (qL 1 34),
 qe 2 36 (qK .eql 35 9),
 qm 3 37 36,
 qt 4 38 37 (qM 2),
 qe 5 39 (.pick (.t 37) (.t 38) xF),
 qm 6 33 39]
def r5:List Ent:=[
 qe 0 41 (qA 2 9),
 qe 1 42 (qA 2 10),
 qc 2 43 (qC F_impl_meetStretch [.t 41,.t 42]),
 qm 3 40 43,
 qe 4 44 (qX 0 40),
 qe 5 45 (qX 1 40),
 qe 6 12 (.box (.k (.agg [.dat none (.int .i64 0),.dat none (.int .i64 0)]))),
 qs 7 (qW 2 12 44),
 qm 8 13 45]
def r6:List Ent:=[
  EX 0 (some 47) none (.i (qD 1 4)) 2 [16] [] false,
  EX 1 (some 48) none (.i (qL 1 47)) 2 [16] [] false,
  EX 2 (some 49) none (.i (qD 2 3)) 2 [16] [] false,
  EX 3 (some 50) none (.i (qL 1 49)) 2 [16] [] false,
  EX 4 (some 51) none (.i (qI 2 48 50)) 2 [16] [] false,
  EX 5 (some 52) none (.i (qA 2 51)) 2 [16] [] false,
  EX 6 (some 53) none (.i (qD 1 4)) 2 [16] [] false,
  EX 7 (some 54) none (.i (qL 1 53)) 2 [16] [] false,
  EX 8 (some 55) none (.i (qD 3 3)) 2 [16] [] false,
  EX 9 (some 56) none (.i (qL 1 55)) 2 [16] [] false,
  EX 10 (some 57) none (.i (qI 2 54 56)) 2 [16] [] false,
  EX 11 (some 58) none (.i (qA 2 57)) 2 [16] [] false,
  EX 12 (some 59) none (.call F_impl_meetKnown false (roA [.t 52,.t 58])) 2 [16] [] false,
 qm 13 46 59,
  EX 14 (some 60) none (.i (qX 0 46)) 2 [16] [] false,
  EP 16 (some 14) none (.i (.box (.k (.agg [.dat none (.int .i64 0),.dat none (.int .i64 0)])))) 1 false,
  EP 17 none none (.i (qW 2 14 60)) 0 true,
  EX 15 (some 61) none (.i (qX 1 46)) 2 [16] [17] false,
 qm 18 15 61]
def r7:List Ent:=[
 qm 0 62 13,
 qm 1 63 62,
 qt 2 64 63 (qM 15),
 qe 3 65 (.pick (.t 63) (.t 64) xF),
 qm 4 11 65]
def r8:List Ent:=[
  ER 0 (some 66) none (.fad 0 (.t 8)),
  ER 1 (some 67) none (.load false false 1 (.t 66)),
  ER 2 (some 68) none (.fad 2 (.t 3)),
  ER 3 (some 69) none (.load false false 1 (.t 68)),
  ER 8 (some 74) none (.load false true 2 (.t 12)),
  ER 10 (some 76) none (.iad 2 (.t 67) (.t 69)),
  EP 11 none none (.i (qW 2 76 74)) 0 true,
  EX 4 (some 70) none (.i (qD 0 8)) 2 [] [11] false,
  EX 5 (some 71) none (.i (qL 1 70)) 2 [] [11] false,
  EX 6 (some 72) none (.i (qD 3 3)) 2 [] [11] false,
  EX 7 (some 73) none (.i (qL 1 72)) 2 [] [11] false,
  EX 9 (some 75) none (.i (qA 2 12)) 2 [] [11] false,
 qe 12 77 (qI 2 71 73),
 qs 13 (qW 2 77 75)]
def r9:List Ent:=[
  ER 0 (some 78) none (.fad 1 (.t 8)),
  ER 1 (some 79) none (.load false false 1 (.t 78)),
  ER 2 (some 80) none (.fad 2 (.t 3)),
  ER 3 (some 81) none (.load false false 1 (.t 80)),
  ER 8 (some 86) none (.load false true 2 (.t 14)),
  ER 10 (some 88) none (.iad 2 (.t 79) (.t 81)),
  EP 11 none none (.i (qW 2 88 86)) 0 true,
  EX 4 (some 82) none (.i (qD 1 8)) 2 [] [11] false,
  EX 5 (some 83) none (.i (qL 1 82)) 2 [] [11] false,
  EX 6 (some 84) none (.i (qD 3 3)) 2 [] [11] false,
  EX 7 (some 85) none (.i (qL 1 84)) 2 [] [11] false,
  EX 9 (some 87) none (.i (qA 2 14)) 2 [] [11] false,
 qe 12 89 (qI 2 83 85),
 qs 13 (qW 2 89 87)]
def r10:List Ent:=[
 qe 0 91 (qD 0 3),
 qe 1 92 (qL 1 91),
 qe 2 93 (qK .eql 92 10),
 qm 3 94 93,
 qt 4 95 94 (qM 2),
 qe 5 96 (.pick (.t 94) (.t 95) xF),
 qm 6 90 96]
def r11:List Ent:=[
 qe 0 98 (qA 2 9),
 qe 1 99 (qA 2 10),
 qc 2 100 (qC F_impl_splitLess [.t 98,.t 99]),
 qm 3 97 100,
 qe 4 101 (qX 0 97),
 qe 5 102 (qX 1 97),
 qe 6 103 (qX 2 97),
 qe 7 16 (.box (.k (.agg [.dat none (.int .i64 0),.dat none (.int .i64 0)]))),
 qe 8 17 (.box (.k (.agg [.dat none (.int .i64 0),.dat none (.int .i64 0)]))),
 qs 9 (qW 2 16 101),
 qs 10 (qW 2 17 102),
 qm 11 18 103]
def r12:List Ent:=[
 qm 0 104 18,
 qm 1 105 104,
 qt 2 106 105 (qD 2 3),
 qt 3 107 105 (qL 1 106),
 qt 4 108 105 (qD 3 3),
 qt 5 109 105 (qL 1 108),
 qt 6 110 105 (qB .neq 107 109),
 qe 7 111 (.pick (.t 105) (.t 110) xF),
 qm 8 11 111]
def r13:List Ent:=[
  ER 0 (some 112) none (.fad 0 (.t 8)),
  ER 1 (some 113) none (.load false false 1 (.t 112)),
  ER 2 (some 114) none (.fad 2 (.t 3)),
  ER 3 (some 115) none (.load false false 1 (.t 114)),
  ER 8 (some 120) none (.load false true 2 (.t 16)),
  ER 10 (some 122) none (.iad 2 (.t 113) (.t 115)),
  EP 11 none none (.i (qW 2 122 120)) 0 true,
  EX 4 (some 116) none (.i (qD 0 8)) 2 [] [11] false,
  EX 5 (some 117) none (.i (qL 1 116)) 2 [] [11] false,
  EX 6 (some 118) none (.i (qD 3 3)) 2 [] [11] false,
  EX 7 (some 119) none (.i (qL 1 118)) 2 [] [11] false,
  EX 9 (some 121) none (.i (qA 2 17)) 2 [] [11] false,
 qe 12 123 (qI 2 117 119),
 qs 13 (qW 2 123 121)]
def r14:List Ent:=[
 qe 0 125 (qD 0 3),
 qe 1 126 (qL 1 125),
 qe 2 127 (qK .eql 126 10),
 qm 3 128 127,
 qt 4 129 128 (qD 2 3),
 qt 5 130 128 (qL 1 129),
 qt 6 131 128 (qD 3 3),
 qt 7 132 128 (qL 1 131),
 qt 8 133 128 (qB .neq 130 132),
 qe 9 134 (.pick (.t 128) (.t 133) xF),
 qm 10 124 134]
def r15:List Ent:=[
 qe 0 135 (qD 1 9),
 qe 1 136 (qL 1 135),
 qe 2 137 (qD 0 10),
 qe 3 138 (qL 1 137),
 qe 4 139 (qB .geq 136 138),
 qm 5 11 139]
def r16:List Ent:=[
 qe 0 140 (qD 0 8),
 qe 1 141 (qL 1 140),
 qe 2 142 (qD 2 3),
 qe 3 143 (qL 1 142),
 qe 4 144 (qD 0 9),
 qe 5 145 (qL 1 144),
 qe 6 146 (qD 0 10),
 qe 7 147 (qL 1 146),
 qe 8 148 (.mnx true (.t 145) (.t 147)),
 qe 9 149 (qD 1 9),
 qe 10 150 (qL 1 149),
 qe 11 151 (.bld [.t 148,.t 150]),
 qe 12 152 (qI 2 141 143),
 qs 13 (qW 2 152 151)]
def r17:List Ent:=[
 qe 0 153 (qD 0 8),
 qe 1 154 (qL 1 153),
 qe 2 155 (qD 3 3),
 qe 3 156 (qL 1 155),
 qe 4 157 (qD 0 10),
 qe 5 158 (qL 1 157),
 qe 6 159 (qD 1 10),
 qe 7 160 (qL 1 159),
 qe 8 161 (qD 1 9),
 qe 9 162 (qL 1 161),
 qe 10 163 (.mnx false (.t 160) (.t 162)),
 qe 11 164 (.bld [.t 158,.t 163]),
 qe 12 165 (qI 2 154 156),
 qs 13 (qW 2 165 164)]
def r18:List Ent:=[
 qm 0 166 11,
 qe 1 167 (qN 166)]
def r19:List Ent:=[
 qe 0 168 (.bld [.k (.nil 2),.k (.nil 2),.k (.nil 2),.k (.nil 1)]),
 qs 1 (qW 4 6 168),
 qe 2 7 (.mv xF)]
def r20:List Ent:=[
 qe 0 169 (qA 4 8),
 qs 1 (qW 4 6 169),
 qe 2 7 (.mv xT)]
def fi:FI:={ res:=[.c 6 true 4,.t 7],code:=.seq (.reg 64 4 r0) (.seq (.reg 320 4 r1) (.seq (.reg 576 16 r2) (.seq (.reg 1600 1 r3) (.seq (.block 0 (.seq (.reg 1664 7 r4) (.cond (.t 33) (.seq (.reg 2112 9 r5) (.seq (.reg 2688 19 r6) (.seq (.reg 3904 5 r7) (.seq (.reg 4224 14 r8) (.reg 5120 14 r9))))) (.seq (.reg 6016 7 r10) (.cond (.t 90) (.seq (.reg 6464 12 r11) (.seq (.reg 7232 9 r12) (.reg 7808 14 r13))) (.seq (.reg 8704 11 r14) (.cond (.t 124) (.seq (.reg 9408 6 r15) (.seq (.reg 9792 14 r16) (.reg 10688 14 r17))) (.skip)))))))) (.seq (.seq (.reg 11584 2 r18) (.cond (.t 167) (.seq (.reg 11712 3 r19) (.ret)) (.skip))) (.seq (.reg 11904 3 r20) (.ret))))))) }
attribute [go_sem] r0 r1 r2 r3 r4 r5 r6 r7 r8 r9 r10 r11 r12 r13 r14 r15 r16 r17 r18 r19 r20
theorem ok:chkF prog F_impl_heedJump 3 fi=true:=by kernel_rfl
end impl_heedJump
namespace impl_MayTake
def r0:List Ent:=[
 qe 0 3 (.box (.t 1)),
 qe 1 4 (.mv xF),
 qe 2 5 (.mv xF)]
def r1:List Ent:=[
 qm 0 14 0,
 qe 1 15 (qA 2 3),
 qc 2 16 (qC F_impl_GoodWay [.t 14,.t 15]),
 qe 3 17 (qN 16)]
def r2:List Ent:=[
 qe 0 4 (.mv xF),
 qe 1 5 (.mv xF)]
def r3:List Ent:=[
  EX 0 (some 18) none (.call F_impl_StartMay false (roA [])) 1 [3] [] false,
  EX 3 (some 6) none (.i (.box (.k (.agg [.nil 2,.nil 2,.nil 2,.nil 1])))) 1 [0] [] false,
  EP 4 none none (.i (qW 4 6 18)) 0 true,
  EX 1 (some 19) none (.i (qD 1 3)) 2 [0,3] [4] false,
  EX 2 (some 20) none (.i (qL 1 19)) 2 [0,3] [4] false,
 qm 5 7 20]
def r4:List Ent:=[
 qe 0 21 (qD 0 3),
 qe 1 22 (qL 1 21),
 qe 2 23 (qZ 22),
 qe 3 24 (.mv (xN 0))]
def r5:List Ent:=[
 qe 0 25 (qB .lss 24 23)]
def r6:List Ent:=[
 qe 0 26 (qI 1 22 24),
 qe 1 27 (qL 1 26),
 qm 2 9 27]
def r7:List Ent:=[
 qm 0 29 0,
 qm 1 30 9,
  EX 2 (some 31) none (.i (qI 6 29 30)) 2 [9] [] false,
  EX 3 (some 32) none (.i (qA 6 31)) 2 [9] [] false,
  EX 4 (some 33) none (.i (qA 4 6)) 2 [9] [] false,
  EX 5 (some 34) none (.call F_impl_stepMay false (roA [.t 32,.t 33])) 1 [9] [] false,
 qm 6 28 34,
  EX 7 (some 35) none (.i (qX 0 28)) 2 [9] [] false,
  EX 9 (some 10) none (.i (.box (.k (.agg [.nil 2,.nil 2,.nil 2,.nil 1])))) 1 [5] [] false,
  EP 10 none none (.i (qW 4 10 35)) 0 true,
  EX 8 (some 36) none (.i (qX 1 28)) 2 [9] [10] false,
 qm 11 11 36]
def r8:List Ent:=[
 qm 0 37 11,
 qe 1 38 (qK .neq 37 0)]
def r9:List Ent:=[
 qe 0 4 (.mv xF),
 qe 1 5 (.mv xT)]
def r10:List Ent:=[
 qe 0 39 (qA 4 10),
 qs 1 (qW 4 6 39)]
def r11:List Ent:=[
 qm 0 40 0,
 qm 1 41 9,
 qe 2 42 (qI 6 40 41),
 qe 3 43 (qA 6 42),
 qc 4 44 (qV F_impl_Step_branches 43)]
def r12:List Ent:=[
 qm 0 46 0,
 qm 1 47 9,
  EX 2 (some 48) none (.i (qI 6 46 47)) 2 [12] [] false,
  EX 3 (some 49) none (.i (qA 6 48)) 2 [12] [] false,
  EX 4 (some 50) none (.i (qA 4 6)) 2 [12] [] false,
 qm 5 51 7,
  EX 6 (some 52) none (.i (.iad 1 (.t 51) (xN 0))) 2 [12] [] false,
  EX 7 (some 53) none (.i (qL 1 52)) 2 [12] [] false,
  EX 8 (some 54) none (.call F_impl_heedJump false (roA [.t 49,.t 50,.t 53])) 1 [12] [] false,
 qm 9 45 54,
  EX 10 (some 55) none (.i (qX 0 45)) 2 [12] [] false,
  EX 12 (some 12) none (.i (.box (.k (.agg [.nil 2,.nil 2,.nil 2,.nil 1])))) 1 [8] [] false,
  EP 13 none none (.i (qW 4 12 55)) 0 true,
  EX 11 (some 56) none (.i (qX 1 45)) 2 [12] [13] false,
 qm 14 13 56]
def r13:List Ent:=[
 qm 0 57 13,
 qe 1 58 (qN 57)]
def r14:List Ent:=[
 qe 0 4 (.mv xF),
 qe 1 5 (.mv xT)]
def r15:List Ent:=[
  ER 0 (some 59) none (.load false true 4 (.t 12)),
 qm 1 60 7,
  EP 3 none none (.i (qW 4 6 59)) 0 true,
  EX 2 (some 61) none (.i (.slc 1 (.t 60) (some (xN 1)) (none))) 2 [] [3] false,
 qm 4 7 61]
def r16:List Ent:=[
 qe 0 62 (qK .add 24 1),
 qm 1 24 62]
def b0:KC:=.seq (.reg 1280 1 r5) (.seq (.cond (.t 25) (.skip) (.exit 0)) (.seq (.block 1 (.seq (.reg 1344 3 r6) (.seq (.reg 1536 12 r7) (.seq (.seq (.reg 2304 2 r8) (.cond (.t 38) (.seq (.reg 2432 2 r9) (.ret)) (.skip))) (.seq (.reg 2560 2 r10) (.seq (.reg 2688 5 r11) (.cond (.t 44) (.seq (.reg 3008 15 r12) (.seq (.seq (.reg 3968 2 r13) (.cond (.t 58) (.seq (.reg 4096 2 r14) (.ret)) (.skip))) (.reg 4224 5 r15))) (.skip)))))))) (.reg 4544 2 r16)))
def r17:List Ent:=[
 qe 0 4 (.mv xT),
 qe 1 5 (.mv xT)]
def fi:FI:={ res:=[.t 4,.t 5],code:=.seq (.reg 64 3 r0) (.seq (.seq (.reg 256 4 r1) (.cond (.t 17) (.seq (.reg 512 2 r2) (.ret)) (.skip))) (.seq (.reg 640 6 r3) (.seq (.seq (.reg 1024 4 r4) (.block 0 (.loop b0))) (.seq (.reg 4672 2 r17) (.ret))))) }
attribute [go_sem] r0 r1 r2 r3 r4 r5 r6 r7 r8 r9 r10 r11 r12 r13 r14 r15 r16 r17
theorem ok:chkF prog F_impl_MayTake 2 fi=true:=by kernel_rfl
end impl_MayTake
namespace laws_eqStep
def r0:List Ent:=[
 qe 0 2 (.box (.t 0)),
 qe 1 3 (.box (.t 1)),
 qe 2 4 (.mv xF)]
def r1:List Ent:=[
 qe 0 5 (qD 0 2),
 qe 1 6 (qL 1 5),
 qe 2 7 (qD 0 3),
 qe 3 8 (qL 1 7),
 qe 4 9 (qB .neq 6 8)]
def r2:List Ent:=[
 qe 0 4 (.mv xF)]
def r3:List Ent:=[
 qe 0 10 (qD 1 2),
 qe 1 11 (qL 1 10),
 qe 2 12 (qD 1 3),
 qe 3 13 (qL 1 12),
 qe 4 14 (qB .neq 11 13)]
def r4:List Ent:=[
 qe 0 4 (.mv xF)]
def r5:List Ent:=[
 qe 0 15 (qD 2 2),
 qe 1 16 (qL 1 15),
 qe 2 17 (qD 2 3),
 qe 3 18 (qL 1 17),
 qe 4 19 (qB .neq 16 18)]
def r6:List Ent:=[
 qe 0 4 (.mv xF)]
def r7:List Ent:=[
 qe 0 20 (qD 3 2),
 qe 1 21 (qL 1 20),
 qe 2 22 (qD 3 3),
 qe 3 23 (qL 1 22),
 qe 4 24 (qB .neq 21 23)]
def r8:List Ent:=[
 qe 0 4 (.mv xF)]
def r9:List Ent:=[
 qe 0 25 (qD 4 2),
 qe 1 26 (qL 1 25),
 qe 2 27 (qD 4 3),
 qe 3 28 (qL 1 27),
 qe 4 29 (qB .neq 26 28)]
def r10:List Ent:=[
 qe 0 4 (.mv xF)]
def r11:List Ent:=[
 qe 0 30 (qD 5 2),
 qe 1 31 (qL 1 30),
 qe 2 32 (qD 5 3),
 qe 3 33 (qL 1 32),
 qe 4 34 (qB .neq 31 33)]
def r12:List Ent:=[
 qe 0 4 (.mv xF)]
def r13:List Ent:=[
 qe 0 4 (.mv xT)]
def fi:FI:={ res:=[.t 4],code:=.seq (.reg 64 3 r0) (.seq (.seq (.reg 256 5 r1) (.cond (.t 9) (.seq (.reg 576 1 r2) (.ret)) (.skip))) (.seq (.seq (.reg 640 5 r3) (.cond (.t 14) (.seq (.reg 960 1 r4) (.ret)) (.skip))) (.seq (.seq (.reg 1024 5 r5) (.cond (.t 19) (.seq (.reg 1344 1 r6) (.ret)) (.skip))) (.seq (.seq (.reg 1408 5 r7) (.cond (.t 24) (.seq (.reg 1728 1 r8) (.ret)) (.skip))) (.seq (.seq (.reg 1792 5 r9) (.cond (.t 29) (.seq (.reg 2112 1 r10) (.ret)) (.skip))) (.seq (.seq (.reg 2176 5 r11) (.cond (.t 34) (.seq (.reg 2496 1 r12) (.ret)) (.skip))) (.seq (.reg 2560 1 r13) (.ret)))))))) }
attribute [go_sem] r0 r1 r2 r3 r4 r5 r6 r7 r8 r9 r10 r11 r12 r13
theorem ok:chkF prog F_laws_eqStep 2 fi=true:=by kernel_rfl
end laws_eqStep
namespace laws_eqStepS
def r0:List Ent:=[
 qe 0 4 (.mv xF)]
def r1:List Ent:=[
 qm 0 6 0,
 qe 1 7 (qZ 6),
 qm 2 8 1,
 qe 3 9 (qZ 8),
 qe 4 10 (qB .neq 7 9)]
def r2:List Ent:=[
 qe 0 4 (.mv xF)]
def r3:List Ent:=[
 qe 0 5 (.mv (xN 0))]
def r4:List Ent:=[
 qm 0 11 5,
 qm 1 12 0,
 qe 2 13 (qZ 12),
 qe 3 14 (qB .lss 11 13)]
def r5:List Ent:=[
 qm 0 17 0,
 qm 1 18 5,
  ER 2 (some 19) none (.iad 6 (.t 17) (.t 18)),
  ER 3 (some 20) none (.load false true 6 (.t 19)),
 qm 4 21 1,
 qm 5 22 5,
  ER 6 (some 23) none (.iad 6 (.t 21) (.t 22)),
  ER 7 (some 24) none (.load false true 6 (.t 23)),
 qc 8 25 (qC F_laws_eqStep [.t 20,.t 24]),
 qe 9 26 (qN 25)]
def r6:List Ent:=[
 qe 0 4 (.mv xF)]
def r7:List Ent:=[
 qm 0 15 5,
 qe 1 16 (qK .add 15 1),
 qm 2 5 16]
def b0:KC:=.seq (.seq (.reg 576 4 r4) (.cond (.t 14) (.skip) (.exit 0))) (.seq (.block 1 (.seq (.reg 832 10 r5) (.cond (.t 26) (.seq (.reg 1472 1 r6) (.ret)) (.skip)))) (.reg 1536 3 r7))
def r8:List Ent:=[
 qe 0 4 (.mv xT)]
def fi:FI:={ res:=[.t 4],code:=.seq (.reg 64 1 r0) (.seq (.seq (.reg 128 5 r1) (.cond (.t 10) (.seq (.reg 448 1 r2) (.ret)) (.skip))) (.seq (.seq (.reg 512 1 r3) (.block 0 (.loop b0))) (.seq (.reg 1728 1 r8) (.ret)))) }
attribute [go_sem] r0 r1 r2 r3 r4 r5 r6 r7 r8
theorem ok:chkF prog F_laws_eqStepS 2 fi=true:=by kernel_rfl
end laws_eqStepS
namespace laws_eqIntS
def r0:List Ent:=[
 qe 0 4 (.mv xF)]
def r1:List Ent:=[
 qm 0 6 0,
 qe 1 7 (qZ 6),
 qm 2 8 1,
 qe 3 9 (qZ 8),
 qe 4 10 (qB .neq 7 9)]
def r2:List Ent:=[
 qe 0 4 (.mv xF)]
def r3:List Ent:=[
 qe 0 5 (.mv (xN 0))]
def r4:List Ent:=[
 qm 0 11 5,
 qm 1 12 0,
 qe 2 13 (qZ 12),
 qe 3 14 (qB .lss 11 13)]
def r5:List Ent:=[
 qm 0 17 0,
 qm 1 18 5,
  ER 2 (some 19) none (.iad 1 (.t 17) (.t 18)),
  ER 3 (some 20) none (.load false false 1 (.t 19)),
 qm 4 21 1,
 qm 5 22 5,
  ER 6 (some 23) none (.iad 1 (.t 21) (.t 22)),
  ER 7 (some 24) none (.load false false 1 (.t 23)),
 qe 8 25 (qB .neq 20 24)]
def r6:List Ent:=[
 qe 0 4 (.mv xF)]
def r7:List Ent:=[
 qm 0 15 5,
 qe 1 16 (qK .add 15 1),
 qm 2 5 16]
def b0:KC:=.seq (.seq (.reg 576 4 r4) (.cond (.t 14) (.skip) (.exit 0))) (.seq (.block 1 (.seq (.reg 832 9 r5) (.cond (.t 25) (.seq (.reg 1408 1 r6) (.ret)) (.skip)))) (.reg 1472 3 r7))
def r8:List Ent:=[
 qe 0 4 (.mv xT)]
def fi:FI:={ res:=[.t 4],code:=.seq (.reg 64 1 r0) (.seq (.seq (.reg 128 5 r1) (.cond (.t 10) (.seq (.reg 448 1 r2) (.ret)) (.skip))) (.seq (.seq (.reg 512 1 r3) (.block 0 (.loop b0))) (.seq (.reg 1664 1 r8) (.ret)))) }
attribute [go_sem] r0 r1 r2 r3 r4 r5 r6 r7 r8
theorem ok:chkF prog F_laws_eqIntS 2 fi=true:=by kernel_rfl
end laws_eqIntS
namespace laws_eqBoolS
def r0:List Ent:=[
 qe 0 4 (.mv xF)]
def r1:List Ent:=[
 qm 0 6 0,
 qe 1 7 (qZ 6),
 qm 2 8 1,
 qe 3 9 (qZ 8),
 qe 4 10 (qB .neq 7 9)]
def r2:List Ent:=[
 qe 0 4 (.mv xF)]
def r3:List Ent:=[
 qe 0 5 (.mv (xN 0))]
def r4:List Ent:=[
 qm 0 11 5,
 qm 1 12 0,
 qe 2 13 (qZ 12),
 qe 3 14 (qB .lss 11 13)]
def r5:List Ent:=[
 qm 0 17 0,
 qm 1 18 5,
  ER 2 (some 19) none (.iad 1 (.t 17) (.t 18)),
  ER 3 (some 20) none (.load false false 1 (.t 19)),
 qm 4 21 1,
 qm 5 22 5,
  ER 6 (some 23) none (.iad 1 (.t 21) (.t 22)),
  ER 7 (some 24) none (.load false false 1 (.t 23)),
 qe 8 25 (.eqb true (.t 20) (.t 24))]
def r6:List Ent:=[
 qe 0 4 (.mv xF)]
def r7:List Ent:=[
 qm 0 15 5,
 qe 1 16 (qK .add 15 1),
 qm 2 5 16]
def b0:KC:=.seq (.seq (.reg 576 4 r4) (.cond (.t 14) (.skip) (.exit 0))) (.seq (.block 1 (.seq (.reg 832 9 r5) (.cond (.t 25) (.seq (.reg 1408 1 r6) (.ret)) (.skip)))) (.reg 1472 3 r7))
def r8:List Ent:=[
 qe 0 4 (.mv xT)]
def fi:FI:={ res:=[.t 4],code:=.seq (.reg 64 1 r0) (.seq (.seq (.reg 128 5 r1) (.cond (.t 10) (.seq (.reg 448 1 r2) (.ret)) (.skip))) (.seq (.seq (.reg 512 1 r3) (.block 0 (.loop b0))) (.seq (.reg 1664 1 r8) (.ret)))) }
attribute [go_sem] r0 r1 r2 r3 r4 r5 r6 r7 r8
theorem ok:chkF prog F_laws_eqBoolS 2 fi=true:=by kernel_rfl
end laws_eqBoolS
namespace laws_eqWay
def r0:List Ent:=[
 qe 0 2 (.box (.t 0)),
 qe 1 3 (.box (.t 1)),
 qe 2 4 (.mv xF)]
def r1:List Ent:=[
 qe 0 5 (qD 0 2),
 qe 1 6 (qL 1 5),
 qe 2 7 (qD 0 3),
 qe 3 8 (qL 1 7),
 qc 4 9 (qC F_laws_eqIntS [.t 6,.t 8]),
 qe 5 10 (qN 9)]
def r2:List Ent:=[
 qe 0 4 (.mv xF)]
def r3:List Ent:=[
 qe 0 11 (qD 1 2),
 qe 1 12 (qL 1 11),
 qe 2 13 (qD 1 3),
 qe 3 14 (qL 1 13),
 qc 4 15 (qC F_laws_eqBoolS [.t 12,.t 14]),
 qe 5 16 (qN 15)]
def r4:List Ent:=[
 qe 0 4 (.mv xF)]
def r5:List Ent:=[
 qe 0 4 (.mv xT)]
def fi:FI:={ res:=[.t 4],code:=.seq (.reg 64 3 r0) (.seq (.seq (.reg 256 6 r1) (.cond (.t 10) (.seq (.reg 640 1 r2) (.ret)) (.skip))) (.seq (.seq (.reg 704 6 r3) (.cond (.t 16) (.seq (.reg 1088 1 r4) (.ret)) (.skip))) (.seq (.reg 1152 1 r5) (.ret)))) }
attribute [go_sem] r0 r1 r2 r3 r4 r5
theorem ok:chkF prog F_laws_eqWay 2 fi=true:=by kernel_rfl
end laws_eqWay
namespace laws_FnExactMayTake
def r0:List Ent:=[
 qe 0 3 (.box (.t 1)),
 qe 1 4 (.mv xF)]
def r1:List Ent:=[
 qe 0 5 (.mv (xN 1048576))]
def r2:List Ent:=[
 qm 0 12 0,
 qm 1 13 5,
 qc 2 14 (qC F_laws_szStepS [.t 12,.t 13]),
 qm 3 5 14]
def r3:List Ent:=[
 qm 0 15 5,
 qe 1 16 (qK .lss 15 0)]
def r4:List Ent:=[
 qe 0 4 (.mv xT)]
def r5:List Ent:=[
 qe 0 17 (qA 2 3),
 qm 1 18 5,
 qc 2 19 (qC F_laws_szWay [.t 17,.t 18]),
 qm 3 5 19]
def r6:List Ent:=[
 qm 0 20 5,
 qe 1 21 (qK .lss 20 0)]
def r7:List Ent:=[
 qe 0 4 (.mv xT)]
def r8:List Ent:=[
 qm 0 23 0,
  EP 1 (some 24) none (.call F_laws_toStepS false (roA [.t 23])) 1 false,
  EX 2 (some 25) none (.i (qA 2 3)) 2 [1] [] false,
 qc 3 26 (qV F_laws_toWay 25),
 qc 4 27 (qC F_spec_MayTake [.t 24,.t 26]),
 qm 5 22 27,
  ER 6 (some 28) none (.ext 0 (.t 22)),
  ER 7 (some 29) none (.ext 1 (.t 22)),
 qm 8 6 28,
 qm 9 7 29]
def r9:List Ent:=[
 qm 0 30 0,
 qc 1 31 (qV F_laws_toStepS 30),
 qm 2 8 31]
def r10:List Ent:=[
 qe 0 32 (qA 2 3),
 qc 1 33 (qV F_laws_toWay 32),
 qe 2 9 (.box (.k (.agg [.nil 1,.nil 1]))),
 qs 3 (qW 2 9 33)]
def r11:List Ent:=[
 qm 0 35 8,
 qe 1 36 (qA 2 9),
 qc 2 37 (qC F_impl_MayTake [.t 35,.t 36]),
 qm 3 34 37,
 qe 4 38 (qX 0 34),
 qe 5 39 (qX 1 34),
 qm 6 10 38,
 qm 7 11 39]
def r12:List Ent:=[
 qm 0 40 10,
 qm 1 41 6,
 qe 2 42 (.eqb true (.t 40) (.t 41)),
 qm 3 43 42,
 qf 4 44 43 (qM 11),
 qf 5 45 43 (qM 7),
 qf 6 46 43 (.eqb true (.t 44) (.t 45)),
 qe 7 47 (.pick (.t 43) xT (.t 46))]
def r13:List Ent:=[
 qe 0 4 (.mv xF)]
def r14:List Ent:=[
 qm 0 48 8,
 qm 1 49 0,
 qc 2 50 (qV F_laws_toStepS 49),
 qc 3 51 (qC F_laws_eqStepS [.t 48,.t 50]),
 qe 4 52 (qN 51)]
def r15:List Ent:=[
 qe 0 4 (.mv xF)]
def r16:List Ent:=[
  EX 0 (some 53) none (.i (qA 2 9)) 2 [2] [] false,
  ER 1 (some 54) none (.load false true 2 (.t 3)),
  EP 2 (some 55) none (.call F_laws_toWay false (roA [.t 54])) 1 false,
 qc 3 56 (qC F_laws_eqWay [.t 53,.t 55]),
 qe 4 57 (qN 56)]
def r17:List Ent:=[
 qe 0 4 (.mv xF)]
def r18:List Ent:=[
 qe 0 4 (.mv xT)]
def fi:FI:={ res:=[.t 4],code:=.seq (.reg 64 2 r0) (.seq (.reg 192 1 r1) (.seq (.reg 256 4 r2) (.seq (.seq (.reg 512 2 r3) (.cond (.t 16) (.seq (.reg 640 1 r4) (.ret)) (.skip))) (.seq (.reg 704 4 r5) (.seq (.seq (.reg 960 2 r6) (.cond (.t 21) (.seq (.reg 1088 1 r7) (.ret)) (.skip))) (.seq (.reg 1152 10 r8) (.seq (.reg 1792 3 r9) (.seq (.reg 1984 4 r10) (.seq (.reg 2240 8 r11) (.seq (.seq (.reg 2752 8 r12) (.cond (.t 47) (.seq (.reg 3264 1 r13) (.ret)) (.skip))) (.seq (.seq (.reg 3328 5 r14) (.cond (.t 52) (.seq (.reg 3648 1 r15) (.ret)) (.skip))) (.seq (.seq (.reg 3712 5 r16) (.cond (.t 57) (.seq (.reg 4032 1 r17) (.ret)) (.skip))) (.seq (.reg 4096 1 r18) (.ret)))))))))))))) }
attribute [go_sem] r0 r1 r2 r3 r4 r5 r6 r7 r8 r9 r10 r11 r12 r13 r14 r15 r16 r17 r18
theorem ok:chkF prog F_laws_FnExactMayTake 2 fi=true:=by kernel_rfl
end laws_FnExactMayTake
end Go.Vm.Ytmbhjcgikblpiaa
