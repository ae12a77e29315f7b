/- The functions that the law reaches, in the text of the interpreter, and that this text fits them: part 2 (no condition). -/
import Derived.Test.YtmbhjcgikblpiaaGreatIra
import Derived.Test.YtmbhjcgikblpiaaGreatProg
import Derived.KernelRfl
namespace Go.Vm.YtmbhjcgikblpiaaGreat
open Go Go.Vm
set_option linter.unusedVariables false
set_option maxRecDepth 100000
namespace impl_pMachine_step
def r0:List Ent:=[
 qe 0 6 (.mv (xN 0)),
 qe 1 7 (.mv xF)]
def r1:List Ent:=[
 qm 0 12 1,
 qm 1 13 0,
 qe 2 14 (.nck (.t 13)),
 qe 3 15 (qD 0 14),
 qe 4 16 (qL 1 15),
 qe 5 17 (qI 6 12 16),
 qe 6 18 (qA 6 17),
 qe 7 8 (.box (.k (.agg [.dat none (.int .i64 0),.dat none (.int .i64 0),.dat none (.int .i64 0),.dat none (.int .i64 0),.dat none (.int .i64 0),.dat none (.int .i64 0)]))),
 qs 8 (qW 6 8 18)]
def r2:List Ent:=[
 qm 0 19 0,
 qe 1 20 (.nck (.t 19)),
 qe 2 21 (qD 0 20),
 qe 3 22 (qL 1 21),
 qe 4 23 (qK .add 22 1),
 qm 5 9 23]
def r3:List Ent:=[
 qm 0 24 0,
 qe 1 25 (.nck (.t 24)),
 qe 2 26 (qD 1 25),
 qe 3 27 (qL 1 26),
 qm 4 10 27]
def r4:List Ent:=[
 qe 0 28 (qD 0 8),
 qe 1 29 (qL 1 28)]
def r5:List Ent:=[
 qe 0 69 (qK .eql 29 1),
 qm 1 68 69]
def r6:List Ent:=[
 qm 0 70 10,
 qr 1 71 (qD 2 8),
 qr 2 72 (qL 1 71),
 qr 3 73 (qD 1 8),
 qr 4 74 (qL 1 73),
 qm 5 75 10,
 qr 6 76 (qD 2 8),
 qr 7 77 (qL 1 76),
 qr 8 78 (qI 1 75 77),
 qr 9 79 (qL 1 78),
 qm 10 80 10,
 qr 11 81 (qD 3 8),
 qr 12 82 (qL 1 81),
 qr 13 83 (qI 1 80 82),
 qr 14 84 (qL 1 83),
  E2 15 (some 85) none (.call Zco false (roA [.t 74,.t 79,.t 84])),
 qe 16 86 (qI 1 70 72),
 qs 17 (qW 1 86 85)]
def r7:List Ent:=[
 qe 0 88 (qK .eql 29 2),
 qm 1 87 88]
def r8:List Ent:=[
 qm 0 89 10,
 qr 1 90 (qD 2 8),
 qr 2 91 (qL 1 90),
 qr 3 92 (qD 1 8),
 qr 4 93 (qL 1 92),
 qm 5 94 10,
 qr 6 95 (qD 2 8),
 qr 7 96 (qL 1 95),
 qr 8 97 (qI 1 94 96),
 qr 9 98 (qL 1 97),
 qr 10 99 (qD 4 8),
 qr 11 100 (qL 1 99),
  E2 12 (some 101) none (.call Zco false (roA [.t 93,.t 98,.t 100])),
 qe 13 102 (qI 1 89 91),
 qs 14 (qW 1 102 101)]
def r9:List Ent:=[
 qe 0 104 (qK .eql 29 3),
 qm 1 103 104]
def r10:List Ent:=[
 qe 0 105 (qK .eql 29 4),
 qm 1 103 105]
def r11:List Ent:=[
 qm 0 106 10,
 qe 1 107 (qD 2 8),
 qe 2 108 (qL 1 107),
 qe 3 109 (qD 4 8),
 qe 4 110 (qL 1 109),
 qe 5 111 (qI 1 106 108),
 qs 6 (qW 1 111 110)]
def r12:List Ent:=[
 qe 0 113 (qK .eql 29 5),
 qm 1 112 113]
def r13:List Ent:=[
 qm 0 114 10,
 qr 1 115 (qD 3 8),
 qr 2 116 (qL 1 115),
 qr 3 117 (qI 1 114 116),
 qr 4 118 (qL 1 117),
 qr 5 119 (qD 4 8),
 qr 6 120 (qL 1 119),
 qe 7 121 (qB .add 118 120),
 qm 8 11 121]
def r14:List Ent:=[
 qm 0 122 11,
 qe 1 123 (qK .geq 122 8)]
def r15:List Ent:=[
 qe 0 6 (.mv (xN 1)),
 qe 1 7 (.mv xF)]
def r16:List Ent:=[
 qm 0 124 10,
 qr 1 125 (qD 2 8),
 qr 2 126 (qL 1 125),
 qm 3 127 2,
 qm 4 128 11,
 qr 5 129 (qI 1 127 128),
 qr 6 130 (qL 1 129),
 qe 7 131 (qI 1 124 126),
 qs 8 (qW 1 131 130)]
def r17:List Ent:=[
 qe 0 133 (qK .eql 29 7),
 qm 1 132 133]
def r18:List Ent:=[
 qe 0 134 (qK .eql 29 6),
 qm 1 132 134]
def r19:List Ent:=[
 qe 0 135 (qD 4 8),
 qe 1 136 (qL 1 135),
 qe 2 137 (qK .geq 136 16)]
def r20:List Ent:=[
 qe 0 6 (.mv (xN 2)),
 qe 1 7 (.mv xF)]
def r21:List Ent:=[
 qe 0 138 (qD 0 8),
 qe 1 139 (qL 1 138),
 qe 2 140 (qK .eql 139 7)]
def r22:List Ent:=[
 qm 0 141 0,
 qe 1 142 (.nck (.t 141)),
 qr 2 143 (qD 2 142),
 qr 3 144 (qL 1 143),
 qr 4 145 (qD 4 8),
 qr 5 146 (qL 1 145),
 qm 6 147 0,
 qe 7 148 (.nck (.t 147)),
 qr 8 149 (qD 3 148),
 qr 9 150 (qL 1 149),
 qm 12 153 10,
 qr 13 154 (qD 2 8),
 qr 14 155 (qL 1 154),
 qr 15 156 (qI 1 153 155),
 qr 16 157 (qL 1 156),
 qr 17 158 (qI 1 144 146),
 EP 18 none none (.i (qW 1 158 157)) 0 true,
 qx 10 151 (qD 4 8) 2 [] [18] false,
 qx 11 152 (qL 1 151) 2 [] [18] false,
 qe 19 159 (qI 1 150 152),
 qs 20 (.store 1 (.t 159) xT)]
def r23:List Ent:=[
 qm 0 160 0,
 qe 1 161 (.nck (.t 160)),
 qr 2 162 (qD 3 161),
 qr 3 163 (qL 1 162),
 qr 4 164 (qD 4 8),
 qr 5 165 (qL 1 164),
 qe 6 166 (qI 1 163 165),
 qe 7 167 (qL 1 166),
 qe 8 168 (qN 167)]
def r24:List Ent:=[
 qe 0 6 (.mv (xN 3)),
 qe 1 7 (.mv xF)]
def r25:List Ent:=[
 qm 0 169 10,
 qr 1 170 (qD 2 8),
 qr 2 171 (qL 1 170),
 qm 3 172 0,
 qe 4 173 (.nck (.t 172)),
 qr 5 174 (qD 2 173),
 qr 6 175 (qL 1 174),
 qr 7 176 (qD 4 8),
 qr 8 177 (qL 1 176),
 qr 9 178 (qI 1 175 177),
 qr 10 179 (qL 1 178),
 qe 11 180 (qI 1 169 171),
 qs 12 (qW 1 180 179)]
def r26:List Ent:=[
 qe 0 182 (qK .eql 29 11),
 qm 1 181 182]
def r27:List Ent:=[
 qe 0 6 (.mv (xN 0)),
 qe 1 7 (.mv xT)]
def r28:List Ent:=[
 qe 0 184 (qK .eql 29 8),
 qm 1 183 184]
def r29:List Ent:=[
 qm 0 185 9,
 qe 1 186 (qD 5 8),
 qe 2 187 (qL 1 186),
 qe 3 188 (qB .add 185 187),
 qm 4 9 188]
def r30:List Ent:=[
 qe 0 30 (qD 0 8),
 qe 1 31 (qL 1 30),
 qe 2 32 (qK .eql 31 9),
 qm 3 33 32,
 qt 4 34 33 (qM 10),
 ER 5 (some 35) (some (33,true)) (qD 2 8),
 ER 6 (some 36) (some (33,true)) (qL 1 35),
 ER 7 (some 37) (some (33,true)) (qI 1 34 36),
 ER 8 (some 38) (some (33,true)) (qL 1 37),
 qt 9 39 33 (qM 10),
 ER 10 (some 40) (some (33,true)) (qD 3 8),
 ER 11 (some 41) (some (33,true)) (qL 1 40),
 ER 12 (some 42) (some (33,true)) (qI 1 39 41),
 ER 13 (some 43) (some (33,true)) (qL 1 42),
 qt 14 44 33 (qB .eql 38 43),
 qe 15 45 (.pick (.t 33) (.t 44) xF),
 qm 16 46 45,
 qf 17 47 46 (qD 0 8),
 qf 18 48 46 (qL 1 47),
 qf 19 49 46 (qK .eql 48 10),
 qf 20 50 46 (qM 49),
 qt 21 51 50 (qM 10),
 ER 22 (some 52) (some (50,true)) (qD 2 8),
 ER 23 (some 53) (some (50,true)) (qL 1 52),
 ER 24 (some 54) (some (50,true)) (qI 1 51 53),
 ER 25 (some 55) (some (50,true)) (qL 1 54),
 qt 26 56 50 (qM 10),
 ER 27 (some 57) (some (50,true)) (qD 3 8),
 ER 28 (some 58) (some (50,true)) (qL 1 57),
 ER 29 (some 59) (some (50,true)) (qI 1 56 58),
 ER 30 (some 60) (some (50,true)) (qL 1 59),
 qt 31 61 50 (qB .lss 55 60),
 qf 32 62 46 (.pick (.t 50) (.t 61) xF),
 qe 33 63 (.pick (.t 46) xT (.t 62))]
def r31:List Ent:=[
 qm 0 64 9,
 qe 1 65 (qD 5 8),
 qe 2 66 (qL 1 65),
 qe 3 67 (qB .add 64 66),
 qm 4 9 67]
def r32:List Ent:=[
 qm 0 189 0,
 qm 1 190 9,
 qe 2 191 (.nck (.t 189)),
 qe 3 192 (qD 0 191),
 qs 4 (qW 1 192 190)]
def r33:List Ent:=[
 qe 0 6 (.mv (xN 0)),
 qe 1 7 (.mv xF)]
def fi:FI:={ res:=[.t 6,.t 7],code:=.seq (.reg 64 2 r0) (.seq (.reg 192 9 r1) (.seq (.reg 768 6 r2) (.seq (.reg 1152 5 r3) (.seq (.seq (.reg 1472 2 r4) (.block 0 (.seq (.reg 1600 2 r5) (.cond (.t 68) (.reg 1728 18 r6) (.seq (.reg 2880 2 r7) (.cond (.t 87) (.reg 3008 15 r8) (.seq (.seq (.reg 3968 2 r9) (.cond (.t 103) (.skip) (.reg 4096 2 r10))) (.cond (.t 103) (.reg 4224 7 r11) (.seq (.reg 4672 2 r12) (.cond (.t 112) (.seq (.reg 4800 9 r13) (.seq (.seq (.reg 5376 2 r14) (.cond (.t 123) (.seq (.reg 5504 2 r15) (.ret)) (.skip))) (.reg 5632 9 r16))) (.seq (.seq (.reg 6208 2 r17) (.cond (.t 132) (.skip) (.reg 6336 2 r18))) (.cond (.t 132) (.seq (.seq (.reg 6464 3 r19) (.cond (.t 137) (.seq (.reg 6656 2 r20) (.ret)) (.skip))) (.seq (.seq (.reg 6784 3 r21) (.cond (.t 140) (.seq (.reg 6976 21 r22) (.exit 0)) (.skip))) (.seq (.seq (.reg 8320 9 r23) (.cond (.t 168) (.seq (.reg 8896 2 r24) (.ret)) (.skip))) (.reg 9024 13 r25)))) (.seq (.reg 9856 2 r26) (.cond (.t 181) (.seq (.reg 9984 2 r27) (.ret)) (.seq (.reg 10112 2 r28) (.cond (.t 183) (.reg 10240 5 r29) (.seq (.reg 10560 34 r30) (.cond (.t 63) (.reg 12736 5 r31) (.skip))))))))))))))))))) (.seq (.reg 13056 5 r32) (.seq (.reg 13376 2 r33) (.ret))))))) }
attribute [go_sem] r0 r1 r2 r3 r4 r5 r6 r7 r8 r9 r10 r11 r12 r13 r14 r15 r16 r17 r18 r19 r20 r21 r22 r23 r24 r25 r26 r27 r28 r29 r30 r31 r32 r33
theorem ok:chkF prog Za6 3 fi=true:=by kernel_rfl
end impl_pMachine_step
namespace slices_Index__sint_int
def r0:List Ent:=[
 qe 0 4 (.mv (xN 0))]
def r1:List Ent:=[
 qm 0 6 0,
 qe 1 7 (qZ 6),
 qe 2 8 (.mv (xN 0))]
def r2:List Ent:=[
 qe 0 9 (qB .lss 8 7)]
def r3:List Ent:=[
 qm 0 10 8,
 qm 1 5 10]
def r4:List Ent:=[
 qm 0 11 1,
 qm 1 12 0,
 qm 2 13 5,
 qe 3 14 (qI 1 12 13),
 qe 4 15 (qL 1 14),
 qe 5 16 (qB .eql 11 15)]
def r5:List Ent:=[
 qm 0 17 5,
 qm 1 4 17]
def r6:List Ent:=[
 qe 0 18 (qK .add 8 1),
 qm 1 8 18]
def b0:KC:=.seq (.reg 320 1 r2) (.seq (.cond (.t 9) (.skip) (.exit 0)) (.seq (.block 1 (.seq (.reg 384 2 r3) (.seq (.reg 512 6 r4) (.cond (.t 16) (.seq (.reg 896 2 r5) (.ret)) (.skip))))) (.reg 1024 2 r6)))
def r7:List Ent:=[
 qe 0 4 (.mv (xN (-1)))]
def fi:FI:={ res:=[.t 4],code:=.seq (.reg 64 1 r0) (.seq (.seq (.reg 128 3 r1) (.block 0 (.loop b0))) (.seq (.reg 1152 1 r7) (.ret))) }
attribute [go_sem] r0 r1 r2 r3 r4 r5 r6 r7
theorem ok:chkF prog Zba 2 fi=true:=by kernel_rfl
end slices_Index__sint_int
namespace slices_Contains__sint_int
def r0:List Ent:=[
 qe 0 4 (.mv xF)]
def r1:List Ent:=[
 qm 0 5 0,
 qm 1 6 1,
 qc 2 7 (qC Zba [.t 5,.t 6]),
 qe 3 8 (qK .geq 7 0),
 qm 4 4 8]
def fi:FI:={ res:=[.t 4],code:=.seq (.reg 64 1 r0) (.seq (.reg 128 5 r1) (.ret)) }
attribute [go_sem] r0 r1
theorem ok:chkF prog ZaX 2 fi=true:=by kernel_rfl
end slices_Contains__sint_int
namespace spec_l1All
def r0:List Ent:=[
 qe 0 6 (.mv xF)]
def r1:List Ent:=[
 qm 0 9 0,
 qe 1 10 (qZ 9),
 qe 2 11 (.mv (xN 0))]
def r2:List Ent:=[
 qe 0 12 (qB .lss 11 10)]
def r3:List Ent:=[
 qe 0 13 (qI 1 9 11),
 qe 1 14 (qL 1 13),
 qm 2 8 14]
def r4:List Ent:=[
 qm 0 15 8,
 qm 1 16 1,
 qm 2 17 2,
 qc 3 18 (qC ZaO [.t 15,.t 16,.t 17]),
 qe 4 19 (qN 18)]
def r5:List Ent:=[
 qe 0 6 (.mv xF)]
def r6:List Ent:=[
 qe 0 20 (qK .add 11 1),
 qm 1 11 20]
def b0:KC:=.seq (.reg 320 1 r2) (.seq (.cond (.t 12) (.skip) (.exit 0)) (.seq (.block 1 (.seq (.reg 384 3 r3) (.seq (.reg 576 5 r4) (.cond (.t 19) (.seq (.reg 896 1 r5) (.ret)) (.skip))))) (.reg 960 2 r6)))
def r7:List Ent:=[
 qe 0 6 (.mv xT)]
def fi:FI:={ res:=[.t 6],code:=.seq (.reg 64 1 r0) (.seq (.seq (.reg 128 3 r1) (.block 0 (.loop b0))) (.seq (.reg 1088 1 r7) (.ret))) }
attribute [go_sem] r0 r1 r2 r3 r4 r5 r6 r7
theorem ok:chkF prog ZdC 3 fi=true:=by kernel_rfl
end spec_l1All
namespace spec_l3Ctx
def r0:List Ent:=[
 qe 0 2 (.mv xF)]
def r1:List Ent:=[
 qm 0 3 0,
 qe 1 4 (qZ 3),
 qe 2 5 (qK .eql 4 8),
 qm 3 6 5,
 qt 4 7 6 (qM 0),
 qh 5 8 6 (qC ZdC [.t 7,xN 0,xN 255]),
 qe 6 9 (.pick (.t 6) (.t 8) xF),
 qm 7 2 9]
def fi:FI:={ res:=[.t 2],code:=.seq (.reg 64 1 r0) (.seq (.reg 128 8 r1) (.ret)) }
attribute [go_sem] r0 r1
theorem ok:chkF prog ZdH 1 fi=true:=by kernel_rfl
end spec_l3Ctx
namespace slices_IndexFunc__sint_int
def r0:List Ent:=[
 qe 0 4 (.mv (xN 0))]
def r1:List Ent:=[
 qm 0 6 0,
 qe 1 7 (qZ 6),
 qe 2 8 (.mv (xN 0))]
def r2:List Ent:=[
 qe 0 9 (qB .lss 8 7)]
def r3:List Ent:=[
 qm 0 10 8,
 qm 1 5 10]
def r4:List Ent:=[
 qm 0 11 1,
 qm 1 12 0,
 qm 2 13 5,
 qe 3 14 (qI 1 12 13),
 qe 4 15 (qL 1 14),
 qc 5 16 (.ccl (.t 11) false [.t 15])]
def r5:List Ent:=[
 qm 0 17 5,
 qm 1 4 17]
def r6:List Ent:=[
 qe 0 18 (qK .add 8 1),
 qm 1 8 18]
def b0:KC:=.seq (.reg 320 1 r2) (.seq (.cond (.t 9) (.skip) (.exit 0)) (.seq (.block 1 (.seq (.reg 384 2 r3) (.seq (.reg 512 6 r4) (.cond (.t 16) (.seq (.reg 896 2 r5) (.ret)) (.skip))))) (.reg 1024 2 r6)))
def r7:List Ent:=[
 qe 0 4 (.mv (xN (-1)))]
def fi:FI:={ res:=[.t 4],code:=.seq (.reg 64 1 r0) (.seq (.seq (.reg 128 3 r1) (.block 0 (.loop b0))) (.seq (.reg 1152 1 r7) (.ret))) }
attribute [go_sem] r0 r1 r2 r3 r4 r5 r6 r7
theorem ok:chkF prog ZaS 2 fi=true:=by kernel_rfl
end slices_IndexFunc__sint_int
namespace slices_ContainsFunc__sint_int
def r0:List Ent:=[
 qe 0 4 (.mv xF)]
def r1:List Ent:=[
 qm 0 5 0,
 qm 1 6 1,
 qc 2 7 (qC ZaS [.t 5,.t 6]),
 qe 3 8 (qK .geq 7 0),
 qm 4 4 8]
def fi:FI:={ res:=[.t 4],code:=.seq (.reg 64 1 r0) (.seq (.reg 128 5 r1) (.ret)) }
attribute [go_sem] r0 r1
theorem ok:chkF prog ZaL 2 fi=true:=by kernel_rfl
end slices_ContainsFunc__sint_int
namespace impl_isContext_c1
def r0:List Ent:=[
 qe 0 2 (.mv xF)]
def r1:List Ent:=[
 qm 0 3 0,
 qc 1 4 (qC Zc8 [.t 3,xN 0,xN 255]),
 qe 2 5 (qN 4),
 qm 3 2 5]
def fi:FI:={ res:=[.t 2],code:=.seq (.reg 64 1 r0) (.seq (.reg 128 4 r1) (.ret)) }
attribute [go_sem] r0 r1
theorem ok:chkF prog Zbe 1 fi=true:=by kernel_rfl
end impl_isContext_c1
namespace impl_isContext
def r0:List Ent:=[
 qe 0 2 (.mv xF)]
def r1:List Ent:=[
 qm 0 3 0,
 qe 1 4 (qZ 3),
 qe 2 5 (qK .eql 4 8),
 qm 3 6 5,
 qt 4 7 6 (qM 0),
 qh 5 8 6 (qC ZaL [.t 7,.k (.clo Zbe [])]),
 qt 6 9 6 (qN 8),
 qe 7 10 (.pick (.t 6) (.t 9) xF),
 qm 8 2 10]
def fi:FI:={ res:=[.t 2],code:=.seq (.reg 64 1 r0) (.seq (.reg 128 9 r1) (.ret)) }
attribute [go_sem] r0 r1
theorem ok:chkF prog Zcq 1 fi=true:=by kernel_rfl
end impl_isContext
namespace spec_pl1Cur_next
def r0:List Ent:=[
 qe 0 2 (.mv (xN 0))]
def r1:List Ent:=[
 qe 0 3 (.mv (xN 0))]
def r2:List Ent:=[
 qm 0 4 0,
 qe 1 5 (.nck (.t 4)),
 qr 2 6 (qD 1 5),
 qr 3 7 (qL 1 6),
 qm 4 8 0,
 qe 5 9 (.nck (.t 8)),
 qr 6 10 (qD 0 9),
 qr 7 11 (qL 1 10),
 qr 8 12 (qZ 11),
 qe 9 13 (qB .lss 7 12)]
def r3:List Ent:=[
 qm 0 14 0,
 qe 1 15 (.nck (.t 14)),
 qr 2 16 (qD 0 15),
 qr 3 17 (qL 1 16),
 qm 4 18 0,
 qe 5 19 (.nck (.t 18)),
 qr 6 20 (qD 1 19),
 qr 7 21 (qL 1 20),
 qe 8 22 (qI 1 17 21),
 qe 9 23 (qL 1 22),
 qe 10 24 (.cnv .i64 (.t 23)),
 qm 11 3 24]
def r4:List Ent:=[
 qm 0 25 0,
 qe 1 26 (.nck (.t 25)),
 qe 2 27 (qD 1 26),
 qe 3 28 (qL 1 27),
 qe 4 29 (qK .add 28 1),
 qe 5 30 (.nck (.t 25)),
 qe 6 31 (qD 1 30),
 qs 7 (qW 1 31 29)]
def r5:List Ent:=[
 qm 0 32 0,
 qm 1 33 0,
 qe 2 34 (.nck (.t 33)),
 qe 3 35 (qD 2 34),
 qe 4 36 (qL 1 35),
 qe 5 37 (.bin .mul (.t 36) (.k (.dat none (.int .u64 6364136223846793005)))),
 qm 6 38 3,
 qe 7 39 (.cnv .u64 (.t 38)),
 qe 8 40 (qB .add 37 39),
 qe 9 41 (.bin .add (.t 40) (.k (.dat none (.int .u64 1442695040888963407)))),
 qe 10 42 (.nck (.t 32)),
 qe 11 43 (qD 2 42),
 qs 12 (qW 1 43 41)]
def r6:List Ent:=[
 qm 0 44 0,
 qe 1 45 (.nck (.t 44)),
 qr 2 46 (qD 1 45),
 qr 3 47 (qL 1 46),
 qm 4 48 0,
 qe 5 49 (.nck (.t 48)),
 qr 6 50 (qD 0 49),
 qr 7 51 (qL 1 50),
 qr 8 52 (qZ 51),
 qe 9 53 (qB .leq 47 52)]
def r7:List Ent:=[
 qm 0 54 3,
 qm 1 2 54]
def r8:List Ent:=[
 qm 0 55 0,
 qe 1 56 (.nck (.t 55)),
 qe 2 57 (qD 2 56),
 qe 3 58 (qL 1 57),
 qe 4 59 (.bin .shr (.t 58) (.k (.dat none (.int .u64 40)))),
 qe 5 60 (.bin .and (.t 59) (.k (.dat none (.int .u64 255)))),
 qe 6 61 (.cnv .i64 (.t 60)),
 qm 7 2 61]
def fi:FI:={ res:=[.t 2],code:=.seq (.reg 64 1 r0) (.seq (.reg 128 1 r1) (.seq (.seq (.reg 192 10 r2) (.cond (.t 13) (.reg 832 12 r3) (.skip))) (.seq (.reg 1600 8 r4) (.seq (.reg 2112 13 r5) (.seq (.seq (.reg 2944 10 r6) (.cond (.t 53) (.seq (.reg 3584 2 r7) (.ret)) (.skip))) (.seq (.reg 3712 8 r8) (.ret))))))) }
attribute [go_sem] r0 r1 r2 r3 r4 r5 r6 r7 r8
theorem ok:chkF prog Zbo 1 fi=true:=by kernel_rfl
end spec_pl1Cur_next
namespace spec_pl1Cur_pick
def r0:List Ent:=[
 qe 0 4 (.mv (xN 0))]
def r1:List Ent:=[
 qm 0 6 1,
 qe 1 7 (qK .leq 6 1)]
def r2:List Ent:=[
 qe 0 4 (.mv (xN 0))]
def r3:List Ent:=[
 qm 0 8 0,
 qc 1 9 (.call Zbo true [(.io,.t 8)]),
 qm 2 5 9]
def r4:List Ent:=[
 qm 0 10 1,
 qe 1 11 (qK .gtr 10 200)]
def r5:List Ent:=[
 qm 0 12 5,
 qe 1 13 (qK .mul 12 256),
 qm 2 14 0,
 qc 3 15 (.call Zbo true [(.io,.t 14)]),
 qe 4 16 (qB .add 13 15),
 qm 5 5 16]
def r6:List Ent:=[
 qm 0 17 5,
 qm 1 18 1,
 qe 2 19 (qB .rem 17 18),
 qm 3 4 19]
def fi:FI:={ res:=[.t 4],code:=.seq (.reg 64 1 r0) (.seq (.seq (.reg 128 2 r1) (.cond (.t 7) (.seq (.reg 256 1 r2) (.ret)) (.skip))) (.seq (.reg 320 3 r3) (.seq (.seq (.reg 512 2 r4) (.cond (.t 11) (.reg 640 6 r5) (.skip))) (.seq (.reg 1024 4 r6) (.ret))))) }
attribute [go_sem] r0 r1 r2 r3 r4 r5 r6
theorem ok:chkF prog Zan 2 fi=true:=by kernel_rfl
end spec_pl1Cur_pick
namespace spec_pl1Cur_one
def r0:List Ent:=[
 qe 0 4 (.mv xF)]
def r1:List Ent:=[
 qm 0 5 0,
 qm 1 6 1,
 qc 2 7 (.call Zan true [(.io,.t 5),(.ro,.t 6)]),
 qe 3 8 (qK .eql 7 0),
 qm 4 4 8]
def fi:FI:={ res:=[.t 4],code:=.seq (.reg 64 1 r0) (.seq (.reg 128 5 r1) (.ret)) }
attribute [go_sem] r0 r1
theorem ok:chkF prog ZaV 2 fi=true:=by kernel_rfl
end spec_pl1Cur_one
namespace spec_pl1Cur_among
def r0:List Ent:=[
 qe 0 4 (.mv (xN 0))]
def r1:List Ent:=[
 qm 0 5 1,
 qm 1 6 0,
 qm 2 7 1,
 qe 3 8 (qZ 7),
 qc 4 9 (.call Zan true [(.io,.t 6),(.ro,.t 8)]),
 qe 5 10 (qI 1 5 9),
 qe 6 11 (qL 1 10),
 qm 7 4 11]
def fi:FI:={ res:=[.t 4],code:=.seq (.reg 64 1 r0) (.seq (.reg 128 8 r1) (.ret)) }
attribute [go_sem] r0 r1
theorem ok:chkF prog Zaz 2 fi=true:=by kernel_rfl
end spec_pl1Cur_among
namespace spec_pl1Cur_step
def r0:List Ent:=[
 qe 0 4 (.box (.k (.agg [.dat none (.int .i64 0),.dat none (.int .i64 0),.dat none (.int .i64 0),.dat none (.int .i64 0),.dat none (.int .i64 0),.dat none (.int .i64 0)])))]
def r1:List Ent:=[
 qm 0 6 0,
 qe 1 7 (.bsl false 1 [xN 1,xN 1,xN 2,xN 2,xN 2,xN 3,xN 3,xN 4,xN 5,xN 5,xN 6,xN 7,xN 7,xN 8,xN 9,xN 10,xN 10]),
 qc 2 8 (.call Zaz true [(.io,.t 6),(.co,.t 7)]),
 qe 3 9 (.bld [.t 8,.k (.dat none (.int .i64 0)),.k (.dat none (.int .i64 0)),.k (.dat none (.int .i64 0)),.k (.dat none (.int .i64 0)),.k (.dat none (.int .i64 0))]),
 qe 4 5 (.box (.k (.agg [.dat none (.int .i64 0),.dat none (.int .i64 0),.dat none (.int .i64 0),.dat none (.int .i64 0),.dat none (.int .i64 0),.dat none (.int .i64 0)]))),
 qs 5 (qW 6 5 9)]
def r2:List Ent:=[
 qe 0 10 (qD 0 5),
 qe 1 11 (qL 1 10),
 qe 2 12 (qK .geq 11 8),
 qm 3 13 12,
 qt 4 14 13 (qM 1),
 qt 5 15 13 (qK .lss 14 2),
 qe 6 16 (.pick (.t 13) (.t 15) xF)]
def r3:List Ent:=[
 qe 0 17 (qD 0 5),
 qs 1 (.store 1 (.t 17) (xN 3))]
def r4:List Ent:=[
 qe 0 18 (qD 0 5),
 qe 1 19 (qL 1 18)]
def r5:List Ent:=[
 qe 0 21 (qK .eql 19 1),
 qm 1 20 21]
def r6:List Ent:=[
 qe 0 22 (qK .eql 19 5),
 qm 1 20 22]
def r7:List Ent:=[
 qe 0 23 (qK .eql 19 9),
 qm 1 20 23]
def r8:List Ent:=[
 qe 0 24 (qK .eql 19 10),
 qm 1 20 24]
def r9:List Ent:=[
 qm 0 25 0,
 qc 1 26 (.call Zan true [(.io,.t 25),(.ro,xN 3)]),
 qe 2 27 (qD 3 5),
 qs 3 (qW 1 27 26)]
def r10:List Ent:=[
 qe 0 28 (qD 0 5),
 qe 1 29 (qL 1 28),
 qe 2 30 (qK .neq 29 8)]
def r11:List Ent:=[
 qm 0 31 0,
 qc 1 32 (.call Zan true [(.io,.t 31),(.ro,xN 3)]),
 qe 2 33 (qD 2 5),
 qs 3 (qW 1 33 32)]
def r12:List Ent:=[
 qe 0 34 (qD 0 5),
 qe 1 35 (qL 1 34)]
def r13:List Ent:=[
 qe 0 37 (qK .eql 35 1),
 qm 1 36 37]
def r14:List Ent:=[
 qe 0 38 (qK .eql 35 2),
 qm 1 36 38]
def r15:List Ent:=[
 qm 0 39 0,
 qc 1 40 (.call Zan true [(.io,.t 39),(.ro,xN 10)]),
 qe 2 41 (.bin .add (xN 1) (.t 40)),
 qe 3 42 (qD 1 5),
 qs 4 (qW 1 42 41)]
def r16:List Ent:=[
 qe 0 43 (qD 0 5),
 qe 1 44 (qL 1 43)]
def r17:List Ent:=[
 qe 0 46 (qK .eql 44 2),
 qm 1 45 46]
def r18:List Ent:=[
 qe 0 47 (qK .eql 44 3),
 qm 1 45 47]
def r19:List Ent:=[
 qm 0 48 0,
 qm 1 49 0,
 qc 2 50 (.call Zan true [(.io,.t 49),(.ro,xN 20)]),
 qe 3 51 (.bsl false 1 [xN 0,xN 1,xN 3,xN 7,xN 255,.t 50]),
 qc 4 52 (.call Zaz true [(.io,.t 48),(.co,.t 51)]),
 qe 5 53 (qD 4 5),
 qs 6 (qW 1 53 52)]
def r20:List Ent:=[
 qe 0 55 (qK .eql 44 4),
 qm 1 54 55]
def r21:List Ent:=[
 qm 0 56 0,
 qm 1 57 0,
 qc 2 58 (.call Zan true [(.io,.t 57),(.ro,xN 256)]),
 qm 3 59 0,
 qc 4 60 (.call Zan true [(.io,.t 59),(.ro,xN 250)]),
 qe 5 61 (qB .mul 58 60),
 qe 6 62 (.bin .add (xN 256) (.t 61)),
 qe 7 63 (.bsl false 1 [xN 256,xN 65535,.t 62]),
 qc 8 64 (.call Zaz true [(.io,.t 56),(.co,.t 63)]),
 qe 9 65 (qD 4 5),
 qs 10 (qW 1 65 64)]
def r22:List Ent:=[
 qe 0 67 (qK .eql 44 5),
 qm 1 66 67]
def r23:List Ent:=[
 qm 0 68 0,
 qc 1 69 (.call Zan true [(.io,.t 68),(.ro,xN 5)]),
 qe 2 70 (qD 4 5),
 qs 3 (qW 1 70 69)]
def r24:List Ent:=[
 qe 0 72 (qK .eql 44 6),
 qm 1 71 72]
def r25:List Ent:=[
 qe 0 73 (qK .eql 44 7),
 qm 1 71 73]
def r26:List Ent:=[
 qm 0 74 0,
 qc 1 75 (.call Zan true [(.io,.t 74),(.ro,xN 18)]),
 qe 2 76 (qD 4 5),
 qs 3 (qW 1 76 75)]
def r27:List Ent:=[
 qe 0 78 (qK .eql 44 8),
 qm 1 77 78]
def r28:List Ent:=[
 qe 0 79 (qK .eql 44 9),
 qm 1 77 79]
def r29:List Ent:=[
 qe 0 80 (qK .eql 44 10),
 qm 1 77 80]
def r30:List Ent:=[
 qm 0 81 0,
 qm 1 82 1,
 qe 2 83 (qK .sub 82 1),
 qc 3 84 (qC ZaM [xN 4,.t 83]),
 qc 4 85 (.call Zan true [(.io,.t 81),(.ro,.t 84)]),
 qe 5 86 (.bin .add (xN 1) (.t 85)),
 qe 6 87 (qD 5 5),
 qs 7 (qW 1 87 86)]
def r31:List Ent:=[
 qe 0 88 (qA 6 5),
 qs 1 (qW 6 4 88)]
def fi:FI:={ res:=[.c 4 true 6],code:=.seq (.reg 64 1 r0) (.seq (.reg 128 6 r1) (.seq (.seq (.reg 512 7 r2) (.cond (.t 16) (.reg 960 2 r3) (.skip))) (.seq (.seq (.reg 1088 2 r4) (.block 0 (.seq (.seq (.reg 1216 2 r5) (.cond (.t 20) (.skip) (.seq (.reg 1344 2 r6) (.cond (.t 20) (.skip) (.seq (.reg 1472 2 r7) (.cond (.t 20) (.skip) (.reg 1600 2 r8))))))) (.cond (.t 20) (.reg 1728 4 r9) (.skip))))) (.seq (.seq (.reg 1984 3 r10) (.cond (.t 30) (.reg 2176 4 r11) (.skip))) (.seq (.seq (.reg 2432 2 r12) (.block 1 (.seq (.seq (.reg 2560 2 r13) (.cond (.t 36) (.skip) (.reg 2688 2 r14))) (.cond (.t 36) (.reg 2816 5 r15) (.skip))))) (.seq (.seq (.reg 3136 2 r16) (.block 2 (.seq (.seq (.reg 3264 2 r17) (.cond (.t 45) (.skip) (.reg 3392 2 r18))) (.cond (.t 45) (.reg 3520 7 r19) (.seq (.reg 3968 2 r20) (.cond (.t 54) (.reg 4096 11 r21) (.seq (.reg 4800 2 r22) (.cond (.t 66) (.reg 4928 4 r23) (.seq (.seq (.reg 5184 2 r24) (.cond (.t 71) (.skip) (.reg 5312 2 r25))) (.cond (.t 71) (.reg 5440 4 r26) (.seq (.seq (.reg 5696 2 r27) (.cond (.t 77) (.skip) (.seq (.reg 5824 2 r28) (.cond (.t 77) (.skip) (.reg 5952 2 r29))))) (.cond (.t 77) (.reg 6080 8 r30) (.skip))))))))))))) (.seq (.reg 6592 2 r31) (.ret)))))))) }
attribute [go_sem] r0 r1 r2 r3 r4 r5 r6 r7 r8 r9 r10 r11 r12 r13 r14 r15 r16 r17 r18 r19 r20 r21 r22 r23 r24 r25 r26 r27 r28 r29 r30 r31
theorem ok:chkF prog ZaN 2 fi=true:=by kernel_rfl
end spec_pl1Cur_step
namespace spec_pl1Cur_program
def r0:List Ent:=[
 qe 0 2 (.mv (.k (.nil 6)))]
def r1:List Ent:=[
 qe 0 3 (.mv (.k (.nil 6)))]
def r2:List Ent:=[
 qm 0 6 0,
 qc 1 7 (.call Zan true [(.io,.t 6),(.ro,xN 12)]),
 qm 2 4 7]
def r3:List Ent:=[
 qm 0 8 0,
 qc 1 9 (.call ZaV true [(.io,.t 8),(.ro,xN 30)])]
def r4:List Ent:=[
 qe 0 4 (.mv (xN 19))]
def r5:List Ent:=[
 qe 0 5 (.mv (xN 0))]
def r6:List Ent:=[
 qm 0 10 5,
 qm 1 11 4,
 qe 2 12 (qB .lss 10 11)]
def r7:List Ent:=[
 qm 0 15 3,
 qm 1 16 0,
 qm 2 17 4,
 qm 3 18 5,
 qe 4 19 (qB .sub 17 18),
 qc 5 20 (.call ZaN true [(.io,.t 16),(.ro,.t 19)]),
 qe 6 21 (.bsl true 6 [.t 20]),
 qe 7 22 (.app 6 48 (.t 15) (.t 21)),
 qm 8 3 22]
def r8:List Ent:=[
 qm 0 13 5,
 qe 1 14 (qK .add 13 1),
 qm 2 5 14]
def b0:KC:=.seq (.seq (.reg 640 3 r6) (.cond (.t 12) (.skip) (.exit 0))) (.seq (.block 1 (.reg 832 9 r7)) (.reg 1408 3 r8))
def r9:List Ent:=[
 qm 0 23 3,
 qe 1 24 (.bld [xN 11,.k (.dat none (.int .i64 0)),.k (.dat none (.int .i64 0)),.k (.dat none (.int .i64 0)),.k (.dat none (.int .i64 0)),.k (.dat none (.int .i64 0))]),
 qe 2 25 (.bsl true 6 [.t 24]),
 qe 3 26 (.app 6 48 (.t 23) (.t 25)),
 qm 4 3 26]
def r10:List Ent:=[
 qm 0 27 0,
 qc 1 28 (.call ZaV true [(.io,.t 27),(.ro,xN 30)])]
def r11:List Ent:=[
 qm 0 29 3,
 qm 1 30 0,
 qm 2 31 3,
 qe 3 32 (qZ 31),
 qc 4 33 (.call Zan true [(.io,.t 30),(.ro,.t 32)]),
 qm 5 34 0,
 qc 6 35 (.call Zan true [(.io,.t 34),(.ro,xN 13)]),
 qm 7 36 0,
 qc 8 37 (.call Zan true [(.io,.t 36),(.ro,xN 3)]),
 qm 9 38 0,
 qc 10 39 (.call Zan true [(.io,.t 38),(.ro,xN 8)]),
 qe 11 40 (qK .sub 39 1),
 qm 12 41 0,
 qe 13 42 (.bsl false 1 [xN 0,xN 255,xN 256,xN 65536]),
 qc 14 43 (.call Zaz true [(.io,.t 41),(.co,.t 42)]),
 qm 15 44 0,
 qc 16 45 (.call Zan true [(.io,.t 44),(.ro,xN 4)]),
 qe 17 46 (.bld [.t 35,.t 37,.t 40,.k (.dat none (.int .i64 0)),.t 43,.t 45]),
 qe 18 47 (qI 6 29 33),
 qs 19 (qW 6 47 46)]
def r12:List Ent:=[
 qm 0 48 3,
 qm 1 2 48]
def fi:FI:={ res:=[.t 2],code:=.seq (.reg 64 1 r0) (.seq (.reg 128 1 r1) (.seq (.reg 192 3 r2) (.seq (.seq (.reg 384 2 r3) (.cond (.t 9) (.reg 512 1 r4) (.skip))) (.seq (.seq (.reg 576 1 r5) (.nrm 3 1280 6 (.block 0 (.loop b0)))) (.seq (.reg 1600 5 r9) (.seq (.seq (.reg 1920 2 r10) (.cond (.t 28) (.reg 2048 20 r11) (.skip))) (.seq (.reg 3328 2 r12) (.ret)))))))) }
attribute [go_sem] r0 r1 r2 r3 r4 r5 r6 r7 r8 r9 r10 r11 r12
theorem ok:chkF prog ZaD 1 fi=true:=by kernel_rfl
end spec_pl1Cur_program
namespace spec_pl1Cur_ctx
def r0:List Ent:=[
 qe 0 2 (.mv (.k (.nil 1)))]
def r1:List Ent:=[
 qe 0 3 (.mv (.k (.nil 1)))]
def r2:List Ent:=[
 qe 0 4 (.mv (xN 0))]
def r3:List Ent:=[
 qm 0 5 4,
 qe 1 6 (qK .lss 5 8)]
def r4:List Ent:=[
 qm 0 9 3,
 qm 1 10 0,
 qm 2 11 0,
 qc 3 12 (.call Zan true [(.io,.t 11),(.ro,xN 256)]),
 qe 4 13 (.bsl false 1 [xN 0,xN 1,xN 7,xN 8,xN 255,.t 12]),
 qc 5 14 (.call Zaz true [(.io,.t 10),(.co,.t 13)]),
 qe 6 15 (.bsl true 1 [.t 14]),
 qe 7 16 (.app 1 8 (.t 9) (.t 15)),
 qm 8 3 16]
def r5:List Ent:=[
 qm 0 7 4,
 qe 1 8 (qK .add 7 1),
 qm 2 4 8]
def b0:KC:=.seq (.seq (.reg 256 2 r3) (.cond (.t 6) (.skip) (.exit 0))) (.seq (.block 1 (.reg 384 9 r4)) (.reg 960 3 r5))
def r6:List Ent:=[
 qm 0 17 0,
 qc 1 18 (.call ZaV true [(.io,.t 17),(.ro,xN 30)])]
def r7:List Ent:=[
 qm 0 19 3,
 qm 1 20 0,
 qe 2 21 (.bsl false 1 [xN (-1),xN 256]),
 qc 3 22 (.call Zaz true [(.io,.t 20),(.co,.t 21)]),
 qe 4 23 (.iad 1 (.t 19) (xN 0)),
 qs 5 (qW 1 23 22)]
def r8:List Ent:=[
 qm 0 24 3,
 qm 1 2 24]
def fi:FI:={ res:=[.t 2],code:=.seq (.reg 64 1 r0) (.seq (.reg 128 1 r1) (.seq (.seq (.reg 192 1 r2) (.nrm 3 832 1 (.block 0 (.loop b0)))) (.seq (.seq (.reg 1152 2 r6) (.cond (.t 18) (.reg 1280 6 r7) (.skip))) (.seq (.reg 1664 2 r8) (.ret))))) }
attribute [go_sem] r0 r1 r2 r3 r4 r5 r6 r7 r8
theorem ok:chkF prog Za9 1 fi=true:=by kernel_rfl
end spec_pl1Cur_ctx
namespace laws_sameInts
def r0:List Ent:=[
 qe 0 4 (.mv xF)]
def r1:List Ent:=[
 qm 0 6 0,
 qe 1 7 (qZ 6),
 qm 2 8 1,
 qe 3 9 (qZ 8),
 qe 4 10 (qB .neq 7 9)]
def r2:List Ent:=[
 qe 0 4 (.mv xF)]
def r3:List Ent:=[
 qm 0 11 0,
 qe 1 12 (qZ 11),
 qe 2 13 (.mv (xN 0))]
def r4:List Ent:=[
 qe 0 14 (qB .lss 13 12)]
def r5:List Ent:=[
 qm 0 15 13,
 qm 1 5 15]
def r6:List Ent:=[
 qm 0 16 0,
 qm 1 17 5,
 qr 2 18 (qI 1 16 17),
 qr 3 19 (qL 1 18),
 qm 4 20 1,
 qm 5 21 5,
 qr 6 22 (qI 1 20 21),
 qr 7 23 (qL 1 22),
 qe 8 24 (qB .neq 19 23)]
def r7:List Ent:=[
 qe 0 4 (.mv xF)]
def r8:List Ent:=[
 qe 0 25 (qK .add 13 1),
 qm 1 13 25]
def b0:KC:=.seq (.reg 704 1 r4) (.seq (.cond (.t 14) (.skip) (.exit 0)) (.seq (.block 1 (.seq (.reg 768 2 r5) (.seq (.reg 896 9 r6) (.cond (.t 24) (.seq (.reg 1472 1 r7) (.ret)) (.skip))))) (.reg 1536 2 r8)))
def r9:List Ent:=[
 qe 0 4 (.mv xT)]
def fi:FI:={ res:=[.t 4],code:=.seq (.reg 64 1 r0) (.seq (.seq (.reg 128 5 r1) (.cond (.t 10) (.seq (.reg 448 1 r2) (.ret)) (.skip))) (.seq (.seq (.reg 512 3 r3) (.block 0 (.loop b0))) (.seq (.reg 1664 1 r9) (.ret)))) }
attribute [go_sem] r0 r1 r2 r3 r4 r5 r6 r7 r8 r9
theorem ok:chkF prog ZcH 2 fi=true:=by kernel_rfl
end laws_sameInts
namespace spec_l14Branch
def r0:List Ent:=[
 qe 0 1 (.box (.t 0)),
 qe 1 2 (.mv xF)]
def r1:List Ent:=[
 qe 0 3 (qD 0 1),
 qe 1 4 (qL 1 3),
 qe 2 5 (qK .eql 4 9),
 qm 3 6 5,
 qf 4 7 6 (qD 0 1),
 qf 5 8 6 (qL 1 7),
 qf 6 9 6 (qK .eql 8 10),
 qe 7 10 (.pick (.t 6) xT (.t 9)),
 qm 8 2 10]
def fi:FI:={ res:=[.t 2],code:=.seq (.reg 64 2 r0) (.seq (.reg 192 9 r1) (.ret)) }
attribute [go_sem] r0 r1
theorem ok:chkF prog Zbf 1 fi=true:=by kernel_rfl
end spec_l14Branch
namespace spec_l14Own
def r0:List Ent:=[
 qe 0 1 (.box (.t 0)),
 qe 1 2 (.box (.k (.agg [.nil 1,.nil 1])))]
def r1:List Ent:=[
 qx 0 3 (.bsl false 1 []) 1 [4] [] false,
 qx 1 4 (qD 0 1) 2 [0,4] [] false,
 qx 2 5 (qL 1 4) 2 [0,4] [] false,
 qx 3 6 (.app 1 8 (.t 3) (.t 5)) 0 [4] [] true,
 qx 4 7 (.bsl false 1 []) 1 [0] [3] false,
 qx 5 8 (qD 1 1) 2 [0,4] [3] false,
 qx 6 9 (qL 1 8) 2 [0,4] [3] false,
 qe 7 10 (.app 1 1 (.t 7) (.t 9)),
 qe 8 11 (.bld [.t 6,.t 10]),
 qs 9 (qW 2 2 11)]
def fi:FI:={ res:=[.c 2 true 2],code:=.seq (.reg 64 2 r0) (.seq (.reg 192 10 r1) (.ret)) }
attribute [go_sem] r0 r1
theorem ok:chkF prog Zcw 1 fi=true:=by kernel_rfl
end spec_l14Own
namespace spec_l14All
def r0:List Ent:=[
 qe 0 4 (.box (.t 1)),
 qe 1 6 (.mv (.k (.nil 2)))]
def r1:List Ent:=[
 qm 0 11 2,
 qe 1 12 (qZ 11),
 qe 2 13 (qK .gtr 12 64)]
def r2:List Ent:=[
 qm 0 14 2,
 qm 1 6 14]
def r3:List Ent:=[
 qe 0 15 (qD 0 4),
 qe 1 16 (qL 1 15),
 qe 2 17 (qD 0 4),
 qe 3 18 (qL 1 17),
 qe 4 19 (qZ 18),
 qe 5 20 (qK .sub 19 1),
 qe 6 21 (qI 1 16 20),
 qe 7 22 (qL 1 21),
 qm 8 7 22]
def r4:List Ent:=[
 qm 0 23 0,
 qm 1 24 7,
 qe 2 25 (qI 6 23 24),
 qe 3 26 (qD 0 25),
 qe 4 27 (qL 1 26),
 qe 5 28 (qK .eql 27 11)]
def r5:List Ent:=[
 qm 0 29 2,
 qe 1 30 (qA 2 4),
 qc 2 31 (qV Zcw 30),
 qe 3 32 (.bsl false 2 [.t 31]),
 qe 4 33 (.app 2 48 (.t 29) (.t 32)),
 qm 5 6 33]
def r6:List Ent:=[
 qm 0 34 0,
 qm 1 35 7,
 qc 2 36 (qC Zci [.t 34,.t 35]),
 qe 3 37 (qZ 36),
 qe 4 38 (.mv (xN 0))]
def r7:List Ent:=[
 qe 0 39 (qB .lss 38 37)]
def r8:List Ent:=[
 qm 0 40 38,
 qe 1 41 (qI 1 36 38),
 qe 2 42 (qL 1 41),
 qm 3 8 40,
 qm 4 9 42]
def r9:List Ent:=[
 qe 0 43 (qA 2 4),
 qc 1 44 (qV Zcw 43),
 qe 2 10 (.box (.k (.agg [.nil 1,.nil 1]))),
 qs 3 (qW 2 10 44)]
def r10:List Ent:=[
 qe 0 45 (qD 0 10),
 qe 1 46 (qL 1 45),
 qm 2 47 9,
 qe 3 48 (.bsl true 1 [.t 47]),
 qe 4 49 (.app 1 8 (.t 46) (.t 48)),
 qe 5 50 (qD 0 10),
 qs 6 (qW 1 50 49)]
def r11:List Ent:=[
 qm 0 51 0,
 qm 1 52 7,
 qe 2 53 (qI 6 51 52),
 qe 3 54 (qA 6 53),
 qc 4 55 (qV Zbf 54)]
def r12:List Ent:=[
 qe 0 56 (qD 1 10),
 qe 1 57 (qL 1 56),
 qm 2 58 8,
 qe 3 59 (qK .eql 58 1),
 qe 4 60 (.bsl true 1 [.t 59]),
 qe 5 61 (.app 1 1 (.t 57) (.t 60)),
 qe 6 62 (qD 1 10),
 qs 7 (qW 1 62 61)]
def r13:List Ent:=[
 qm 0 63 0,
 qe 1 64 (qA 2 10),
 qm 2 65 2,
 qc 3 66 (.call Zcx false [(.ro,.t 63),(.ro,.t 64),(.co,.t 65)]),
 qm 4 2 66]
def r14:List Ent:=[
 qe 0 67 (qK .add 38 1),
 qm 1 38 67]
def b0:KC:=.seq (.reg 2176 1 r7) (.seq (.cond (.t 39) (.skip) (.exit 0)) (.seq (.block 1 (.seq (.reg 2240 5 r8) (.seq (.reg 2560 4 r9) (.seq (.reg 2816 7 r10) (.seq (.seq (.reg 3264 5 r11) (.cond (.t 55) (.reg 3584 8 r12) (.skip))) (.reg 4096 5 r13)))))) (.reg 4416 2 r14)))
def r15:List Ent:=[
 qm 0 68 2,
 qm 1 6 68]
def fi:FI:={ res:=[.t 6],code:=.seq (.reg 64 2 r0) (.seq (.seq (.reg 192 3 r1) (.cond (.t 13) (.seq (.reg 384 2 r2) (.ret)) (.skip))) (.seq (.reg 512 9 r3) (.seq (.seq (.reg 1088 6 r4) (.cond (.t 28) (.seq (.reg 1472 6 r5) (.ret)) (.skip))) (.seq (.seq (.reg 1856 5 r6) (.block 0 (.loop b0))) (.seq (.reg 4544 2 r15) (.ret)))))) }
attribute [go_sem] r0 r1 r2 r3 r4 r5 r6 r7 r8 r9 r10 r11 r12 r13 r14 r15
theorem ok:chkF prog Zcx 3 fi=true:=by kernel_rfl
end spec_l14All
namespace spec_WaysThrough
def r0:List Ent:=[
 qe 0 2 (.mv (.k (.nil 2))),
 qe 1 3 (.mv xF)]
def r1:List Ent:=[
 qm 0 5 0,
 qc 1 6 (qV Zbn 5),
 qe 2 7 (qN 6)]
def r2:List Ent:=[
 qe 0 2 (.mv (.k (.nil 2))),
 qe 1 3 (.mv xF)]
def r3:List Ent:=[
 qm 0 8 0,
 qe 1 9 (.bsl false 1 [xN 0]),
 qe 2 10 (.bld [.t 9,.k (.nil 1)]),
 qc 3 11 (.call Zcx false [(.ro,.t 8),(.ro,.t 10),(.co,.k (.nil 2))]),
 qm 4 4 11]
def r4:List Ent:=[
 qm 0 12 4,
 qe 1 13 (qZ 12),
 qe 2 14 (qK .gtr 13 64)]
def r5:List Ent:=[
 qe 0 2 (.mv (.k (.nil 2))),
 qe 1 3 (.mv xF)]
def r6:List Ent:=[
 qm 0 15 4,
 qm 1 2 15,
 qe 2 3 (.mv xT)]
def fi:FI:={ res:=[.t 2,.t 3],code:=.seq (.reg 64 2 r0) (.seq (.seq (.reg 192 3 r1) (.cond (.t 7) (.seq (.reg 384 2 r2) (.ret)) (.skip))) (.seq (.reg 512 5 r3) (.seq (.seq (.reg 832 3 r4) (.cond (.t 14) (.seq (.reg 1024 2 r5) (.ret)) (.skip))) (.seq (.reg 1152 3 r6) (.ret))))) }
attribute [go_sem] r0 r1 r2 r3 r4 r5 r6
theorem ok:chkF prog ZbN 1 fi=true:=by kernel_rfl
end spec_WaysThrough
namespace spec_pl1Cur_way
def r0:List Ent:=[
 qe 0 4 (.box (.k (.agg [.nil 1,.nil 1])))]
def r1:List Ent:=[
 qm 0 9 1,
 qc 1 10 (qV ZbN 9),
 qm 2 8 10,
 qe 3 11 (qX 0 8),
 qe 4 12 (qX 1 8),
 qm 5 5 11,
 qm 6 6 12]
def r2:List Ent:=[
 qm 0 13 5,
 qe 1 14 (qZ 13),
 qe 2 15 (qK .eql 14 0)]
def r3:List Ent:=[
 qe 0 16 (.bsl false 1 [xN 0]),
 qe 1 17 (.bld [.t 16,.k (.nil 1)]),
 qs 2 (qW 2 4 17)]
def r4:List Ent:=[
 qm 0 18 5,
 qm 1 19 0,
 qm 2 20 5,
 qe 3 21 (qZ 20),
 qc 4 22 (.call Zan true [(.io,.t 19),(.ro,.t 21)]),
 qe 5 23 (qI 2 18 22),
 qc 6 24 (.tkl 2 (.t 23)),
 qe 7 7 (.box (.k (.agg [.nil 1,.nil 1]))),
 qs 8 (qW 2 7 24)]
def r5:List Ent:=[
 qe 0 25 (qD 1 7),
 qe 1 26 (qL 1 25),
 qe 2 27 (qZ 26),
 qe 3 28 (qK .gtr 27 0),
 qm 4 29 28,
 qt 5 30 29 (qM 0),
 qh 6 31 29 (.call ZaV true [(.io,.t 30),(.ro,xN 12)]),
 qe 7 32 (.pick (.t 29) (.t 31) xF)]
def r6:List Ent:=[
 qr 0 33 (qD 1 7),
 qr 1 34 (qL 1 33),
 qr 2 35 (qD 1 7),
 qr 3 36 (qL 1 35),
 qr 4 37 (.iad 1 (.t 36) (xN 0)),
 qr 5 38 (qL 1 37),
 qe 6 39 (qN 38),
 qe 7 40 (.iad 1 (.t 34) (xN 0)),
 qs 8 (qW 1 40 39)]
def r7:List Ent:=[
 qe 0 41 (qA 2 7),
 qs 1 (qW 2 4 41)]
def fi:FI:={ res:=[.c 4 true 2],code:=.seq (.reg 64 1 r0) (.seq (.reg 128 7 r1) (.seq (.seq (.reg 576 3 r2) (.cond (.t 15) (.seq (.reg 768 3 r3) (.ret)) (.skip))) (.seq (.reg 960 9 r4) (.seq (.seq (.reg 1536 8 r5) (.cond (.t 32) (.reg 2048 9 r6) (.skip))) (.seq (.reg 2624 2 r7) (.ret)))))) }
attribute [go_sem] r0 r1 r2 r3 r4 r5 r6 r7
theorem ok:chkF prog Za7 2 fi=true:=by kernel_rfl
end spec_pl1Cur_way
namespace spec_DrawFollowWay
def r0:List Ent:=[
 qe 0 2 (.mv (.k (.nil 6))),
 qe 1 3 (.mv (.k (.nil 1))),
 qe 2 4 (.box (.k (.agg [.nil 1,.nil 1])))]
def r1:List Ent:=[
 qm 0 7 0,
 qe 1 8 (.bld [.t 7,.k (.dat none (.int .i64 0)),.k (.dat none (.int .u64 0))]),
 qe 2 9 (.box (.t 8)),
 qm 3 5 9]
def r2:List Ent:=[
 qm 0 10 5,
 qc 1 11 (.call ZaD true [(.io,.t 10)]),
 qm 2 6 11]
def r3:List Ent:=[
 qm 0 12 6,
 qm 1 13 5,
 qc 2 14 (.call Za9 true [(.io,.t 13)]),
 qm 3 15 5,
 qm 4 16 6,
 qc 5 17 (.call Za7 true [(.io,.t 15),(.ro,.t 16)]),
 qm 6 2 12,
 qm 7 3 14,
 qs 8 (qW 2 4 17)]
def fi:FI:={ res:=[.t 2,.t 3,.c 4 true 2],code:=.seq (.reg 64 3 r0) (.seq (.reg 256 4 r1) (.seq (.reg 512 3 r2) (.seq (.fz 6 (.reg 704 9 r3)) (.ret)))) }
attribute [go_sem] r0 r1 r2 r3
theorem ok:chkF prog ZbE 1 fi=true:=by kernel_rfl
end spec_DrawFollowWay
namespace slices_Equal__sbool_bool
def r0:List Ent:=[
 qe 0 4 (.mv xF)]
def r1:List Ent:=[
 qm 0 6 0,
 qe 1 7 (qZ 6),
 qm 2 8 1,
 qe 3 9 (qZ 8),
 qe 4 10 (qB .neq 7 9)]
def r2:List Ent:=[
 qe 0 4 (.mv xF)]
def r3:List Ent:=[
 qm 0 11 0,
 qe 1 12 (qZ 11),
 qe 2 13 (.mv (xN 0))]
def r4:List Ent:=[
 qe 0 14 (qB .lss 13 12)]
def r5:List Ent:=[
 qm 0 15 13,
 qm 1 5 15]
def r6:List Ent:=[
 qm 0 16 0,
 qm 1 17 5,
 qr 2 18 (qI 1 16 17),
 qr 3 19 (qL 1 18),
 qm 4 20 1,
 qm 5 21 5,
 qr 6 22 (qI 1 20 21),
 qr 7 23 (qL 1 22),
 qe 8 24 (.eqb true (.t 19) (.t 23))]
def r7:List Ent:=[
 qe 0 4 (.mv xF)]
def r8:List Ent:=[
 qe 0 25 (qK .add 13 1),
 qm 1 13 25]
def b0:KC:=.seq (.reg 704 1 r4) (.seq (.cond (.t 14) (.skip) (.exit 0)) (.seq (.block 1 (.seq (.reg 768 2 r5) (.seq (.reg 896 9 r6) (.cond (.t 24) (.seq (.reg 1472 1 r7) (.ret)) (.skip))))) (.reg 1536 2 r8)))
def r9:List Ent:=[
 qe 0 4 (.mv xT)]
def fi:FI:={ res:=[.t 4],code:=.seq (.reg 64 1 r0) (.seq (.seq (.reg 128 5 r1) (.cond (.t 10) (.seq (.reg 448 1 r2) (.ret)) (.skip))) (.seq (.seq (.reg 512 3 r3) (.block 0 (.loop b0))) (.seq (.reg 1664 1 r9) (.ret)))) }
attribute [go_sem] r0 r1 r2 r3 r4 r5 r6 r7 r8 r9
theorem ok:chkF prog Za0 2 fi=true:=by kernel_rfl
end slices_Equal__sbool_bool
namespace impl_turnsOf
def r0:List Ent:=[
 qe 0 4 (.mv (.k (.nil 1)))]
def r1:List Ent:=[
 qe 0 5 (.mv (.k (.nil 1)))]
def r2:List Ent:=[
 qm 0 8 1,
 qe 1 9 (qZ 8),
 qe 2 10 (.mv (xN 0))]
def r3:List Ent:=[
 qe 0 11 (qB .lss 10 9)]
def r4:List Ent:=[
 qm 0 12 10,
 qe 1 13 (qI 1 8 10),
 qe 2 14 (qL 1 13),
 qm 3 6 12,
 qm 4 7 14]
def r5:List Ent:=[
 qm 0 15 0,
 qm 1 16 7,
 qe 2 17 (qI 6 15 16),
 qe 3 18 (qA 6 17),
 qc 4 19 (qV ZaQ 18),
 qm 5 20 19,
 qt 6 21 20 (qM 6),
 qt 7 22 20 (qK .add 21 1),
 qt 8 23 20 (qM 1),
 qt 9 24 20 (qZ 23),
 qt 10 25 20 (qB .lss 22 24),
 qe 11 26 (.pick (.t 20) (.t 25) xF)]
def r6:List Ent:=[
 qm 0 27 5,
 qm 1 28 1,
 qm 2 29 6,
 qe 3 30 (qK .add 29 1),
 qr 4 31 (qI 1 28 30),
 qr 5 32 (qL 1 31),
 qm 6 33 7,
 qm 7 34 0,
 qm 8 35 7,
 qr 9 36 (qI 6 34 35),
 qr 10 37 (qD 5 36),
 qr 11 38 (qL 1 37),
 qe 12 39 (qB .add 33 38),
 qe 13 40 (qK .add 39 1),
 qe 14 41 (qB .eql 32 40),
 qe 15 42 (.bsl true 1 [.t 41]),
 qe 16 43 (.app 1 1 (.t 27) (.t 42)),
 qm 17 5 43]
def r7:List Ent:=[
 qe 0 44 (qK .add 10 1),
 qm 1 10 44]
def b0:KC:=.seq (.reg 384 1 r3) (.seq (.cond (.t 11) (.skip) (.exit 0)) (.seq (.block 1 (.seq (.reg 448 5 r4) (.seq (.reg 768 12 r5) (.cond (.t 26) (.reg 1536 18 r6) (.skip))))) (.reg 2688 2 r7)))
def r8:List Ent:=[
 qm 0 45 5,
 qm 1 4 45]
def fi:FI:={ res:=[.t 4],code:=.seq (.reg 64 1 r0) (.seq (.reg 128 1 r1) (.seq (.seq (.reg 192 3 r2) (.nrm 5 2560 1 (.block 0 (.loop b0)))) (.seq (.reg 2816 2 r8) (.ret)))) }
attribute [go_sem] r0 r1 r2 r3 r4 r5 r6 r7 r8
theorem ok:chkF prog ZcU 2 fi=true:=by kernel_rfl
end impl_turnsOf
namespace impl_GoodWay
def r0:List Ent:=[
 qe 0 3 (.box (.t 1)),
 qe 1 4 (.mv xF)]
def r1:List Ent:=[
 qm 0 6 0,
 qc 1 7 (qV Zbl 6),
 qe 2 8 (qN 7),
 qm 3 9 8,
 qf 4 10 9 (qD 0 3),
 qf 5 11 9 (qL 1 10),
 qf 6 12 9 (qZ 11),
 qf 7 13 9 (qK .eql 12 0),
 qe 8 14 (.pick (.t 9) xT (.t 13)),
 qm 9 15 14,
 qf 10 16 15 (qD 0 3),
 qf 11 17 15 (qL 1 16),
 qf 12 18 15 (.iad 1 (.t 17) (xN 0)),
 qf 13 19 15 (qL 1 18),
 qf 14 20 15 (qK .neq 19 0),
 qe 15 21 (.pick (.t 15) xT (.t 20))]
def r2:List Ent:=[
 qe 0 4 (.mv xF)]
def r3:List Ent:=[
 qe 0 5 (.mv (xN 1))]
def r4:List Ent:=[
 qm 0 22 5,
 qe 1 23 (qD 0 3),
 qe 2 24 (qL 1 23),
 qe 3 25 (qZ 24),
 qe 4 26 (qB .lss 22 25)]
def r5:List Ent:=[
 qm 0 29 0,
 qr 1 30 (qD 0 3),
 qr 2 31 (qL 1 30),
 qm 3 32 5,
 qe 4 33 (qK .sub 32 1),
 qr 5 34 (qI 1 31 33),
 qr 6 35 (qL 1 34),
 EP 7 (some 36) none (.call ZcT false (roA [.t 29,.t 35])) 1 false,
 qx 8 37 (qD 0 3) 2 [7] [] false,
 qx 9 38 (qL 1 37) 2 [7] [] false,
 qm 10 39 5,
 qx 11 40 (qI 1 38 39) 2 [7] [] false,
 qx 12 41 (qL 1 40) 2 [7] [] false,
 qc 13 42 (qC ZaX [.t 36,.t 41]),
 qe 14 43 (qN 42)]
def r6:List Ent:=[
 qe 0 4 (.mv xF)]
def r7:List Ent:=[
 qm 0 27 5,
 qe 1 28 (qK .add 27 1),
 qm 2 5 28]
def b0:KC:=.seq (.seq (.reg 1344 5 r4) (.cond (.t 26) (.skip) (.exit 0))) (.seq (.block 1 (.seq (.reg 1664 15 r5) (.cond (.t 43) (.seq (.reg 2624 1 r6) (.ret)) (.skip)))) (.reg 2688 3 r7))
def r8:List Ent:=[
 qm 0 44 0,
 qr 1 45 (qD 0 3),
 qr 2 46 (qL 1 45),
 qr 3 47 (qD 0 3),
 qr 4 48 (qL 1 47),
 qr 5 49 (qZ 48),
 qe 6 50 (qK .sub 49 1),
 qe 7 51 (qI 1 46 50),
 qe 8 52 (qL 1 51),
 qe 9 53 (qI 6 44 52),
 qe 10 54 (qD 0 53),
 qe 11 55 (qL 1 54),
 qe 12 56 (qK .eql 55 11),
 qm 13 57 56,
 qt 14 58 57 (qM 0),
 ER 15 (some 59) (some (57,true)) (qD 0 3),
 ER 16 (some 60) (some (57,true)) (qL 1 59),
 EP 17 (some 61) (some (57,true)) (.call ZcU false (roA [.t 58,.t 60])) 1 false,
 EX 18 (some 62) (some (57,true)) (.i (qD 1 3)) 2 [17] [] false,
 EX 19 (some 63) (some (57,true)) (.i (qL 1 62)) 2 [17] [] false,
 qh 20 64 57 (qC Za0 [.t 61,.t 63]),
 qe 21 65 (.pick (.t 57) (.t 64) xF),
 qm 22 4 65]
def fi:FI:={ res:=[.t 4],code:=.seq (.reg 64 2 r0) (.seq (.seq (.reg 192 16 r1) (.cond (.t 21) (.seq (.reg 1216 1 r2) (.ret)) (.skip))) (.seq (.seq (.reg 1280 1 r3) (.block 0 (.loop b0))) (.seq (.reg 2880 23 r8) (.ret)))) }
attribute [go_sem] r0 r1 r2 r3 r4 r5 r6 r7 r8
theorem ok:chkF prog Za4 2 fi=true:=by kernel_rfl
end impl_GoodWay
namespace impl_FollowWay
def r0:List Ent:=[
 qe 0 5 (.box (.t 2)),
 qe 1 6 (.mv (xN 0)),
 qe 2 7 (.mv (xN 0)),
 qe 3 8 (.mv xF)]
def r1:List Ent:=[
 qm 0 14 0,
 qe 1 15 (qA 2 5),
 qc 2 16 (qC Za4 [.t 14,.t 15]),
 qe 3 17 (qN 16),
 qm 4 18 17,
 qf 5 19 18 (qM 1),
 qj 6 20 18 (qV Zcq 19),
 qf 7 21 18 (qN 20),
 qe 8 22 (.pick (.t 18) xT (.t 21))]
def r2:List Ent:=[
 qe 0 6 (.mv (xN 0)),
 qe 1 7 (.mv (xN 0)),
 qe 2 8 (.mv xF)]
def r3:List Ent:=[
 qc 0 23 (qC ZbZ []),
 qe 1 9 (.box (.k (.agg [.dat none (.int .i64 0),.nil 1,.nil 1,.nil 1]))),
 qs 2 (qW 4 9 23)]
def r4:List Ent:=[
 qe 0 24 (qD 0 5),
 qe 1 25 (qL 1 24),
 qe 2 26 (qZ 25),
 qe 3 27 (.mv (xN 0))]
def r5:List Ent:=[
 qe 0 28 (qB .lss 27 26)]
def r6:List Ent:=[
 qm 0 29 27,
 qe 1 30 (qI 1 25 27),
 qe 2 31 (qL 1 30),
 qm 3 10 29,
 qm 4 11 31]
def r7:List Ent:=[
 qe 0 32 (qD 0 9),
 qe 1 33 (qL 1 32),
 qm 2 34 11,
 qe 3 35 (qB .neq 33 34)]
def r8:List Ent:=[
 qm 0 36 10,
 qm 1 6 36,
 qe 2 7 (.mv (xN 0)),
 qe 3 8 (.mv xT)]
def r9:List Ent:=[
 qm 0 38 0,
 qm 1 39 1,
 qc 2 40 (.call Za6 false [(.io,.t 9),(.ro,.t 38),(.ro,.t 39)]),
 qm 3 37 40,
 qe 4 41 (qX 0 37),
 qe 5 42 (qX 1 37),
 qm 6 12 41,
 qm 7 13 42]
def r10:List Ent:=[
 qm 0 43 12,
 qe 1 44 (qK .neq 43 0)]
def r11:List Ent:=[
 qm 0 45 10,
 qm 1 46 12,
 qm 2 6 45,
 qm 3 7 46,
 qe 4 8 (.mv xT)]
def r12:List Ent:=[
 qe 0 47 (qK .add 27 1),
 qm 1 27 47]
def b0:KC:=.seq (.reg 1536 1 r5) (.seq (.cond (.t 28) (.skip) (.exit 0)) (.seq (.block 1 (.seq (.reg 1600 5 r6) (.seq (.seq (.reg 1920 4 r7) (.cond (.t 35) (.seq (.reg 2176 4 r8) (.ret)) (.skip))) (.seq (.reg 2432 8 r9) (.seq (.reg 2944 2 r10) (.cond (.t 44) (.seq (.reg 3072 5 r11) (.ret)) (.skip))))))) (.reg 3392 2 r12)))
def r13:List Ent:=[
 qe 0 48 (qD 0 5),
 qe 1 49 (qL 1 48),
 qe 2 50 (qZ 49),
 qm 3 6 50,
 qe 4 7 (.mv (xN 0)),
 qe 5 8 (.mv xT)]
def fi:FI:={ res:=[.t 6,.t 7,.t 8],code:=.seq (.reg 64 4 r0) (.seq (.seq (.reg 320 9 r1) (.cond (.t 22) (.seq (.reg 896 3 r2) (.ret)) (.skip))) (.seq (.reg 1088 3 r3) (.seq (.seq (.reg 1280 4 r4) (.block 0 (.loop b0))) (.seq (.reg 3520 6 r13) (.ret))))) }
attribute [go_sem] r0 r1 r2 r3 r4 r5 r6 r7 r8 r9 r10 r11 r12 r13
theorem ok:chkF prog Zcp 3 fi=true:=by kernel_rfl
end impl_FollowWay
namespace spec_GoodWay
def r0:List Ent:=[
 qe 0 3 (.box (.t 1)),
 qe 1 4 (.mv xF)]
def r1:List Ent:=[
 qm 0 11 0,
 qc 1 12 (qV Zbn 11),
 qe 2 13 (qN 12),
 qm 3 14 13,
 qf 4 15 14 (qD 0 3),
 qf 5 16 14 (qL 1 15),
 qf 6 17 14 (qZ 16),
 qf 7 18 14 (qK .eql 17 0),
 qe 8 19 (.pick (.t 14) xT (.t 18)),
 qm 9 20 19,
 qf 10 21 20 (qD 0 3),
 qf 11 22 20 (qL 1 21),
 qf 12 23 20 (.iad 1 (.t 22) (xN 0)),
 qf 13 24 20 (qL 1 23),
 qf 14 25 20 (qK .neq 24 0),
 qe 15 26 (.pick (.t 20) xT (.t 25))]
def r2:List Ent:=[
 qe 0 4 (.mv xF)]
def r3:List Ent:=[
 qe 0 5 (.mv (xN 0))]
def r4:List Ent:=[
 qe 0 27 (qD 0 3),
 qe 1 28 (qL 1 27),
 qe 2 29 (qZ 28),
 qe 3 30 (.mv (xN 0))]
def r5:List Ent:=[
 qe 0 31 (qB .lss 30 29)]
def r6:List Ent:=[
 qm 0 32 30,
 qe 1 33 (qI 1 28 30),
 qe 2 34 (qL 1 33),
 qm 3 6 32,
 qm 4 7 34]
def r7:List Ent:=[
 qm 0 35 7,
 qe 1 36 (qK .lss 35 0),
 qm 2 37 36,
 qf 3 38 37 (qM 7),
 qf 4 39 37 (qM 0),
 qf 5 40 37 (qZ 39),
 qf 6 41 37 (qB .geq 38 40),
 qe 7 42 (.pick (.t 37) xT (.t 41))]
def r8:List Ent:=[
 qe 0 4 (.mv xF)]
def r9:List Ent:=[
 qm 0 43 6,
 qe 1 44 (qD 0 3),
 qe 2 45 (qL 1 44),
 qe 3 46 (qZ 45),
 qe 4 47 (qK .sub 46 1),
 qe 5 48 (qB .eql 43 47),
 qm 6 8 48]
def r10:List Ent:=[
 qm 0 49 8,
 qm 1 50 0,
 qm 2 51 7,
 qe 3 52 (qI 6 50 51),
 qe 4 53 (qD 0 52),
 qe 5 54 (qL 1 53),
 qe 6 55 (qK .eql 54 11),
 qe 7 56 (.eqb true (.t 49) (.t 55))]
def r11:List Ent:=[
 qe 0 4 (.mv xF)]
def r12:List Ent:=[
 qm 0 57 8]
def r13:List Ent:=[
 qm 0 58 0,
 qm 1 59 7,
 qc 2 60 (qC Zci [.t 58,.t 59]),
 qm 3 9 60]
def r14:List Ent:=[
 qm 0 61 9,
 qe 1 62 (.iad 1 (.t 61) (xN 0)),
 qe 2 63 (qL 1 62),
 qm 3 10 63]
def r15:List Ent:=[
 qm 0 64 0,
 qm 1 65 7,
 qe 2 66 (qI 6 64 65),
 qe 3 67 (qA 6 66),
 qc 4 68 (qV Zbf 67)]
def r16:List Ent:=[
 qm 0 69 5,
 qe 1 70 (qD 1 3),
 qe 2 71 (qL 1 70),
 qe 3 72 (qZ 71),
 qe 4 73 (qB .eql 69 72)]
def r17:List Ent:=[
 qe 0 4 (.mv xF)]
def r18:List Ent:=[
 qe 0 74 (qD 1 3),
 qe 1 75 (qL 1 74),
 qm 2 76 5,
 qe 3 77 (qI 1 75 76),
 qe 4 78 (qL 1 77)]
def r19:List Ent:=[
 qm 0 79 9,
 qe 1 80 (.iad 1 (.t 79) (xN 1)),
 qe 2 81 (qL 1 80),
 qm 3 10 81]
def r20:List Ent:=[
 qm 0 82 5,
 qe 1 83 (qK .add 82 1),
 qm 2 5 83]
def r21:List Ent:=[
 qe 0 84 (qD 0 3),
 qe 1 85 (qL 1 84),
 qm 2 86 6,
 qe 3 87 (qK .add 86 1),
 qe 4 88 (qI 1 85 87),
 qe 5 89 (qL 1 88),
 qm 6 90 10,
 qe 7 91 (qB .neq 89 90)]
def r22:List Ent:=[
 qe 0 4 (.mv xF)]
def r23:List Ent:=[
 qe 0 92 (qK .add 30 1),
 qm 1 30 92]
def b0:KC:=.seq (.reg 1600 1 r5) (.seq (.cond (.t 31) (.skip) (.exit 0)) (.seq (.block 1 (.seq (.reg 1664 5 r6) (.seq (.seq (.reg 1984 8 r7) (.cond (.t 42) (.seq (.reg 2496 1 r8) (.ret)) (.skip))) (.seq (.reg 2560 7 r9) (.seq (.seq (.reg 3008 8 r10) (.cond (.t 56) (.seq (.reg 3520 1 r11) (.ret)) (.skip))) (.seq (.seq (.reg 3584 1 r12) (.cond (.t 57) (.exit 0) (.skip))) (.seq (.reg 3648 4 r13) (.seq (.reg 3904 4 r14) (.seq (.seq (.reg 4160 5 r15) (.cond (.t 68) (.seq (.seq (.reg 4480 5 r16) (.cond (.t 73) (.seq (.reg 4800 1 r17) (.ret)) (.skip))) (.seq (.seq (.reg 4864 5 r18) (.cond (.t 78) (.reg 5184 4 r19) (.skip))) (.reg 5440 3 r20))) (.skip))) (.seq (.reg 5632 8 r21) (.cond (.t 91) (.seq (.reg 6144 1 r22) (.ret)) (.skip)))))))))))) (.reg 6208 2 r23)))
def r24:List Ent:=[
 qm 0 93 5,
 qe 1 94 (qD 1 3),
 qe 2 95 (qL 1 94),
 qe 3 96 (qZ 95),
 qe 4 97 (qB .eql 93 96),
 qm 5 4 97]
def fi:FI:={ res:=[.t 4],code:=.seq (.reg 64 2 r0) (.seq (.seq (.reg 192 16 r1) (.cond (.t 26) (.seq (.reg 1216 1 r2) (.ret)) (.skip))) (.seq (.reg 1280 1 r3) (.seq (.seq (.reg 1344 4 r4) (.block 0 (.loop b0))) (.seq (.reg 6336 6 r24) (.ret))))) }
attribute [go_sem] r0 r1 r2 r3 r4 r5 r6 r7 r8 r9 r10 r11 r12 r13 r14 r15 r16 r17 r18 r19 r20 r21 r22 r23 r24
theorem ok:chkF prog Za3 2 fi=true:=by kernel_rfl
end spec_GoodWay
namespace spec_FollowWay
def r0:List Ent:=[
 qe 0 5 (.box (.t 2)),
 qe 1 6 (.mv (xN 0)),
 qe 2 7 (.mv (xN 0)),
 qe 3 8 (.mv xF)]
def r1:List Ent:=[
 qm 0 15 0,
 qe 1 16 (qA 2 5),
 qc 2 17 (qC Za3 [.t 15,.t 16]),
 qe 3 18 (qN 17),
 qm 4 19 18,
 qf 5 20 19 (qM 1),
 qj 6 21 19 (qV ZdH 20),
 qf 7 22 19 (qN 21),
 qe 8 23 (.pick (.t 19) xT (.t 22))]
def r2:List Ent:=[
 qe 0 6 (.mv (xN 0)),
 qe 1 7 (.mv (xN 0)),
 qe 2 8 (.mv xF)]
def r3:List Ent:=[
 qc 0 24 (qC ZbY []),
 qe 1 9 (.box (.k (.agg [.dat none (.int .i64 0),.nil 1,.nil 1,.nil 1]))),
 qs 2 (qW 4 9 24)]
def r4:List Ent:=[
 qe 0 25 (qD 0 5),
 qe 1 26 (qL 1 25),
 qe 2 27 (qZ 26),
 qe 3 28 (.mv (xN 0))]
def r5:List Ent:=[
 qe 0 29 (qB .lss 28 27)]
def r6:List Ent:=[
 qm 0 30 28,
 qe 1 31 (qI 1 26 28),
 qe 2 32 (qL 1 31),
 qm 3 10 30,
 qm 4 11 32]
def r7:List Ent:=[
 qe 0 33 (qD 0 9),
 qe 1 34 (qL 1 33),
 qm 2 35 11,
 qe 3 36 (qB .neq 34 35)]
def r8:List Ent:=[
 qm 0 37 10,
 qm 1 6 37,
 qe 2 7 (.mv (xN 0)),
 qe 3 8 (.mv xT)]
def r9:List Ent:=[
 qm 0 39 0,
 qm 1 40 1,
 qe 2 41 (qA 4 9),
 qc 3 42 (.call Zdo false [(.ro,.t 39),(.ro,.t 40),(.co,.t 41)]),
 qm 4 38 42,
 qe 5 43 (qX 0 38),
 qe 6 44 (qX 1 38),
 qe 7 45 (qX 2 38),
 qe 8 12 (.box (.k (.agg [.dat none (.int .i64 0),.nil 1,.nil 1,.nil 1]))),
 qs 9 (qW 4 12 43),
 qm 10 13 44,
 qm 11 14 45]
def r10:List Ent:=[
 qm 0 46 13,
 qe 1 47 (qK .gtr 46 0)]
def r11:List Ent:=[
 qm 0 48 10,
 qm 1 49 13,
 qm 2 6 48,
 qm 3 7 49,
 qe 4 8 (.mv xT)]
def r12:List Ent:=[
 qe 0 50 (qA 4 12),
 qs 1 (qW 4 9 50)]
def r13:List Ent:=[
 qe 0 51 (qK .add 28 1),
 qm 1 28 51]
def b0:KC:=.seq (.reg 1536 1 r5) (.seq (.cond (.t 29) (.skip) (.exit 0)) (.seq (.block 1 (.seq (.reg 1600 5 r6) (.seq (.seq (.reg 1920 4 r7) (.cond (.t 36) (.seq (.reg 2176 4 r8) (.ret)) (.skip))) (.seq (.reg 2432 12 r9) (.seq (.seq (.reg 3200 2 r10) (.cond (.t 47) (.seq (.reg 3328 5 r11) (.ret)) (.skip))) (.reg 3648 2 r12)))))) (.reg 3776 2 r13)))
def r14:List Ent:=[
 qe 0 52 (qD 0 5),
 qe 1 53 (qL 1 52),
 qe 2 54 (qZ 53),
 qm 3 6 54,
 qe 4 7 (.mv (xN 0)),
 qe 5 8 (.mv xT)]
def fi:FI:={ res:=[.t 6,.t 7,.t 8],code:=.seq (.reg 64 4 r0) (.seq (.seq (.reg 320 9 r1) (.cond (.t 23) (.seq (.reg 896 3 r2) (.ret)) (.skip))) (.seq (.reg 1088 3 r3) (.seq (.seq (.reg 1280 4 r4) (.block 0 (.loop b0))) (.seq (.reg 3904 6 r14) (.ret))))) }
attribute [go_sem] r0 r1 r2 r3 r4 r5 r6 r7 r8 r9 r10 r11 r12 r13 r14
theorem ok:chkF prog Zct 3 fi=true:=by kernel_rfl
end spec_FollowWay
namespace impl_MayTake
def r0:List Ent:=[
 qe 0 3 (.box (.t 1)),
 qe 1 4 (.mv xF),
 qe 2 5 (.mv xF)]
def r1:List Ent:=[
 qm 0 14 0,
 qe 1 15 (qA 2 3),
 qc 2 16 (qC Za4 [.t 14,.t 15]),
 qe 3 17 (qN 16)]
def r2:List Ent:=[
 qe 0 4 (.mv xF),
 qe 1 5 (.mv xF)]
def r3:List Ent:=[
 EX 0 (some 18) none (.call ZbP false (roA [])) 1 [3] [] false,
 qx 3 6 (.box (.k (.agg [.nil 2,.nil 2,.nil 2,.nil 1]))) 1 [0] [] false,
 EP 4 none none (.i (qW 4 6 18)) 0 true,
 qx 1 19 (qD 1 3) 2 [0,3] [4] false,
 qx 2 20 (qL 1 19) 2 [0,3] [4] false,
 qm 5 7 20]
def r4:List Ent:=[
 qe 0 21 (qD 0 3),
 qe 1 22 (qL 1 21),
 qe 2 23 (qZ 22),
 qe 3 24 (.mv (xN 0))]
def r5:List Ent:=[
 qe 0 25 (qB .lss 24 23)]
def r6:List Ent:=[
 qe 0 26 (qI 1 22 24),
 qe 1 27 (qL 1 26),
 qm 2 9 27]
def r7:List Ent:=[
 qm 0 29 0,
 qm 1 30 9,
 qx 2 31 (qI 6 29 30) 2 [9] [] false,
 qx 3 32 (qA 6 31) 2 [9] [] false,
 qx 4 33 (qA 4 6) 2 [9] [] false,
 EX 5 (some 34) none (.call Zcg false (roA [.t 32,.t 33])) 1 [9] [] false,
 qm 6 28 34,
 qx 7 35 (qX 0 28) 2 [9] [] false,
 qx 9 10 (.box (.k (.agg [.nil 2,.nil 2,.nil 2,.nil 1]))) 1 [5] [] false,
 EP 10 none none (.i (qW 4 10 35)) 0 true,
 qx 8 36 (qX 1 28) 2 [9] [10] false,
 qm 11 11 36]
def r8:List Ent:=[
 qm 0 37 11,
 qe 1 38 (qK .neq 37 0)]
def r9:List Ent:=[
 qe 0 4 (.mv xF),
 qe 1 5 (.mv xT)]
def r10:List Ent:=[
 qe 0 39 (qA 4 10),
 qs 1 (qW 4 6 39)]
def r11:List Ent:=[
 qm 0 40 0,
 qm 1 41 9,
 qe 2 42 (qI 6 40 41),
 qe 3 43 (qA 6 42),
 qc 4 44 (qV ZaQ 43)]
def r12:List Ent:=[
 qm 0 46 0,
 qm 1 47 9,
 qx 2 48 (qI 6 46 47) 2 [12] [] false,
 qx 3 49 (qA 6 48) 2 [12] [] false,
 qx 4 50 (qA 4 6) 2 [12] [] false,
 qm 5 51 7,
 qx 6 52 (.iad 1 (.t 51) (xN 0)) 2 [12] [] false,
 qx 7 53 (qL 1 52) 2 [12] [] false,
 EX 8 (some 54) none (.call ZbW false (roA [.t 49,.t 50,.t 53])) 1 [12] [] false,
 qm 9 45 54,
 qx 10 55 (qX 0 45) 2 [12] [] false,
 qx 12 12 (.box (.k (.agg [.nil 2,.nil 2,.nil 2,.nil 1]))) 1 [8] [] false,
 EP 13 none none (.i (qW 4 12 55)) 0 true,
 qx 11 56 (qX 1 45) 2 [12] [13] false,
 qm 14 13 56]
def r13:List Ent:=[
 qm 0 57 13,
 qe 1 58 (qN 57)]
def r14:List Ent:=[
 qe 0 4 (.mv xF),
 qe 1 5 (.mv xT)]
def r15:List Ent:=[
 qr 0 59 (qA 4 12),
 qm 1 60 7,
 EP 3 none none (.i (qW 4 6 59)) 0 true,
 qx 2 61 (.slc 1 (.t 60) (some (xN 1)) (none)) 2 [] [3] false,
 qm 4 7 61]
def r16:List Ent:=[
 qe 0 62 (qK .add 24 1),
 qm 1 24 62]
def b0:KC:=.seq (.reg 1280 1 r5) (.seq (.cond (.t 25) (.skip) (.exit 0)) (.seq (.block 1 (.seq (.reg 1344 3 r6) (.seq (.reg 1536 12 r7) (.seq (.seq (.reg 2304 2 r8) (.cond (.t 38) (.seq (.reg 2432 2 r9) (.ret)) (.skip))) (.seq (.reg 2560 2 r10) (.seq (.reg 2688 5 r11) (.cond (.t 44) (.seq (.reg 3008 15 r12) (.seq (.seq (.reg 3968 2 r13) (.cond (.t 58) (.seq (.reg 4096 2 r14) (.ret)) (.skip))) (.reg 4224 5 r15))) (.skip)))))))) (.reg 4544 2 r16)))
def r17:List Ent:=[
 qe 0 4 (.mv xT),
 qe 1 5 (.mv xT)]
def fi:FI:={ res:=[.t 4,.t 5],code:=.seq (.reg 64 3 r0) (.seq (.seq (.reg 256 4 r1) (.cond (.t 17) (.seq (.reg 512 2 r2) (.ret)) (.skip))) (.seq (.reg 640 6 r3) (.seq (.seq (.reg 1024 4 r4) (.block 0 (.loop b0))) (.seq (.reg 4672 2 r17) (.ret))))) }
attribute [go_sem] r0 r1 r2 r3 r4 r5 r6 r7 r8 r9 r10 r11 r12 r13 r14 r15 r16 r17
theorem ok:chkF prog Zcc 2 fi=true:=by kernel_rfl
end impl_MayTake
namespace impl_TurnsIn
def r0:List Ent:=[
 qe 0 3 (.box (.t 1)),
 qe 1 4 (.mv (xN 0)),
 qe 2 5 (.mv xF)]
def r1:List Ent:=[
 qm 0 6 0,
 qe 1 7 (qA 2 3),
 qc 2 8 (qC Za4 [.t 6,.t 7]),
 qe 3 9 (qN 8)]
def r2:List Ent:=[
 qe 0 4 (.mv (xN 0)),
 qe 1 5 (.mv xF)]
def r3:List Ent:=[
 qe 0 10 (qD 1 3),
 qe 1 11 (qL 1 10),
 qe 2 12 (qZ 11),
 qm 3 4 12,
 qe 4 5 (.mv xT)]
def fi:FI:={ res:=[.t 4,.t 5],code:=.seq (.reg 64 3 r0) (.seq (.seq (.reg 256 4 r1) (.cond (.t 9) (.seq (.reg 512 2 r2) (.ret)) (.skip))) (.seq (.reg 640 5 r3) (.ret))) }
attribute [go_sem] r0 r1 r2 r3
theorem ok:chkF prog Zce 2 fi=true:=by kernel_rfl
end impl_TurnsIn
namespace slices_Compact__sint_int
def r0:List Ent:=[
 qe 0 2 (.mv (.k (.nil 1)))]
def r1:List Ent:=[
 qm 0 6 0,
 qe 1 7 (qZ 6),
 qe 2 8 (qK .lss 7 2)]
def r2:List Ent:=[
 qm 0 9 0,
 qm 1 2 9]
def r3:List Ent:=[
 qe 0 3 (.mv (xN 1))]
def r4:List Ent:=[
 qm 0 10 3,
 qm 1 11 0,
 qe 2 12 (qZ 11),
 qe 3 13 (qB .lss 10 12)]
def r5:List Ent:=[
 qm 0 16 0,
 qm 1 17 3,
 qr 2 18 (qI 1 16 17),
 qr 3 19 (qL 1 18),
 qm 4 20 0,
 qm 5 21 3,
 qe 6 22 (qK .sub 21 1),
 qr 7 23 (qI 1 20 22),
 qr 8 24 (qL 1 23),
 qe 9 25 (qB .eql 19 24)]
def r6:List Ent:=[
 qm 0 26 0,
 qm 1 27 3,
 qe 2 28 (.slc 1 (.t 26) (some (.t 27)) (none)),
 qm 3 4 28]
def r7:List Ent:=[
 qe 0 5 (.mv (xN 1))]
def r8:List Ent:=[
 qm 0 29 5,
 qm 1 30 4,
 qe 2 31 (qZ 30),
 qe 3 32 (qB .lss 29 31)]
def r9:List Ent:=[
 qm 0 35 4,
 qm 1 36 5,
 qr 2 37 (qI 1 35 36),
 qr 3 38 (qL 1 37),
 qm 4 39 4,
 qm 5 40 5,
 qe 6 41 (qK .sub 40 1),
 qr 7 42 (qI 1 39 41),
 qr 8 43 (qL 1 42),
 qe 9 44 (qB .neq 38 43)]
def r10:List Ent:=[
 qm 0 45 0,
 qm 1 46 3,
 qm 2 47 4,
 qm 3 48 5,
 qe 4 49 (qI 1 47 48),
 qe 5 50 (qL 1 49),
 qe 6 51 (qI 1 45 46),
 qs 7 (qW 1 51 50)]
def r11:List Ent:=[
 qm 0 52 3,
 qe 1 53 (qK .add 52 1),
 qm 2 3 53]
def r12:List Ent:=[
 qm 0 33 5,
 qe 1 34 (qK .add 33 1),
 qm 2 5 34]
def b0:KC:=.seq (.seq (.reg 1728 4 r8) (.cond (.t 32) (.skip) (.exit 2))) (.seq (.block 3 (.seq (.reg 1984 10 r9) (.cond (.t 44) (.seq (.reg 2624 8 r10) (.reg 3136 3 r11)) (.skip)))) (.reg 3328 3 r12))
def r13:List Ent:=[
 qm 0 54 0,
 qm 1 55 3,
 qe 2 56 (.slc 1 (.t 54) (some (.t 55)) (none)),
 qs 3 (.clr 1 (.int .i64 0) (.t 56))]
def r14:List Ent:=[
 qm 0 57 0,
 qm 1 58 3,
 qe 2 59 (.slc 1 (.t 57) (none) (some (.t 58))),
 qm 3 2 59]
def r15:List Ent:=[
 qm 0 14 3,
 qe 1 15 (qK .add 14 1),
 qm 2 3 15]
def b1:KC:=.seq (.seq (.reg 512 4 r4) (.cond (.t 13) (.skip) (.exit 0))) (.seq (.block 1 (.seq (.reg 768 10 r5) (.cond (.t 25) (.seq (.reg 1408 4 r6) (.seq (.seq (.reg 1664 1 r7) (.block 2 (.loop b0))) (.seq (.reg 3520 4 r13) (.seq (.reg 3776 4 r14) (.ret))))) (.skip)))) (.reg 4032 3 r15))
def r16:List Ent:=[
 qm 0 60 0,
 qm 1 2 60]
def fi:FI:={ res:=[.t 2],code:=.seq (.reg 64 1 r0) (.seq (.seq (.reg 128 3 r1) (.cond (.t 8) (.seq (.reg 320 2 r2) (.ret)) (.skip))) (.seq (.seq (.reg 448 1 r3) (.block 0 (.loop b1))) (.seq (.reg 4224 2 r16) (.ret)))) }
attribute [go_sem] r0 r1 r2 r3 r4 r5 r6 r7 r8 r9 r10 r11 r12 r13 r14 r15 r16
theorem ok:chkF prog ZaZ 1 fi=true:=by kernel_rfl
end slices_Compact__sint_int
namespace impl_PlacesRead
def r0:List Ent:=[
 qe 0 3 (.box (.t 1)),
 qe 1 4 (.mv (.k (.nil 1))),
 qe 2 5 (.mv xF)]
def r1:List Ent:=[
 qm 0 9 0,
 qe 1 10 (qA 2 3),
 qc 2 11 (qC Za4 [.t 9,.t 10]),
 qe 3 12 (qN 11)]
def r2:List Ent:=[
 qe 0 4 (.mv (.k (.nil 1))),
 qe 1 5 (.mv xF)]
def r3:List Ent:=[
 qe 0 6 (.mv (.k (.nil 1)))]
def r4:List Ent:=[
 qe 0 13 (qD 0 3),
 qe 1 14 (qL 1 13),
 qe 2 15 (qZ 14),
 qe 3 16 (.mv (xN 0))]
def r5:List Ent:=[
 qe 0 17 (qB .lss 16 15)]
def r6:List Ent:=[
 qe 0 18 (qI 1 14 16),
 qe 1 19 (qL 1 18),
 qm 2 8 19]
def r7:List Ent:=[
 qm 0 20 0,
 qm 1 21 8,
 qe 2 22 (qI 6 20 21),
 qe 3 23 (qD 0 22),
 qe 4 24 (qL 1 23),
 qe 5 25 (qK .eql 24 5)]
def r8:List Ent:=[
 qm 0 26 6,
 qm 1 27 0,
 qm 2 28 8,
 qe 3 29 (qI 6 27 28),
 qe 4 30 (qD 4 29),
 qe 5 31 (qL 1 30),
 qe 6 32 (.bsl true 1 [.t 31]),
 qe 7 33 (.app 1 8 (.t 26) (.t 32)),
 qm 8 6 33]
def r9:List Ent:=[
 qe 0 34 (qK .add 16 1),
 qm 1 16 34]
def b0:KC:=.seq (.reg 960 1 r5) (.seq (.cond (.t 17) (.skip) (.exit 0)) (.seq (.block 1 (.seq (.reg 1024 3 r6) (.seq (.reg 1216 6 r7) (.cond (.t 25) (.reg 1600 9 r8) (.skip))))) (.reg 2176 2 r9)))
def r10:List Ent:=[
 qm 0 35 6,
 qc 1 36 (.call ZbS false [(.io,.t 35)])]
def r11:List Ent:=[
 qm 0 37 6,
 qc 1 38 (.call ZaZ false [(.co,.t 37)]),
 qm 2 4 38,
 qe 3 5 (.mv xT)]
def fi:FI:={ res:=[.t 4,.t 5],code:=.seq (.reg 64 3 r0) (.seq (.seq (.reg 256 4 r1) (.cond (.t 12) (.seq (.reg 512 2 r2) (.ret)) (.skip))) (.seq (.reg 640 1 r3) (.seq (.seq (.reg 704 4 r4) (.nrm 6 2048 1 (.block 0 (.loop b0)))) (.seq (.reg 2304 2 r10) (.seq (.reg 2432 4 r11) (.ret)))))) }
attribute [go_sem] r0 r1 r2 r3 r4 r5 r6 r7 r8 r9 r10 r11
theorem ok:chkF prog ZbC 2 fi=true:=by kernel_rfl
end impl_PlacesRead
namespace spec_DrawGoodWay
def r0:List Ent:=[
 qe 0 2 (.mv (.k (.nil 6))),
 qe 1 3 (.box (.k (.agg [.nil 1,.nil 1])))]
def r1:List Ent:=[
 qm 0 6 0,
 qe 1 7 (.bld [.t 6,.k (.dat none (.int .i64 0)),.k (.dat none (.int .u64 0))]),
 qe 2 8 (.box (.t 7)),
 qm 3 4 8]
def r2:List Ent:=[
 qm 0 9 4,
 qc 1 10 (.call ZaD true [(.io,.t 9)]),
 qm 2 5 10]
def r3:List Ent:=[
 qm 0 11 5,
 qm 1 12 4,
 qm 2 13 5,
 qc 3 14 (.call Za7 true [(.io,.t 12),(.ro,.t 13)]),
 qm 4 2 11,
 qs 5 (qW 2 3 14)]
def fi:FI:={ res:=[.t 2,.c 3 true 2],code:=.seq (.reg 64 2 r0) (.seq (.reg 192 4 r1) (.seq (.reg 448 3 r2) (.seq (.fz 5 (.reg 640 6 r3)) (.ret)))) }
attribute [go_sem] r0 r1 r2 r3
theorem ok:chkF prog ZbQ 1 fi=true:=by kernel_rfl
end spec_DrawGoodWay
namespace spec_DrawMayTake
def r0:List Ent:=[
 qe 0 2 (.mv (.k (.nil 6))),
 qe 1 3 (.box (.k (.agg [.nil 1,.nil 1])))]
def r1:List Ent:=[
 qm 0 4 0,
 qc 1 5 (.call ZbQ true (roA [.t 4])),
 qe 2 6 (qX 0 5),
 qe 3 7 (qX 1 5),
 qm 4 2 6,
 qs 5 (qW 2 3 7)]
def fi:FI:={ res:=[.t 2,.c 3 true 2],code:=.seq (.reg 64 2 r0) (.seq (.reg 192 6 r1) (.ret)) }
attribute [go_sem] r0 r1
theorem ok:chkF prog ZbV 1 fi=true:=by kernel_rfl
end spec_DrawMayTake
namespace spec_MayTake
def r0:List Ent:=[
 qe 0 3 (.box (.t 1)),
 qe 1 4 (.mv xF),
 qe 2 5 (.mv xF)]
def r1:List Ent:=[
 qm 0 14 0,
 qe 1 15 (qA 2 3),
 qc 2 16 (qC Za3 [.t 14,.t 15]),
 qe 3 17 (qN 16)]
def r2:List Ent:=[
 qe 0 4 (.mv xF),
 qe 1 5 (.mv xF)]
def r3:List Ent:=[
 qc 0 18 (qC ZcE []),
 qe 1 6 (.box (.k (.agg [.nil 2,.nil 2,.nil 2,.nil 1]))),
 qs 2 (qW 4 6 18)]
def r4:List Ent:=[
 qe 0 7 (.mv (xN 0))]
def r5:List Ent:=[
 qe 0 19 (qD 0 3),
 qe 1 20 (qL 1 19),
 qe 2 21 (qZ 20),
 qe 3 22 (.mv (xN 0))]
def r6:List Ent:=[
 qe 0 23 (qB .lss 22 21)]
def r7:List Ent:=[
 qe 0 24 (qI 1 20 22),
 qe 1 25 (qL 1 24),
 qm 2 9 25]
def r8:List Ent:=[
 qm 0 27 0,
 qm 1 28 9,
 qx 2 29 (qI 6 27 28) 2 [9] [] false,
 qx 3 30 (qA 6 29) 2 [9] [] false,
 qx 4 31 (qA 4 6) 2 [9] [] false,
 EP 9 (some 10) none (.i (.box (.k (.agg [.nil 2,.nil 2,.nil 2,.nil 1])))) 1 false,
 EX 5 (some 32) none (.call Zc2 false [(.ro,.t 30),(.co,.t 31)]) 0 [9] [] false,
 qm 6 26 32,
 qx 7 33 (qX 0 26) 2 [9] [] false,
 EP 10 none none (.i (qW 4 10 33)) 0 true,
 qx 8 34 (qX 1 26) 2 [9] [10] false,
 qm 11 11 34]
def r9:List Ent:=[
 qm 0 35 11,
 qe 1 36 (qK .gtr 35 0)]
def r10:List Ent:=[
 qe 0 4 (.mv xF),
 qe 1 5 (.mv xT)]
def r11:List Ent:=[
 qe 0 37 (qA 4 10),
 qs 1 (qW 4 6 37)]
def r12:List Ent:=[
 qm 0 38 0,
 qm 1 39 9,
 qe 2 40 (qI 6 38 39),
 qe 3 41 (qA 6 40),
 qc 4 42 (qV Zbf 41),
 qe 5 43 (qN 42)]
def r13:List Ent:=[
 qm 0 45 0,
 qm 1 46 9,
 qx 2 47 (qI 6 45 46) 2 [14] [] false,
 qx 3 48 (qA 6 47) 2 [14] [] false,
 qx 4 49 (qA 4 6) 2 [14] [] false,
 qx 5 50 (qD 1 3) 2 [14] [] false,
 qx 6 51 (qL 1 50) 2 [14] [] false,
 qm 7 52 7,
 qx 8 53 (qI 1 51 52) 2 [14] [] false,
 qx 9 54 (qL 1 53) 2 [14] [] false,
 EP 14 (some 12) none (.i (.box (.k (.agg [.nil 2,.nil 2,.nil 2,.nil 1])))) 1 false,
 EX 10 (some 55) none (.call ZcV false [(.ro,.t 48),(.co,.t 49),(.ro,.t 54)]) 0 [14] [] false,
 qm 11 44 55,
 qx 12 56 (qX 0 44) 2 [14] [] false,
 EP 15 none none (.i (qW 4 12 56)) 0 true,
 qx 13 57 (qX 1 44) 2 [14] [15] false,
 qm 16 13 57]
def r14:List Ent:=[
 qm 0 58 13,
 qe 1 59 (qN 58)]
def r15:List Ent:=[
 qe 0 4 (.mv xF),
 qe 1 5 (.mv xT)]
def r16:List Ent:=[
 qe 0 60 (qA 4 12),
 qs 1 (qW 4 6 60)]
def r17:List Ent:=[
 qm 0 61 7,
 qe 1 62 (qK .add 61 1),
 qm 2 7 62]
def r18:List Ent:=[
 qe 0 63 (qK .add 22 1),
 qm 1 22 63]
def b0:KC:=.seq (.reg 1152 1 r6) (.seq (.cond (.t 23) (.skip) (.exit 0)) (.seq (.block 1 (.seq (.reg 1216 3 r7) (.seq (.reg 1408 12 r8) (.seq (.seq (.reg 2176 2 r9) (.cond (.t 36) (.seq (.reg 2304 2 r10) (.ret)) (.skip))) (.seq (.reg 2432 2 r11) (.seq (.seq (.reg 2560 6 r12) (.cond (.t 43) (.exit 1) (.skip))) (.seq (.reg 2944 17 r13) (.seq (.seq (.reg 4032 2 r14) (.cond (.t 59) (.seq (.reg 4160 2 r15) (.ret)) (.skip))) (.seq (.reg 4288 2 r16) (.reg 4416 3 r17)))))))))) (.reg 4608 2 r18)))
def r19:List Ent:=[
 qe 0 4 (.mv xT),
 qe 1 5 (.mv xT)]
def fi:FI:={ res:=[.t 4,.t 5],code:=.seq (.reg 64 3 r0) (.seq (.seq (.reg 256 4 r1) (.cond (.t 17) (.seq (.reg 512 2 r2) (.ret)) (.skip))) (.seq (.reg 640 3 r3) (.seq (.reg 832 1 r4) (.seq (.seq (.reg 896 4 r5) (.block 0 (.loop b0))) (.seq (.reg 4736 2 r19) (.ret)))))) }
attribute [go_sem] r0 r1 r2 r3 r4 r5 r6 r7 r8 r9 r10 r11 r12 r13 r14 r15 r16 r17 r18 r19
theorem ok:chkF prog ZcY 2 fi=true:=by kernel_rfl
end spec_MayTake
namespace spec_TurnsIn
def r0:List Ent:=[
 qe 0 3 (.box (.t 1)),
 qe 1 4 (.mv (xN 0)),
 qe 2 5 (.mv xF)]
def r1:List Ent:=[
 qm 0 6 0,
 qe 1 7 (qA 2 3),
 qc 2 8 (qC Za3 [.t 6,.t 7]),
 qe 3 9 (qN 8)]
def r2:List Ent:=[
 qe 0 4 (.mv (xN 0)),
 qe 1 5 (.mv xF)]
def r3:List Ent:=[
 qe 0 10 (qD 1 3),
 qe 1 11 (qL 1 10),
 qe 2 12 (qZ 11),
 qm 3 4 12,
 qe 4 5 (.mv xT)]
def fi:FI:={ res:=[.t 4,.t 5],code:=.seq (.reg 64 3 r0) (.seq (.seq (.reg 256 4 r1) (.cond (.t 9) (.seq (.reg 512 2 r2) (.ret)) (.skip))) (.seq (.reg 640 5 r3) (.ret))) }
attribute [go_sem] r0 r1 r2 r3
theorem ok:chkF prog ZcZ 2 fi=true:=by kernel_rfl
end spec_TurnsIn
namespace spec_PlacesRead
def r0:List Ent:=[
 qe 0 3 (.box (.t 1)),
 qe 1 4 (.mv (.k (.nil 1))),
 qe 2 5 (.mv xF)]
def r1:List Ent:=[
 qm 0 9 0,
 qe 1 10 (qA 2 3),
 qc 2 11 (qC Za3 [.t 9,.t 10]),
 qe 3 12 (qN 11)]
def r2:List Ent:=[
 qe 0 4 (.mv (.k (.nil 1))),
 qe 1 5 (.mv xF)]
def r3:List Ent:=[
 qe 0 6 (.mv (.k (.nil 1)))]
def r4:List Ent:=[
 qe 0 13 (qD 0 3),
 qe 1 14 (qL 1 13),
 qe 2 15 (qZ 14),
 qe 3 16 (.mv (xN 0))]
def r5:List Ent:=[
 qe 0 17 (qB .lss 16 15)]
def r6:List Ent:=[
 qe 0 18 (qI 1 14 16),
 qe 1 19 (qL 1 18),
 qm 2 8 19]
def r7:List Ent:=[
 qm 0 20 0,
 qm 1 21 8,
 qe 2 22 (qI 6 20 21),
 qe 3 23 (qD 0 22),
 qe 4 24 (qL 1 23),
 qe 5 25 (qK .eql 24 5)]
def r8:List Ent:=[
 qm 0 26 6,
 qm 1 27 0,
 qm 2 28 8,
 qe 3 29 (qI 6 27 28),
 qe 4 30 (qD 4 29),
 qe 5 31 (qL 1 30),
 qc 6 32 (.call ZdP false [(.co,.t 26),(.ro,.t 31)]),
 qm 7 6 32]
def r9:List Ent:=[
 qe 0 33 (qK .add 16 1),
 qm 1 16 33]
def b0:KC:=.seq (.reg 960 1 r5) (.seq (.cond (.t 17) (.skip) (.exit 0)) (.seq (.block 1 (.seq (.reg 1024 3 r6) (.seq (.reg 1216 6 r7) (.cond (.t 25) (.reg 1600 8 r8) (.skip))))) (.reg 2112 2 r9)))
def r10:List Ent:=[
 qm 0 34 6,
 qm 1 4 34,
 qe 2 5 (.mv xT)]
def fi:FI:={ res:=[.t 4,.t 5],code:=.seq (.reg 64 3 r0) (.seq (.seq (.reg 256 4 r1) (.cond (.t 12) (.seq (.reg 512 2 r2) (.ret)) (.skip))) (.seq (.reg 640 1 r3) (.seq (.seq (.reg 704 4 r4) (.block 0 (.loop b0))) (.seq (.reg 2240 3 r10) (.ret))))) }
attribute [go_sem] r0 r1 r2 r3 r4 r5 r6 r7 r8 r9 r10
theorem ok:chkF prog Zb8 2 fi=true:=by kernel_rfl
end spec_PlacesRead
namespace laws_FnTaken
def r0:List Ent:=[
 qe 0 4 (.mv xF)]
def r1:List Ent:=[
 qm 0 38 0,
 qe 1 39 (qZ 38),
 qm 2 40 1,
 qe 3 41 (qZ 40),
 qe 4 42 (qB .add 39 41),
 qe 5 43 (qK .gtr 42 1048576)]
def r2:List Ent:=[
 qe 0 4 (.mv xT)]
def r3:List Ent:=[
 qm 0 45 0,
 qc 1 46 (.call ZbE true (roA [.t 45])),
 qm 2 44 46,
 qe 3 47 (qX 0 44),
 qe 4 48 (qX 1 44),
 qe 5 49 (qX 2 44),
 qe 6 7 (.box (.k (.agg [.nil 1,.nil 1]))),
 qm 7 5 47,
 qm 8 6 48,
 qs 9 (qW 2 7 49)]
def r4:List Ent:=[
 qm 0 51 5,
 qm 1 52 6,
 qe 2 53 (qA 2 7),
 qc 3 54 (qC Zcp [.t 51,.t 52,.t 53]),
 qm 4 50 54,
 qe 5 55 (qX 0 50),
 qe 6 56 (qX 1 50),
 qe 7 57 (qX 2 50),
 qm 8 8 55,
 qm 9 9 56,
 qm 10 10 57]
def r5:List Ent:=[
 qm 0 59 5,
 qm 1 60 6,
 qe 2 61 (qA 2 7),
 qc 3 62 (qC Zct [.t 59,.t 60,.t 61]),
 qm 4 58 62,
 qe 5 63 (qX 0 58),
 qe 6 64 (qX 1 58),
 qe 7 65 (qX 2 58),
 qm 8 11 63,
 qm 9 12 64,
 qm 10 13 65]
def r6:List Ent:=[
 qm 0 66 10,
 qm 1 67 13,
 qe 2 68 (.eqb true (.t 66) (.t 67)),
 qm 3 69 68,
 qf 4 70 69 (qM 8),
 qf 5 71 69 (qM 11),
 qf 6 72 69 (qB .neq 70 71),
 qe 7 73 (.pick (.t 69) xT (.t 72)),
 qm 8 74 73,
 qf 9 75 74 (qM 9),
 qf 10 76 74 (qM 12),
 qf 11 77 74 (qB .neq 75 76),
 qe 12 78 (.pick (.t 74) xT (.t 77))]
def r7:List Ent:=[
 qe 0 4 (.mv xF)]
def r8:List Ent:=[
 qm 0 79 10]
def r9:List Ent:=[
 qm 0 81 5,
 qe 1 82 (qA 2 7),
 qc 2 83 (qC Zcc [.t 81,.t 82]),
 qm 3 80 83,
 qe 4 84 (qX 0 80),
 qe 5 85 (qX 1 80),
 qm 6 14 84,
 qm 7 15 85]
def r10:List Ent:=[
 qm 0 87 5,
 qe 1 88 (qA 2 7),
 qc 2 89 (qC Zce [.t 87,.t 88]),
 qm 3 86 89,
 qe 4 90 (qX 0 86),
 qe 5 91 (qX 1 86),
 qm 6 16 90,
 qm 7 17 91]
def r11:List Ent:=[
 qm 0 93 5,
 qe 1 94 (qA 2 7),
 qc 2 95 (qC ZbC [.t 93,.t 94]),
 qm 3 92 95,
 qe 4 96 (qX 0 92),
 qe 5 97 (qX 1 92),
 qm 6 18 96,
 qm 7 19 97]
def r12:List Ent:=[
 qm 0 98 15,
 qe 1 99 (qN 98),
 qm 2 100 99,
 qf 3 101 100 (qM 17),
 qf 4 102 100 (qN 101),
 qe 5 103 (.pick (.t 100) xT (.t 102)),
 qm 6 104 103,
 qf 7 105 104 (qM 19),
 qf 8 106 104 (qN 105),
 qe 9 107 (.pick (.t 104) xT (.t 106)),
 qm 10 108 107,
 qf 11 109 108 (qM 16),
 qf 12 110 108 (qD 1 7),
 qf 13 111 108 (qL 1 110),
 qf 14 112 108 (qZ 111),
 qf 15 113 108 (qB .neq 109 112),
 qe 16 114 (.pick (.t 108) xT (.t 113)),
 qm 17 115 114,
 qf 18 116 115 (qM 8),
 qf 19 117 115 (qD 0 7),
 qf 20 118 115 (qL 1 117),
 qf 21 119 115 (qZ 118),
 qf 22 120 115 (qB .gtr 116 119),
 qe 23 121 (.pick (.t 115) xT (.t 120)),
 qm 24 122 121,
 qf 25 123 122 (qM 14),
 qf 26 124 122 (qM 123),
 qt 27 125 124 (qM 9),
 qt 28 126 124 (qK .gtr 125 0),
 qf 29 127 122 (.pick (.t 124) (.t 126) xF),
 qe 30 128 (.pick (.t 122) xT (.t 127))]
def r13:List Ent:=[
 qe 0 4 (.mv xF)]
def r14:List Ent:=[
 qm 0 129 18,
 qe 1 130 (qZ 129),
 qe 2 131 (.mv (xN 0))]
def r15:List Ent:=[
 qe 0 132 (qB .lss 131 130)]
def r16:List Ent:=[
 qe 0 133 (qI 1 129 131),
 qe 1 134 (qL 1 133),
 qm 2 21 134]
def r17:List Ent:=[
 qm 0 135 21,
 qe 1 136 (qK .lss 135 0),
 qm 2 137 136,
 qf 3 138 137 (qM 21),
 qf 4 139 137 (qK .gtr 138 7),
 qe 5 140 (.pick (.t 137) xT (.t 139))]
def r18:List Ent:=[
 qe 0 4 (.mv xF)]
def r19:List Ent:=[
 qe 0 141 (qK .add 131 1),
 qm 1 131 141]
def b0:KC:=.seq (.reg 7360 1 r15) (.seq (.cond (.t 132) (.skip) (.exit 0)) (.seq (.block 1 (.seq (.reg 7424 3 r16) (.seq (.reg 7616 6 r17) (.cond (.t 140) (.seq (.reg 8000 1 r18) (.ret)) (.skip))))) (.reg 8064 2 r19)))
def r20:List Ent:=[
 qm 0 143 5,
 qc 1 144 (qV Zbr 143),
 qm 2 142 144,
 qe 3 145 (qX 0 142),
 qe 4 146 (qX 1 142),
 qe 5 22 (.box (.k (.agg [.nil 1,.nil 4,.nil 1]))),
 qs 6 (qW 3 22 145),
 qm 7 23 146]
def r21:List Ent:=[
 qm 0 147 23,
 qm 1 148 147,
 qt 2 149 148 (qM 8),
 qt 3 150 148 (qD 0 7),
 qt 4 151 148 (qL 1 150),
 qt 5 152 148 (qZ 151),
 qt 6 153 148 (qB .eql 149 152),
 qe 7 154 (.pick (.t 148) (.t 153) xF),
 qm 8 155 154,
 qt 9 156 155 (qD 2 22),
 qt 10 157 155 (qL 1 156),
 qt 11 158 155 (qZ 157),
 qt 12 159 155 (qK .eql 158 0),
 qe 13 160 (.pick (.t 155) (.t 159) xF),
 qm 14 161 160,
 qt 15 162 161 (qM 14),
 qt 16 163 161 (qN 162),
 qe 17 164 (.pick (.t 161) (.t 163) xF)]
def r22:List Ent:=[
 qe 0 4 (.mv xF)]
def r23:List Ent:=[
 qm 0 166 1,
 qc 1 167 (.call ZbV true (roA [.t 166])),
 qm 2 165 167,
 qe 3 168 (qX 0 165),
 qe 4 169 (qX 1 165),
 qe 5 25 (.box (.k (.agg [.nil 1,.nil 1]))),
 qm 6 24 168,
 qs 7 (qW 2 25 169)]
def r24:List Ent:=[
 qm 0 171 24,
 qe 1 172 (qA 2 25),
 qc 2 173 (qC Zcc [.t 171,.t 172]),
 qm 3 170 173,
 qe 4 174 (qX 0 170),
 qe 5 175 (qX 1 170),
 qm 6 26 174,
 qm 7 27 175]
def r25:List Ent:=[
 qm 0 177 24,
 qe 1 178 (qA 2 25),
 qc 2 179 (qC ZcY [.t 177,.t 178]),
 qm 3 176 179,
 qe 4 180 (qX 0 176),
 qe 5 181 (qX 1 176),
 qm 6 28 180,
 qm 7 29 181]
def r26:List Ent:=[
 qm 0 183 24,
 qe 1 184 (qA 2 25),
 qc 2 185 (qC Zce [.t 183,.t 184]),
 qm 3 182 185,
 qe 4 186 (qX 0 182),
 qe 5 187 (qX 1 182),
 qm 6 30 186,
 qm 7 31 187]
def r27:List Ent:=[
 qm 0 189 24,
 qe 1 190 (qA 2 25),
 qc 2 191 (qC ZcZ [.t 189,.t 190]),
 qm 3 188 191,
 qe 4 192 (qX 0 188),
 qe 5 193 (qX 1 188),
 qm 6 32 192,
 qm 7 33 193]
def r28:List Ent:=[
 qm 0 195 24,
 qe 1 196 (qA 2 25),
 qc 2 197 (qC ZbC [.t 195,.t 196]),
 qm 3 194 197,
 qe 4 198 (qX 0 194),
 qe 5 199 (qX 1 194),
 qm 6 34 198,
 qm 7 35 199]
def r29:List Ent:=[
 qm 0 201 24,
 qe 1 202 (qA 2 25),
 qc 2 203 (qC Zb8 [.t 201,.t 202]),
 qm 3 200 203,
 qe 4 204 (qX 0 200),
 qe 5 205 (qX 1 200),
 qm 6 36 204,
 qm 7 37 205]
def r30:List Ent:=[
 qm 0 206 27,
 qm 1 207 29,
 qe 2 208 (.eqb false (.t 206) (.t 207)),
 qm 3 209 208,
 qt 4 210 209 (qM 26),
 qt 5 211 209 (qM 28),
 qt 6 212 209 (.eqb false (.t 210) (.t 211)),
 qe 7 213 (.pick (.t 209) (.t 212) xF),
 qm 8 214 213,
 qt 9 215 214 (qM 31),
 qt 10 216 214 (qM 33),
 qt 11 217 214 (.eqb false (.t 215) (.t 216)),
 qe 12 218 (.pick (.t 214) (.t 217) xF),
 qm 13 219 218,
 qt 14 220 219 (qM 30),
 qt 15 221 219 (qM 32),
 qt 16 222 219 (qB .eql 220 221),
 qe 17 223 (.pick (.t 219) (.t 222) xF),
 qm 18 224 223,
 qt 19 225 224 (qM 35),
 qt 20 226 224 (qM 37),
 qt 21 227 224 (.eqb false (.t 225) (.t 226)),
 qe 22 228 (.pick (.t 224) (.t 227) xF),
 qm 23 229 228,
 qt 24 230 229 (qM 34),
 qt 25 231 229 (qM 36),
 qh 26 232 229 (qC ZcH [.t 230,.t 231]),
 qe 27 233 (.pick (.t 229) (.t 232) xF),
 qm 28 234 233,
 qt 29 235 234 (qM 24),
 ER 30 (some 236) (some (234,true)) (qA 2 25),
  E2 31 (some 237) (some (234,true)) (.call Za4 false (roA [.t 235,.t 236])),
 qt 32 238 234 (qM 24),
 ER 33 (some 239) (some (234,true)) (qA 2 25),
 qh 34 240 234 (qC Za3 [.t 238,.t 239]),
 qt 35 241 234 (.eqb false (.t 237) (.t 240)),
 qe 36 242 (.pick (.t 234) (.t 241) xF),
 qm 37 4 242]
def fi:FI:={ res:=[.t 4],code:=.seq (.reg 64 1 r0) (.seq (.seq (.reg 128 6 r1) (.cond (.t 43) (.seq (.reg 512 1 r2) (.ret)) (.skip))) (.seq (.reg 576 10 r3) (.seq (.fz 7 (.fz 6 (.reg 1216 11 r4))) (.seq (.reg 1920 11 r5) (.seq (.seq (.reg 2624 13 r6) (.cond (.t 78) (.seq (.reg 3456 1 r7) (.ret)) (.skip))) (.seq (.seq (.reg 3520 1 r8) (.cond (.t 79) (.seq (.reg 3584 8 r9) (.seq (.reg 4096 8 r10) (.seq (.reg 4608 8 r11) (.seq (.seq (.reg 5120 31 r12) (.cond (.t 128) (.seq (.reg 7104 1 r13) (.ret)) (.skip))) (.seq (.seq (.fz 18 (.reg 7168 3 r14)) (.block 0 (.loop b0))) (.seq (.reg 8192 8 r20) (.seq (.reg 8704 18 r21) (.cond (.t 164) (.seq (.reg 9856 1 r22) (.ret)) (.skip))))))))) (.skip))) (.seq (.reg 9920 8 r23) (.seq (.fz 25 (.reg 10432 8 r24)) (.seq (.reg 10944 8 r25) (.seq (.reg 11456 8 r26) (.seq (.reg 11968 8 r27) (.seq (.reg 12480 8 r28) (.seq (.reg 12992 8 r29) (.seq (.reg 13504 38 r30) (.ret))))))))))))))) }
attribute [go_sem] r0 r1 r2 r3 r4 r5 r6 r7 r8 r9 r10 r11 r12 r13 r14 r15 r16 r17 r18 r19 r20 r21 r22 r23 r24 r25 r26 r27 r28 r29 r30
theorem ok:chkF prog Zd9 2 fi=true:=by kernel_rfl
end laws_FnTaken
namespace spec_l1Put_co
def r0:List Ent:=[
 qe 0 4 (.mv (.k (.nil 1)))]
def r1:List Ent:=[
 qe 0 5 (.mv (xN 0))]
def r2:List Ent:=[
 qm 0 7 5,
 qm 1 8 0,
 qe 2 9 (qZ 8),
 qe 3 10 (qB .lss 7 9),
 qm 4 11 10,
 qt 5 12 11 (qM 0),
 qt 6 13 11 (qM 5),
 qt 7 14 11 (qI 1 12 13),
 qt 8 15 11 (qL 1 14),
 qt 9 16 11 (qM 1),
 qt 10 17 11 (qB .lss 15 16),
 qe 11 18 (.pick (.t 11) (.t 17) xF)]
def r3:List Ent:=[
 qm 0 19 5,
 qe 1 20 (qK .add 19 1),
 qm 2 5 20]
def b0:KC:=.seq (.seq (.reg 192 12 r2) (.cond (.t 18) (.skip) (.exit 0))) (.block 1 (.reg 960 3 r3))
def r4:List Ent:=[
 qm 0 21 5,
 qm 1 22 0,
 qe 2 23 (qZ 22),
 qe 3 24 (qB .lss 21 23),
 qm 4 25 24,
 qt 5 26 25 (qM 0),
 qt 6 27 25 (qM 5),
 qt 7 28 25 (qI 1 26 27),
 qt 8 29 25 (qL 1 28),
 qt 9 30 25 (qM 1),
 qt 10 31 25 (qB .eql 29 30),
 qe 11 32 (.pick (.t 25) (.t 31) xF)]
def r5:List Ent:=[
 qm 0 33 0,
 qm 1 4 33]
def r6:List Ent:=[
 qe 0 34 (.bsl false 1 []),
 qm 1 35 0,
 qm 2 36 5,
 qe 3 37 (.slc 1 (.t 35) (none) (some (.t 36))),
 qe 4 38 (.app 1 8 (.t 34) (.t 37)),
 qm 5 6 38]
def r7:List Ent:=[
 qm 0 39 6,
 qm 1 40 1,
 qe 2 41 (.bsl true 1 [.t 40]),
 qe 3 42 (.app 1 8 (.t 39) (.t 41)),
 qm 4 6 42]
def r8:List Ent:=[
 qm 0 43 6,
 qm 1 44 0,
 qm 2 45 5,
 qe 3 46 (.slc 1 (.t 44) (some (.t 45)) (none)),
 qe 4 47 (.app 1 8 (.t 43) (.t 46)),
 qm 5 4 47]
def fi:FI:={ res:=[.t 4],code:=.seq (.reg 64 1 r0) (.seq (.reg 128 1 r1) (.seq (.block 0 (.loop b0)) (.seq (.seq (.reg 1152 12 r4) (.cond (.t 32) (.seq (.reg 1920 2 r5) (.ret)) (.skip))) (.seq (.reg 2048 6 r6) (.seq (.reg 2432 5 r7) (.seq (.reg 2752 6 r8) (.ret))))))) }
attribute [go_sem] r0 r1 r2 r3 r4 r5 r6 r7 r8
theorem ok:chkF prog ZdP 2 fi=true:=by kernel_rfl
end spec_l1Put_co
end Go.Vm.YtmbhjcgikblpiaaGreat
