/- The functions that the law reaches, in the text of the interpreter, and that this text fits them: part 2 (no condition). -/
import Derived.Test.YtmbhjcgikblpiaaGreatIra
import Derived.Test.YtmbhjcgikblpiaaGreatProg
import Derived.KernelRfl
namespace Go.Vm.YtmbhjcgikblpiaaGreat
open Go Go.Vm
set_option linter.unusedVariables false
set_option maxRecDepth 100000
namespace impl_AnalyseProgram
def r0:List Ent:=[
 qe 0 2 (.box (.k (.agg [.nil 1,.nil 4,.nil 1]))),
 qe 1 3 (.mv xF)]
def r1:List Ent:=[
 qm 0 13 0,
 qc 1 14 (qV F_impl_GoodProgram 13),
 qe 2 15 (qN 14)]
def r2:List Ent:=[
 qe 0 16 (.bld [.k (.nil 1),.k (.nil 4),.k (.nil 1)]),
 qs 1 (qW 3 2 16),
 qe 2 3 (.mv xF)]
def r3:List Ent:=[
 qm 0 17 0,
 qx 1 18 (qZ 17) 2 [5,7] [] false,
 qx 2 19 (.mks 1 1 (.bool false) (.t 18) (.t 18)) 1 [5,7] [] false,
 qm 3 20 0,
 qx 4 21 (qZ 20) 2 [2,7] [] false,
 qx 5 22 (.mks 4 96 (.agg [.sl 2 [],.sl 2 [],.sl 2 [],.sl 1 []]) (.t 21) (.t 21)) 1 [2,7] [] false,
 qx 6 23 (.bld [.t 19,.t 22,.k (.nil 1)]) 2 [7] [] false,
 qx 7 4 (.box (.k (.agg [.nil 1,.nil 4,.nil 1]))) 1 [2,5] [] false,
 qs 8 (qW 3 4 23)]
def r4:List Ent:=[
 qx 0 24 (qD 0 4) 2 [4] [] false,
 qx 1 25 (qL 1 24) 2 [4] [] false,
 EP 4 (some 28) none (.call F_impl_StartMay false (roA [])) 1 false,
 qr 5 29 (.iad 1 (.t 25) (xN 0)),
 EP 6 none none (.i (.store 1 (.t 29) xT)) 0 true,
 qx 2 26 (qD 1 4) 2 [4] [6] false,
 qx 3 27 (qL 1 26) 2 [4] [6] false,
 qe 7 30 (.iad 4 (.t 27) (xN 0)),
 qs 8 (qW 4 30 28)]
def r5:List Ent:=[
 qm 0 31 0,
 qe 1 32 (qZ 31),
 qe 2 33 (.mv (xN 0))]
def r6:List Ent:=[
 qe 0 34 (qB .lss 33 32)]
def r7:List Ent:=[
 qm 0 35 33,
 qe 1 36 (qI 6 31 33),
 qe 2 37 (qA 6 36),
 qe 3 6 (.box (.k (.agg [.dat none (.int .i64 0),.dat none (.int .i64 0),.dat none (.int .i64 0),.dat none (.int .i64 0),.dat none (.int .i64 0),.dat none (.int .i64 0)]))),
 qm 4 5 35,
 qs 5 (qW 6 6 37)]
def r8:List Ent:=[
 qe 0 38 (qD 0 4),
 qe 1 39 (qL 1 38),
 qm 2 40 5,
 qe 3 41 (qI 1 39 40),
 qe 4 42 (qL 1 41),
 qe 5 43 (qN 42)]
def r9:List Ent:=[
 qx 0 45 (qA 6 6) 2 [10] [] false,
 qx 1 46 (qD 1 4) 2 [10] [] false,
 qx 2 47 (qL 1 46) 2 [10] [] false,
 qm 3 48 5,
 qx 4 49 (qI 4 47 48) 2 [10] [] false,
 qx 5 50 (qA 4 49) 2 [10] [] false,
 EX 6 (some 51) none (.call F_impl_stepMay false (roA [.t 45,.t 50])) 1 [10] [] false,
 qm 7 44 51,
 qx 8 52 (qX 0 44) 2 [10] [] false,
 qx 10 7 (.box (.k (.agg [.nil 2,.nil 2,.nil 2,.nil 1]))) 1 [6] [] false,
 EP 11 none none (.i (qW 4 7 52)) 0 true,
 qx 9 53 (qX 1 44) 2 [10] [11] false,
 qm 12 8 53]
def r10:List Ent:=[
 qm 0 54 8,
 qe 1 55 (qK .neq 54 0)]
def r11:List Ent:=[
 qe 0 56 (qD 2 4),
 qe 1 57 (qL 1 56),
 qm 2 58 5,
 qe 3 59 (.bsl true 1 [.t 58]),
 qe 4 60 (.app 1 8 (.t 57) (.t 59)),
 qe 5 61 (qD 2 4),
 qs 6 (qW 1 61 60)]
def r12:List Ent:=[
 qm 0 62 0,
 qm 1 63 5,
 qc 2 64 (qC F_impl_nexts [.t 62,.t 63]),
 qe 3 65 (qZ 64),
 qe 4 66 (.mv (xN 0))]
def r13:List Ent:=[
 qe 0 67 (qB .lss 66 65)]
def r14:List Ent:=[
 qm 0 68 66,
 qe 1 69 (qI 1 64 66),
 qe 2 70 (qL 1 69),
 qm 3 9 68,
 qm 4 10 70]
def r15:List Ent:=[
 qe 0 71 (qA 4 7),
 qc 1 72 (qV F_impl_May_own 71),
 qe 2 11 (.box (.k (.agg [.nil 2,.nil 2,.nil 2,.nil 1]))),
 qs 3 (qW 4 11 72),
 qe 4 12 (.mv xT)]
def r16:List Ent:=[
 qe 0 73 (qA 6 6),
 qc 1 74 (qV F_impl_Step_branches 73)]
def r17:List Ent:=[
 qe 0 76 (qA 6 6),
 qe 1 77 (qA 4 7),
 qm 2 78 9,
 qe 3 79 (qK .eql 78 1),
 qc 4 80 (qC F_impl_heedJump [.t 76,.t 77,.t 79]),
 qm 5 75 80,
 qe 6 81 (qX 0 75),
 qe 7 82 (qX 1 75),
 qs 8 (qW 4 11 81),
 qm 9 12 82]
def r18:List Ent:=[
 qm 0 93 12,
 qe 1 94 (qN 93),
 qm 2 92 94]
def r19:List Ent:=[
 qe 0 96 (qD 0 4),
 qe 1 97 (qL 1 96),
 qm 2 98 10,
 qe 3 99 (qI 1 97 98),
 qe 4 100 (qL 1 99),
 qm 5 95 100]
def r20:List Ent:=[
 qx 0 101 (qD 1 4) 2 [9] [] false,
 qx 1 102 (qL 1 101) 2 [9] [] false,
 qm 2 103 10,
 qr 3 104 (qD 1 4),
 qr 4 105 (qL 1 104),
 qm 5 106 10,
 qr 6 107 (qI 4 105 106),
 qr 7 108 (qA 4 107),
 qr 8 109 (qA 4 11),
 EP 9 (some 110) none (.call F_impl_joined false (roA [.t 108,.t 109])) 1 false,
 qe 10 111 (qI 4 102 103),
 qs 11 (qW 4 111 110)]
def r21:List Ent:=[
 qr 0 83 (qD 0 4),
 qr 1 84 (qL 1 83),
 qm 2 85 10,
 qm 5 88 10,
 qr 7 90 (qI 1 84 85),
 EP 8 none none (.i (.store 1 (.t 90) xT)) 0 true,
 qx 3 86 (qD 1 4) 2 [] [8] false,
 qx 4 87 (qL 1 86) 2 [] [8] false,
 qx 6 89 (qA 4 11) 2 [] [8] false,
 qe 9 91 (qI 4 87 88),
 qs 10 (qW 4 91 89)]
def r22:List Ent:=[
 qe 0 112 (qK .add 66 1),
 qm 1 66 112]
def b0:KC:=.seq (.reg 4480 1 r13) (.seq (.cond (.t 67) (.skip) (.exit 2)) (.seq (.block 3 (.seq (.reg 4544 5 r14) (.seq (.reg 4864 5 r15) (.seq (.seq (.reg 5184 2 r16) (.cond (.t 74) (.reg 5312 10 r17) (.skip))) (.block 4 (.seq (.reg 5952 3 r18) (.cond (.t 92) (.skip) (.seq (.reg 6144 6 r19) (.cond (.t 95) (.reg 6528 12 r20) (.reg 7296 11 r21)))))))))) (.reg 8000 2 r22)))
def r23:List Ent:=[
 qe 0 113 (qK .add 33 1),
 qm 1 33 113]
def b1:KC:=.seq (.reg 1920 1 r6) (.seq (.cond (.t 34) (.skip) (.exit 0)) (.seq (.block 1 (.seq (.reg 1984 6 r7) (.seq (.seq (.reg 2368 6 r8) (.cond (.t 43) (.exit 1) (.skip))) (.seq (.reg 2752 13 r9) (.seq (.seq (.reg 3584 2 r10) (.cond (.t 55) (.seq (.reg 3712 7 r11) (.exit 1)) (.skip))) (.seq (.reg 4160 5 r12) (.block 2 (.loop b0)))))))) (.reg 8128 2 r23)))
def r24:List Ent:=[
 qe 0 114 (qA 3 4),
 qs 1 (qW 3 2 114),
 qe 2 3 (.mv xT)]
def fi:FI:={ res:=[.c 2 true 3,.t 3],code:=.seq (.reg 64 2 r0) (.seq (.seq (.reg 192 3 r1) (.cond (.t 15) (.seq (.reg 384 3 r2) (.ret)) (.skip))) (.seq (.reg 576 9 r3) (.seq (.reg 1152 9 r4) (.seq (.seq (.reg 1728 3 r5) (.block 0 (.loop b1))) (.seq (.reg 8256 3 r24) (.ret)))))) }
attribute [go_sem] r0 r1 r2 r3 r4 r5 r6 r7 r8 r9 r10 r11 r12 r13 r14 r15 r16 r17 r18 r19 r20 r21 r22 r23 r24
theorem ok:chkF prog F_impl_AnalyseProgram 1 fi=true:=by kernel_rfl
end impl_AnalyseProgram
namespace spec_NewMachine
def r0:List Ent:=[
 qe 0 0 (.box (.k (.agg [.dat none (.int .i64 0),.nil 1,.nil 1,.nil 1])))]
def r1:List Ent:=[
 qx 0 1 (.mks 1 8 (.int .i64 0) (xN 6) (xN 6)) 1 [1,2] [] false,
 qx 1 2 (.mks 1 8 (.int .i64 0) (xN 16) (xN 16)) 1 [0,2] [] false,
 qx 2 3 (.mks 1 1 (.bool false) (xN 16) (xN 16)) 1 [0,1] [] false,
 qe 3 4 (.bld [.k (.dat none (.int .i64 0)),.t 1,.t 2,.t 3]),
 qs 4 (qW 4 0 4)]
def fi:FI:={ res:=[.c 0 true 4],code:=.seq (.reg 64 1 r0) (.seq (.reg 128 5 r1) (.ret)) }
attribute [go_sem] r0 r1
theorem ok:chkF prog F_spec_NewMachine 0 fi=true:=by kernel_rfl
end spec_NewMachine
namespace spec_l3Do
def r0:List Ent:=[
 qe 0 5 (.box (.t 2)),
 qe 1 6 (.box (.k (.agg [.dat none (.int .i64 0),.nil 1,.nil 1,.nil 1]))),
 qe 2 7 (.mv (xN 0)),
 qe 3 8 (.mv xF)]
def r1:List Ent:=[
 qm 0 13 0,
 qe 1 14 (qD 0 5),
 qe 2 15 (qL 1 14),
 qe 3 16 (qI 6 13 15),
 qe 4 17 (qA 6 16),
 qe 5 9 (.box (.k (.agg [.dat none (.int .i64 0),.dat none (.int .i64 0),.dat none (.int .i64 0),.dat none (.int .i64 0),.dat none (.int .i64 0),.dat none (.int .i64 0)]))),
 qs 6 (qW 6 9 17)]
def r2:List Ent:=[
 qe 0 18 (qD 0 5),
 qe 1 19 (qL 1 18),
 qe 2 20 (qK .add 19 1),
 qm 3 10 20]
def r3:List Ent:=[
 qe 0 21 (qD 1 5),
 qe 1 22 (qL 1 21),
 qe 2 23 (qD 2 9),
 qe 3 24 (qL 1 23),
 qe 4 25 (qI 1 22 24),
 qe 5 26 (qL 1 25),
 qm 6 11 26]
def r4:List Ent:=[
 qe 0 27 (qD 1 5),
 qe 1 28 (qL 1 27),
 qe 2 29 (qD 3 9),
 qe 3 30 (qL 1 29),
 qe 4 31 (qI 1 28 30),
 qe 5 32 (qL 1 31),
 qm 6 12 32]
def r5:List Ent:=[
 qe 0 33 (qD 0 9),
 qe 1 34 (qL 1 33)]
def r6:List Ent:=[
 qe 0 36 (qK .eql 34 11),
 qm 1 35 36]
def r7:List Ent:=[
 qe 0 37 (qA 4 5),
 qs 1 (qW 4 6 37),
 qe 2 7 (.mv (xN 0)),
 qe 3 8 (.mv xT)]
def r8:List Ent:=[
 qe 0 39 (qK .eql 34 1),
 qm 1 38 39]
def r9:List Ent:=[
 qr 0 40 (qD 1 5),
 qr 1 41 (qL 1 40),
 qr 2 42 (qD 2 9),
 qr 3 43 (qL 1 42),
 qr 4 44 (qD 1 9),
 qr 5 45 (qL 1 44),
 qm 6 46 11,
 qm 7 47 12,
  E2 8 (some 48) none (.call F_spec_l1Do false (roA [.t 45,.t 46,.t 47])),
 qe 9 49 (qI 1 41 43),
 qs 10 (qW 1 49 48)]
def r10:List Ent:=[
 qe 0 51 (qK .eql 34 2),
 qm 1 50 51]
def r11:List Ent:=[
 qr 0 52 (qD 1 5),
 qr 1 53 (qL 1 52),
 qr 2 54 (qD 2 9),
 qr 3 55 (qL 1 54),
 qr 4 56 (qD 1 9),
 qr 5 57 (qL 1 56),
 qm 6 58 11,
 qr 7 59 (qD 4 9),
 qr 8 60 (qL 1 59),
  E2 9 (some 61) none (.call F_spec_l1Do false (roA [.t 57,.t 58,.t 60])),
 qe 10 62 (qI 1 53 55),
 qs 11 (qW 1 62 61)]
def r12:List Ent:=[
 qe 0 64 (qK .eql 34 3),
 qm 1 63 64]
def r13:List Ent:=[
 qe 0 65 (qK .eql 34 4),
 qm 1 63 65]
def r14:List Ent:=[
 qe 0 66 (qD 1 5),
 qe 1 67 (qL 1 66),
 qe 2 68 (qD 2 9),
 qe 3 69 (qL 1 68),
 qe 4 70 (qD 4 9),
 qe 5 71 (qL 1 70),
 qe 6 72 (qI 1 67 69),
 qs 7 (qW 1 72 71)]
def r15:List Ent:=[
 qe 0 74 (qK .eql 34 5),
 qm 1 73 74]
def r16:List Ent:=[
 qm 0 75 12,
 qe 1 76 (qD 4 9),
 qe 2 77 (qL 1 76),
 qe 3 78 (qB .add 75 77),
 qe 4 79 (qK .geq 78 8)]
def r17:List Ent:=[
 qe 0 80 (qA 4 5),
 qs 1 (qW 4 6 80),
 qe 2 7 (.mv (xN 1)),
 qe 3 8 (.mv xF)]
def r18:List Ent:=[
 qr 0 81 (qD 1 5),
 qr 1 82 (qL 1 81),
 qr 2 83 (qD 2 9),
 qr 3 84 (qL 1 83),
 qm 4 85 1,
 qm 5 86 12,
 qr 6 87 (qD 4 9),
 qr 7 88 (qL 1 87),
 qe 8 89 (qB .add 86 88),
 qr 9 90 (qI 1 85 89),
 qr 10 91 (qL 1 90),
 qe 11 92 (qI 1 82 84),
 qs 12 (qW 1 92 91)]
def r19:List Ent:=[
 qe 0 94 (qK .eql 34 7),
 qm 1 93 94]
def r20:List Ent:=[
 qe 0 95 (qK .eql 34 6),
 qm 1 93 95]
def r21:List Ent:=[
 qe 0 96 (qD 4 9),
 qe 1 97 (qL 1 96),
 qe 2 98 (qK .geq 97 16)]
def r22:List Ent:=[
 qe 0 99 (qA 4 5),
 qs 1 (qW 4 6 99),
 qe 2 7 (.mv (xN 2)),
 qe 3 8 (.mv xF)]
def r23:List Ent:=[
 qe 0 100 (qD 0 9),
 qe 1 101 (qL 1 100),
 qe 2 102 (qK .eql 101 7)]
def r24:List Ent:=[
 qe 0 103 (qD 2 5),
 qe 1 104 (qL 1 103),
 qe 2 105 (qD 4 9),
 qe 3 106 (qL 1 105),
 qm 4 107 11,
 qe 5 108 (qI 1 104 106),
 qs 6 (qW 1 108 107)]
def r25:List Ent:=[
 qe 0 109 (qD 3 5),
 qe 1 110 (qL 1 109),
 qe 2 111 (qD 4 9),
 qe 3 112 (qL 1 111),
 qe 4 113 (qI 1 110 112),
 qs 5 (.store 1 (.t 113) xT)]
def r26:List Ent:=[
 qe 0 114 (qD 3 5),
 qe 1 115 (qL 1 114),
 qe 2 116 (qD 4 9),
 qe 3 117 (qL 1 116),
 qe 4 118 (qI 1 115 117),
 qe 5 119 (qL 1 118),
 qe 6 120 (qN 119)]
def r27:List Ent:=[
 qe 0 121 (qA 4 5),
 qs 1 (qW 4 6 121),
 qe 2 7 (.mv (xN 3)),
 qe 3 8 (.mv xF)]
def r28:List Ent:=[
 qr 0 122 (qD 1 5),
 qr 1 123 (qL 1 122),
 qr 2 124 (qD 2 9),
 qr 3 125 (qL 1 124),
 qr 4 126 (qD 2 5),
 qr 5 127 (qL 1 126),
 qr 6 128 (qD 4 9),
 qr 7 129 (qL 1 128),
 qr 8 130 (qI 1 127 129),
 qr 9 131 (qL 1 130),
 qe 10 132 (qI 1 123 125),
 qs 11 (qW 1 132 131)]
def r29:List Ent:=[
 qe 0 133 (qD 0 9),
 qe 1 134 (qL 1 133),
 qe 2 135 (qK .eql 134 8),
 qm 3 136 135,
 qf 4 137 136 (qD 0 9),
 qf 5 138 136 (qL 1 137),
 qf 6 139 136 (qK .eql 138 9),
 qf 7 140 136 (qM 139),
 qt 8 141 140 (qM 11),
 qt 9 142 140 (qM 12),
 qt 10 143 140 (qB .eql 141 142),
 qf 11 144 136 (.pick (.t 140) (.t 143) xF),
 qe 12 145 (.pick (.t 136) xT (.t 144)),
 qm 13 146 145,
 qf 14 147 146 (qD 0 9),
 qf 15 148 146 (qL 1 147),
 qf 16 149 146 (qK .eql 148 10),
 qf 17 150 146 (qM 149),
 qt 18 151 150 (qM 11),
 qt 19 152 150 (qM 12),
 qt 20 153 150 (qB .lss 151 152),
 qf 21 154 146 (.pick (.t 150) (.t 153) xF),
 qe 22 155 (.pick (.t 146) xT (.t 154))]
def r30:List Ent:=[
 qe 0 156 (qD 0 5),
 qe 1 157 (qL 1 156),
 qe 2 158 (qD 5 9),
 qe 3 159 (qL 1 158),
 qe 4 160 (qB .add 157 159),
 qe 5 161 (qK .add 160 1),
 qm 6 10 161]
def r31:List Ent:=[
 qm 0 162 10,
 qe 1 163 (qD 0 5),
 qs 2 (qW 1 163 162)]
def r32:List Ent:=[
 qe 0 164 (qA 4 5),
 qs 1 (qW 4 6 164),
 qe 2 7 (.mv (xN 0)),
 qe 3 8 (.mv xF)]
def fi:FI:={ res:=[.c 6 true 4,.t 7,.t 8],code:=.seq (.reg 64 4 r0) (.seq (.reg 320 7 r1) (.seq (.reg 768 4 r2) (.seq (.reg 1024 7 r3) (.seq (.reg 1472 7 r4) (.seq (.seq (.reg 1920 2 r5) (.block 0 (.seq (.reg 2048 2 r6) (.cond (.t 35) (.seq (.reg 2176 4 r7) (.ret)) (.seq (.reg 2432 2 r8) (.cond (.t 38) (.reg 2560 11 r9) (.seq (.reg 3264 2 r10) (.cond (.t 50) (.reg 3392 12 r11) (.seq (.seq (.reg 4160 2 r12) (.cond (.t 63) (.skip) (.reg 4288 2 r13))) (.cond (.t 63) (.reg 4416 8 r14) (.seq (.reg 4928 2 r15) (.cond (.t 73) (.seq (.seq (.reg 5056 5 r16) (.cond (.t 79) (.seq (.reg 5376 4 r17) (.ret)) (.skip))) (.reg 5632 13 r18)) (.seq (.seq (.reg 6464 2 r19) (.cond (.t 93) (.skip) (.reg 6592 2 r20))) (.cond (.t 93) (.seq (.seq (.reg 6720 3 r21) (.cond (.t 98) (.seq (.reg 6912 4 r22) (.ret)) (.skip))) (.seq (.seq (.reg 7168 3 r23) (.cond (.t 102) (.seq (.reg 7360 7 r24) (.seq (.reg 7808 6 r25) (.exit 0))) (.skip))) (.seq (.seq (.reg 8192 7 r26) (.cond (.t 120) (.seq (.reg 8640 4 r27) (.ret)) (.skip))) (.reg 8896 12 r28)))) (.skip))))))))))))))) (.seq (.seq (.reg 9664 23 r29) (.cond (.t 155) (.reg 11136 7 r30) (.skip))) (.seq (.reg 11584 3 r31) (.seq (.reg 11776 4 r32) (.ret))))))))) }
attribute [go_sem] r0 r1 r2 r3 r4 r5 r6 r7 r8 r9 r10 r11 r12 r13 r14 r15 r16 r17 r18 r19 r20 r21 r22 r23 r24 r25 r26 r27 r28 r29 r30 r31 r32
theorem ok:chkF prog F_spec_l3Do 3 fi=true:=by kernel_rfl
end spec_l3Do
namespace spec_l3Run
def r0:List Ent:=[
 qe 0 6 (.mv (xN 0)),
 qe 1 7 (.mv (xN 0)),
 qe 2 8 (.mv (xN 0)),
 qe 3 9 (.mv (.k (.nil 1)))]
def r1:List Ent:=[
 qc 0 15 (qC F_spec_NewMachine []),
 qe 1 10 (.box (.k (.agg [.dat none (.int .i64 0),.nil 1,.nil 1,.nil 1]))),
 qs 2 (qW 4 10 15)]
def r2:List Ent:=[
 qe 0 11 (.mv (.k (.nil 1)))]
def r3:List Ent:=[
 qm 0 16 2,
 qe 1 17 (qK .gtr 16 0)]
def r4:List Ent:=[
 qm 0 20 11,
 qe 1 21 (qD 0 10),
 qe 2 22 (qL 1 21),
 qe 3 23 (.bsl true 1 [.t 22]),
 qe 4 24 (.app 1 8 (.t 20) (.t 23)),
 qm 5 11 24]
def r5:List Ent:=[
 qm 0 26 0,
 qm 1 27 1,
 qe 2 28 (qA 4 10),
 qc 3 29 (.call F_spec_l3Do false [(.ro,.t 26),(.ro,.t 27),(.co,.t 28)]),
 qm 4 25 29,
 qe 5 30 (qX 0 25),
 qe 6 31 (qX 1 25),
 qe 7 32 (qX 2 25),
 qe 8 12 (.box (.k (.agg [.dat none (.int .i64 0),.nil 1,.nil 1,.nil 1]))),
 qs 9 (qW 4 12 30),
 qm 10 13 31,
 qm 11 14 32]
def r6:List Ent:=[
 qm 0 33 13,
 qe 1 34 (qK .gtr 33 0)]
def r7:List Ent:=[
 qm 0 35 13,
 qe 1 36 (qD 0 10),
 qe 2 37 (qL 1 36),
 qm 3 38 11,
 qe 4 6 (.mv (xN 0)),
 qm 5 7 35,
 qm 6 8 37,
 qm 7 9 38]
def r8:List Ent:=[
 qm 0 39 14]
def r9:List Ent:=[
 qe 0 40 (qD 1 12),
 qe 1 41 (qL 1 40),
 qe 2 42 (.iad 1 (.t 41) (xN 0)),
 qe 3 43 (qL 1 42),
 qm 4 44 11,
 qm 5 6 43,
 qe 6 7 (.mv (xN 0)),
 qe 7 8 (.mv (xN 0)),
 qm 8 9 44]
def r10:List Ent:=[
 qe 0 45 (qA 4 12),
 qs 1 (qW 4 10 45)]
def r11:List Ent:=[
 qm 0 18 2,
 qe 1 19 (qK .sub 18 1),
 qm 2 2 19]
def b0:KC:=.seq (.seq (.reg 576 2 r3) (.cond (.t 17) (.skip) (.exit 0))) (.seq (.block 1 (.seq (.reg 704 6 r4) (.seq (.reg 1088 12 r5) (.seq (.seq (.reg 1856 2 r6) (.cond (.t 34) (.seq (.reg 1984 8 r7) (.ret)) (.skip))) (.seq (.seq (.reg 2496 1 r8) (.cond (.t 39) (.seq (.reg 2560 9 r9) (.ret)) (.skip))) (.reg 3136 2 r10)))))) (.reg 3264 3 r11))
def r12:List Ent:=[
 qe 0 46 (qD 0 10),
 qe 1 47 (qL 1 46),
 qm 2 48 11,
 qe 3 6 (.mv (xN 0)),
 qe 4 7 (.mv (xN 4)),
 qm 5 8 47,
 qm 6 9 48]
def fi:FI:={ res:=[.t 6,.t 7,.t 8,.t 9],code:=.seq (.reg 64 4 r0) (.seq (.reg 320 3 r1) (.seq (.reg 512 1 r2) (.seq (.nrm 11 960 1 (.block 0 (.loop b0))) (.seq (.reg 3456 7 r12) (.ret))))) }
attribute [go_sem] r0 r1 r2 r3 r4 r5 r6 r7 r8 r9 r10 r11 r12
theorem ok:chkF prog F_spec_l3Run 3 fi=true:=by kernel_rfl
end spec_l3Run
namespace spec_l1Has
def r0:List Ent:=[
 qe 0 4 (.mv xF)]
def r1:List Ent:=[
 qm 0 7 0,
 qe 1 8 (qZ 7),
 qe 2 9 (.mv (xN 0))]
def r2:List Ent:=[
 qe 0 10 (qB .lss 9 8)]
def r3:List Ent:=[
 qe 0 11 (qI 1 7 9),
 qe 1 12 (qL 1 11),
 qm 2 6 12]
def r4:List Ent:=[
 qm 0 13 6,
 qm 1 14 1,
 qe 2 15 (qB .eql 13 14)]
def r5:List Ent:=[
 qe 0 4 (.mv xT)]
def r6:List Ent:=[
 qe 0 16 (qK .add 9 1),
 qm 1 9 16]
def b0:KC:=.seq (.reg 320 1 r2) (.seq (.cond (.t 10) (.skip) (.exit 0)) (.seq (.block 1 (.seq (.reg 384 3 r3) (.seq (.reg 576 3 r4) (.cond (.t 15) (.seq (.reg 768 1 r5) (.ret)) (.skip))))) (.reg 832 2 r6)))
def r7:List Ent:=[
 qe 0 4 (.mv xF)]
def fi:FI:={ res:=[.t 4],code:=.seq (.reg 64 1 r0) (.seq (.seq (.reg 128 3 r1) (.block 0 (.loop b0))) (.seq (.reg 960 1 r7) (.ret))) }
attribute [go_sem] r0 r1 r2 r3 r4 r5 r6 r7
theorem ok:chkF prog F_spec_l1Has 2 fi=true:=by kernel_rfl
end spec_l1Has
namespace spec_l17Full
def r0:List Ent:=[
 qe 0 2 (.mv (.k (.nil 1)))]
def r1:List Ent:=[
 qe 0 3 (.mv (.k (.nil 1)))]
def r2:List Ent:=[
 qe 0 4 (.mv (xN 0))]
def r3:List Ent:=[
 qm 0 5 4,
 qe 1 6 (qK .lss 5 8)]
def r4:List Ent:=[
 qm 0 9 3,
 qm 1 10 0,
 qe 2 11 (.bsl true 1 [.t 10]),
 qe 3 12 (.app 1 8 (.t 9) (.t 11)),
 qm 4 3 12]
def r5:List Ent:=[
 qm 0 7 4,
 qe 1 8 (qK .add 7 1),
 qm 2 4 8]
def b0:KC:=.seq (.seq (.reg 256 2 r3) (.cond (.t 6) (.skip) (.exit 0))) (.seq (.block 1 (.reg 384 5 r4)) (.reg 704 3 r5))
def r6:List Ent:=[
 qm 0 13 3,
 qm 1 2 13]
def fi:FI:={ res:=[.t 2],code:=.seq (.reg 64 1 r0) (.seq (.reg 128 1 r1) (.seq (.seq (.reg 192 1 r2) (.nrm 3 576 1 (.block 0 (.loop b0)))) (.seq (.reg 896 2 r6) (.ret)))) }
attribute [go_sem] r0 r1 r2 r3 r4 r5 r6
theorem ok:chkF prog F_spec_l17Full 1 fi=true:=by kernel_rfl
end spec_l17Full
namespace spec_l17Tries
def r0:List Ent:=[
 qe 0 2 (.mv (.k (.nil 1)))]
def r1:List Ent:=[
 qc 0 7 (qC F_spec_l17Full [xN 0]),
 qc 1 8 (qC F_spec_l17Full [xN 255]),
 qe 2 9 (.bsl false 1 [xN 0,xN 1,xN 2,xN 3,xN 4,xN 5,xN 6,xN 7]),
 qe 3 10 (.bsl false 1 [.t 7,.t 8,.t 9]),
 qm 4 3 10]
def r2:List Ent:=[
 qe 0 4 (.mv (.k (.nil 1)))]
def r3:List Ent:=[
 qm 0 11 0,
 qe 1 12 (qZ 11),
 qe 2 13 (.mv (xN 0))]
def r4:List Ent:=[
 qe 0 14 (qB .lss 13 12)]
def r5:List Ent:=[
 qe 0 15 (qI 6 11 13),
 qe 1 16 (qA 6 15),
 qe 2 6 (.box (.k (.agg [.dat none (.int .i64 0),.dat none (.int .i64 0),.dat none (.int .i64 0),.dat none (.int .i64 0),.dat none (.int .i64 0),.dat none (.int .i64 0)]))),
 qs 3 (qW 6 6 16)]
def r6:List Ent:=[
 qe 0 17 (qD 0 6),
 qe 1 18 (qL 1 17),
 qe 2 19 (qK .eql 18 3),
 qm 3 20 19,
 qf 4 21 20 (qD 0 6),
 qf 5 22 20 (qL 1 21),
 qf 6 23 20 (qK .eql 22 2),
 qe 7 24 (.pick (.t 20) xT (.t 23)),
 qm 8 25 24,
 qt 9 26 25 (qM 4),
 qt 10 27 25 (qD 4 6),
 qt 11 28 25 (qL 1 27),
 qh 12 29 25 (qC F_spec_l1Has [.t 26,.t 28]),
 qt 13 30 25 (qN 29),
 qe 14 31 (.pick (.t 25) (.t 30) xF),
 qm 15 32 31,
 qt 16 33 32 (qM 4),
 qt 17 34 32 (qZ 33),
 qt 18 35 32 (qK .lss 34 12),
 qe 19 36 (.pick (.t 32) (.t 35) xF)]
def r7:List Ent:=[
 qm 0 37 4,
 qe 1 38 (qD 4 6),
 qe 2 39 (qL 1 38),
 qe 3 40 (.bsl true 1 [.t 39]),
 qe 4 41 (.app 1 8 (.t 37) (.t 40)),
 qm 5 4 41]
def r8:List Ent:=[
 qm 0 42 3,
 qe 1 43 (qD 4 6),
 qe 2 44 (qL 1 43),
 qc 3 45 (qV F_spec_l17Full 44),
 qe 4 46 (.bsl false 1 [.t 45]),
 qe 5 47 (.app 1 24 (.t 42) (.t 46)),
 qm 6 3 47]
def r9:List Ent:=[
 qe 0 48 (qK .add 13 1),
 qm 1 13 48]
def b0:KC:=.seq (.reg 704 1 r4) (.seq (.cond (.t 14) (.skip) (.exit 0)) (.seq (.block 1 (.seq (.reg 768 4 r5) (.seq (.reg 1024 20 r6) (.cond (.t 36) (.seq (.reg 2304 6 r7) (.reg 2688 7 r8)) (.skip))))) (.reg 3136 2 r9)))
def r10:List Ent:=[
 qm 0 49 3,
 qm 1 2 49]
def fi:FI:={ res:=[.t 2],code:=.seq (.reg 64 1 r0) (.seq (.reg 128 5 r1) (.seq (.reg 448 1 r2) (.seq (.seq (.reg 512 3 r3) (.nrm 3 3008 1 (.nrm 4 2560 1 (.block 0 (.loop b0))))) (.seq (.reg 3264 2 r10) (.ret))))) }
attribute [go_sem] r0 r1 r2 r3 r4 r5 r6 r7 r8 r9 r10
theorem ok:chkF prog F_spec_l17Tries 1 fi=true:=by kernel_rfl
end spec_l17Tries
namespace spec_HarmIn
def r0:List Ent:=[
 qe 0 2 (.mv (.k (.nil 1))),
 qe 1 3 (.mv (xN 0)),
 qe 2 4 (.mv (xN 0)),
 qe 3 5 (.mv xF)]
def r1:List Ent:=[
 qm 0 12 0,
 qc 1 13 (qV F_spec_GoodProgram 12),
 qe 2 14 (qN 13)]
def r2:List Ent:=[
 qe 0 2 (.mv (.k (.nil 1))),
 qe 1 3 (.mv (xN 0)),
 qe 2 4 (.mv (xN 0)),
 qe 3 5 (.mv xF)]
def r3:List Ent:=[
 qm 0 15 0,
 qc 1 16 (qV F_spec_l17Tries 15),
 qe 2 17 (qZ 16),
 qe 3 18 (.mv (xN 0))]
def r4:List Ent:=[
 qe 0 19 (qB .lss 18 17)]
def r5:List Ent:=[
 qe 0 20 (qI 1 16 18),
 qe 1 21 (.load true false 1 (.t 20)),
 qm 2 7 21]
def r6:List Ent:=[
 qm 0 23 0,
 qm 1 24 7,
 qc 2 25 (qC F_spec_l3Run [.t 23,.t 24,xN 100]),
 qm 3 22 25,
 qe 4 26 (qX 0 22),
 qe 5 27 (qX 1 22),
 qe 6 28 (qX 2 22),
 qe 7 29 (qX 3 22),
 qm 8 8 26,
 qm 9 9 27,
 qm 10 10 28,
 qm 11 11 29]
def r7:List Ent:=[
 qm 0 30 9,
 qe 1 31 (qK .gtr 30 0)]
def r8:List Ent:=[
 qm 0 32 7,
 qm 1 33 9,
 qm 2 34 10,
 qm 3 2 32,
 qm 4 3 33,
 qm 5 4 34,
 qe 6 5 (.mv xT)]
def r9:List Ent:=[
 qe 0 35 (qK .add 18 1),
 qm 1 18 35]
def b0:KC:=.seq (.reg 1024 1 r4) (.seq (.cond (.t 19) (.skip) (.exit 0)) (.seq (.block 1 (.seq (.reg 1088 3 r5) (.seq (.reg 1280 12 r6) (.seq (.reg 2048 2 r7) (.cond (.t 31) (.seq (.reg 2176 7 r8) (.ret)) (.skip)))))) (.reg 2624 2 r9)))
def r10:List Ent:=[
 qe 0 2 (.mv (.k (.nil 1))),
 qe 1 3 (.mv (xN 0)),
 qe 2 4 (.mv (xN 0)),
 qe 3 5 (.mv xF)]
def fi:FI:={ res:=[.t 2,.t 3,.t 4,.t 5],code:=.seq (.reg 64 4 r0) (.seq (.seq (.reg 320 3 r1) (.cond (.t 14) (.seq (.reg 512 4 r2) (.ret)) (.skip))) (.seq (.seq (.reg 768 4 r3) (.block 0 (.loop b0))) (.seq (.reg 2752 4 r10) (.ret)))) }
attribute [go_sem] r0 r1 r2 r3 r4 r5 r6 r7 r8 r9 r10
theorem ok:chkF prog F_spec_HarmIn 1 fi=true:=by kernel_rfl
end spec_HarmIn
namespace spec_JudgeProgram
def r0:List Ent:=[
 qe 0 2 (.box (.k (.agg [.dat none (.int .i64 0),.dat none (.int .i64 0),.nil 1,.dat none (.int .i64 0),.dat none (.int .i64 0),.dat none (.int .i64 0)]))),
 qe 1 3 (.mv xF)]
def r1:List Ent:=[
 qm 0 9 0,
 qc 1 10 (qV F_spec_GoodProgram 9),
 qe 2 11 (qN 10)]
def r2:List Ent:=[
 qe 0 12 (.bld [.k (.dat none (.int .i64 0)),.k (.dat none (.int .i64 0)),.k (.nil 1),.k (.dat none (.int .i64 0)),.k (.dat none (.int .i64 0)),.k (.dat none (.int .i64 0))]),
 qs 1 (qW 6 2 12),
 qe 2 3 (.mv xF)]
def r3:List Ent:=[
 qm 0 13 0,
 qc 1 14 (qV F_spec_l13Analyse 13),
 qe 2 15 (qX 1002 14),
 qm 3 4 15]
def r4:List Ent:=[
 qm 0 16 4,
 qe 1 17 (qZ 16),
 qe 2 18 (qK .eql 17 0)]
def r5:List Ent:=[
 qm 0 19 0,
 qe 1 20 (qZ 19),
 qe 2 21 (.bld [xN 1,.k (.dat none (.int .i64 0)),.k (.nil 1),.k (.dat none (.int .i64 0)),.k (.dat none (.int .i64 0)),.t 20]),
 qs 3 (qW 6 2 21),
 qe 4 3 (.mv xT)]
def r6:List Ent:=[
 qm 0 23 0,
 qc 1 24 (qV F_spec_HarmIn 23),
 qm 2 22 24,
 qe 3 25 (qX 0 22),
 qe 4 26 (qX 1 22),
 qe 5 27 (qX 2 22),
 qe 6 28 (qX 3 22),
 qm 7 5 25,
 qm 8 6 26,
 qm 9 7 27,
 qm 10 8 28]
def r7:List Ent:=[
 qm 0 29 8]
def r8:List Ent:=[
 qm 0 30 5,
 qm 1 31 6,
 qm 2 32 7,
 qm 3 33 0,
 qe 4 34 (qZ 33),
 qe 5 35 (.bld [xN 2,.k (.dat none (.int .i64 0)),.t 30,.t 31,.t 32,.t 34]),
 qs 6 (qW 6 2 35),
 qe 7 3 (.mv xT)]
def r9:List Ent:=[
 qm 0 36 4,
 qe 1 37 (.iad 1 (.t 36) (xN 0)),
 qe 2 38 (qL 1 37),
 qm 3 39 0,
 qe 4 40 (qZ 39),
 qe 5 41 (.bld [xN 3,.k (.dat none (.int .i64 0)),.k (.nil 1),.k (.dat none (.int .i64 0)),.t 38,.t 40]),
 qs 6 (qW 6 2 41),
 qe 7 3 (.mv xT)]
def fi:FI:={ res:=[.c 2 true 6,.t 3],code:=.seq (.reg 64 2 r0) (.seq (.seq (.reg 192 3 r1) (.cond (.t 11) (.seq (.reg 384 3 r2) (.ret)) (.skip))) (.seq (.reg 576 4 r3) (.seq (.seq (.reg 832 3 r4) (.cond (.t 18) (.seq (.reg 1024 5 r5) (.ret)) (.skip))) (.seq (.seq (.reg 1344 11 r6) (.seq (.reg 2048 1 r7) (.cond (.t 29) (.seq (.reg 2112 8 r8) (.ret)) (.skip)))) (.seq (.reg 2624 8 r9) (.ret)))))) }
attribute [go_sem] r0 r1 r2 r3 r4 r5 r6 r7 r8 r9
theorem ok:chkF prog F_spec_JudgeProgram 1 fi=true:=by kernel_rfl
end spec_JudgeProgram
namespace impl_NewMachine
def r0:List Ent:=[
 qe 0 0 (.box (.k (.agg [.dat none (.int .i64 0),.nil 1,.nil 1,.nil 1])))]
def r1:List Ent:=[
 qx 0 1 (.mks 1 8 (.int .i64 0) (xN 6) (xN 6)) 1 [1,2] [] false,
 qx 1 2 (.mks 1 8 (.int .i64 0) (xN 16) (xN 16)) 1 [0,2] [] false,
 qx 2 3 (.mks 1 1 (.bool false) (xN 16) (xN 16)) 1 [0,1] [] false,
 qe 3 4 (.bld [.k (.dat none (.int .i64 0)),.t 1,.t 2,.t 3]),
 qs 4 (qW 4 0 4)]
def fi:FI:={ res:=[.c 0 true 4],code:=.seq (.reg 64 1 r0) (.seq (.reg 128 5 r1) (.ret)) }
attribute [go_sem] r0 r1
theorem ok:chkF prog F_impl_NewMachine 0 fi=true:=by kernel_rfl
end impl_NewMachine
namespace impl_pMachine_step
def r0:List Ent:=[
 qe 0 6 (.mv (xN 0)),
 qe 1 7 (.mv xF)]
def r1:List Ent:=[
 qm 0 12 1,
 qm 1 13 0,
 qe 2 14 (.nck (.t 13)),
 qe 3 15 (qD 0 14),
 qe 4 16 (qL 1 15),
 qe 5 17 (qI 6 12 16),
 qe 6 18 (qA 6 17),
 qe 7 8 (.box (.k (.agg [.dat none (.int .i64 0),.dat none (.int .i64 0),.dat none (.int .i64 0),.dat none (.int .i64 0),.dat none (.int .i64 0),.dat none (.int .i64 0)]))),
 qs 8 (qW 6 8 18)]
def r2:List Ent:=[
 qm 0 19 0,
 qe 1 20 (.nck (.t 19)),
 qe 2 21 (qD 0 20),
 qe 3 22 (qL 1 21),
 qe 4 23 (qK .add 22 1),
 qm 5 9 23]
def r3:List Ent:=[
 qm 0 24 0,
 qe 1 25 (.nck (.t 24)),
 qe 2 26 (qD 1 25),
 qe 3 27 (qL 1 26),
 qm 4 10 27]
def r4:List Ent:=[
 qe 0 28 (qD 0 8),
 qe 1 29 (qL 1 28)]
def r5:List Ent:=[
 qe 0 69 (qK .eql 29 1),
 qm 1 68 69]
def r6:List Ent:=[
 qm 0 70 10,
 qr 1 71 (qD 2 8),
 qr 2 72 (qL 1 71),
 qr 3 73 (qD 1 8),
 qr 4 74 (qL 1 73),
 qm 5 75 10,
 qr 6 76 (qD 2 8),
 qr 7 77 (qL 1 76),
 qr 8 78 (qI 1 75 77),
 qr 9 79 (qL 1 78),
 qm 10 80 10,
 qr 11 81 (qD 3 8),
 qr 12 82 (qL 1 81),
 qr 13 83 (qI 1 80 82),
 qr 14 84 (qL 1 83),
  E2 15 (some 85) none (.call F_impl_do false (roA [.t 74,.t 79,.t 84])),
 qe 16 86 (qI 1 70 72),
 qs 17 (qW 1 86 85)]
def r7:List Ent:=[
 qe 0 88 (qK .eql 29 2),
 qm 1 87 88]
def r8:List Ent:=[
 qm 0 89 10,
 qr 1 90 (qD 2 8),
 qr 2 91 (qL 1 90),
 qr 3 92 (qD 1 8),
 qr 4 93 (qL 1 92),
 qm 5 94 10,
 qr 6 95 (qD 2 8),
 qr 7 96 (qL 1 95),
 qr 8 97 (qI 1 94 96),
 qr 9 98 (qL 1 97),
 qr 10 99 (qD 4 8),
 qr 11 100 (qL 1 99),
  E2 12 (some 101) none (.call F_impl_do false (roA [.t 93,.t 98,.t 100])),
 qe 13 102 (qI 1 89 91),
 qs 14 (qW 1 102 101)]
def r9:List Ent:=[
 qe 0 104 (qK .eql 29 3),
 qm 1 103 104]
def r10:List Ent:=[
 qe 0 105 (qK .eql 29 4),
 qm 1 103 105]
def r11:List Ent:=[
 qm 0 106 10,
 qe 1 107 (qD 2 8),
 qe 2 108 (qL 1 107),
 qe 3 109 (qD 4 8),
 qe 4 110 (qL 1 109),
 qe 5 111 (qI 1 106 108),
 qs 6 (qW 1 111 110)]
def r12:List Ent:=[
 qe 0 113 (qK .eql 29 5),
 qm 1 112 113]
def r13:List Ent:=[
 qm 0 114 10,
 qr 1 115 (qD 3 8),
 qr 2 116 (qL 1 115),
 qr 3 117 (qI 1 114 116),
 qr 4 118 (qL 1 117),
 qr 5 119 (qD 4 8),
 qr 6 120 (qL 1 119),
 qe 7 121 (qB .add 118 120),
 qm 8 11 121]
def r14:List Ent:=[
 qm 0 122 11,
 qe 1 123 (qK .geq 122 8)]
def r15:List Ent:=[
 qe 0 6 (.mv (xN 1)),
 qe 1 7 (.mv xF)]
def r16:List Ent:=[
 qm 0 124 10,
 qr 1 125 (qD 2 8),
 qr 2 126 (qL 1 125),
 qm 3 127 2,
 qm 4 128 11,
 qr 5 129 (qI 1 127 128),
 qr 6 130 (qL 1 129),
 qe 7 131 (qI 1 124 126),
 qs 8 (qW 1 131 130)]
def r17:List Ent:=[
 qe 0 133 (qK .eql 29 7),
 qm 1 132 133]
def r18:List Ent:=[
 qe 0 134 (qK .eql 29 6),
 qm 1 132 134]
def r19:List Ent:=[
 qe 0 135 (qD 4 8),
 qe 1 136 (qL 1 135),
 qe 2 137 (qK .geq 136 16)]
def r20:List Ent:=[
 qe 0 6 (.mv (xN 2)),
 qe 1 7 (.mv xF)]
def r21:List Ent:=[
 qe 0 138 (qD 0 8),
 qe 1 139 (qL 1 138),
 qe 2 140 (qK .eql 139 7)]
def r22:List Ent:=[
 qm 0 141 0,
 qe 1 142 (.nck (.t 141)),
 qr 2 143 (qD 2 142),
 qr 3 144 (qL 1 143),
 qr 4 145 (qD 4 8),
 qr 5 146 (qL 1 145),
 qm 6 147 0,
 qe 7 148 (.nck (.t 147)),
 qr 8 149 (qD 3 148),
 qr 9 150 (qL 1 149),
 qm 12 153 10,
 qr 13 154 (qD 2 8),
 qr 14 155 (qL 1 154),
 qr 15 156 (qI 1 153 155),
 qr 16 157 (qL 1 156),
 qr 17 158 (qI 1 144 146),
 EP 18 none none (.i (qW 1 158 157)) 0 true,
 qx 10 151 (qD 4 8) 2 [] [18] false,
 qx 11 152 (qL 1 151) 2 [] [18] false,
 qe 19 159 (qI 1 150 152),
 qs 20 (.store 1 (.t 159) xT)]
def r23:List Ent:=[
 qm 0 160 0,
 qe 1 161 (.nck (.t 160)),
 qr 2 162 (qD 3 161),
 qr 3 163 (qL 1 162),
 qr 4 164 (qD 4 8),
 qr 5 165 (qL 1 164),
 qe 6 166 (qI 1 163 165),
 qe 7 167 (qL 1 166),
 qe 8 168 (qN 167)]
def r24:List Ent:=[
 qe 0 6 (.mv (xN 3)),
 qe 1 7 (.mv xF)]
def r25:List Ent:=[
 qm 0 169 10,
 qr 1 170 (qD 2 8),
 qr 2 171 (qL 1 170),
 qm 3 172 0,
 qe 4 173 (.nck (.t 172)),
 qr 5 174 (qD 2 173),
 qr 6 175 (qL 1 174),
 qr 7 176 (qD 4 8),
 qr 8 177 (qL 1 176),
 qr 9 178 (qI 1 175 177),
 qr 10 179 (qL 1 178),
 qe 11 180 (qI 1 169 171),
 qs 12 (qW 1 180 179)]
def r26:List Ent:=[
 qe 0 182 (qK .eql 29 11),
 qm 1 181 182]
def r27:List Ent:=[
 qe 0 6 (.mv (xN 0)),
 qe 1 7 (.mv xT)]
def r28:List Ent:=[
 qe 0 184 (qK .eql 29 8),
 qm 1 183 184]
def r29:List Ent:=[
 qm 0 185 9,
 qe 1 186 (qD 5 8),
 qe 2 187 (qL 1 186),
 qe 3 188 (qB .add 185 187),
 qm 4 9 188]
def r30:List Ent:=[
 qe 0 30 (qD 0 8),
 qe 1 31 (qL 1 30),
 qe 2 32 (qK .eql 31 9),
 qm 3 33 32,
 qt 4 34 33 (qM 10),
 ER 5 (some 35) (some (33,true)) (qD 2 8),
 ER 6 (some 36) (some (33,true)) (qL 1 35),
 ER 7 (some 37) (some (33,true)) (qI 1 34 36),
 ER 8 (some 38) (some (33,true)) (qL 1 37),
 qt 9 39 33 (qM 10),
 ER 10 (some 40) (some (33,true)) (qD 3 8),
 ER 11 (some 41) (some (33,true)) (qL 1 40),
 ER 12 (some 42) (some (33,true)) (qI 1 39 41),
 ER 13 (some 43) (some (33,true)) (qL 1 42),
 qt 14 44 33 (qB .eql 38 43),
 qe 15 45 (.pick (.t 33) (.t 44) xF),
 qm 16 46 45,
 qf 17 47 46 (qD 0 8),
 qf 18 48 46 (qL 1 47),
 qf 19 49 46 (qK .eql 48 10),
 qf 20 50 46 (qM 49),
 qt 21 51 50 (qM 10),
 ER 22 (some 52) (some (50,true)) (qD 2 8),
 ER 23 (some 53) (some (50,true)) (qL 1 52),
 ER 24 (some 54) (some (50,true)) (qI 1 51 53),
 ER 25 (some 55) (some (50,true)) (qL 1 54),
 qt 26 56 50 (qM 10),
 ER 27 (some 57) (some (50,true)) (qD 3 8),
 ER 28 (some 58) (some (50,true)) (qL 1 57),
 ER 29 (some 59) (some (50,true)) (qI 1 56 58),
 ER 30 (some 60) (some (50,true)) (qL 1 59),
 qt 31 61 50 (qB .lss 55 60),
 qf 32 62 46 (.pick (.t 50) (.t 61) xF),
 qe 33 63 (.pick (.t 46) xT (.t 62))]
def r31:List Ent:=[
 qm 0 64 9,
 qe 1 65 (qD 5 8),
 qe 2 66 (qL 1 65),
 qe 3 67 (qB .add 64 66),
 qm 4 9 67]
def r32:List Ent:=[
 qm 0 189 0,
 qm 1 190 9,
 qe 2 191 (.nck (.t 189)),
 qe 3 192 (qD 0 191),
 qs 4 (qW 1 192 190)]
def r33:List Ent:=[
 qe 0 6 (.mv (xN 0)),
 qe 1 7 (.mv xF)]
def fi:FI:={ res:=[.t 6,.t 7],code:=.seq (.reg 64 2 r0) (.seq (.reg 192 9 r1) (.seq (.reg 768 6 r2) (.seq (.reg 1152 5 r3) (.seq (.seq (.reg 1472 2 r4) (.block 0 (.seq (.reg 1600 2 r5) (.cond (.t 68) (.reg 1728 18 r6) (.seq (.reg 2880 2 r7) (.cond (.t 87) (.reg 3008 15 r8) (.seq (.seq (.reg 3968 2 r9) (.cond (.t 103) (.skip) (.reg 4096 2 r10))) (.cond (.t 103) (.reg 4224 7 r11) (.seq (.reg 4672 2 r12) (.cond (.t 112) (.seq (.reg 4800 9 r13) (.seq (.seq (.reg 5376 2 r14) (.cond (.t 123) (.seq (.reg 5504 2 r15) (.ret)) (.skip))) (.reg 5632 9 r16))) (.seq (.seq (.reg 6208 2 r17) (.cond (.t 132) (.skip) (.reg 6336 2 r18))) (.cond (.t 132) (.seq (.seq (.reg 6464 3 r19) (.cond (.t 137) (.seq (.reg 6656 2 r20) (.ret)) (.skip))) (.seq (.seq (.reg 6784 3 r21) (.cond (.t 140) (.seq (.reg 6976 21 r22) (.exit 0)) (.skip))) (.seq (.seq (.reg 8320 9 r23) (.cond (.t 168) (.seq (.reg 8896 2 r24) (.ret)) (.skip))) (.reg 9024 13 r25)))) (.seq (.reg 9856 2 r26) (.cond (.t 181) (.seq (.reg 9984 2 r27) (.ret)) (.seq (.reg 10112 2 r28) (.cond (.t 183) (.reg 10240 5 r29) (.seq (.reg 10560 34 r30) (.cond (.t 63) (.reg 12736 5 r31) (.skip))))))))))))))))))) (.seq (.reg 13056 5 r32) (.seq (.reg 13376 2 r33) (.ret))))))) }
attribute [go_sem] r0 r1 r2 r3 r4 r5 r6 r7 r8 r9 r10 r11 r12 r13 r14 r15 r16 r17 r18 r19 r20 r21 r22 r23 r24 r25 r26 r27 r28 r29 r30 r31 r32 r33
theorem ok:chkF prog F_impl_pMachine_step 3 fi=true:=by kernel_rfl
end impl_pMachine_step
namespace impl_run
def r0:List Ent:=[
 qe 0 6 (.mv (xN 0)),
 qe 1 7 (.mv (xN 0)),
 qe 2 8 (.mv (xN 0)),
 qe 3 9 (.mv (.k (.nil 1)))]
def r1:List Ent:=[
 qc 0 15 (qC F_impl_NewMachine []),
 qe 1 10 (.box (.k (.agg [.dat none (.int .i64 0),.nil 1,.nil 1,.nil 1]))),
 qs 2 (qW 4 10 15)]
def r2:List Ent:=[
 qe 0 11 (.mv (.k (.nil 1)))]
def r3:List Ent:=[
 qe 0 16 (qD 0 10),
 qe 1 17 (qL 1 16),
 qm 2 12 17]
def r4:List Ent:=[
 qm 0 18 11,
 qe 1 19 (qZ 18),
 qm 2 20 2,
 qe 3 21 (qB .eql 19 20)]
def r5:List Ent:=[
 qm 0 22 12,
 qm 1 23 11,
 qe 2 6 (.mv (xN 0)),
 qe 3 7 (.mv (xN 4)),
 qm 4 8 22,
 qm 5 9 23]
def r6:List Ent:=[
 qm 0 24 11,
 qm 1 25 12,
 qe 2 26 (.bsl true 1 [.t 25]),
 qe 3 27 (.app 1 8 (.t 24) (.t 26)),
 qm 4 11 27]
def r7:List Ent:=[
 qm 0 29 0,
 qm 1 30 1,
 qc 2 31 (.call F_impl_pMachine_step false [(.io,.t 10),(.ro,.t 29),(.ro,.t 30)]),
 qm 3 28 31,
 qe 4 32 (qX 0 28),
 qe 5 33 (qX 1 28),
 qm 6 13 32,
 qm 7 14 33]
def r8:List Ent:=[
 qm 0 34 13,
 qe 1 35 (qK .neq 34 0)]
def r9:List Ent:=[
 qm 0 36 13,
 qm 1 37 12,
 qm 2 38 11,
 qe 3 6 (.mv (xN 0)),
 qm 4 7 36,
 qm 5 8 37,
 qm 6 9 38]
def r10:List Ent:=[
 qm 0 39 14]
def r11:List Ent:=[
 qe 0 40 (qD 1 10),
 qe 1 41 (qL 1 40),
 qe 2 42 (.iad 1 (.t 41) (xN 0)),
 qe 3 43 (qL 1 42),
 qm 4 44 11,
 qm 5 6 43,
 qe 6 7 (.mv (xN 0)),
 qe 7 8 (.mv (xN 0)),
 qm 8 9 44]
def b0:KC:=.block 1 (.seq (.reg 576 3 r3) (.seq (.seq (.reg 768 4 r4) (.cond (.t 21) (.seq (.reg 1024 6 r5) (.ret)) (.skip))) (.seq (.reg 1408 5 r6) (.seq (.reg 1728 8 r7) (.seq (.seq (.reg 2240 2 r8) (.cond (.t 35) (.seq (.reg 2368 7 r9) (.ret)) (.skip))) (.seq (.reg 2816 1 r10) (.cond (.t 39) (.seq (.reg 2880 9 r11) (.ret)) (.skip))))))))
def fi:FI:={ res:=[.t 6,.t 7,.t 8,.t 9],code:=.seq (.reg 64 4 r0) (.seq (.reg 320 3 r1) (.seq (.reg 512 1 r2) (.nrm 11 1600 1 (.block 0 (.loop b0))))) }
attribute [go_sem] r0 r1 r2 r3 r4 r5 r6 r7 r8 r9 r10 r11
theorem ok:chkF prog F_impl_run 3 fi=true:=by kernel_rfl
end impl_run
namespace slices_Index__sint_int
def r0:List Ent:=[
 qe 0 4 (.mv (xN 0))]
def r1:List Ent:=[
 qm 0 6 0,
 qe 1 7 (qZ 6),
 qe 2 8 (.mv (xN 0))]
def r2:List Ent:=[
 qe 0 9 (qB .lss 8 7)]
def r3:List Ent:=[
 qm 0 10 8,
 qm 1 5 10]
def r4:List Ent:=[
 qm 0 11 1,
 qm 1 12 0,
 qm 2 13 5,
 qe 3 14 (qI 1 12 13),
 qe 4 15 (qL 1 14),
 qe 5 16 (qB .eql 11 15)]
def r5:List Ent:=[
 qm 0 17 5,
 qm 1 4 17]
def r6:List Ent:=[
 qe 0 18 (qK .add 8 1),
 qm 1 8 18]
def b0:KC:=.seq (.reg 320 1 r2) (.seq (.cond (.t 9) (.skip) (.exit 0)) (.seq (.block 1 (.seq (.reg 384 2 r3) (.seq (.reg 512 6 r4) (.cond (.t 16) (.seq (.reg 896 2 r5) (.ret)) (.skip))))) (.reg 1024 2 r6)))
def r7:List Ent:=[
 qe 0 4 (.mv (xN (-1)))]
def fi:FI:={ res:=[.t 4],code:=.seq (.reg 64 1 r0) (.seq (.seq (.reg 128 3 r1) (.block 0 (.loop b0))) (.seq (.reg 1152 1 r7) (.ret))) }
attribute [go_sem] r0 r1 r2 r3 r4 r5 r6 r7
theorem ok:chkF prog F_slices_Index__sint_int 2 fi=true:=by kernel_rfl
end slices_Index__sint_int
namespace slices_Contains__sint_int
def r0:List Ent:=[
 qe 0 4 (.mv xF)]
def r1:List Ent:=[
 qm 0 5 0,
 qm 1 6 1,
 qc 2 7 (qC F_slices_Index__sint_int [.t 5,.t 6]),
 qe 3 8 (qK .geq 7 0),
 qm 4 4 8]
def fi:FI:={ res:=[.t 4],code:=.seq (.reg 64 1 r0) (.seq (.reg 128 5 r1) (.ret)) }
attribute [go_sem] r0 r1
theorem ok:chkF prog F_slices_Contains__sint_int 2 fi=true:=by kernel_rfl
end slices_Contains__sint_int
namespace slices_Repeat__sint_int
def r0:List Ent:=[
 qe 0 4 (.mv (.k (.nil 1)))]
def r1:List Ent:=[
 qm 0 9 1,
 qe 1 10 (qK .lss 9 0)]
def r2:List Ent:=[
 qe 0 11 (.no),
 qs 1 (.no)]
def r3:List Ent:=[
 qm 0 13 0,
 qe 1 14 (qZ 13),
 qe 2 15 (.cnv .u64 (.t 14)),
 qm 3 16 1,
 qe 4 17 (.cnv .u64 (.t 16)),
 qc 5 18 (qC F_bits_Mul [.t 15,.t 17]),
 qm 6 12 18,
 qe 7 19 (qX 0 12),
 qe 8 20 (qX 1 12),
 qm 9 5 19,
 qm 10 6 20]
def r4:List Ent:=[
 qm 0 21 5,
 qe 1 22 (.bin .gtr (.t 21) (.k (.dat none (.int .u64 0)))),
 qm 2 23 22,
 qf 3 24 23 (qM 6),
 qf 4 25 23 (.bin .gtr (.t 24) (.k (.dat none (.int .u64 9223372036854775807)))),
 qe 5 26 (.pick (.t 23) xT (.t 25))]
def r5:List Ent:=[
 qe 0 27 (.no),
 qs 1 (.no)]
def r6:List Ent:=[
 qm 0 28 6,
 qe 1 29 (.cnv .i64 (.t 28)),
 qe 2 30 (.mks 1 8 (.int .i64 0) (.t 29) (.t 29)),
 qm 3 7 30]
def r7:List Ent:=[
 qm 0 31 7,
 qm 1 32 0,
 qe 2 33 (.cpy 1 (.t 31) (.t 32)),
 qm 3 8 33]
def r8:List Ent:=[
 qm 0 34 8,
 qm 1 35 7,
 qe 2 36 (qZ 35),
 qe 3 37 (qB .lss 34 36)]
def r9:List Ent:=[
 qm 0 38 8,
 qm 1 39 7,
 qm 2 40 8,
 qr 3 41 (.slc 1 (.t 39) (some (.t 40)) (none)),
 qm 4 42 7,
 qm 5 43 8,
 qr 6 44 (.slc 1 (.t 42) (none) (some (.t 43))),
 qe 7 45 (.cpy 1 (.t 41) (.t 44)),
 qe 8 46 (qB .add 38 45),
 qm 9 8 46]
def b0:KC:=.seq (.seq (.reg 2112 4 r8) (.cond (.t 37) (.skip) (.exit 0))) (.block 1 (.reg 2368 10 r9))
def r10:List Ent:=[
 qm 0 47 7,
 qm 1 4 47]
def fi:FI:={ res:=[.t 4],code:=.seq (.reg 64 1 r0) (.seq (.seq (.reg 128 2 r1) (.cond (.t 10) (.reg 256 2 r2) (.skip))) (.seq (.reg 384 11 r3) (.seq (.seq (.reg 1088 6 r4) (.cond (.t 26) (.reg 1472 2 r5) (.skip))) (.seq (.reg 1600 4 r6) (.seq (.reg 1856 4 r7) (.seq (.block 0 (.loop b0)) (.seq (.reg 3008 2 r10) (.ret)))))))) }
attribute [go_sem] r0 r1 r2 r3 r4 r5 r6 r7 r8 r9 r10
theorem ok:chkF prog F_slices_Repeat__sint_int 2 fi=true:=by kernel_rfl
end slices_Repeat__sint_int
namespace impl_alone
def r0:List Ent:=[
 qe 0 2 (.mv (.k (.nil 1)))]
def r1:List Ent:=[
 qm 0 3 0,
 qe 1 4 (.bsl false 1 [.t 3]),
 qc 2 5 (qC F_slices_Repeat__sint_int [.t 4,xN 8]),
 qm 3 2 5]
def fi:FI:={ res:=[.t 2],code:=.seq (.reg 64 1 r0) (.seq (.reg 128 4 r1) (.ret)) }
attribute [go_sem] r0 r1
theorem ok:chkF prog F_impl_alone 1 fi=true:=by kernel_rfl
end impl_alone
namespace impl_tries
def r0:List Ent:=[
 qe 0 2 (.mv (.k (.nil 1)))]
def r1:List Ent:=[
 qc 0 7 (qC F_impl_alone [xN 0]),
 qc 1 8 (qC F_impl_alone [xN 255]),
 qe 2 9 (.bsl false 1 [xN 0,xN 1,xN 2,xN 3,xN 4,xN 5,xN 6,xN 7]),
 qe 3 10 (.bsl false 1 [.t 7,.t 8,.t 9]),
 qm 4 3 10]
def r2:List Ent:=[
 qe 0 4 (.mv (.k (.nil 1)))]
def r3:List Ent:=[
 qm 0 11 0,
 qe 1 12 (qZ 11),
 qe 2 13 (.mv (xN 0))]
def r4:List Ent:=[
 qe 0 14 (qB .lss 13 12)]
def r5:List Ent:=[
 qe 0 15 (qI 6 11 13),
 qe 1 16 (qA 6 15),
 qe 2 6 (.box (.k (.agg [.dat none (.int .i64 0),.dat none (.int .i64 0),.dat none (.int .i64 0),.dat none (.int .i64 0),.dat none (.int .i64 0),.dat none (.int .i64 0)]))),
 qs 3 (qW 6 6 16)]
def r6:List Ent:=[
 qe 0 17 (qD 0 6),
 qe 1 18 (qL 1 17),
 qe 2 19 (qK .neq 18 3),
 qm 3 20 19,
 qt 4 21 20 (qD 0 6),
 qt 5 22 20 (qL 1 21),
 qt 6 23 20 (qK .neq 22 2),
 qe 7 24 (.pick (.t 20) (.t 23) xF),
 qm 8 25 24,
 qf 9 26 25 (qM 4),
 qf 10 27 25 (qD 4 6),
 qf 11 28 25 (qL 1 27),
 qj 12 29 25 (qC F_slices_Contains__sint_int [.t 26,.t 28]),
 qe 13 30 (.pick (.t 25) xT (.t 29)),
 qm 14 31 30,
 qf 15 32 31 (qM 4),
 qf 16 33 31 (qZ 32),
 qf 17 34 31 (qK .eql 33 12),
 qe 18 35 (.pick (.t 31) xT (.t 34))]
def r7:List Ent:=[
 qm 0 36 4,
 qe 1 37 (qD 4 6),
 qe 2 38 (qL 1 37),
 qe 3 39 (.bsl true 1 [.t 38]),
 qe 4 40 (.app 1 8 (.t 36) (.t 39)),
 qm 5 4 40]
def r8:List Ent:=[
 qm 0 41 3,
 qe 1 42 (qD 4 6),
 qe 2 43 (qL 1 42),
 qc 3 44 (qV F_impl_alone 43),
 qe 4 45 (.bsl false 1 [.t 44]),
 qe 5 46 (.app 1 24 (.t 41) (.t 45)),
 qm 6 3 46]
def r9:List Ent:=[
 qe 0 47 (qK .add 13 1),
 qm 1 13 47]
def b0:KC:=.seq (.reg 704 1 r4) (.seq (.cond (.t 14) (.skip) (.exit 0)) (.seq (.block 1 (.seq (.reg 768 4 r5) (.seq (.seq (.reg 1024 19 r6) (.cond (.t 35) (.exit 1) (.skip))) (.seq (.reg 2240 6 r7) (.reg 2624 7 r8))))) (.reg 3072 2 r9)))
def r10:List Ent:=[
 qm 0 48 3,
 qm 1 2 48]
def fi:FI:={ res:=[.t 2],code:=.seq (.reg 64 1 r0) (.seq (.reg 128 5 r1) (.seq (.reg 448 1 r2) (.seq (.seq (.reg 512 3 r3) (.nrm 3 2944 1 (.nrm 4 2496 1 (.block 0 (.loop b0))))) (.seq (.reg 3200 2 r10) (.ret))))) }
attribute [go_sem] r0 r1 r2 r3 r4 r5 r6 r7 r8 r9 r10
theorem ok:chkF prog F_impl_tries 1 fi=true:=by kernel_rfl
end impl_tries
namespace impl_HarmIn
def r0:List Ent:=[
 qe 0 2 (.mv (.k (.nil 1))),
 qe 1 3 (.mv (xN 0)),
 qe 2 4 (.mv (xN 0)),
 qe 3 5 (.mv xF)]
def r1:List Ent:=[
 qm 0 12 0,
 qc 1 13 (qV F_impl_GoodProgram 12),
 qe 2 14 (qN 13)]
def r2:List Ent:=[
 qe 0 2 (.mv (.k (.nil 1))),
 qe 1 3 (.mv (xN 0)),
 qe 2 4 (.mv (xN 0)),
 qe 3 5 (.mv xF)]
def r3:List Ent:=[
 qm 0 15 0,
 qc 1 16 (qV F_impl_tries 15),
 qe 2 17 (qZ 16),
 qe 3 18 (.mv (xN 0))]
def r4:List Ent:=[
 qe 0 19 (qB .lss 18 17)]
def r5:List Ent:=[
 qe 0 20 (qI 1 16 18),
 qe 1 21 (.load true false 1 (.t 20)),
 qm 2 7 21]
def r6:List Ent:=[
 qm 0 23 0,
 qm 1 24 7,
 qc 2 25 (qC F_impl_run [.t 23,.t 24,xN 100]),
 qm 3 22 25,
 qe 4 26 (qX 0 22),
 qe 5 27 (qX 1 22),
 qe 6 28 (qX 2 22),
 qe 7 29 (qX 3 22),
 qm 8 8 26,
 qm 9 9 27,
 qm 10 10 28,
 qm 11 11 29]
def r7:List Ent:=[
 qm 0 30 9,
 qe 1 31 (qK .neq 30 0)]
def r8:List Ent:=[
 qm 0 32 7,
 qm 1 33 9,
 qm 2 34 10,
 qm 3 2 32,
 qm 4 3 33,
 qm 5 4 34,
 qe 6 5 (.mv xT)]
def r9:List Ent:=[
 qe 0 35 (qK .add 18 1),
 qm 1 18 35]
def b0:KC:=.seq (.reg 1024 1 r4) (.seq (.cond (.t 19) (.skip) (.exit 0)) (.seq (.block 1 (.seq (.reg 1088 3 r5) (.seq (.reg 1280 12 r6) (.seq (.reg 2048 2 r7) (.cond (.t 31) (.seq (.reg 2176 7 r8) (.ret)) (.skip)))))) (.reg 2624 2 r9)))
def r10:List Ent:=[
 qe 0 2 (.mv (.k (.nil 1))),
 qe 1 3 (.mv (xN 0)),
 qe 2 4 (.mv (xN 0)),
 qe 3 5 (.mv xF)]
def fi:FI:={ res:=[.t 2,.t 3,.t 4,.t 5],code:=.seq (.reg 64 4 r0) (.seq (.seq (.reg 320 3 r1) (.cond (.t 14) (.seq (.reg 512 4 r2) (.ret)) (.skip))) (.seq (.seq (.reg 768 4 r3) (.block 0 (.loop b0))) (.seq (.reg 2752 4 r10) (.ret)))) }
attribute [go_sem] r0 r1 r2 r3 r4 r5 r6 r7 r8 r9 r10
theorem ok:chkF prog F_impl_HarmIn 1 fi=true:=by kernel_rfl
end impl_HarmIn
namespace impl_JudgeProgram
def r0:List Ent:=[
 qe 0 2 (.box (.k (.agg [.dat none (.int .i64 0),.dat none (.int .i64 0),.nil 1,.dat none (.int .i64 0),.dat none (.int .i64 0),.dat none (.int .i64 0)]))),
 qe 1 3 (.mv xF)]
def r1:List Ent:=[
 qm 0 12 0,
 qc 1 13 (qV F_impl_AnalyseProgram 12),
 qm 2 11 13,
 qe 3 14 (qX 0 11),
 qe 4 15 (qX 1 11),
 qe 5 4 (.box (.k (.agg [.nil 1,.nil 4,.nil 1]))),
 qs 6 (qW 3 4 14),
 qm 7 5 15]
def r2:List Ent:=[
 qm 0 16 5,
 qe 1 17 (qN 16)]
def r3:List Ent:=[
 qe 0 18 (.bld [.k (.dat none (.int .i64 0)),.k (.dat none (.int .i64 0)),.k (.nil 1),.k (.dat none (.int .i64 0)),.k (.dat none (.int .i64 0)),.k (.dat none (.int .i64 0))]),
 qs 1 (qW 6 2 18),
 qe 2 3 (.mv xF)]
def r4:List Ent:=[
 qm 0 19 0,
 qe 1 20 (qZ 19),
 qe 2 21 (.bld [xN 1,.k (.dat none (.int .i64 0)),.k (.nil 1),.k (.dat none (.int .i64 0)),.k (.dat none (.int .i64 0)),.t 20]),
 qe 3 6 (.box (.k (.agg [.dat none (.int .i64 0),.dat none (.int .i64 0),.nil 1,.dat none (.int .i64 0),.dat none (.int .i64 0),.dat none (.int .i64 0)]))),
 qs 4 (qW 6 6 21)]
def r5:List Ent:=[
 qe 0 22 (qD 2 4),
 qe 1 23 (qL 1 22),
 qe 2 24 (qZ 23),
 qe 3 25 (qK .eql 24 0)]
def r6:List Ent:=[
 qe 0 26 (qA 6 6),
 qs 1 (qW 6 2 26),
 qe 2 3 (.mv xT)]
def r7:List Ent:=[
 qm 0 28 0,
 qc 1 29 (qV F_impl_HarmIn 28),
 qm 2 27 29,
 qe 3 30 (qX 0 27),
 qe 4 31 (qX 1 27),
 qe 5 32 (qX 2 27),
 qe 6 33 (qX 3 27),
 qm 7 7 30,
 qm 8 8 31,
 qm 9 9 32,
 qm 10 10 33]
def r8:List Ent:=[
 qm 0 34 10]
def r9:List Ent:=[
 qm 0 35 7,
 qm 1 36 8,
 qm 2 37 9,
 qe 3 38 (qD 0 6),
 qs 4 (.store 1 (.t 38) (xN 2)),
 qe 5 39 (qD 2 6),
 qs 6 (qW 1 39 35),
 qe 7 40 (qD 3 6),
 qs 8 (qW 1 40 36),
 qe 9 41 (qD 4 6),
 qs 10 (qW 1 41 37)]
def r10:List Ent:=[
 qe 0 42 (qA 6 6),
 qs 1 (qW 6 2 42),
 qe 2 3 (.mv xT)]
def r11:List Ent:=[
 qr 4 47 (qD 0 6),
 EP 5 none none (.i (.store 1 (.t 47) (xN 3))) 0 true,
 qx 0 43 (qD 2 4) 2 [] [5] false,
 qx 1 44 (qL 1 43) 2 [] [5] false,
 qx 2 45 (.iad 1 (.t 44) (xN 0)) 2 [] [5] false,
 qx 3 46 (qL 1 45) 2 [] [5] false,
 qe 6 48 (qD 4 6),
 qs 7 (qW 1 48 46)]
def r12:List Ent:=[
 qe 0 49 (qA 6 6),
 qs 1 (qW 6 2 49),
 qe 2 3 (.mv xT)]
def fi:FI:={ res:=[.c 2 true 6,.t 3],code:=.seq (.reg 64 2 r0) (.seq (.reg 192 8 r1) (.seq (.seq (.reg 704 2 r2) (.cond (.t 17) (.seq (.reg 832 3 r3) (.ret)) (.skip))) (.seq (.reg 1024 5 r4) (.seq (.seq (.reg 1344 4 r5) (.cond (.t 25) (.seq (.reg 1600 3 r6) (.ret)) (.skip))) (.seq (.seq (.reg 1792 11 r7) (.seq (.reg 2496 1 r8) (.cond (.t 34) (.seq (.reg 2560 11 r9) (.seq (.reg 3264 3 r10) (.ret))) (.skip)))) (.seq (.reg 3456 8 r11) (.seq (.reg 3968 3 r12) (.ret)))))))) }
attribute [go_sem] r0 r1 r2 r3 r4 r5 r6 r7 r8 r9 r10 r11 r12
theorem ok:chkF prog F_impl_JudgeProgram 1 fi=true:=by kernel_rfl
end impl_JudgeProgram
namespace spec_l2Bytes
def r0:List Ent:=[
 qe 0 1 (.box (.t 0)),
 qe 1 2 (.mv (.k (.dat none (.str ⟨#[]⟩))))]
def r1:List Ent:=[
 qe 0 4 (qD 0 1),
 qe 1 5 (qL 1 4),
 qe 2 6 (qD 1 1),
 qe 3 7 (qL 1 6),
 qe 4 8 (.bin .mul (xN 16) (.t 7)),
 qe 5 9 (qB .add 5 8),
 qe 6 10 (.cnv .u8 (.t 9)),
 qe 7 11 (qD 2 1),
 qe 8 12 (qL 1 11),
 qe 9 13 (.bin .mul (xN 16) (.t 12)),
 qe 10 14 (qD 3 1),
 qe 11 15 (qL 1 14),
 qe 12 16 (qB .add 13 15),
 qe 13 17 (.cnv .u8 (.t 16)),
 qe 14 18 (qD 5 1),
 qe 15 19 (qL 1 18),
 qe 16 20 (.cnv .u8 (.t 19)),
 qe 17 21 (qD 4 1),
 qe 18 22 (qL 1 21),
 qe 19 23 (qK .rem 22 256),
 qe 20 24 (.cnv .u8 (.t 23)),
 qe 21 25 (.bsl false 1 [.t 10,.t 17,.t 20,.t 24]),
 qm 22 3 25]
def r2:List Ent:=[
 qe 0 26 (qD 0 1),
 qe 1 27 (qL 1 26),
 qe 2 28 (qK .eql 27 4)]
def r3:List Ent:=[
 qm 0 29 3,
 qe 1 30 (qD 4 1),
 qe 2 31 (qL 1 30),
 qe 3 32 (qK .quo 31 256),
 qe 4 33 (.cnv .u8 (.t 32)),
 qe 5 34 (.bsl true 1 [.k (.dat none (.int .u8 0)),.k (.dat none (.int .u8 0)),.k (.dat none (.int .u8 0)),.t 33]),
 qe 6 35 (.app 1 1 (.t 29) (.t 34)),
 qm 7 3 35]
def r4:List Ent:=[
 qm 0 36 3,
 qe 1 37 (.b2s (.t 36)),
 qm 2 2 37]
def fi:FI:={ res:=[.t 2],code:=.seq (.reg 64 2 r0) (.seq (.reg 192 23 r1) (.seq (.seq (.reg 1664 3 r2) (.cond (.t 28) (.reg 1856 8 r3) (.skip))) (.seq (.reg 2368 3 r4) (.ret)))) }
attribute [go_sem] r0 r1 r2 r3 r4
theorem ok:chkF prog F_spec_l2Bytes 1 fi=true:=by kernel_rfl
end spec_l2Bytes
namespace spec_ReadProgram
def r0:List Ent:=[
 qe 0 2 (.mv (.k (.nil 6))),
 qe 1 3 (.mv (xN 0)),
 qe 2 4 (.mv xF)]
def r1:List Ent:=[
 qm 0 9 0,
 qe 1 10 (.lens (.t 9)),
 qe 2 11 (qK .gtr 10 160)]
def r2:List Ent:=[
 qe 0 2 (.mv (.k (.nil 6))),
 qe 1 3 (.mv (xN 0)),
 qe 2 4 (.mv xF)]
def r3:List Ent:=[
 qe 0 5 (.mv (.k (.nil 6)))]
def r4:List Ent:=[
 qe 0 6 (.mv (xN 0))]
def r5:List Ent:=[
 qm 0 12 6,
 qm 1 13 0,
 qe 2 14 (.lens (.t 13)),
 qe 3 15 (qB .lss 12 14)]
def r6:List Ent:=[
 qm 0 16 0,
 qe 1 17 (.lens (.t 16)),
 qm 2 18 6,
 qe 3 19 (qB .sub 17 18),
 qe 4 20 (qK .lss 19 4)]
def r7:List Ent:=[
 qe 0 2 (.mv (.k (.nil 6))),
 qe 1 3 (.mv (xN 1)),
 qe 2 4 (.mv xF)]
def r8:List Ent:=[
 qm 0 21 0,
 qm 1 22 6,
 qe 2 23 (.ids (.t 21) (.t 22)),
 qe 3 24 (.cnv .i64 (.t 23)),
 qe 4 25 (qK .rem 24 16),
 qm 5 26 0,
 qm 6 27 6,
 qe 7 28 (.ids (.t 26) (.t 27)),
 qe 8 29 (.cnv .i64 (.t 28)),
 qe 9 30 (qK .quo 29 16),
 qm 10 31 0,
 qm 11 32 6,
 qe 12 33 (qK .add 32 1),
 qe 13 34 (.ids (.t 31) (.t 33)),
 qe 14 35 (.cnv .i64 (.t 34)),
 qe 15 36 (qK .quo 35 16),
 qm 16 37 0,
 qm 17 38 6,
 qe 18 39 (qK .add 38 1),
 qe 19 40 (.ids (.t 37) (.t 39)),
 qe 20 41 (.cnv .i64 (.t 40)),
 qe 21 42 (qK .rem 41 16),
 qm 22 43 0,
 qm 23 44 6,
 qe 24 45 (qK .add 44 2),
 qe 25 46 (.ids (.t 43) (.t 45)),
 qe 26 47 (.cnv .i64 (.t 46)),
 qm 27 48 0,
 qm 28 49 6,
 qe 29 50 (qK .add 49 3),
 qe 30 51 (.ids (.t 48) (.t 50)),
 qe 31 52 (.cnv .i64 (.t 51)),
 qx 32 53 (.bld [.t 25,.t 30,.t 36,.t 42,.t 52,.t 47]) 2 [33] [] false,
 EP 33 (some 7) none (.i (.box (.k (.agg [.dat none (.int .i64 0),.dat none (.int .i64 0),.dat none (.int .i64 0),.dat none (.int .i64 0),.dat none (.int .i64 0),.dat none (.int .i64 0)])))) 1 false,
 qs 34 (qW 6 7 53)]
def r9:List Ent:=[
 qe 0 8 (.mv (xN 4))]
def r10:List Ent:=[
 qe 0 54 (qD 0 7),
 qe 1 55 (qL 1 54),
 qe 2 56 (qK .eql 55 4)]
def r11:List Ent:=[
 qe 0 8 (.mv (xN 8))]
def r12:List Ent:=[
 qm 0 57 0,
 qe 1 58 (.lens (.t 57)),
 qm 2 59 6,
 qe 3 60 (qB .sub 58 59),
 qe 4 61 (qK .lss 60 8)]
def r13:List Ent:=[
 qe 0 2 (.mv (.k (.nil 6))),
 qe 1 3 (.mv (xN 1)),
 qe 2 4 (.mv xF)]
def r14:List Ent:=[
 qe 0 62 (qD 4 7),
 qe 1 63 (qL 1 62),
 qm 2 64 0,
 qm 3 65 6,
 qe 4 66 (qK .add 65 7),
 qe 5 67 (.ids (.t 64) (.t 66)),
 qe 6 68 (.cnv .i64 (.t 67)),
 qe 7 69 (.bin .mul (xN 256) (.t 68)),
 qe 8 70 (qB .add 63 69),
 qe 9 71 (qD 4 7),
 qs 10 (qW 1 71 70)]
def r15:List Ent:=[
 qe 0 72 (qA 6 7),
 qc 1 73 (qV F_spec_l2Step 72),
 qe 2 74 (qN 73),
 qm 3 75 74,
 qf 4 76 75 (qA 6 7),
 qj 5 77 75 (qV F_spec_l2Bytes 76),
 qf 6 78 75 (qM 0),
 qf 7 79 75 (qM 6),
 qf 8 80 75 (qM 6),
 qf 9 81 75 (qM 8),
 qf 10 82 75 (qB .add 80 81),
 qf 11 83 75 (.sls (.t 78) (some (.t 79)) (some (.t 82))),
 qf 12 84 75 (qB .neq 77 83),
 qe 13 85 (.pick (.t 75) xT (.t 84))]
def r16:List Ent:=[
 qe 0 2 (.mv (.k (.nil 6))),
 qe 1 3 (.mv (xN 2)),
 qe 2 4 (.mv xF)]
def r17:List Ent:=[
 qm 0 86 5,
 qe 1 87 (qA 6 7),
 qe 2 88 (.bsl true 6 [.t 87]),
 qe 3 89 (.app 6 48 (.t 86) (.t 88)),
 qm 4 5 89]
def r18:List Ent:=[
 qm 0 90 6,
 qm 1 91 8,
 qe 2 92 (qB .add 90 91),
 qm 3 6 92]
def b0:KC:=.seq (.seq (.reg 768 4 r5) (.cond (.t 15) (.skip) (.exit 0))) (.block 1 (.seq (.seq (.reg 1024 5 r6) (.cond (.t 20) (.seq (.reg 1344 3 r7) (.ret)) (.skip))) (.seq (.reg 1536 35 r8) (.seq (.reg 3776 1 r9) (.seq (.seq (.reg 3840 3 r10) (.cond (.t 56) (.seq (.reg 4032 1 r11) (.seq (.seq (.reg 4096 5 r12) (.cond (.t 61) (.seq (.reg 4416 3 r13) (.ret)) (.skip))) (.reg 4608 11 r14))) (.skip))) (.seq (.seq (.reg 5312 14 r15) (.cond (.t 85) (.seq (.reg 6208 3 r16) (.ret)) (.skip))) (.seq (.reg 6400 5 r17) (.reg 6720 4 r18))))))))
def r19:List Ent:=[
 qm 0 93 5,
 qc 1 94 (qV F_spec_GoodProgram 93),
 qe 2 95 (qN 94)]
def r20:List Ent:=[
 qe 0 2 (.mv (.k (.nil 6))),
 qe 1 3 (.mv (xN 3)),
 qe 2 4 (.mv xF)]
def r21:List Ent:=[
 qm 0 96 5,
 qm 1 2 96,
 qe 2 3 (.mv (xN 0)),
 qe 3 4 (.mv xT)]
def fi:FI:={ res:=[.t 2,.t 3,.t 4],code:=.seq (.reg 64 3 r0) (.seq (.seq (.reg 256 3 r1) (.cond (.t 11) (.seq (.reg 448 3 r2) (.ret)) (.skip))) (.seq (.reg 640 1 r3) (.seq (.seq (.reg 704 1 r4) (.nrm 5 6592 6 (.block 0 (.loop b0)))) (.seq (.seq (.reg 6976 3 r19) (.cond (.t 95) (.seq (.reg 7168 3 r20) (.ret)) (.skip))) (.seq (.reg 7360 4 r21) (.ret)))))) }
attribute [go_sem] r0 r1 r2 r3 r4 r5 r6 r7 r8 r9 r10 r11 r12 r13 r14 r15 r16 r17 r18 r19 r20 r21
theorem ok:chkF prog F_spec_ReadProgram 1 fi=true:=by kernel_rfl
end spec_ReadProgram
namespace spec_l1All
def r0:List Ent:=[
 qe 0 6 (.mv xF)]
def r1:List Ent:=[
 qm 0 9 0,
 qe 1 10 (qZ 9),
 qe 2 11 (.mv (xN 0))]
def r2:List Ent:=[
 qe 0 12 (qB .lss 11 10)]
def r3:List Ent:=[
 qe 0 13 (qI 1 9 11),
 qe 1 14 (qL 1 13),
 qm 2 8 14]
def r4:List Ent:=[
 qm 0 15 8,
 qm 1 16 1,
 qm 2 17 2,
 qc 3 18 (qC F_spec_l1In [.t 15,.t 16,.t 17]),
 qe 4 19 (qN 18)]
def r5:List Ent:=[
 qe 0 6 (.mv xF)]
def r6:List Ent:=[
 qe 0 20 (qK .add 11 1),
 qm 1 11 20]
def b0:KC:=.seq (.reg 320 1 r2) (.seq (.cond (.t 12) (.skip) (.exit 0)) (.seq (.block 1 (.seq (.reg 384 3 r3) (.seq (.reg 576 5 r4) (.cond (.t 19) (.seq (.reg 896 1 r5) (.ret)) (.skip))))) (.reg 960 2 r6)))
def r7:List Ent:=[
 qe 0 6 (.mv xT)]
def fi:FI:={ res:=[.t 6],code:=.seq (.reg 64 1 r0) (.seq (.seq (.reg 128 3 r1) (.block 0 (.loop b0))) (.seq (.reg 1088 1 r7) (.ret))) }
attribute [go_sem] r0 r1 r2 r3 r4 r5 r6 r7
theorem ok:chkF prog F_spec_l1All 3 fi=true:=by kernel_rfl
end spec_l1All
namespace spec_l3Ctx
def r0:List Ent:=[
 qe 0 2 (.mv xF)]
def r1:List Ent:=[
 qm 0 3 0,
 qe 1 4 (qZ 3),
 qe 2 5 (qK .eql 4 8),
 qm 3 6 5,
 qt 4 7 6 (qM 0),
 qh 5 8 6 (qC F_spec_l1All [.t 7,xN 0,xN 255]),
 qe 6 9 (.pick (.t 6) (.t 8) xF),
 qm 7 2 9]
def fi:FI:={ res:=[.t 2],code:=.seq (.reg 64 1 r0) (.seq (.reg 128 8 r1) (.ret)) }
attribute [go_sem] r0 r1
theorem ok:chkF prog F_spec_l3Ctx 1 fi=true:=by kernel_rfl
end spec_l3Ctx
namespace impl_Step_bytes
def r0:List Ent:=[
 qe 0 1 (.box (.t 0)),
 qe 1 2 (.mv (.k (.nil 1)))]
def r1:List Ent:=[
 qe 0 4 (qD 0 1),
 qe 1 5 (qL 1 4),
 qe 2 6 (qD 1 1),
 qe 3 7 (qL 1 6),
 qe 4 8 (.bin .mul (xN 16) (.t 7)),
 qe 5 9 (qB .add 5 8),
 qe 6 10 (.cnv .u8 (.t 9)),
 qe 7 11 (qD 2 1),
 qe 8 12 (qL 1 11),
 qe 9 13 (.bin .mul (xN 16) (.t 12)),
 qe 10 14 (qD 3 1),
 qe 11 15 (qL 1 14),
 qe 12 16 (qB .add 13 15),
 qe 13 17 (.cnv .u8 (.t 16)),
 qe 14 18 (qD 5 1),
 qe 15 19 (qL 1 18),
 qe 16 20 (.cnv .u8 (.t 19)),
 qe 17 21 (qD 4 1),
 qe 18 22 (qL 1 21),
 qe 19 23 (qK .rem 22 256),
 qe 20 24 (.cnv .u8 (.t 23)),
 qe 21 25 (.bsl false 1 [.t 10,.t 17,.t 20,.t 24]),
 qm 22 3 25]
def r2:List Ent:=[
 qe 0 26 (qD 0 1),
 qe 1 27 (qL 1 26),
 qe 2 28 (qK .eql 27 4)]
def r3:List Ent:=[
 qm 0 29 3,
 qe 1 30 (qD 4 1),
 qe 2 31 (qL 1 30),
 qe 3 32 (qK .quo 31 256),
 qe 4 33 (.cnv .u8 (.t 32)),
 qe 5 34 (.bsl true 1 [.k (.dat none (.int .u8 0)),.k (.dat none (.int .u8 0)),.k (.dat none (.int .u8 0)),.t 33]),
 qe 6 35 (.app 1 1 (.t 29) (.t 34)),
 qm 7 3 35]
def r4:List Ent:=[
 qm 0 36 3,
 qm 1 2 36]
def fi:FI:={ res:=[.t 2],code:=.seq (.reg 64 2 r0) (.seq (.reg 192 23 r1) (.seq (.seq (.reg 1664 3 r2) (.cond (.t 28) (.reg 1856 8 r3) (.skip))) (.seq (.reg 2368 2 r4) (.ret)))) }
attribute [go_sem] r0 r1 r2 r3 r4
theorem ok:chkF prog F_impl_Step_bytes 1 fi=true:=by kernel_rfl
end impl_Step_bytes
namespace impl_ReadProgram
def r0:List Ent:=[
 qe 0 2 (.mv (.k (.nil 6))),
 qe 1 3 (.mv (xN 0)),
 qe 2 4 (.mv xF)]
def r1:List Ent:=[
 qm 0 8 0,
 qe 1 9 (.lens (.t 8)),
 qe 2 10 (qK .gtr 9 160)]
def r2:List Ent:=[
 qe 0 2 (.mv (.k (.nil 6))),
 qe 1 3 (.mv (xN 0)),
 qe 2 4 (.mv xF)]
def r3:List Ent:=[
 qe 0 5 (.mv (.k (.nil 6)))]
def r4:List Ent:=[
 qm 0 11 0,
 qe 1 12 (.bin .neq (.t 11) (.k (.dat none (.str ⟨#[]⟩))))]
def r5:List Ent:=[
 qe 0 6 (.mv (xN 4))]
def r6:List Ent:=[
 qm 0 13 0,
 qe 1 14 (.ids (.t 13) (xN 0)),
 qe 2 15 (.bin .rem (.t 14) (.k (.dat none (.int .u8 16)))),
 qe 3 16 (.bin .eql (.t 15) (.k (.dat none (.int .u8 4))))]
def r7:List Ent:=[
 qe 0 6 (.mv (xN 8))]
def r8:List Ent:=[
 qm 0 17 0,
 qe 1 18 (.lens (.t 17)),
 qm 2 19 6,
 qe 3 20 (qB .lss 18 19)]
def r9:List Ent:=[
 qe 0 2 (.mv (.k (.nil 6))),
 qe 1 3 (.mv (xN 1)),
 qe 2 4 (.mv xF)]
def r10:List Ent:=[
 qm 0 21 0,
 qe 1 22 (.ids (.t 21) (xN 0)),
 qe 2 23 (.bin .rem (.t 22) (.k (.dat none (.int .u8 16)))),
 qe 3 24 (.cnv .i64 (.t 23)),
 qm 4 25 0,
 qe 5 26 (.ids (.t 25) (xN 0)),
 qe 6 27 (.bin .quo (.t 26) (.k (.dat none (.int .u8 16)))),
 qe 7 28 (.cnv .i64 (.t 27)),
 qm 8 29 0,
 qe 9 30 (.ids (.t 29) (xN 1)),
 qe 10 31 (.bin .quo (.t 30) (.k (.dat none (.int .u8 16)))),
 qe 11 32 (.cnv .i64 (.t 31)),
 qm 12 33 0,
 qe 13 34 (.ids (.t 33) (xN 1)),
 qe 14 35 (.bin .rem (.t 34) (.k (.dat none (.int .u8 16)))),
 qe 15 36 (.cnv .i64 (.t 35)),
 qm 16 37 0,
 qe 17 38 (.ids (.t 37) (xN 2)),
 qe 18 39 (.cnv .i64 (.t 38)),
 qm 19 40 0,
 qe 20 41 (.ids (.t 40) (xN 3)),
 qe 21 42 (.cnv .i64 (.t 41)),
 qx 22 43 (.bld [.t 24,.t 28,.t 32,.t 36,.t 42,.t 39]) 2 [23] [] false,
 EP 23 (some 7) none (.i (.box (.k (.agg [.dat none (.int .i64 0),.dat none (.int .i64 0),.dat none (.int .i64 0),.dat none (.int .i64 0),.dat none (.int .i64 0),.dat none (.int .i64 0)])))) 1 false,
 qs 24 (qW 6 7 43)]
def r11:List Ent:=[
 qm 0 44 6,
 qe 1 45 (qK .eql 44 8)]
def r12:List Ent:=[
 qe 0 46 (qD 4 7),
 qe 1 47 (qL 1 46),
 qm 2 48 0,
 qe 3 49 (.ids (.t 48) (xN 7)),
 qe 4 50 (.cnv .i64 (.t 49)),
 qe 5 51 (.bin .mul (xN 256) (.t 50)),
 qe 6 52 (qB .add 47 51),
 qe 7 53 (qD 4 7),
 qs 8 (qW 1 53 52)]
def r13:List Ent:=[
 qe 0 54 (qA 6 7),
 qc 1 55 (qV F_impl_Step_valid 54),
 qe 2 56 (qN 55),
 qm 3 57 56,
 qf 4 58 57 (qA 6 7),
 qj 5 59 57 (qV F_impl_Step_bytes 58),
 qf 6 60 57 (.b2s (.t 59)),
 qf 7 61 57 (qM 0),
 qf 8 62 57 (qM 6),
 qf 9 63 57 (.sls (.t 61) (none) (some (.t 62))),
 qf 10 64 57 (qB .neq 60 63),
 qe 11 65 (.pick (.t 57) xT (.t 64))]
def r14:List Ent:=[
 qe 0 2 (.mv (.k (.nil 6))),
 qe 1 3 (.mv (xN 2)),
 qe 2 4 (.mv xF)]
def r15:List Ent:=[
 qm 0 66 5,
 qe 1 67 (qA 6 7),
 qe 2 68 (.bsl true 6 [.t 67]),
 qe 3 69 (.app 6 48 (.t 66) (.t 68)),
 qm 4 5 69]
def r16:List Ent:=[
 qm 0 70 0,
 qm 1 71 6,
 qe 2 72 (.sls (.t 70) (some (.t 71)) (none)),
 qm 3 0 72]
def b0:KC:=.seq (.seq (.reg 704 2 r4) (.cond (.t 12) (.skip) (.exit 0))) (.block 1 (.seq (.reg 832 1 r5) (.seq (.seq (.reg 896 4 r6) (.cond (.t 16) (.reg 1152 1 r7) (.skip))) (.seq (.seq (.reg 1216 4 r8) (.cond (.t 20) (.seq (.reg 1472 3 r9) (.ret)) (.skip))) (.seq (.reg 1664 25 r10) (.seq (.seq (.reg 3264 2 r11) (.cond (.t 45) (.reg 3392 9 r12) (.skip))) (.seq (.seq (.reg 3968 12 r13) (.cond (.t 65) (.seq (.reg 4736 3 r14) (.ret)) (.skip))) (.seq (.reg 4928 5 r15) (.reg 5248 4 r16)))))))))
def r17:List Ent:=[
 qm 0 73 5,
 qc 1 74 (qV F_impl_GoodProgram 73),
 qe 2 75 (qN 74)]
def r18:List Ent:=[
 qe 0 2 (.mv (.k (.nil 6))),
 qe 1 3 (.mv (xN 3)),
 qe 2 4 (.mv xF)]
def r19:List Ent:=[
 qm 0 76 5,
 qm 1 2 76,
 qe 2 3 (.mv (xN 0)),
 qe 3 4 (.mv xT)]
def fi:FI:={ res:=[.t 2,.t 3,.t 4],code:=.seq (.reg 64 3 r0) (.seq (.seq (.reg 256 3 r1) (.cond (.t 10) (.seq (.reg 448 3 r2) (.ret)) (.skip))) (.seq (.reg 640 1 r3) (.seq (.nrm 5 5120 6 (.block 0 (.loop b0))) (.seq (.seq (.reg 5504 3 r17) (.cond (.t 75) (.seq (.reg 5696 3 r18) (.ret)) (.skip))) (.seq (.reg 5888 4 r19) (.ret)))))) }
attribute [go_sem] r0 r1 r2 r3 r4 r5 r6 r7 r8 r9 r10 r11 r12 r13 r14 r15 r16 r17 r18 r19
theorem ok:chkF prog F_impl_ReadProgram 1 fi=true:=by kernel_rfl
end impl_ReadProgram
namespace slices_IndexFunc__sint_int
def r0:List Ent:=[
 qe 0 4 (.mv (xN 0))]
def r1:List Ent:=[
 qm 0 6 0,
 qe 1 7 (qZ 6),
 qe 2 8 (.mv (xN 0))]
def r2:List Ent:=[
 qe 0 9 (qB .lss 8 7)]
def r3:List Ent:=[
 qm 0 10 8,
 qm 1 5 10]
def r4:List Ent:=[
 qm 0 11 1,
 qm 1 12 0,
 qm 2 13 5,
 qe 3 14 (qI 1 12 13),
 qe 4 15 (qL 1 14),
 qc 5 16 (.ccl (.t 11) false [.t 15])]
def r5:List Ent:=[
 qm 0 17 5,
 qm 1 4 17]
def r6:List Ent:=[
 qe 0 18 (qK .add 8 1),
 qm 1 8 18]
def b0:KC:=.seq (.reg 320 1 r2) (.seq (.cond (.t 9) (.skip) (.exit 0)) (.seq (.block 1 (.seq (.reg 384 2 r3) (.seq (.reg 512 6 r4) (.cond (.t 16) (.seq (.reg 896 2 r5) (.ret)) (.skip))))) (.reg 1024 2 r6)))
def r7:List Ent:=[
 qe 0 4 (.mv (xN (-1)))]
def fi:FI:={ res:=[.t 4],code:=.seq (.reg 64 1 r0) (.seq (.seq (.reg 128 3 r1) (.block 0 (.loop b0))) (.seq (.reg 1152 1 r7) (.ret))) }
attribute [go_sem] r0 r1 r2 r3 r4 r5 r6 r7
theorem ok:chkF prog F_slices_IndexFunc__sint_int 2 fi=true:=by kernel_rfl
end slices_IndexFunc__sint_int
namespace slices_ContainsFunc__sint_int
def r0:List Ent:=[
 qe 0 4 (.mv xF)]
def r1:List Ent:=[
 qm 0 5 0,
 qm 1 6 1,
 qc 2 7 (qC F_slices_IndexFunc__sint_int [.t 5,.t 6]),
 qe 3 8 (qK .geq 7 0),
 qm 4 4 8]
def fi:FI:={ res:=[.t 4],code:=.seq (.reg 64 1 r0) (.seq (.reg 128 5 r1) (.ret)) }
attribute [go_sem] r0 r1
theorem ok:chkF prog F_slices_ContainsFunc__sint_int 2 fi=true:=by kernel_rfl
end slices_ContainsFunc__sint_int
namespace impl_isContext_c1
def r0:List Ent:=[
 qe 0 2 (.mv xF)]
def r1:List Ent:=[
 qm 0 3 0,
 qc 1 4 (qC F_impl_in [.t 3,xN 0,xN 255]),
 qe 2 5 (qN 4),
 qm 3 2 5]
def fi:FI:={ res:=[.t 2],code:=.seq (.reg 64 1 r0) (.seq (.reg 128 4 r1) (.ret)) }
attribute [go_sem] r0 r1
theorem ok:chkF prog F_impl_isContext_c1 1 fi=true:=by kernel_rfl
end impl_isContext_c1
namespace impl_isContext
def r0:List Ent:=[
 qe 0 2 (.mv xF)]
def r1:List Ent:=[
 qm 0 3 0,
 qe 1 4 (qZ 3),
 qe 2 5 (qK .eql 4 8),
 qm 3 6 5,
 qt 4 7 6 (qM 0),
 qh 5 8 6 (qC F_slices_ContainsFunc__sint_int [.t 7,.k (.clo F_impl_isContext_c1 [])]),
 qt 6 9 6 (qN 8),
 qe 7 10 (.pick (.t 6) (.t 9) xF),
 qm 8 2 10]
def fi:FI:={ res:=[.t 2],code:=.seq (.reg 64 1 r0) (.seq (.reg 128 9 r1) (.ret)) }
attribute [go_sem] r0 r1
theorem ok:chkF prog F_impl_isContext 1 fi=true:=by kernel_rfl
end impl_isContext
namespace impl_RunProgram
def r0:List Ent:=[
 qe 0 6 (.mv (xN 0)),
 qe 1 7 (.mv (xN 0)),
 qe 2 8 (.mv (xN 0)),
 qe 3 9 (.mv xF)]
def r1:List Ent:=[
 qm 0 14 0,
 qc 1 15 (qV F_impl_GoodProgram 14),
 qe 2 16 (qN 15),
 qm 3 17 16,
 qf 4 18 17 (qM 1),
 qj 5 19 17 (qV F_impl_isContext 18),
 qf 6 20 17 (qN 19),
 qe 7 21 (.pick (.t 17) xT (.t 20)),
 qm 8 22 21,
 qf 9 23 22 (qM 2),
 qj 10 24 22 (qC F_impl_in [.t 23,xN 0,xN 100]),
 qf 11 25 22 (qN 24),
 qe 12 26 (.pick (.t 22) xT (.t 25))]
def r2:List Ent:=[
 qe 0 6 (.mv (xN 0)),
 qe 1 7 (.mv (xN 0)),
 qe 2 8 (.mv (xN 0)),
 qe 3 9 (.mv xF)]
def r3:List Ent:=[
 qm 0 28 0,
 qm 1 29 1,
 qm 2 30 2,
 qc 3 31 (qC F_impl_run [.t 28,.t 29,.t 30]),
 qm 4 27 31,
 qe 5 32 (qX 0 27),
 qe 6 33 (qX 1 27),
 qe 7 34 (qX 2 27),
 qe 8 35 (qX 3 27),
 qm 9 10 32,
 qm 10 11 33,
 qm 11 12 34,
 qm 12 13 35]
def r4:List Ent:=[
 qm 0 36 10,
 qm 1 37 11,
 qm 2 38 12,
 qm 3 6 36,
 qm 4 7 37,
 qm 5 8 38,
 qe 6 9 (.mv xT)]
def fi:FI:={ res:=[.t 6,.t 7,.t 8,.t 9],code:=.seq (.reg 64 4 r0) (.seq (.seq (.reg 320 13 r1) (.cond (.t 26) (.seq (.reg 1152 4 r2) (.ret)) (.skip))) (.seq (.reg 1408 13 r3) (.seq (.reg 2240 7 r4) (.ret)))) }
attribute [go_sem] r0 r1 r2 r3 r4
theorem ok:chkF prog F_impl_RunProgram 3 fi=true:=by kernel_rfl
end impl_RunProgram
namespace impl_CheckVerdict
def r0:List Ent:=[
 qe 0 3 (.box (.t 1)),
 qe 1 4 (.mv xF),
 qe 2 5 (.mv xF)]
def r1:List Ent:=[
 qm 0 16 0,
 qe 1 17 (.lens (.t 16)),
 qe 2 18 (qK .gtr 17 160)]
def r2:List Ent:=[
 qe 0 4 (.mv xF),
 qe 1 5 (.mv xF)]
def r3:List Ent:=[
 qm 0 20 0,
 qc 1 21 (qV F_impl_ReadProgram 20),
 qm 2 19 21,
 qe 3 22 (qX 0 19),
 qe 4 23 (qX 1 19),
 qe 5 24 (qX 2 19),
 qm 6 6 22,
 qm 7 7 23,
 qm 8 8 24]
def r4:List Ent:=[
 qe 0 25 (qD 2 3),
 qe 1 26 (qL 1 25),
 qe 2 27 (qZ 26),
 qe 3 28 (qK .eql 27 0),
 qm 4 29 28,
 qt 5 30 29 (qD 3 3),
 qt 6 31 29 (qL 1 30),
 qt 7 32 29 (qK .eql 31 0),
 qe 8 33 (.pick (.t 29) (.t 32) xF),
 qm 9 9 33]
def r5:List Ent:=[
 qm 0 34 8,
 qe 1 35 (qN 34)]
def r6:List Ent:=[
 qe 0 36 (qD 0 3),
 qe 1 37 (qL 1 36),
 qe 2 38 (qK .eql 37 4),
 qm 3 39 38,
 qt 4 40 39 (qD 1 3),
 qt 5 41 39 (qL 1 40),
 qt 6 42 39 (qM 7),
 qt 7 43 39 (qB .eql 41 42),
 qe 8 44 (.pick (.t 39) (.t 43) xF),
 qm 9 45 44,
 qt 10 46 45 (qM 9),
 qe 11 47 (.pick (.t 45) (.t 46) xF),
 qm 12 48 47,
 qt 13 49 48 (qD 4 3),
 qt 14 50 48 (qL 1 49),
 qt 15 51 48 (qK .eql 50 0),
 qe 16 52 (.pick (.t 48) (.t 51) xF),
 qm 17 53 52,
 qt 18 54 53 (qD 5 3),
 qt 19 55 53 (qL 1 54),
 qt 20 56 53 (qK .eql 55 0),
 qe 21 57 (.pick (.t 53) (.t 56) xF),
 qm 22 4 57,
 qe 23 5 (.mv xT)]
def r7:List Ent:=[
 qe 0 58 (qD 5 3),
 qe 1 59 (qL 1 58),
 qm 2 60 6,
 qe 3 61 (qZ 60),
 qe 4 62 (qB .neq 59 61),
 qm 5 63 62,
 qf 6 64 63 (qD 1 3),
 qf 7 65 63 (qL 1 64),
 qf 8 66 63 (qK .neq 65 0),
 qe 9 67 (.pick (.t 63) xT (.t 66))]
def r8:List Ent:=[
 qe 0 4 (.mv xF),
 qe 1 5 (.mv xT)]
def r9:List Ent:=[
 qm 0 69 6,
 qc 1 70 (qV F_impl_AnalyseProgram 69),
 qm 2 68 70,
 qe 3 71 (qX 0 68),
 qe 4 72 (qX 1 68),
 qe 5 10 (.box (.k (.agg [.nil 1,.nil 4,.nil 1]))),
 qs 6 (qW 3 10 71),
 qm 7 11 72]
def r10:List Ent:=[
 qe 0 73 (qD 0 3),
 qe 1 74 (qL 1 73)]
def r11:List Ent:=[
 qe 0 76 (qK .eql 74 2),
 qm 1 75 76]
def r12:List Ent:=[
 qm 0 78 6,
 qe 1 79 (qD 2 3),
 qe 2 80 (qL 1 79),
 qc 3 81 (qC F_impl_RunProgram [.t 78,.t 80,xN 100]),
 qm 4 77 81,
 qe 5 82 (qX 0 77),
 qe 6 83 (qX 1 77),
 qe 7 84 (qX 2 77),
 qe 8 85 (qX 3 77),
 qm 9 12 82,
 qm 10 13 83,
 qm 11 14 84,
 qm 12 15 85]
def r13:List Ent:=[
 qe 0 86 (qD 3 3),
 qe 1 87 (qL 1 86),
 qe 2 88 (qK .gtr 87 0),
 qm 3 89 88,
 qt 4 90 89 (qM 15),
 qe 5 91 (.pick (.t 89) (.t 90) xF),
 qm 6 92 91,
 qt 7 93 92 (qM 13),
 qt 8 94 92 (qD 3 3),
 qt 9 95 92 (qL 1 94),
 qt 10 96 92 (qB .eql 93 95),
 qe 11 97 (.pick (.t 92) (.t 96) xF),
 qm 12 98 97,
 qt 13 99 98 (qM 14),
 qt 14 100 98 (qD 4 3),
 qt 15 101 98 (qL 1 100),
 qt 16 102 98 (qB .eql 99 101),
 qe 17 103 (.pick (.t 98) (.t 102) xF),
 qm 18 4 103,
 qe 19 5 (.mv xT)]
def r14:List Ent:=[
 qe 0 105 (qK .eql 74 1),
 qm 1 104 105]
def r15:List Ent:=[
 qe 0 106 (qD 2 10),
 qe 1 107 (qL 1 106),
 qe 2 108 (qZ 107),
 qe 3 109 (qK .eql 108 0),
 qm 4 110 109,
 qt 5 111 110 (qM 9),
 qe 6 112 (.pick (.t 110) (.t 111) xF),
 qm 7 113 112,
 qt 8 114 113 (qD 4 3),
 qt 9 115 113 (qL 1 114),
 qt 10 116 113 (qK .eql 115 0),
 qe 11 117 (.pick (.t 113) (.t 116) xF),
 qm 12 4 117,
 qe 13 5 (.mv xT)]
def r16:List Ent:=[
 qe 0 119 (qK .eql 74 3),
 qm 1 118 119]
def r17:List Ent:=[
 qe 0 120 (qD 2 10),
 qe 1 121 (qL 1 120),
 qe 2 122 (qD 4 3),
 qe 3 123 (qL 1 122),
 qc 4 124 (qC F_slices_Contains__sint_int [.t 121,.t 123]),
 qm 5 125 124,
 qt 6 126 125 (qM 9),
 qe 7 127 (.pick (.t 125) (.t 126) xF),
 qm 8 4 127,
 qe 9 5 (.mv xT)]
def r18:List Ent:=[
 qe 0 4 (.mv xF),
 qe 1 5 (.mv xT)]
def fi:FI:={ res:=[.t 4,.t 5],code:=.seq (.reg 64 3 r0) (.seq (.seq (.reg 256 3 r1) (.cond (.t 18) (.seq (.reg 448 2 r2) (.ret)) (.skip))) (.seq (.reg 576 9 r3) (.seq (.reg 1152 10 r4) (.seq (.seq (.reg 1792 2 r5) (.cond (.t 35) (.seq (.reg 1920 24 r6) (.ret)) (.skip))) (.seq (.seq (.reg 3456 10 r7) (.cond (.t 67) (.seq (.reg 4096 2 r8) (.ret)) (.skip))) (.seq (.reg 4224 8 r9) (.seq (.seq (.reg 4736 2 r10) (.block 0 (.seq (.reg 4864 2 r11) (.cond (.t 75) (.seq (.reg 4992 13 r12) (.seq (.reg 5824 20 r13) (.ret))) (.seq (.reg 7104 2 r14) (.cond (.t 104) (.seq (.reg 7232 14 r15) (.ret)) (.seq (.reg 8128 2 r16) (.cond (.t 118) (.seq (.reg 8256 10 r17) (.ret)) (.skip))))))))) (.seq (.reg 8896 2 r18) (.ret))))))))) }
attribute [go_sem] r0 r1 r2 r3 r4 r5 r6 r7 r8 r9 r10 r11 r12 r13 r14 r15 r16 r17 r18
theorem ok:chkF prog F_impl_CheckVerdict 2 fi=true:=by kernel_rfl
end impl_CheckVerdict
namespace spec_JudgeBytes
def r0:List Ent:=[
 qe 0 2 (.box (.k (.agg [.dat none (.int .i64 0),.dat none (.int .i64 0),.nil 1,.dat none (.int .i64 0),.dat none (.int .i64 0),.dat none (.int .i64 0)]))),
 qe 1 3 (.mv xF)]
def r1:List Ent:=[
 qm 0 7 0,
 qe 1 8 (.lens (.t 7)),
 qe 2 9 (qK .gtr 8 160)]
def r2:List Ent:=[
 qe 0 10 (.bld [.k (.dat none (.int .i64 0)),.k (.dat none (.int .i64 0)),.k (.nil 1),.k (.dat none (.int .i64 0)),.k (.dat none (.int .i64 0)),.k (.dat none (.int .i64 0))]),
 qs 1 (qW 6 2 10),
 qe 2 3 (.mv xF)]
def r3:List Ent:=[
 qm 0 12 0,
 qc 1 13 (qV F_spec_ReadProgram 12),
 qm 2 11 13,
 qe 3 14 (qX 0 11),
 qe 4 15 (qX 1 11),
 qe 5 16 (qX 2 11),
 qm 6 4 14,
 qm 7 5 15,
 qm 8 6 16]
def r4:List Ent:=[
 qm 0 17 6,
 qe 1 18 (qN 17)]
def r5:List Ent:=[
 qm 0 19 5,
 qe 1 20 (.bld [xN 4,.t 19,.k (.nil 1),.k (.dat none (.int .i64 0)),.k (.dat none (.int .i64 0)),.k (.dat none (.int .i64 0))]),
 qs 2 (qW 6 2 20),
 qe 3 3 (.mv xT)]
def r6:List Ent:=[
 qm 0 21 4,
 qc 1 22 (qV F_spec_JudgeProgram 21),
 qe 2 23 (qX 0 22),
 qe 3 24 (qX 1 22),
 qs 4 (qW 6 2 23),
 qm 5 3 24]
def fi:FI:={ res:=[.c 2 true 6,.t 3],code:=.seq (.reg 64 2 r0) (.seq (.seq (.reg 192 3 r1) (.cond (.t 9) (.seq (.reg 384 3 r2) (.ret)) (.skip))) (.seq (.reg 576 9 r3) (.seq (.seq (.reg 1152 2 r4) (.cond (.t 18) (.seq (.reg 1280 4 r5) (.ret)) (.skip))) (.seq (.reg 1536 6 r6) (.ret))))) }
attribute [go_sem] r0 r1 r2 r3 r4 r5 r6
theorem ok:chkF prog F_spec_JudgeBytes 1 fi=true:=by kernel_rfl
end spec_JudgeBytes
namespace impl_JudgeBytes
def r0:List Ent:=[
 qe 0 2 (.box (.k (.agg [.dat none (.int .i64 0),.dat none (.int .i64 0),.nil 1,.dat none (.int .i64 0),.dat none (.int .i64 0),.dat none (.int .i64 0)]))),
 qe 1 3 (.mv xF)]
def r1:List Ent:=[
 qm 0 7 0,
 qe 1 8 (.lens (.t 7)),
 qe 2 9 (qK .gtr 8 160)]
def r2:List Ent:=[
 qe 0 10 (.bld [.k (.dat none (.int .i64 0)),.k (.dat none (.int .i64 0)),.k (.nil 1),.k (.dat none (.int .i64 0)),.k (.dat none (.int .i64 0)),.k (.dat none (.int .i64 0))]),
 qs 1 (qW 6 2 10),
 qe 2 3 (.mv xF)]
def r3:List Ent:=[
 qm 0 12 0,
 qc 1 13 (qV F_impl_ReadProgram 12),
 qm 2 11 13,
 qe 3 14 (qX 0 11),
 qe 4 15 (qX 1 11),
 qe 5 16 (qX 2 11),
 qm 6 4 14,
 qm 7 5 15,
 qm 8 6 16]
def r4:List Ent:=[
 qm 0 17 6,
 qe 1 18 (qN 17)]
def r5:List Ent:=[
 qm 0 19 5,
 qe 1 20 (.bld [xN 4,.t 19,.k (.nil 1),.k (.dat none (.int .i64 0)),.k (.dat none (.int .i64 0)),.k (.dat none (.int .i64 0))]),
 qs 2 (qW 6 2 20),
 qe 3 3 (.mv xT)]
def r6:List Ent:=[
 qm 0 21 4,
 qc 1 22 (qV F_impl_JudgeProgram 21),
 qe 2 23 (qX 0 22),
 qe 3 24 (qX 1 22),
 qs 4 (qW 6 2 23),
 qm 5 3 24]
def fi:FI:={ res:=[.c 2 true 6,.t 3],code:=.seq (.reg 64 2 r0) (.seq (.seq (.reg 192 3 r1) (.cond (.t 9) (.seq (.reg 384 3 r2) (.ret)) (.skip))) (.seq (.reg 576 9 r3) (.seq (.seq (.reg 1152 2 r4) (.cond (.t 18) (.seq (.reg 1280 4 r5) (.ret)) (.skip))) (.seq (.reg 1536 6 r6) (.ret))))) }
attribute [go_sem] r0 r1 r2 r3 r4 r5 r6
theorem ok:chkF prog F_impl_JudgeBytes 1 fi=true:=by kernel_rfl
end impl_JudgeBytes
namespace spec_RunLet
def r0:List Ent:=[
 qe 0 4 (.mv (xN 0)),
 qe 1 5 (.mv (xN 0)),
 qe 2 6 (.mv xF)]
def r1:List Ent:=[
 qm 0 17 0,
 qc 1 18 (qV F_spec_JudgeBytes 17),
 qm 2 16 18,
 qe 3 19 (qX 0 16),
 qe 4 20 (qX 1 16),
 qe 5 7 (.box (.k (.agg [.dat none (.int .i64 0),.dat none (.int .i64 0),.nil 1,.dat none (.int .i64 0),.dat none (.int .i64 0),.dat none (.int .i64 0)]))),
 qs 6 (qW 6 7 19),
 qm 7 8 20]
def r2:List Ent:=[
 qm 0 21 8,
 qe 1 22 (qN 21),
 qm 2 23 22,
 qf 3 24 23 (qD 0 7),
 qf 4 25 23 (qL 1 24),
 qf 5 26 23 (qK .neq 25 1),
 qe 6 27 (.pick (.t 23) xT (.t 26)),
 qm 7 28 27,
 qf 8 29 28 (qM 1),
 qj 9 30 28 (qV F_spec_l3Ctx 29),
 qf 10 31 28 (qN 30),
 qe 11 32 (.pick (.t 28) xT (.t 31))]
def r3:List Ent:=[
 qe 0 4 (.mv (xN 0)),
 qe 1 5 (.mv (xN 0)),
 qe 2 6 (.mv xF)]
def r4:List Ent:=[
 qm 0 34 0,
 qc 1 35 (qV F_spec_ReadProgram 34),
 qm 2 33 35,
 qe 3 36 (qX 0 33),
 qe 4 37 (qX 1 33),
 qe 5 38 (qX 2 33),
 qm 6 9 36,
 qm 7 10 37,
 qm 8 11 38]
def r5:List Ent:=[
 qm 0 40 9,
 qm 1 41 1,
 qc 2 42 (qC F_spec_l3Run [.t 40,.t 41,xN 100]),
 qm 3 39 42,
 qe 4 43 (qX 0 39),
 qe 5 44 (qX 1 39),
 qe 6 45 (qX 2 39),
 qe 7 46 (qX 3 39),
 qm 8 12 43,
 qm 9 13 44,
 qm 10 14 45,
 qm 11 15 46]
def r6:List Ent:=[
 qm 0 47 12,
 qm 1 48 13,
 qm 2 4 47,
 qm 3 5 48,
 qe 4 6 (.mv xT)]
def fi:FI:={ res:=[.t 4,.t 5,.t 6],code:=.seq (.reg 64 3 r0) (.seq (.reg 256 8 r1) (.seq (.seq (.reg 768 12 r2) (.cond (.t 32) (.seq (.reg 1536 3 r3) (.ret)) (.skip))) (.seq (.reg 1728 9 r4) (.seq (.reg 2304 12 r5) (.seq (.reg 3072 5 r6) (.ret)))))) }
attribute [go_sem] r0 r1 r2 r3 r4 r5 r6
theorem ok:chkF prog F_spec_RunLet 2 fi=true:=by kernel_rfl
end spec_RunLet
namespace impl_RunLet
def r0:List Ent:=[
 qe 0 4 (.mv (xN 0)),
 qe 1 5 (.mv (xN 0)),
 qe 2 6 (.mv xF)]
def r1:List Ent:=[
 qm 0 17 0,
 qc 1 18 (qV F_impl_JudgeBytes 17),
 qm 2 16 18,
 qe 3 19 (qX 0 16),
 qe 4 20 (qX 1 16),
 qe 5 7 (.box (.k (.agg [.dat none (.int .i64 0),.dat none (.int .i64 0),.nil 1,.dat none (.int .i64 0),.dat none (.int .i64 0),.dat none (.int .i64 0)]))),
 qs 6 (qW 6 7 19),
 qm 7 8 20]
def r2:List Ent:=[
 qm 0 21 8,
 qe 1 22 (qN 21),
 qm 2 23 22,
 qf 3 24 23 (qD 0 7),
 qf 4 25 23 (qL 1 24),
 qf 5 26 23 (qK .neq 25 1),
 qe 6 27 (.pick (.t 23) xT (.t 26))]
def r3:List Ent:=[
 qe 0 4 (.mv (xN 0)),
 qe 1 5 (.mv (xN 0)),
 qe 2 6 (.mv xF)]
def r4:List Ent:=[
 qm 0 29 0,
 qc 1 30 (qV F_impl_ReadProgram 29),
 qm 2 28 30,
 qe 3 31 (qX 0 28),
 qe 4 32 (qX 1 28),
 qe 5 33 (qX 2 28),
 qm 6 9 31,
 qm 7 10 32,
 qm 8 11 33]
def r5:List Ent:=[
 qm 0 35 9,
 qm 1 36 1,
 qc 2 37 (qC F_impl_RunProgram [.t 35,.t 36,xN 100]),
 qm 3 34 37,
 qe 4 38 (qX 0 34),
 qe 5 39 (qX 1 34),
 qe 6 40 (qX 2 34),
 qe 7 41 (qX 3 34),
 qm 8 12 38,
 qm 9 13 39,
 qm 10 14 40,
 qm 11 15 41]
def r6:List Ent:=[
 qm 0 42 12,
 qm 1 43 13,
 qm 2 44 15,
 qm 3 4 42,
 qm 4 5 43,
 qm 5 6 44]
def fi:FI:={ res:=[.t 4,.t 5,.t 6],code:=.seq (.reg 64 3 r0) (.seq (.reg 256 8 r1) (.seq (.seq (.reg 768 7 r2) (.cond (.t 27) (.seq (.reg 1216 3 r3) (.ret)) (.skip))) (.seq (.reg 1408 9 r4) (.seq (.reg 1984 12 r5) (.seq (.reg 2752 6 r6) (.ret)))))) }
attribute [go_sem] r0 r1 r2 r3 r4 r5 r6
theorem ok:chkF prog F_impl_RunLet 2 fi=true:=by kernel_rfl
end impl_RunLet
namespace spec_pl1Cur_next
def r0:List Ent:=[
 qe 0 2 (.mv (xN 0))]
def r1:List Ent:=[
 qe 0 3 (.mv (xN 0))]
def r2:List Ent:=[
 qm 0 4 0,
 qe 1 5 (.nck (.t 4)),
 qr 2 6 (qD 1 5),
 qr 3 7 (qL 1 6),
 qm 4 8 0,
 qe 5 9 (.nck (.t 8)),
 qr 6 10 (qD 0 9),
 qr 7 11 (qL 1 10),
 qr 8 12 (qZ 11),
 qe 9 13 (qB .lss 7 12)]
def r3:List Ent:=[
 qm 0 14 0,
 qe 1 15 (.nck (.t 14)),
 qr 2 16 (qD 0 15),
 qr 3 17 (qL 1 16),
 qm 4 18 0,
 qe 5 19 (.nck (.t 18)),
 qr 6 20 (qD 1 19),
 qr 7 21 (qL 1 20),
 qe 8 22 (qI 1 17 21),
 qe 9 23 (qL 1 22),
 qe 10 24 (.cnv .i64 (.t 23)),
 qm 11 3 24]
def r4:List Ent:=[
 qm 0 25 0,
 qe 1 26 (.nck (.t 25)),
 qe 2 27 (qD 1 26),
 qe 3 28 (qL 1 27),
 qe 4 29 (qK .add 28 1),
 qe 5 30 (.nck (.t 25)),
 qe 6 31 (qD 1 30),
 qs 7 (qW 1 31 29)]
def r5:List Ent:=[
 qm 0 32 0,
 qm 1 33 0,
 qe 2 34 (.nck (.t 33)),
 qe 3 35 (qD 2 34),
 qe 4 36 (qL 1 35),
 qe 5 37 (.bin .mul (.t 36) (.k (.dat none (.int .u64 6364136223846793005)))),
 qm 6 38 3,
 qe 7 39 (.cnv .u64 (.t 38)),
 qe 8 40 (qB .add 37 39),
 qe 9 41 (.bin .add (.t 40) (.k (.dat none (.int .u64 1442695040888963407)))),
 qe 10 42 (.nck (.t 32)),
 qe 11 43 (qD 2 42),
 qs 12 (qW 1 43 41)]
def r6:List Ent:=[
 qm 0 44 0,
 qe 1 45 (.nck (.t 44)),
 qr 2 46 (qD 1 45),
 qr 3 47 (qL 1 46),
 qm 4 48 0,
 qe 5 49 (.nck (.t 48)),
 qr 6 50 (qD 0 49),
 qr 7 51 (qL 1 50),
 qr 8 52 (qZ 51),
 qe 9 53 (qB .leq 47 52)]
def r7:List Ent:=[
 qm 0 54 3,
 qm 1 2 54]
def r8:List Ent:=[
 qm 0 55 0,
 qe 1 56 (.nck (.t 55)),
 qe 2 57 (qD 2 56),
 qe 3 58 (qL 1 57),
 qe 4 59 (.bin .shr (.t 58) (.k (.dat none (.int .u64 40)))),
 qe 5 60 (.bin .and (.t 59) (.k (.dat none (.int .u64 255)))),
 qe 6 61 (.cnv .i64 (.t 60)),
 qm 7 2 61]
def fi:FI:={ res:=[.t 2],code:=.seq (.reg 64 1 r0) (.seq (.reg 128 1 r1) (.seq (.seq (.reg 192 10 r2) (.cond (.t 13) (.reg 832 12 r3) (.skip))) (.seq (.reg 1600 8 r4) (.seq (.reg 2112 13 r5) (.seq (.seq (.reg 2944 10 r6) (.cond (.t 53) (.seq (.reg 3584 2 r7) (.ret)) (.skip))) (.seq (.reg 3712 8 r8) (.ret))))))) }
attribute [go_sem] r0 r1 r2 r3 r4 r5 r6 r7 r8
theorem ok:chkF prog F_spec_pl1Cur_next 1 fi=true:=by kernel_rfl
end spec_pl1Cur_next
namespace spec_pl1Cur_pick
def r0:List Ent:=[
 qe 0 4 (.mv (xN 0))]
def r1:List Ent:=[
 qm 0 6 1,
 qe 1 7 (qK .leq 6 1)]
def r2:List Ent:=[
 qe 0 4 (.mv (xN 0))]
def r3:List Ent:=[
 qm 0 8 0,
 qc 1 9 (.call F_spec_pl1Cur_next true [(.io,.t 8)]),
 qm 2 5 9]
def r4:List Ent:=[
 qm 0 10 1,
 qe 1 11 (qK .gtr 10 200)]
def r5:List Ent:=[
 qm 0 12 5,
 qe 1 13 (qK .mul 12 256),
 qm 2 14 0,
 qc 3 15 (.call F_spec_pl1Cur_next true [(.io,.t 14)]),
 qe 4 16 (qB .add 13 15),
 qm 5 5 16]
def r6:List Ent:=[
 qm 0 17 5,
 qm 1 18 1,
 qe 2 19 (qB .rem 17 18),
 qm 3 4 19]
def fi:FI:={ res:=[.t 4],code:=.seq (.reg 64 1 r0) (.seq (.seq (.reg 128 2 r1) (.cond (.t 7) (.seq (.reg 256 1 r2) (.ret)) (.skip))) (.seq (.reg 320 3 r3) (.seq (.seq (.reg 512 2 r4) (.cond (.t 11) (.reg 640 6 r5) (.skip))) (.seq (.reg 1024 4 r6) (.ret))))) }
attribute [go_sem] r0 r1 r2 r3 r4 r5 r6
theorem ok:chkF prog F_spec_pl1Cur_pick 2 fi=true:=by kernel_rfl
end spec_pl1Cur_pick
namespace spec_pl1Cur_one
def r0:List Ent:=[
 qe 0 4 (.mv xF)]
def r1:List Ent:=[
 qm 0 5 0,
 qm 1 6 1,
 qc 2 7 (.call F_spec_pl1Cur_pick true [(.io,.t 5),(.ro,.t 6)]),
 qe 3 8 (qK .eql 7 0),
 qm 4 4 8]
def fi:FI:={ res:=[.t 4],code:=.seq (.reg 64 1 r0) (.seq (.reg 128 5 r1) (.ret)) }
attribute [go_sem] r0 r1
theorem ok:chkF prog F_spec_pl1Cur_one 2 fi=true:=by kernel_rfl
end spec_pl1Cur_one
namespace spec_pl1Cur_among
def r0:List Ent:=[
 qe 0 4 (.mv (xN 0))]
def r1:List Ent:=[
 qm 0 5 1,
 qm 1 6 0,
 qm 2 7 1,
 qe 3 8 (qZ 7),
 qc 4 9 (.call F_spec_pl1Cur_pick true [(.io,.t 6),(.ro,.t 8)]),
 qe 5 10 (qI 1 5 9),
 qe 6 11 (qL 1 10),
 qm 7 4 11]
def fi:FI:={ res:=[.t 4],code:=.seq (.reg 64 1 r0) (.seq (.reg 128 8 r1) (.ret)) }
attribute [go_sem] r0 r1
theorem ok:chkF prog F_spec_pl1Cur_among 2 fi=true:=by kernel_rfl
end spec_pl1Cur_among
namespace spec_pl1Cur_step
def r0:List Ent:=[
 qe 0 4 (.box (.k (.agg [.dat none (.int .i64 0),.dat none (.int .i64 0),.dat none (.int .i64 0),.dat none (.int .i64 0),.dat none (.int .i64 0),.dat none (.int .i64 0)])))]
def r1:List Ent:=[
 qm 0 6 0,
 qe 1 7 (.bsl false 1 [xN 1,xN 1,xN 2,xN 2,xN 2,xN 3,xN 3,xN 4,xN 5,xN 5,xN 6,xN 7,xN 7,xN 8,xN 9,xN 10,xN 10]),
 qc 2 8 (.call F_spec_pl1Cur_among true [(.io,.t 6),(.co,.t 7)]),
 qe 3 9 (.bld [.t 8,.k (.dat none (.int .i64 0)),.k (.dat none (.int .i64 0)),.k (.dat none (.int .i64 0)),.k (.dat none (.int .i64 0)),.k (.dat none (.int .i64 0))]),
 qe 4 5 (.box (.k (.agg [.dat none (.int .i64 0),.dat none (.int .i64 0),.dat none (.int .i64 0),.dat none (.int .i64 0),.dat none (.int .i64 0),.dat none (.int .i64 0)]))),
 qs 5 (qW 6 5 9)]
def r2:List Ent:=[
 qe 0 10 (qD 0 5),
 qe 1 11 (qL 1 10),
 qe 2 12 (qK .geq 11 8),
 qm 3 13 12,
 qt 4 14 13 (qM 1),
 qt 5 15 13 (qK .lss 14 2),
 qe 6 16 (.pick (.t 13) (.t 15) xF)]
def r3:List Ent:=[
 qe 0 17 (qD 0 5),
 qs 1 (.store 1 (.t 17) (xN 3))]
def r4:List Ent:=[
 qe 0 18 (qD 0 5),
 qe 1 19 (qL 1 18)]
def r5:List Ent:=[
 qe 0 21 (qK .eql 19 1),
 qm 1 20 21]
def r6:List Ent:=[
 qe 0 22 (qK .eql 19 5),
 qm 1 20 22]
def r7:List Ent:=[
 qe 0 23 (qK .eql 19 9),
 qm 1 20 23]
def r8:List Ent:=[
 qe 0 24 (qK .eql 19 10),
 qm 1 20 24]
def r9:List Ent:=[
 qm 0 25 0,
 qc 1 26 (.call F_spec_pl1Cur_pick true [(.io,.t 25),(.ro,xN 3)]),
 qe 2 27 (qD 3 5),
 qs 3 (qW 1 27 26)]
def r10:List Ent:=[
 qe 0 28 (qD 0 5),
 qe 1 29 (qL 1 28),
 qe 2 30 (qK .neq 29 8)]
def r11:List Ent:=[
 qm 0 31 0,
 qc 1 32 (.call F_spec_pl1Cur_pick true [(.io,.t 31),(.ro,xN 3)]),
 qe 2 33 (qD 2 5),
 qs 3 (qW 1 33 32)]
def r12:List Ent:=[
 qe 0 34 (qD 0 5),
 qe 1 35 (qL 1 34)]
def r13:List Ent:=[
 qe 0 37 (qK .eql 35 1),
 qm 1 36 37]
def r14:List Ent:=[
 qe 0 38 (qK .eql 35 2),
 qm 1 36 38]
def r15:List Ent:=[
 qm 0 39 0,
 qc 1 40 (.call F_spec_pl1Cur_pick true [(.io,.t 39),(.ro,xN 10)]),
 qe 2 41 (.bin .add (xN 1) (.t 40)),
 qe 3 42 (qD 1 5),
 qs 4 (qW 1 42 41)]
def r16:List Ent:=[
 qe 0 43 (qD 0 5),
 qe 1 44 (qL 1 43)]
def r17:List Ent:=[
 qe 0 46 (qK .eql 44 2),
 qm 1 45 46]
def r18:List Ent:=[
 qe 0 47 (qK .eql 44 3),
 qm 1 45 47]
def r19:List Ent:=[
 qm 0 48 0,
 qm 1 49 0,
 qc 2 50 (.call F_spec_pl1Cur_pick true [(.io,.t 49),(.ro,xN 20)]),
 qe 3 51 (.bsl false 1 [xN 0,xN 1,xN 3,xN 7,xN 255,.t 50]),
 qc 4 52 (.call F_spec_pl1Cur_among true [(.io,.t 48),(.co,.t 51)]),
 qe 5 53 (qD 4 5),
 qs 6 (qW 1 53 52)]
def r20:List Ent:=[
 qe 0 55 (qK .eql 44 4),
 qm 1 54 55]
def r21:List Ent:=[
 qm 0 56 0,
 qm 1 57 0,
 qc 2 58 (.call F_spec_pl1Cur_pick true [(.io,.t 57),(.ro,xN 256)]),
 qm 3 59 0,
 qc 4 60 (.call F_spec_pl1Cur_pick true [(.io,.t 59),(.ro,xN 250)]),
 qe 5 61 (qB .mul 58 60),
 qe 6 62 (.bin .add (xN 256) (.t 61)),
 qe 7 63 (.bsl false 1 [xN 256,xN 65535,.t 62]),
 qc 8 64 (.call F_spec_pl1Cur_among true [(.io,.t 56),(.co,.t 63)]),
 qe 9 65 (qD 4 5),
 qs 10 (qW 1 65 64)]
def r22:List Ent:=[
 qe 0 67 (qK .eql 44 5),
 qm 1 66 67]
def r23:List Ent:=[
 qm 0 68 0,
 qc 1 69 (.call F_spec_pl1Cur_pick true [(.io,.t 68),(.ro,xN 5)]),
 qe 2 70 (qD 4 5),
 qs 3 (qW 1 70 69)]
def r24:List Ent:=[
 qe 0 72 (qK .eql 44 6),
 qm 1 71 72]
def r25:List Ent:=[
 qe 0 73 (qK .eql 44 7),
 qm 1 71 73]
def r26:List Ent:=[
 qm 0 74 0,
 qc 1 75 (.call F_spec_pl1Cur_pick true [(.io,.t 74),(.ro,xN 18)]),
 qe 2 76 (qD 4 5),
 qs 3 (qW 1 76 75)]
def r27:List Ent:=[
 qe 0 78 (qK .eql 44 8),
 qm 1 77 78]
def r28:List Ent:=[
 qe 0 79 (qK .eql 44 9),
 qm 1 77 79]
def r29:List Ent:=[
 qe 0 80 (qK .eql 44 10),
 qm 1 77 80]
def r30:List Ent:=[
 qm 0 81 0,
 qm 1 82 1,
 qe 2 83 (qK .sub 82 1),
 qc 3 84 (qC F_spec_l1Least [xN 4,.t 83]),
 qc 4 85 (.call F_spec_pl1Cur_pick true [(.io,.t 81),(.ro,.t 84)]),
 qe 5 86 (.bin .add (xN 1) (.t 85)),
 qe 6 87 (qD 5 5),
 qs 7 (qW 1 87 86)]
def r31:List Ent:=[
 qe 0 88 (qA 6 5),
 qs 1 (qW 6 4 88)]
def fi:FI:={ res:=[.c 4 true 6],code:=.seq (.reg 64 1 r0) (.seq (.reg 128 6 r1) (.seq (.seq (.reg 512 7 r2) (.cond (.t 16) (.reg 960 2 r3) (.skip))) (.seq (.seq (.reg 1088 2 r4) (.block 0 (.seq (.seq (.reg 1216 2 r5) (.cond (.t 20) (.skip) (.seq (.reg 1344 2 r6) (.cond (.t 20) (.skip) (.seq (.reg 1472 2 r7) (.cond (.t 20) (.skip) (.reg 1600 2 r8))))))) (.cond (.t 20) (.reg 1728 4 r9) (.skip))))) (.seq (.seq (.reg 1984 3 r10) (.cond (.t 30) (.reg 2176 4 r11) (.skip))) (.seq (.seq (.reg 2432 2 r12) (.block 1 (.seq (.seq (.reg 2560 2 r13) (.cond (.t 36) (.skip) (.reg 2688 2 r14))) (.cond (.t 36) (.reg 2816 5 r15) (.skip))))) (.seq (.seq (.reg 3136 2 r16) (.block 2 (.seq (.seq (.reg 3264 2 r17) (.cond (.t 45) (.skip) (.reg 3392 2 r18))) (.cond (.t 45) (.reg 3520 7 r19) (.seq (.reg 3968 2 r20) (.cond (.t 54) (.reg 4096 11 r21) (.seq (.reg 4800 2 r22) (.cond (.t 66) (.reg 4928 4 r23) (.seq (.seq (.reg 5184 2 r24) (.cond (.t 71) (.skip) (.reg 5312 2 r25))) (.cond (.t 71) (.reg 5440 4 r26) (.seq (.seq (.reg 5696 2 r27) (.cond (.t 77) (.skip) (.seq (.reg 5824 2 r28) (.cond (.t 77) (.skip) (.reg 5952 2 r29))))) (.cond (.t 77) (.reg 6080 8 r30) (.skip))))))))))))) (.seq (.reg 6592 2 r31) (.ret)))))))) }
attribute [go_sem] r0 r1 r2 r3 r4 r5 r6 r7 r8 r9 r10 r11 r12 r13 r14 r15 r16 r17 r18 r19 r20 r21 r22 r23 r24 r25 r26 r27 r28 r29 r30 r31
theorem ok:chkF prog F_spec_pl1Cur_step 2 fi=true:=by kernel_rfl
end spec_pl1Cur_step
namespace spec_pl1Cur_program
def r0:List Ent:=[
 qe 0 2 (.mv (.k (.nil 6)))]
def r1:List Ent:=[
 qe 0 3 (.mv (.k (.nil 6)))]
def r2:List Ent:=[
 qm 0 6 0,
 qc 1 7 (.call F_spec_pl1Cur_pick true [(.io,.t 6),(.ro,xN 12)]),
 qm 2 4 7]
def r3:List Ent:=[
 qm 0 8 0,
 qc 1 9 (.call F_spec_pl1Cur_one true [(.io,.t 8),(.ro,xN 30)])]
def r4:List Ent:=[
 qe 0 4 (.mv (xN 19))]
def r5:List Ent:=[
 qe 0 5 (.mv (xN 0))]
def r6:List Ent:=[
 qm 0 10 5,
 qm 1 11 4,
 qe 2 12 (qB .lss 10 11)]
def r7:List Ent:=[
 qm 0 15 3,
 qm 1 16 0,
 qm 2 17 4,
 qm 3 18 5,
 qe 4 19 (qB .sub 17 18),
 qc 5 20 (.call F_spec_pl1Cur_step true [(.io,.t 16),(.ro,.t 19)]),
 qe 6 21 (.bsl true 6 [.t 20]),
 qe 7 22 (.app 6 48 (.t 15) (.t 21)),
 qm 8 3 22]
def r8:List Ent:=[
 qm 0 13 5,
 qe 1 14 (qK .add 13 1),
 qm 2 5 14]
def b0:KC:=.seq (.seq (.reg 640 3 r6) (.cond (.t 12) (.skip) (.exit 0))) (.seq (.block 1 (.reg 832 9 r7)) (.reg 1408 3 r8))
def r9:List Ent:=[
 qm 0 23 3,
 qe 1 24 (.bld [xN 11,.k (.dat none (.int .i64 0)),.k (.dat none (.int .i64 0)),.k (.dat none (.int .i64 0)),.k (.dat none (.int .i64 0)),.k (.dat none (.int .i64 0))]),
 qe 2 25 (.bsl true 6 [.t 24]),
 qe 3 26 (.app 6 48 (.t 23) (.t 25)),
 qm 4 3 26]
def r10:List Ent:=[
 qm 0 27 0,
 qc 1 28 (.call F_spec_pl1Cur_one true [(.io,.t 27),(.ro,xN 30)])]
def r11:List Ent:=[
 qm 0 29 3,
 qm 1 30 0,
 qm 2 31 3,
 qe 3 32 (qZ 31),
 qc 4 33 (.call F_spec_pl1Cur_pick true [(.io,.t 30),(.ro,.t 32)]),
 qm 5 34 0,
 qc 6 35 (.call F_spec_pl1Cur_pick true [(.io,.t 34),(.ro,xN 13)]),
 qm 7 36 0,
 qc 8 37 (.call F_spec_pl1Cur_pick true [(.io,.t 36),(.ro,xN 3)]),
 qm 9 38 0,
 qc 10 39 (.call F_spec_pl1Cur_pick true [(.io,.t 38),(.ro,xN 8)]),
 qe 11 40 (qK .sub 39 1),
 qm 12 41 0,
 qe 13 42 (.bsl false 1 [xN 0,xN 255,xN 256,xN 65536]),
 qc 14 43 (.call F_spec_pl1Cur_among true [(.io,.t 41),(.co,.t 42)]),
 qm 15 44 0,
 qc 16 45 (.call F_spec_pl1Cur_pick true [(.io,.t 44),(.ro,xN 4)]),
 qe 17 46 (.bld [.t 35,.t 37,.t 40,.k (.dat none (.int .i64 0)),.t 43,.t 45]),
 qe 18 47 (qI 6 29 33),
 qs 19 (qW 6 47 46)]
def r12:List Ent:=[
 qm 0 48 3,
 qm 1 2 48]
def fi:FI:={ res:=[.t 2],code:=.seq (.reg 64 1 r0) (.seq (.reg 128 1 r1) (.seq (.reg 192 3 r2) (.seq (.seq (.reg 384 2 r3) (.cond (.t 9) (.reg 512 1 r4) (.skip))) (.seq (.seq (.reg 576 1 r5) (.nrm 3 1280 6 (.block 0 (.loop b0)))) (.seq (.reg 1600 5 r9) (.seq (.seq (.reg 1920 2 r10) (.cond (.t 28) (.reg 2048 20 r11) (.skip))) (.seq (.reg 3328 2 r12) (.ret)))))))) }
attribute [go_sem] r0 r1 r2 r3 r4 r5 r6 r7 r8 r9 r10 r11 r12
theorem ok:chkF prog F_spec_pl1Cur_program 1 fi=true:=by kernel_rfl
end spec_pl1Cur_program
namespace spec_pl1Cur_ctx
def r0:List Ent:=[
 qe 0 2 (.mv (.k (.nil 1)))]
def r1:List Ent:=[
 qe 0 3 (.mv (.k (.nil 1)))]
def r2:List Ent:=[
 qe 0 4 (.mv (xN 0))]
def r3:List Ent:=[
 qm 0 5 4,
 qe 1 6 (qK .lss 5 8)]
def r4:List Ent:=[
 qm 0 9 3,
 qm 1 10 0,
 qm 2 11 0,
 qc 3 12 (.call F_spec_pl1Cur_pick true [(.io,.t 11),(.ro,xN 256)]),
 qe 4 13 (.bsl false 1 [xN 0,xN 1,xN 7,xN 8,xN 255,.t 12]),
 qc 5 14 (.call F_spec_pl1Cur_among true [(.io,.t 10),(.co,.t 13)]),
 qe 6 15 (.bsl true 1 [.t 14]),
 qe 7 16 (.app 1 8 (.t 9) (.t 15)),
 qm 8 3 16]
def r5:List Ent:=[
 qm 0 7 4,
 qe 1 8 (qK .add 7 1),
 qm 2 4 8]
def b0:KC:=.seq (.seq (.reg 256 2 r3) (.cond (.t 6) (.skip) (.exit 0))) (.seq (.block 1 (.reg 384 9 r4)) (.reg 960 3 r5))
def r6:List Ent:=[
 qm 0 17 0,
 qc 1 18 (.call F_spec_pl1Cur_one true [(.io,.t 17),(.ro,xN 30)])]
def r7:List Ent:=[
 qm 0 19 3,
 qm 1 20 0,
 qe 2 21 (.bsl false 1 [xN (-1),xN 256]),
 qc 3 22 (.call F_spec_pl1Cur_among true [(.io,.t 20),(.co,.t 21)]),
 qe 4 23 (.iad 1 (.t 19) (xN 0)),
 qs 5 (qW 1 23 22)]
def r8:List Ent:=[
 qm 0 24 3,
 qm 1 2 24]
def fi:FI:={ res:=[.t 2],code:=.seq (.reg 64 1 r0) (.seq (.reg 128 1 r1) (.seq (.seq (.reg 192 1 r2) (.nrm 3 832 1 (.block 0 (.loop b0)))) (.seq (.seq (.reg 1152 2 r6) (.cond (.t 18) (.reg 1280 6 r7) (.skip))) (.seq (.reg 1664 2 r8) (.ret))))) }
attribute [go_sem] r0 r1 r2 r3 r4 r5 r6 r7 r8
theorem ok:chkF prog F_spec_pl1Cur_ctx 1 fi=true:=by kernel_rfl
end spec_pl1Cur_ctx
namespace laws_sameInts
def r0:List Ent:=[
 qe 0 4 (.mv xF)]
def r1:List Ent:=[
 qm 0 6 0,
 qe 1 7 (qZ 6),
 qm 2 8 1,
 qe 3 9 (qZ 8),
 qe 4 10 (qB .neq 7 9)]
def r2:List Ent:=[
 qe 0 4 (.mv xF)]
def r3:List Ent:=[
 qm 0 11 0,
 qe 1 12 (qZ 11),
 qe 2 13 (.mv (xN 0))]
def r4:List Ent:=[
 qe 0 14 (qB .lss 13 12)]
def r5:List Ent:=[
 qm 0 15 13,
 qm 1 5 15]
def r6:List Ent:=[
 qm 0 16 0,
 qm 1 17 5,
 qr 2 18 (qI 1 16 17),
 qr 3 19 (qL 1 18),
 qm 4 20 1,
 qm 5 21 5,
 qr 6 22 (qI 1 20 21),
 qr 7 23 (qL 1 22),
 qe 8 24 (qB .neq 19 23)]
def r7:List Ent:=[
 qe 0 4 (.mv xF)]
def r8:List Ent:=[
 qe 0 25 (qK .add 13 1),
 qm 1 13 25]
def b0:KC:=.seq (.reg 704 1 r4) (.seq (.cond (.t 14) (.skip) (.exit 0)) (.seq (.block 1 (.seq (.reg 768 2 r5) (.seq (.reg 896 9 r6) (.cond (.t 24) (.seq (.reg 1472 1 r7) (.ret)) (.skip))))) (.reg 1536 2 r8)))
def r9:List Ent:=[
 qe 0 4 (.mv xT)]
def fi:FI:={ res:=[.t 4],code:=.seq (.reg 64 1 r0) (.seq (.seq (.reg 128 5 r1) (.cond (.t 10) (.seq (.reg 448 1 r2) (.ret)) (.skip))) (.seq (.seq (.reg 512 3 r3) (.block 0 (.loop b0))) (.seq (.reg 1664 1 r9) (.ret)))) }
attribute [go_sem] r0 r1 r2 r3 r4 r5 r6 r7 r8 r9
theorem ok:chkF prog F_laws_sameInts 2 fi=true:=by kernel_rfl
end laws_sameInts
namespace spec_ProgramBytes
def r0:List Ent:=[
 qe 0 2 (.mv (.k (.dat none (.str ⟨#[]⟩)))),
 qe 1 3 (.mv xF)]
def r1:List Ent:=[
 qm 0 7 0,
 qc 1 8 (qV F_spec_GoodProgram 7),
 qe 2 9 (qN 8)]
def r2:List Ent:=[
 qe 0 2 (.mv (.k (.dat none (.str ⟨#[]⟩)))),
 qe 1 3 (.mv xF)]
def r3:List Ent:=[
 qe 0 4 (.mv (.k (.dat none (.str ⟨#[]⟩))))]
def r4:List Ent:=[
 qm 0 10 0,
 qe 1 11 (qZ 10),
 qe 2 12 (.mv (xN 0))]
def r5:List Ent:=[
 qe 0 13 (qB .lss 12 11)]
def r6:List Ent:=[
 qe 0 14 (qI 6 10 12),
 qe 1 15 (qA 6 14),
 qe 2 6 (.box (.k (.agg [.dat none (.int .i64 0),.dat none (.int .i64 0),.dat none (.int .i64 0),.dat none (.int .i64 0),.dat none (.int .i64 0),.dat none (.int .i64 0)]))),
 qs 3 (qW 6 6 15)]
def r7:List Ent:=[
 qm 0 16 4,
 qe 1 17 (qA 6 6),
 qc 2 18 (qV F_spec_l2Bytes 17),
 qe 3 19 (qB .add 16 18),
 qm 4 4 19]
def r8:List Ent:=[
 qe 0 20 (qK .add 12 1),
 qm 1 12 20]
def b0:KC:=.seq (.reg 768 1 r5) (.seq (.cond (.t 13) (.skip) (.exit 0)) (.seq (.block 1 (.seq (.reg 832 4 r6) (.reg 1088 5 r7))) (.reg 1408 2 r8)))
def r9:List Ent:=[
 qm 0 21 4,
 qm 1 2 21,
 qe 2 3 (.mv xT)]
def fi:FI:={ res:=[.t 2,.t 3],code:=.seq (.reg 64 2 r0) (.seq (.seq (.reg 192 3 r1) (.cond (.t 9) (.seq (.reg 384 2 r2) (.ret)) (.skip))) (.seq (.reg 512 1 r3) (.seq (.seq (.reg 576 3 r4) (.block 0 (.loop b0))) (.seq (.reg 1536 3 r9) (.ret))))) }
attribute [go_sem] r0 r1 r2 r3 r4 r5 r6 r7 r8 r9
theorem ok:chkF prog F_spec_ProgramBytes 1 fi=true:=by kernel_rfl
end spec_ProgramBytes
namespace spec_pl1Cur_tame
def r0:List Ent:=[
 qe 0 2 (.mv (.k (.nil 6)))]
def r1:List Ent:=[
 qe 0 3 (.mv (.k (.nil 6)))]
def r2:List Ent:=[
 qm 0 5 0,
 qc 1 6 (.call F_spec_pl1Cur_pick true [(.io,.t 5),(.ro,xN 4)]),
 qm 2 4 6]
def r3:List Ent:=[
 qm 0 7 4,
 qe 1 8 (qK .gtr 7 0)]
def r4:List Ent:=[
 qm 0 11 3,
 qm 1 12 0,
 qc 2 13 (.call F_spec_pl1Cur_pick true [(.io,.t 12),(.ro,xN 2)]),
 qm 3 14 0,
 qc 4 15 (.call F_spec_pl1Cur_pick true [(.io,.t 14),(.ro,xN 8)]),
 qe 5 16 (.bld [xN 5,.k (.dat none (.int .i64 0)),.t 13,xN 2,.t 15,.k (.dat none (.int .i64 0))]),
 qe 6 17 (.bsl true 6 [.t 16]),
 qe 7 18 (.app 6 48 (.t 11) (.t 17)),
 qm 8 3 18]
def r5:List Ent:=[
 qm 0 19 3,
 qm 1 20 0,
 qc 2 21 (.call F_spec_pl1Cur_pick true [(.io,.t 20),(.ro,xN 2)]),
 qm 3 22 0,
 qc 4 23 (.call F_spec_pl1Cur_pick true [(.io,.t 22),(.ro,xN 16)]),
 qe 5 24 (.bld [xN 7,.k (.dat none (.int .i64 0)),.t 21,.k (.dat none (.int .i64 0)),.t 23,.k (.dat none (.int .i64 0))]),
 qe 6 25 (.bsl true 6 [.t 24]),
 qe 7 26 (.app 6 48 (.t 19) (.t 25)),
 qm 8 3 26]
def r6:List Ent:=[
 qm 0 9 4,
 qe 1 10 (qK .sub 9 1),
 qm 2 4 10]
def b0:KC:=.seq (.seq (.reg 384 2 r3) (.cond (.t 8) (.skip) (.exit 0))) (.seq (.block 1 (.seq (.reg 512 9 r4) (.reg 1088 9 r5))) (.reg 1664 3 r6))
def r7:List Ent:=[
 qm 0 27 0,
 qc 1 28 (.call F_spec_pl1Cur_one true [(.io,.t 27),(.ro,xN 2)])]
def r8:List Ent:=[
 qm 0 29 3,
 qe 1 30 (.bld [xN 5,.k (.dat none (.int .i64 0)),xN 1,xN 2,xN 0,.k (.dat none (.int .i64 0))]),
 qm 2 31 0,
 qe 3 32 (.bsl false 1 [xN 5,xN 6,xN 7,xN 9]),
 qc 4 33 (.call F_spec_pl1Cur_among true [(.io,.t 31),(.co,.t 32)]),
 qe 5 34 (.bld [xN 3,.k (.dat none (.int .i64 0)),xN 3,.k (.dat none (.int .i64 0)),.t 33,.k (.dat none (.int .i64 0))]),
 qe 6 35 (.bld [xN 10,.k (.dat none (.int .i64 0)),xN 1,xN 3,.k (.dat none (.int .i64 0)),xN 1]),
 qe 7 36 (.bld [xN 11,.k (.dat none (.int .i64 0)),.k (.dat none (.int .i64 0)),.k (.dat none (.int .i64 0)),.k (.dat none (.int .i64 0)),.k (.dat none (.int .i64 0))]),
 qm 8 37 0,
 qc 9 38 (.call F_spec_pl1Cur_pick true [(.io,.t 37),(.ro,xN 3)]),
 qe 10 39 (.bld [xN 5,.k (.dat none (.int .i64 0)),xN 0,xN 1,.t 38,.k (.dat none (.int .i64 0))]),
 qe 11 40 (.bsl true 6 [.t 30,.t 34,.t 35,.t 36,.t 39]),
 qe 12 41 (.app 6 48 (.t 29) (.t 40)),
 qm 13 3 41]
def r9:List Ent:=[
 qm 0 42 0,
 qc 1 43 (.call F_spec_pl1Cur_one true [(.io,.t 42),(.ro,xN 3)])]
def r10:List Ent:=[
 qm 0 44 3,
 qm 1 45 0,
 qe 2 46 (.bsl false 1 [xN 3,xN 7,xN 15]),
 qc 3 47 (.call F_spec_pl1Cur_among true [(.io,.t 45),(.co,.t 46)]),
 qe 4 48 (.bld [xN 2,xN 6,xN 1,.k (.dat none (.int .i64 0)),.t 47,.k (.dat none (.int .i64 0))]),
 qe 5 49 (.bld [xN 5,.k (.dat none (.int .i64 0)),xN 0,xN 1,.k (.dat none (.int .i64 0)),.k (.dat none (.int .i64 0))]),
 qe 6 50 (.bsl true 6 [.t 48,.t 49]),
 qe 7 51 (.app 6 48 (.t 44) (.t 50)),
 qm 8 3 51]
def r11:List Ent:=[
 qm 0 52 3,
 qe 1 53 (.bld [xN 11,.k (.dat none (.int .i64 0)),.k (.dat none (.int .i64 0)),.k (.dat none (.int .i64 0)),.k (.dat none (.int .i64 0)),.k (.dat none (.int .i64 0))]),
 qe 2 54 (.bsl true 6 [.t 53]),
 qe 3 55 (.app 6 48 (.t 52) (.t 54)),
 qm 4 2 55]
def fi:FI:={ res:=[.t 2],code:=.seq (.reg 64 1 r0) (.seq (.reg 128 1 r1) (.seq (.seq (.reg 192 3 r2) (.nrm 3 960 6 (.block 0 (.loop b0)))) (.seq (.seq (.reg 1856 2 r7) (.cond (.t 28) (.reg 1984 14 r8) (.skip))) (.seq (.seq (.reg 2880 2 r9) (.cond (.t 43) (.reg 3008 9 r10) (.skip))) (.seq (.reg 3584 5 r11) (.ret)))))) }
attribute [go_sem] r0 r1 r2 r3 r4 r5 r6 r7 r8 r9 r10 r11
theorem ok:chkF prog F_spec_pl1Cur_tame 1 fi=true:=by kernel_rfl
end spec_pl1Cur_tame
namespace spec_pl1Cur_anyProgram
def r0:List Ent:=[
 qe 0 2 (.mv (.k (.nil 6)))]
def r1:List Ent:=[
 qm 0 3 0,
 qc 1 4 (.call F_spec_pl1Cur_one true [(.io,.t 3),(.ro,xN 2)])]
def r2:List Ent:=[
 qm 0 5 0,
 qc 1 6 (.call F_spec_pl1Cur_tame true [(.io,.t 5)]),
 qm 2 2 6]
def r3:List Ent:=[
 qm 0 7 0,
 qc 1 8 (.call F_spec_pl1Cur_program true [(.io,.t 7)]),
 qm 2 2 8]
def fi:FI:={ res:=[.t 2],code:=.seq (.reg 64 1 r0) (.seq (.seq (.reg 128 2 r1) (.cond (.t 4) (.seq (.reg 256 3 r2) (.ret)) (.skip))) (.seq (.reg 448 3 r3) (.ret))) }
attribute [go_sem] r0 r1 r2 r3
theorem ok:chkF prog F_spec_pl1Cur_anyProgram 1 fi=true:=by kernel_rfl
end spec_pl1Cur_anyProgram
namespace spec_pl1Cur_spoilt
def r0:List Ent:=[
 qe 0 6 (.mv (.k (.dat none (.str ⟨#[]⟩))))]
def r1:List Ent:=[
 qm 0 10 0,
 qc 1 11 (.call F_spec_pl1Cur_pick true [(.io,.t 10),(.ro,xN 3)]),
 qm 2 7 11]
def r2:List Ent:=[
 qm 0 12 7,
 qe 1 13 (qK .gtr 12 0),
 qm 2 14 13,
 qt 3 15 14 (qM 1),
 qt 4 16 14 (.lens (.t 15)),
 qt 5 17 14 (qK .gtr 16 0),
 qe 6 18 (.pick (.t 14) (.t 17) xF)]
def r3:List Ent:=[
 qm 0 21 0,
 qm 1 22 1,
 qe 2 23 (.lens (.t 22)),
 qc 3 24 (.call F_spec_pl1Cur_pick true [(.io,.t 21),(.ro,.t 23)]),
 qm 4 8 24]
def r4:List Ent:=[
 qm 0 25 2,
 qm 1 26 0,
 qm 2 27 2,
 qe 3 28 (.lens (.t 27)),
 qc 4 29 (.call F_spec_pl1Cur_pick true [(.io,.t 26),(.ro,.t 28)]),
 qe 5 30 (.ids (.t 25) (.t 29)),
 qe 6 31 (.bsl false 1 [.t 30]),
 qe 7 32 (.b2s (.t 31)),
 qm 8 9 32]
def r5:List Ent:=[
 qm 0 33 0,
 qc 1 34 (.call F_spec_pl1Cur_pick true [(.io,.t 33),(.ro,xN 3)])]
def r6:List Ent:=[
 qe 0 44 (qK .eql 34 0),
 qm 1 43 44]
def r7:List Ent:=[
 qm 0 45 1,
 qm 1 46 8,
 qe 2 47 (.sls (.t 45) (none) (some (.t 46))),
 qm 3 48 9,
 qe 4 49 (qB .add 47 48),
 qm 5 50 1,
 qm 6 51 8,
 qe 7 52 (.sls (.t 50) (some (.t 51)) (none)),
 qe 8 53 (qB .add 49 52),
 qm 9 1 53]
def r8:List Ent:=[
 qe 0 55 (qK .eql 34 1),
 qm 1 54 55]
def r9:List Ent:=[
 qm 0 56 1,
 qm 1 57 8,
 qe 2 58 (.sls (.t 56) (none) (some (.t 57))),
 qm 3 59 9,
 qe 4 60 (qB .add 58 59),
 qm 5 61 1,
 qm 6 62 8,
 qe 7 63 (qK .add 62 1),
 qe 8 64 (.sls (.t 61) (some (.t 63)) (none)),
 qe 9 65 (qB .add 60 64),
 qm 10 1 65]
def r10:List Ent:=[
 qm 0 35 1,
 qm 1 36 8,
 qe 2 37 (.sls (.t 35) (none) (some (.t 36))),
 qm 3 38 1,
 qm 4 39 8,
 qe 5 40 (qK .add 39 1),
 qe 6 41 (.sls (.t 38) (some (.t 40)) (none)),
 qe 7 42 (qB .add 37 41),
 qm 8 1 42]
def r11:List Ent:=[
 qm 0 19 7,
 qe 1 20 (qK .sub 19 1),
 qm 2 7 20]
def b0:KC:=.seq (.seq (.reg 320 7 r2) (.cond (.t 18) (.skip) (.exit 0))) (.seq (.block 1 (.seq (.reg 768 5 r3) (.seq (.reg 1088 9 r4) (.seq (.reg 1664 2 r5) (.block 2 (.seq (.reg 1792 2 r6) (.cond (.t 43) (.reg 1920 10 r7) (.seq (.reg 2560 2 r8) (.cond (.t 54) (.reg 2688 11 r9) (.reg 3392 9 r10)))))))))) (.reg 3968 3 r11))
def r12:List Ent:=[
 qm 0 66 1,
 qm 1 6 66]
def fi:FI:={ res:=[.t 6],code:=.seq (.reg 64 1 r0) (.seq (.seq (.reg 128 3 r1) (.block 0 (.loop b0))) (.seq (.reg 4160 2 r12) (.ret))) }
attribute [go_sem] r0 r1 r2 r3 r4 r5 r6 r7 r8 r9 r10 r11 r12
theorem ok:chkF prog F_spec_pl1Cur_spoilt 3 fi=true:=by kernel_rfl
end spec_pl1Cur_spoilt
namespace spec_DrawJudgeBytes
def r0:List Ent:=[
 qe 0 2 (.mv (.k (.dat none (.str ⟨#[]⟩))))]
def r1:List Ent:=[
 qm 0 6 0,
 qe 1 7 (.bld [.t 6,.k (.dat none (.int .i64 0)),.k (.dat none (.int .u64 0))]),
 qe 2 8 (.box (.t 7)),
 qm 3 3 8]
def r2:List Ent:=[
 qm 0 10 3,
 qc 1 11 (.call F_spec_pl1Cur_anyProgram true [(.io,.t 10)]),
 qc 2 12 (qV F_spec_ProgramBytes 11),
 qm 3 9 12,
 qe 4 13 (qX 0 9),
 qe 5 14 (qX 1 9),
 qm 6 4 13,
 qm 7 5 14]
def r3:List Ent:=[
 qm 0 15 3,
 qc 1 16 (.call F_spec_pl1Cur_one true [(.io,.t 15),(.ro,xN 8)])]
def r4:List Ent:=[
 qm 0 17 3,
 qm 1 18 4,
 qc 2 19 (.call F_spec_pl1Cur_spoilt true [(.io,.t 17),(.ro,.t 18),(.ro,.k (.dat none (.str ⟨#[0,1,11,3]⟩)))]),
 qm 3 4 19]
def r5:List Ent:=[
 qm 0 20 4,
 qm 1 2 20]
def fi:FI:={ res:=[.t 2],code:=.seq (.reg 64 1 r0) (.seq (.reg 128 4 r1) (.seq (.reg 384 8 r2) (.seq (.seq (.reg 896 2 r3) (.cond (.t 16) (.reg 1024 4 r4) (.skip))) (.seq (.reg 1280 2 r5) (.ret))))) }
attribute [go_sem] r0 r1 r2 r3 r4 r5
theorem ok:chkF prog F_spec_DrawJudgeBytes 1 fi=true:=by kernel_rfl
end spec_DrawJudgeBytes
namespace laws_sameVerdict
def r0:List Ent:=[
 qe 0 2 (.box (.t 0)),
 qe 1 3 (.box (.t 1)),
 qe 2 4 (.mv xF)]
def r1:List Ent:=[
 qe 0 5 (qD 0 2),
 qe 1 6 (qL 1 5),
 qe 2 7 (qD 0 3),
 qe 3 8 (qL 1 7),
 qe 4 9 (qB .eql 6 8),
 qm 5 10 9,
 qt 6 11 10 (qD 1 2),
 qt 7 12 10 (qL 1 11),
 qt 8 13 10 (qD 1 3),
 qt 9 14 10 (qL 1 13),
 qt 10 15 10 (qB .eql 12 14),
 qe 11 16 (.pick (.t 10) (.t 15) xF),
 qm 12 17 16,
 qt 13 18 17 (qD 2 2),
 qt 14 19 17 (qL 1 18),
 qt 15 20 17 (qD 2 3),
 qt 16 21 17 (qL 1 20),
 qh 17 22 17 (qC F_laws_sameInts [.t 19,.t 21]),
 qe 18 23 (.pick (.t 17) (.t 22) xF),
 qm 19 24 23,
 qt 20 25 24 (qD 3 2),
 qt 21 26 24 (qL 1 25),
 qt 22 27 24 (qD 3 3),
 qt 23 28 24 (qL 1 27),
 qt 24 29 24 (qB .eql 26 28),
 qe 25 30 (.pick (.t 24) (.t 29) xF),
 qm 26 31 30,
 qt 27 32 31 (qD 4 2),
 qt 28 33 31 (qL 1 32),
 qt 29 34 31 (qD 4 3),
 qt 30 35 31 (qL 1 34),
 qt 31 36 31 (qB .eql 33 35),
 qe 32 37 (.pick (.t 31) (.t 36) xF),
 qm 33 38 37,
 qt 34 39 38 (qD 5 2),
 qt 35 40 38 (qL 1 39),
 qt 36 41 38 (qD 5 3),
 qt 37 42 38 (qL 1 41),
 qt 38 43 38 (qB .eql 40 42),
 qe 39 44 (.pick (.t 38) (.t 43) xF),
 qm 40 4 44]
def fi:FI:={ res:=[.t 4],code:=.seq (.reg 64 3 r0) (.seq (.reg 256 41 r1) (.ret)) }
attribute [go_sem] r0 r1
theorem ok:chkF prog F_laws_sameVerdict 2 fi=true:=by kernel_rfl
end laws_sameVerdict
namespace spec_DrawRunLet
def r0:List Ent:=[
 qe 0 2 (.mv (.k (.dat none (.str ⟨#[]⟩)))),
 qe 1 3 (.mv (.k (.nil 1)))]
def r1:List Ent:=[
 qm 0 7 0,
 qe 1 8 (.bld [.t 7,.k (.dat none (.int .i64 0)),.k (.dat none (.int .u64 0))]),
 qe 2 9 (.box (.t 8)),
 qm 3 4 9]
def r2:List Ent:=[
 qm 0 11 4,
 qc 1 12 (.call F_spec_pl1Cur_tame true [(.io,.t 11)]),
 qc 2 13 (qV F_spec_ProgramBytes 12),
 qm 3 10 13,
 qe 4 14 (qX 0 10),
 qe 5 15 (qX 1 10),
 qm 6 5 14,
 qm 7 6 15]
def r3:List Ent:=[
 qm 0 16 5,
 qm 1 17 4,
 qc 2 18 (.call F_spec_pl1Cur_ctx true [(.io,.t 17)]),
 qm 3 2 16,
 qm 4 3 18]
def fi:FI:={ res:=[.t 2,.t 3],code:=.seq (.reg 64 2 r0) (.seq (.reg 192 4 r1) (.seq (.reg 448 8 r2) (.seq (.reg 960 5 r3) (.ret)))) }
attribute [go_sem] r0 r1 r2 r3
theorem ok:chkF prog F_spec_DrawRunLet 1 fi=true:=by kernel_rfl
end spec_DrawRunLet
namespace laws_FnGate
def r0:List Ent:=[
 qe 0 4 (.mv xF)]
def r1:List Ent:=[
 qm 0 33 0,
 qe 1 34 (qZ 33),
 qm 2 35 1,
 qe 3 36 (qZ 35),
 qe 4 37 (qB .add 34 36),
 qe 5 38 (qK .gtr 37 1048576)]
def r2:List Ent:=[
 qe 0 4 (.mv xT)]
def r3:List Ent:=[
 qm 0 39 0,
 qc 1 40 (qV F_spec_DrawJudgeBytes 39),
 qm 2 5 40]
def r4:List Ent:=[
 qm 0 42 5,
 qc 1 43 (qV F_impl_JudgeBytes 42),
 qm 2 41 43,
 qe 3 44 (qX 0 41),
 qe 4 45 (qX 1 41),
 qe 5 6 (.box (.k (.agg [.dat none (.int .i64 0),.dat none (.int .i64 0),.nil 1,.dat none (.int .i64 0),.dat none (.int .i64 0),.dat none (.int .i64 0)]))),
 qs 6 (qW 6 6 44),
 qm 7 7 45]
def r5:List Ent:=[
 qm 0 47 5,
 qc 1 48 (qV F_spec_JudgeBytes 47),
 qm 2 46 48,
 qe 3 49 (qX 0 46),
 qe 4 50 (qX 1 46),
 qe 5 8 (.box (.k (.agg [.dat none (.int .i64 0),.dat none (.int .i64 0),.nil 1,.dat none (.int .i64 0),.dat none (.int .i64 0),.dat none (.int .i64 0)]))),
 qs 6 (qW 6 8 49),
 qm 7 9 50]
def r6:List Ent:=[
 qm 0 51 7,
 qm 1 52 9,
 qe 2 53 (.eqb true (.t 51) (.t 52)),
 qm 3 54 53,
 qf 4 55 54 (qA 6 6),
 qf 5 56 54 (qA 6 8),
 qj 6 57 54 (qC F_laws_sameVerdict [.t 55,.t 56]),
 qf 7 58 54 (qN 57),
 qe 8 59 (.pick (.t 54) xT (.t 58))]
def r7:List Ent:=[
 qe 0 4 (.mv xF)]
def r8:List Ent:=[
 qm 0 60 7]
def r9:List Ent:=[
 qm 0 62 5,
 qe 1 63 (qA 6 6),
 qc 2 64 (qC F_impl_CheckVerdict [.t 62,.t 63]),
 qm 3 61 64,
 qe 4 65 (qX 0 61),
 qe 5 66 (qX 1 61),
 qm 6 10 65,
 qm 7 11 66]
def r10:List Ent:=[
 qm 0 68 5,
 qc 1 69 (qV F_impl_ReadProgram 68),
 qm 2 67 69,
 qe 3 70 (qX 0 67),
 qe 4 71 (qX 1 67),
 qe 5 72 (qX 2 67),
 qm 6 12 70,
 qm 7 13 71,
 qm 8 14 72]
def r11:List Ent:=[
 qm 0 73 11,
 qe 1 74 (qN 73),
 qm 2 75 74,
 qf 3 76 75 (qM 10),
 qf 4 77 75 (qN 76),
 qe 5 78 (.pick (.t 75) xT (.t 77)),
 qm 6 79 78,
 qf 7 80 79 (qM 14),
 qf 8 81 79 (qD 0 6),
 qf 9 82 79 (qL 1 81),
 qf 10 83 79 (qK .eql 82 4),
 qf 11 84 79 (.eqb false (.t 80) (.t 83)),
 qe 12 85 (.pick (.t 79) xT (.t 84))]
def r12:List Ent:=[
 qe 0 4 (.mv xF)]
def r13:List Ent:=[
 qm 0 87 1,
 qc 1 88 (qV F_spec_DrawRunLet 87),
 qm 2 86 88,
 qe 3 89 (qX 0 86),
 qe 4 90 (qX 1 86),
 qm 5 15 89,
 qm 6 16 90]
def r14:List Ent:=[
 qm 0 92 12,
 qm 1 93 16,
 qc 2 94 (qC F_impl_RunProgram [.t 92,.t 93,xN 100]),
 qm 3 91 94,
 qe 4 95 (qX 0 91),
 qe 5 96 (qX 1 91),
 qe 6 97 (qX 2 91),
 qe 7 98 (qX 3 91),
 qm 8 17 95,
 qm 9 18 96,
 qm 10 19 97,
 qm 11 20 98]
def r15:List Ent:=[
 qe 0 99 (qD 0 6),
 qe 1 100 (qL 1 99),
 qe 2 101 (qK .eql 100 1),
 qm 3 102 101,
 qt 4 103 102 (qM 20),
 qe 5 104 (.pick (.t 102) (.t 103) xF),
 qm 6 105 104,
 qt 7 106 105 (qM 18),
 qt 8 107 105 (qK .gtr 106 0),
 qe 9 108 (.pick (.t 105) (.t 107) xF)]
def r16:List Ent:=[
 qe 0 4 (.mv xF)]
def r17:List Ent:=[
 qe 0 109 (qD 0 6),
 qe 1 110 (qL 1 109),
 qe 2 111 (qK .eql 110 2)]
def r18:List Ent:=[
 qm 0 113 12,
 qe 1 114 (qD 2 6),
 qe 2 115 (qL 1 114),
 qc 3 116 (qC F_impl_RunProgram [.t 113,.t 115,xN 100]),
 qm 4 112 116,
 qe 5 117 (qX 0 112),
 qe 6 118 (qX 1 112),
 qe 7 119 (qX 2 112),
 qe 8 120 (qX 3 112),
 qm 9 21 117,
 qm 10 22 118,
 qm 11 23 119,
 qm 12 24 120]
def r19:List Ent:=[
 qm 0 121 24,
 qe 1 122 (qN 121),
 qm 2 123 122,
 qf 3 124 123 (qM 22),
 qf 4 125 123 (qD 3 6),
 qf 5 126 123 (qL 1 125),
 qf 6 127 123 (qB .neq 124 126),
 qe 7 128 (.pick (.t 123) xT (.t 127)),
 qm 8 129 128,
 qf 9 130 129 (qM 22),
 qf 10 131 129 (qK .eql 130 0),
 qe 11 132 (.pick (.t 129) xT (.t 131)),
 qm 12 133 132,
 qf 13 134 133 (qM 23),
 qf 14 135 133 (qD 4 6),
 qf 15 136 133 (qL 1 135),
 qf 16 137 133 (qB .neq 134 136),
 qe 17 138 (.pick (.t 133) xT (.t 137))]
def r20:List Ent:=[
 qe 0 4 (.mv xF)]
def r21:List Ent:=[
 qm 0 140 1,
 qc 1 141 (qV F_spec_DrawRunLet 140),
 qm 2 139 141,
 qe 3 142 (qX 0 139),
 qe 4 143 (qX 1 139),
 qm 5 25 142,
 qm 6 26 143]
def r22:List Ent:=[
 qm 0 145 25,
 qm 1 146 26,
 qc 2 147 (qC F_impl_RunLet [.t 145,.t 146]),
 qm 3 144 147,
 qe 4 148 (qX 0 144),
 qe 5 149 (qX 1 144),
 qe 6 150 (qX 2 144),
 qm 7 27 148,
 qm 8 28 149,
 qm 9 29 150]
def r23:List Ent:=[
 qm 0 152 25,
 qm 1 153 26,
 qc 2 154 (qC F_spec_RunLet [.t 152,.t 153]),
 qm 3 151 154,
 qe 4 155 (qX 0 151),
 qe 5 156 (qX 1 151),
 qe 6 157 (qX 2 151),
 qm 7 30 155,
 qm 8 31 156,
 qm 9 32 157]
def r24:List Ent:=[
 qm 0 158 29,
 qm 1 159 32,
 qe 2 160 (.eqb false (.t 158) (.t 159)),
 qm 3 161 160,
 qt 4 162 161 (qM 27),
 qt 5 163 161 (qM 30),
 qt 6 164 161 (qB .eql 162 163),
 qe 7 165 (.pick (.t 161) (.t 164) xF),
 qm 8 166 165,
 qt 9 167 166 (qM 28),
 qt 10 168 166 (qM 31),
 qt 11 169 166 (qB .eql 167 168),
 qe 12 170 (.pick (.t 166) (.t 169) xF),
 qm 13 171 170,
 qt 14 172 171 (qM 29),
 qt 15 173 171 (qN 172),
 qt 16 174 171 (qM 173),
 qf 17 175 174 (qM 28),
 qf 18 176 174 (qK .eql 175 0),
 qt 19 177 171 (.pick (.t 174) xT (.t 176)),
 qe 20 178 (.pick (.t 171) (.t 177) xF),
 qm 21 4 178]
def fi:FI:={ res:=[.t 4],code:=.seq (.reg 64 1 r0) (.seq (.seq (.reg 128 6 r1) (.cond (.t 38) (.seq (.reg 512 1 r2) (.ret)) (.skip))) (.seq (.reg 576 3 r3) (.seq (.reg 768 8 r4) (.seq (.reg 1280 8 r5) (.seq (.seq (.reg 1792 9 r6) (.cond (.t 59) (.seq (.reg 2368 1 r7) (.ret)) (.skip))) (.seq (.seq (.reg 2432 1 r8) (.cond (.t 60) (.seq (.reg 2496 8 r9) (.seq (.reg 3008 9 r10) (.seq (.seq (.reg 3584 13 r11) (.cond (.t 85) (.seq (.reg 4416 1 r12) (.ret)) (.skip))) (.seq (.reg 4480 7 r13) (.seq (.reg 4928 12 r14) (.seq (.seq (.reg 5696 10 r15) (.cond (.t 108) (.seq (.reg 6336 1 r16) (.ret)) (.skip))) (.seq (.reg 6400 3 r17) (.cond (.t 111) (.seq (.reg 6592 13 r18) (.seq (.reg 7424 18 r19) (.cond (.t 138) (.seq (.reg 8576 1 r20) (.ret)) (.skip)))) (.skip))))))))) (.skip))) (.seq (.reg 8640 7 r21) (.seq (.reg 9088 10 r22) (.seq (.reg 9728 10 r23) (.seq (.reg 10368 22 r24) (.ret))))))))))) }
attribute [go_sem] r0 r1 r2 r3 r4 r5 r6 r7 r8 r9 r10 r11 r12 r13 r14 r15 r16 r17 r18 r19 r20 r21 r22 r23 r24
theorem ok:chkF prog F_laws_FnGate 2 fi=true:=by kernel_rfl
end laws_FnGate
end Go.Vm.YtmbhjcgikblpiaaGreat
