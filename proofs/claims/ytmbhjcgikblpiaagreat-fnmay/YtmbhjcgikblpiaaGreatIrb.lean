/- The functions that the law reaches, in the text of the interpreter, and that this text fits them: part 2 (no condition). -/
import Derived.Test.YtmbhjcgikblpiaaGreatIra
import Derived.Test.YtmbhjcgikblpiaaGreatProg
import Derived.KernelRfl
namespace Go.Vm.YtmbhjcgikblpiaaGreat
open Go Go.Vm
set_option linter.unusedVariables false
set_option maxRecDepth 100000
namespace impl_AnalyseProgram
def r0:List Ent:=[
 qe 0 2 (.box (.k (.agg [.nil 1,.nil 4,.nil 1]))),
 qe 1 3 (.mv xF)]
def r1:List Ent:=[
 qm 0 13 0,
 qc 1 14 (qV F_impl_GoodProgram 13),
 qe 2 15 (qN 14)]
def r2:List Ent:=[
 qe 0 16 (.bld [.k (.nil 1),.k (.nil 4),.k (.nil 1)]),
 qs 1 (qW 3 2 16),
 qe 2 3 (.mv xF)]
def r3:List Ent:=[
 qm 0 17 0,
 qx 1 18 (qZ 17) 2 [5,7] [] false,
 qx 2 19 (.mks 1 1 (.bool false) (.t 18) (.t 18)) 1 [5,7] [] false,
 qm 3 20 0,
 qx 4 21 (qZ 20) 2 [2,7] [] false,
 qx 5 22 (.mks 4 96 (.agg [.sl 2 [],.sl 2 [],.sl 2 [],.sl 1 []]) (.t 21) (.t 21)) 1 [2,7] [] false,
 qx 6 23 (.bld [.t 19,.t 22,.k (.nil 1)]) 2 [7] [] false,
 qx 7 4 (.box (.k (.agg [.nil 1,.nil 4,.nil 1]))) 1 [2,5] [] false,
 qs 8 (qW 3 4 23)]
def r4:List Ent:=[
 qx 0 24 (qD 0 4) 2 [4] [] false,
 qx 1 25 (qL 1 24) 2 [4] [] false,
 EP 4 (some 28) none (.call F_impl_StartMay false (roA [])) 1 false,
 qr 5 29 (.iad 1 (.t 25) (xN 0)),
 EP 6 none none (.i (.store 1 (.t 29) xT)) 0 true,
 qx 2 26 (qD 1 4) 2 [4] [6] false,
 qx 3 27 (qL 1 26) 2 [4] [6] false,
 qe 7 30 (.iad 4 (.t 27) (xN 0)),
 qs 8 (qW 4 30 28)]
def r5:List Ent:=[
 qm 0 31 0,
 qe 1 32 (qZ 31),
 qe 2 33 (.mv (xN 0))]
def r6:List Ent:=[
 qe 0 34 (qB .lss 33 32)]
def r7:List Ent:=[
 qm 0 35 33,
 qe 1 36 (qI 6 31 33),
 qe 2 37 (qA 6 36),
 qe 3 6 (.box (.k (.agg [.dat none (.int .i64 0),.dat none (.int .i64 0),.dat none (.int .i64 0),.dat none (.int .i64 0),.dat none (.int .i64 0),.dat none (.int .i64 0)]))),
 qm 4 5 35,
 qs 5 (qW 6 6 37)]
def r8:List Ent:=[
 qe 0 38 (qD 0 4),
 qe 1 39 (qL 1 38),
 qm 2 40 5,
 qe 3 41 (qI 1 39 40),
 qe 4 42 (qL 1 41),
 qe 5 43 (qN 42)]
def r9:List Ent:=[
 qx 0 45 (qA 6 6) 2 [10] [] false,
 qx 1 46 (qD 1 4) 2 [10] [] false,
 qx 2 47 (qL 1 46) 2 [10] [] false,
 qm 3 48 5,
 qx 4 49 (qI 4 47 48) 2 [10] [] false,
 qx 5 50 (qA 4 49) 2 [10] [] false,
 EX 6 (some 51) none (.call F_impl_stepMay false (roA [.t 45,.t 50])) 1 [10] [] false,
 qm 7 44 51,
 qx 8 52 (qX 0 44) 2 [10] [] false,
 qx 10 7 (.box (.k (.agg [.nil 2,.nil 2,.nil 2,.nil 1]))) 1 [6] [] false,
 EP 11 none none (.i (qW 4 7 52)) 0 true,
 qx 9 53 (qX 1 44) 2 [10] [11] false,
 qm 12 8 53]
def r10:List Ent:=[
 qm 0 54 8,
 qe 1 55 (qK .neq 54 0)]
def r11:List Ent:=[
 qe 0 56 (qD 2 4),
 qe 1 57 (qL 1 56),
 qm 2 58 5,
 qe 3 59 (.bsl true 1 [.t 58]),
 qe 4 60 (.app 1 8 (.t 57) (.t 59)),
 qe 5 61 (qD 2 4),
 qs 6 (qW 1 61 60)]
def r12:List Ent:=[
 qm 0 62 0,
 qm 1 63 5,
 qc 2 64 (qC F_impl_nexts [.t 62,.t 63]),
 qe 3 65 (qZ 64),
 qe 4 66 (.mv (xN 0))]
def r13:List Ent:=[
 qe 0 67 (qB .lss 66 65)]
def r14:List Ent:=[
 qm 0 68 66,
 qe 1 69 (qI 1 64 66),
 qe 2 70 (qL 1 69),
 qm 3 9 68,
 qm 4 10 70]
def r15:List Ent:=[
 qe 0 71 (qA 4 7),
 qc 1 72 (qV F_impl_May_own 71),
 qe 2 11 (.box (.k (.agg [.nil 2,.nil 2,.nil 2,.nil 1]))),
 qs 3 (qW 4 11 72),
 qe 4 12 (.mv xT)]
def r16:List Ent:=[
 qe 0 73 (qA 6 6),
 qc 1 74 (qV F_impl_Step_branches 73)]
def r17:List Ent:=[
 qe 0 76 (qA 6 6),
 qe 1 77 (qA 4 7),
 qm 2 78 9,
 qe 3 79 (qK .eql 78 1),
 qc 4 80 (qC F_impl_heedJump [.t 76,.t 77,.t 79]),
 qm 5 75 80,
 qe 6 81 (qX 0 75),
 qe 7 82 (qX 1 75),
 qs 8 (qW 4 11 81),
 qm 9 12 82]
def r18:List Ent:=[
 qm 0 93 12,
 qe 1 94 (qN 93),
 qm 2 92 94]
def r19:List Ent:=[
 qe 0 96 (qD 0 4),
 qe 1 97 (qL 1 96),
 qm 2 98 10,
 qe 3 99 (qI 1 97 98),
 qe 4 100 (qL 1 99),
 qm 5 95 100]
def r20:List Ent:=[
 qx 0 101 (qD 1 4) 2 [9] [] false,
 qx 1 102 (qL 1 101) 2 [9] [] false,
 qm 2 103 10,
 qr 3 104 (qD 1 4),
 qr 4 105 (qL 1 104),
 qm 5 106 10,
 qr 6 107 (qI 4 105 106),
 qr 7 108 (qA 4 107),
 qr 8 109 (qA 4 11),
 EP 9 (some 110) none (.call F_impl_joined false (roA [.t 108,.t 109])) 1 false,
 qe 10 111 (qI 4 102 103),
 qs 11 (qW 4 111 110)]
def r21:List Ent:=[
 qr 0 83 (qD 0 4),
 qr 1 84 (qL 1 83),
 qm 2 85 10,
 qm 5 88 10,
 qr 7 90 (qI 1 84 85),
 EP 8 none none (.i (.store 1 (.t 90) xT)) 0 true,
 qx 3 86 (qD 1 4) 2 [] [8] false,
 qx 4 87 (qL 1 86) 2 [] [8] false,
 qx 6 89 (qA 4 11) 2 [] [8] false,
 qe 9 91 (qI 4 87 88),
 qs 10 (qW 4 91 89)]
def r22:List Ent:=[
 qe 0 112 (qK .add 66 1),
 qm 1 66 112]
def b0:KC:=.seq (.reg 4480 1 r13) (.seq (.cond (.t 67) (.skip) (.exit 2)) (.seq (.block 3 (.seq (.reg 4544 5 r14) (.seq (.reg 4864 5 r15) (.seq (.seq (.reg 5184 2 r16) (.cond (.t 74) (.reg 5312 10 r17) (.skip))) (.block 4 (.seq (.reg 5952 3 r18) (.cond (.t 92) (.skip) (.seq (.reg 6144 6 r19) (.cond (.t 95) (.reg 6528 12 r20) (.reg 7296 11 r21)))))))))) (.reg 8000 2 r22)))
def r23:List Ent:=[
 qe 0 113 (qK .add 33 1),
 qm 1 33 113]
def b1:KC:=.seq (.reg 1920 1 r6) (.seq (.cond (.t 34) (.skip) (.exit 0)) (.seq (.block 1 (.seq (.reg 1984 6 r7) (.seq (.seq (.reg 2368 6 r8) (.cond (.t 43) (.exit 1) (.skip))) (.seq (.reg 2752 13 r9) (.seq (.seq (.reg 3584 2 r10) (.cond (.t 55) (.seq (.reg 3712 7 r11) (.exit 1)) (.skip))) (.seq (.reg 4160 5 r12) (.block 2 (.loop b0)))))))) (.reg 8128 2 r23)))
def r24:List Ent:=[
 qe 0 114 (qA 3 4),
 qs 1 (qW 3 2 114),
 qe 2 3 (.mv xT)]
def fi:FI:={ res:=[.c 2 true 3,.t 3],code:=.seq (.reg 64 2 r0) (.seq (.seq (.reg 192 3 r1) (.cond (.t 15) (.seq (.reg 384 3 r2) (.ret)) (.skip))) (.seq (.reg 576 9 r3) (.seq (.reg 1152 9 r4) (.seq (.seq (.reg 1728 3 r5) (.block 0 (.loop b1))) (.seq (.reg 8256 3 r24) (.ret)))))) }
attribute [go_sem] r0 r1 r2 r3 r4 r5 r6 r7 r8 r9 r10 r11 r12 r13 r14 r15 r16 r17 r18 r19 r20 r21 r22 r23 r24
theorem ok:chkF prog F_impl_AnalyseProgram 1 fi=true:=by kernel_rfl
end impl_AnalyseProgram
namespace spec_NewMachine
def r0:List Ent:=[
 qe 0 0 (.box (.k (.agg [.dat none (.int .i64 0),.nil 1,.nil 1,.nil 1])))]
def r1:List Ent:=[
 qx 0 1 (.mks 1 8 (.int .i64 0) (xN 6) (xN 6)) 1 [1,2] [] false,
 qx 1 2 (.mks 1 8 (.int .i64 0) (xN 16) (xN 16)) 1 [0,2] [] false,
 qx 2 3 (.mks 1 1 (.bool false) (xN 16) (xN 16)) 1 [0,1] [] false,
 qe 3 4 (.bld [.k (.dat none (.int .i64 0)),.t 1,.t 2,.t 3]),
 qs 4 (qW 4 0 4)]
def fi:FI:={ res:=[.c 0 true 4],code:=.seq (.reg 64 1 r0) (.seq (.reg 128 5 r1) (.ret)) }
attribute [go_sem] r0 r1
theorem ok:chkF prog F_spec_NewMachine 0 fi=true:=by kernel_rfl
end spec_NewMachine
namespace impl_NewMachine
def r0:List Ent:=[
 qe 0 0 (.box (.k (.agg [.dat none (.int .i64 0),.nil 1,.nil 1,.nil 1])))]
def r1:List Ent:=[
 qx 0 1 (.mks 1 8 (.int .i64 0) (xN 6) (xN 6)) 1 [1,2] [] false,
 qx 1 2 (.mks 1 8 (.int .i64 0) (xN 16) (xN 16)) 1 [0,2] [] false,
 qx 2 3 (.mks 1 1 (.bool false) (xN 16) (xN 16)) 1 [0,1] [] false,
 qe 3 4 (.bld [.k (.dat none (.int .i64 0)),.t 1,.t 2,.t 3]),
 qs 4 (qW 4 0 4)]
def fi:FI:={ res:=[.c 0 true 4],code:=.seq (.reg 64 1 r0) (.seq (.reg 128 5 r1) (.ret)) }
attribute [go_sem] r0 r1
theorem ok:chkF prog F_impl_NewMachine 0 fi=true:=by kernel_rfl
end impl_NewMachine
namespace impl_pMachine_step
def r0:List Ent:=[
 qe 0 6 (.mv (xN 0)),
 qe 1 7 (.mv xF)]
def r1:List Ent:=[
 qm 0 12 1,
 qm 1 13 0,
 qe 2 14 (.nck (.t 13)),
 qe 3 15 (qD 0 14),
 qe 4 16 (qL 1 15),
 qe 5 17 (qI 6 12 16),
 qe 6 18 (qA 6 17),
 qe 7 8 (.box (.k (.agg [.dat none (.int .i64 0),.dat none (.int .i64 0),.dat none (.int .i64 0),.dat none (.int .i64 0),.dat none (.int .i64 0),.dat none (.int .i64 0)]))),
 qs 8 (qW 6 8 18)]
def r2:List Ent:=[
 qm 0 19 0,
 qe 1 20 (.nck (.t 19)),
 qe 2 21 (qD 0 20),
 qe 3 22 (qL 1 21),
 qe 4 23 (qK .add 22 1),
 qm 5 9 23]
def r3:List Ent:=[
 qm 0 24 0,
 qe 1 25 (.nck (.t 24)),
 qe 2 26 (qD 1 25),
 qe 3 27 (qL 1 26),
 qm 4 10 27]
def r4:List Ent:=[
 qe 0 28 (qD 0 8),
 qe 1 29 (qL 1 28)]
def r5:List Ent:=[
 qe 0 69 (qK .eql 29 1),
 qm 1 68 69]
def r6:List Ent:=[
 qm 0 70 10,
 qr 1 71 (qD 2 8),
 qr 2 72 (qL 1 71),
 qr 3 73 (qD 1 8),
 qr 4 74 (qL 1 73),
 qm 5 75 10,
 qr 6 76 (qD 2 8),
 qr 7 77 (qL 1 76),
 qr 8 78 (qI 1 75 77),
 qr 9 79 (qL 1 78),
 qm 10 80 10,
 qr 11 81 (qD 3 8),
 qr 12 82 (qL 1 81),
 qr 13 83 (qI 1 80 82),
 qr 14 84 (qL 1 83),
  E2 15 (some 85) none (.call F_impl_do false (roA [.t 74,.t 79,.t 84])),
 qe 16 86 (qI 1 70 72),
 qs 17 (qW 1 86 85)]
def r7:List Ent:=[
 qe 0 88 (qK .eql 29 2),
 qm 1 87 88]
def r8:List Ent:=[
 qm 0 89 10,
 qr 1 90 (qD 2 8),
 qr 2 91 (qL 1 90),
 qr 3 92 (qD 1 8),
 qr 4 93 (qL 1 92),
 qm 5 94 10,
 qr 6 95 (qD 2 8),
 qr 7 96 (qL 1 95),
 qr 8 97 (qI 1 94 96),
 qr 9 98 (qL 1 97),
 qr 10 99 (qD 4 8),
 qr 11 100 (qL 1 99),
  E2 12 (some 101) none (.call F_impl_do false (roA [.t 93,.t 98,.t 100])),
 qe 13 102 (qI 1 89 91),
 qs 14 (qW 1 102 101)]
def r9:List Ent:=[
 qe 0 104 (qK .eql 29 3),
 qm 1 103 104]
def r10:List Ent:=[
 qe 0 105 (qK .eql 29 4),
 qm 1 103 105]
def r11:List Ent:=[
 qm 0 106 10,
 qe 1 107 (qD 2 8),
 qe 2 108 (qL 1 107),
 qe 3 109 (qD 4 8),
 qe 4 110 (qL 1 109),
 qe 5 111 (qI 1 106 108),
 qs 6 (qW 1 111 110)]
def r12:List Ent:=[
 qe 0 113 (qK .eql 29 5),
 qm 1 112 113]
def r13:List Ent:=[
 qm 0 114 10,
 qr 1 115 (qD 3 8),
 qr 2 116 (qL 1 115),
 qr 3 117 (qI 1 114 116),
 qr 4 118 (qL 1 117),
 qr 5 119 (qD 4 8),
 qr 6 120 (qL 1 119),
 qe 7 121 (qB .add 118 120),
 qm 8 11 121]
def r14:List Ent:=[
 qm 0 122 11,
 qe 1 123 (qK .geq 122 8)]
def r15:List Ent:=[
 qe 0 6 (.mv (xN 1)),
 qe 1 7 (.mv xF)]
def r16:List Ent:=[
 qm 0 124 10,
 qr 1 125 (qD 2 8),
 qr 2 126 (qL 1 125),
 qm 3 127 2,
 qm 4 128 11,
 qr 5 129 (qI 1 127 128),
 qr 6 130 (qL 1 129),
 qe 7 131 (qI 1 124 126),
 qs 8 (qW 1 131 130)]
def r17:List Ent:=[
 qe 0 133 (qK .eql 29 7),
 qm 1 132 133]
def r18:List Ent:=[
 qe 0 134 (qK .eql 29 6),
 qm 1 132 134]
def r19:List Ent:=[
 qe 0 135 (qD 4 8),
 qe 1 136 (qL 1 135),
 qe 2 137 (qK .geq 136 16)]
def r20:List Ent:=[
 qe 0 6 (.mv (xN 2)),
 qe 1 7 (.mv xF)]
def r21:List Ent:=[
 qe 0 138 (qD 0 8),
 qe 1 139 (qL 1 138),
 qe 2 140 (qK .eql 139 7)]
def r22:List Ent:=[
 qm 0 141 0,
 qe 1 142 (.nck (.t 141)),
 qr 2 143 (qD 2 142),
 qr 3 144 (qL 1 143),
 qr 4 145 (qD 4 8),
 qr 5 146 (qL 1 145),
 qm 6 147 0,
 qe 7 148 (.nck (.t 147)),
 qr 8 149 (qD 3 148),
 qr 9 150 (qL 1 149),
 qm 12 153 10,
 qr 13 154 (qD 2 8),
 qr 14 155 (qL 1 154),
 qr 15 156 (qI 1 153 155),
 qr 16 157 (qL 1 156),
 qr 17 158 (qI 1 144 146),
 EP 18 none none (.i (qW 1 158 157)) 0 true,
 qx 10 151 (qD 4 8) 2 [] [18] false,
 qx 11 152 (qL 1 151) 2 [] [18] false,
 qe 19 159 (qI 1 150 152),
 qs 20 (.store 1 (.t 159) xT)]
def r23:List Ent:=[
 qm 0 160 0,
 qe 1 161 (.nck (.t 160)),
 qr 2 162 (qD 3 161),
 qr 3 163 (qL 1 162),
 qr 4 164 (qD 4 8),
 qr 5 165 (qL 1 164),
 qe 6 166 (qI 1 163 165),
 qe 7 167 (qL 1 166),
 qe 8 168 (qN 167)]
def r24:List Ent:=[
 qe 0 6 (.mv (xN 3)),
 qe 1 7 (.mv xF)]
def r25:List Ent:=[
 qm 0 169 10,
 qr 1 170 (qD 2 8),
 qr 2 171 (qL 1 170),
 qm 3 172 0,
 qe 4 173 (.nck (.t 172)),
 qr 5 174 (qD 2 173),
 qr 6 175 (qL 1 174),
 qr 7 176 (qD 4 8),
 qr 8 177 (qL 1 176),
 qr 9 178 (qI 1 175 177),
 qr 10 179 (qL 1 178),
 qe 11 180 (qI 1 169 171),
 qs 12 (qW 1 180 179)]
def r26:List Ent:=[
 qe 0 182 (qK .eql 29 11),
 qm 1 181 182]
def r27:List Ent:=[
 qe 0 6 (.mv (xN 0)),
 qe 1 7 (.mv xT)]
def r28:List Ent:=[
 qe 0 184 (qK .eql 29 8),
 qm 1 183 184]
def r29:List Ent:=[
 qm 0 185 9,
 qe 1 186 (qD 5 8),
 qe 2 187 (qL 1 186),
 qe 3 188 (qB .add 185 187),
 qm 4 9 188]
def r30:List Ent:=[
 qe 0 30 (qD 0 8),
 qe 1 31 (qL 1 30),
 qe 2 32 (qK .eql 31 9),
 qm 3 33 32,
 qt 4 34 33 (qM 10),
 ER 5 (some 35) (some (33,true)) (qD 2 8),
 ER 6 (some 36) (some (33,true)) (qL 1 35),
 ER 7 (some 37) (some (33,true)) (qI 1 34 36),
 ER 8 (some 38) (some (33,true)) (qL 1 37),
 qt 9 39 33 (qM 10),
 ER 10 (some 40) (some (33,true)) (qD 3 8),
 ER 11 (some 41) (some (33,true)) (qL 1 40),
 ER 12 (some 42) (some (33,true)) (qI 1 39 41),
 ER 13 (some 43) (some (33,true)) (qL 1 42),
 qt 14 44 33 (qB .eql 38 43),
 qe 15 45 (.pick (.t 33) (.t 44) xF),
 qm 16 46 45,
 qf 17 47 46 (qD 0 8),
 qf 18 48 46 (qL 1 47),
 qf 19 49 46 (qK .eql 48 10),
 qf 20 50 46 (qM 49),
 qt 21 51 50 (qM 10),
 ER 22 (some 52) (some (50,true)) (qD 2 8),
 ER 23 (some 53) (some (50,true)) (qL 1 52),
 ER 24 (some 54) (some (50,true)) (qI 1 51 53),
 ER 25 (some 55) (some (50,true)) (qL 1 54),
 qt 26 56 50 (qM 10),
 ER 27 (some 57) (some (50,true)) (qD 3 8),
 ER 28 (some 58) (some (50,true)) (qL 1 57),
 ER 29 (some 59) (some (50,true)) (qI 1 56 58),
 ER 30 (some 60) (some (50,true)) (qL 1 59),
 qt 31 61 50 (qB .lss 55 60),
 qf 32 62 46 (.pick (.t 50) (.t 61) xF),
 qe 33 63 (.pick (.t 46) xT (.t 62))]
def r31:List Ent:=[
 qm 0 64 9,
 qe 1 65 (qD 5 8),
 qe 2 66 (qL 1 65),
 qe 3 67 (qB .add 64 66),
 qm 4 9 67]
def r32:List Ent:=[
 qm 0 189 0,
 qm 1 190 9,
 qe 2 191 (.nck (.t 189)),
 qe 3 192 (qD 0 191),
 qs 4 (qW 1 192 190)]
def r33:List Ent:=[
 qe 0 6 (.mv (xN 0)),
 qe 1 7 (.mv xF)]
def fi:FI:={ res:=[.t 6,.t 7],code:=.seq (.reg 64 2 r0) (.seq (.reg 192 9 r1) (.seq (.reg 768 6 r2) (.seq (.reg 1152 5 r3) (.seq (.seq (.reg 1472 2 r4) (.block 0 (.seq (.reg 1600 2 r5) (.cond (.t 68) (.reg 1728 18 r6) (.seq (.reg 2880 2 r7) (.cond (.t 87) (.reg 3008 15 r8) (.seq (.seq (.reg 3968 2 r9) (.cond (.t 103) (.skip) (.reg 4096 2 r10))) (.cond (.t 103) (.reg 4224 7 r11) (.seq (.reg 4672 2 r12) (.cond (.t 112) (.seq (.reg 4800 9 r13) (.seq (.seq (.reg 5376 2 r14) (.cond (.t 123) (.seq (.reg 5504 2 r15) (.ret)) (.skip))) (.reg 5632 9 r16))) (.seq (.seq (.reg 6208 2 r17) (.cond (.t 132) (.skip) (.reg 6336 2 r18))) (.cond (.t 132) (.seq (.seq (.reg 6464 3 r19) (.cond (.t 137) (.seq (.reg 6656 2 r20) (.ret)) (.skip))) (.seq (.seq (.reg 6784 3 r21) (.cond (.t 140) (.seq (.reg 6976 21 r22) (.exit 0)) (.skip))) (.seq (.seq (.reg 8320 9 r23) (.cond (.t 168) (.seq (.reg 8896 2 r24) (.ret)) (.skip))) (.reg 9024 13 r25)))) (.seq (.reg 9856 2 r26) (.cond (.t 181) (.seq (.reg 9984 2 r27) (.ret)) (.seq (.reg 10112 2 r28) (.cond (.t 183) (.reg 10240 5 r29) (.seq (.reg 10560 34 r30) (.cond (.t 63) (.reg 12736 5 r31) (.skip))))))))))))))))))) (.seq (.reg 13056 5 r32) (.seq (.reg 13376 2 r33) (.ret))))))) }
attribute [go_sem] r0 r1 r2 r3 r4 r5 r6 r7 r8 r9 r10 r11 r12 r13 r14 r15 r16 r17 r18 r19 r20 r21 r22 r23 r24 r25 r26 r27 r28 r29 r30 r31 r32 r33
theorem ok:chkF prog F_impl_pMachine_step 3 fi=true:=by kernel_rfl
end impl_pMachine_step
namespace spec_l1All
def r0:List Ent:=[
 qe 0 6 (.mv xF)]
def r1:List Ent:=[
 qm 0 9 0,
 qe 1 10 (qZ 9),
 qe 2 11 (.mv (xN 0))]
def r2:List Ent:=[
 qe 0 12 (qB .lss 11 10)]
def r3:List Ent:=[
 qe 0 13 (qI 1 9 11),
 qe 1 14 (qL 1 13),
 qm 2 8 14]
def r4:List Ent:=[
 qm 0 15 8,
 qm 1 16 1,
 qm 2 17 2,
 qc 3 18 (qC F_spec_l1In [.t 15,.t 16,.t 17]),
 qe 4 19 (qN 18)]
def r5:List Ent:=[
 qe 0 6 (.mv xF)]
def r6:List Ent:=[
 qe 0 20 (qK .add 11 1),
 qm 1 11 20]
def b0:KC:=.seq (.reg 320 1 r2) (.seq (.cond (.t 12) (.skip) (.exit 0)) (.seq (.block 1 (.seq (.reg 384 3 r3) (.seq (.reg 576 5 r4) (.cond (.t 19) (.seq (.reg 896 1 r5) (.ret)) (.skip))))) (.reg 960 2 r6)))
def r7:List Ent:=[
 qe 0 6 (.mv xT)]
def fi:FI:={ res:=[.t 6],code:=.seq (.reg 64 1 r0) (.seq (.seq (.reg 128 3 r1) (.block 0 (.loop b0))) (.seq (.reg 1088 1 r7) (.ret))) }
attribute [go_sem] r0 r1 r2 r3 r4 r5 r6 r7
theorem ok:chkF prog F_spec_l1All 3 fi=true:=by kernel_rfl
end spec_l1All
namespace slices_IndexFunc__sint_int
def r0:List Ent:=[
 qe 0 4 (.mv (xN 0))]
def r1:List Ent:=[
 qm 0 6 0,
 qe 1 7 (qZ 6),
 qe 2 8 (.mv (xN 0))]
def r2:List Ent:=[
 qe 0 9 (qB .lss 8 7)]
def r3:List Ent:=[
 qm 0 10 8,
 qm 1 5 10]
def r4:List Ent:=[
 qm 0 11 1,
 qm 1 12 0,
 qm 2 13 5,
 qe 3 14 (qI 1 12 13),
 qe 4 15 (qL 1 14),
 qc 5 16 (.ccl (.t 11) false [.t 15])]
def r5:List Ent:=[
 qm 0 17 5,
 qm 1 4 17]
def r6:List Ent:=[
 qe 0 18 (qK .add 8 1),
 qm 1 8 18]
def b0:KC:=.seq (.reg 320 1 r2) (.seq (.cond (.t 9) (.skip) (.exit 0)) (.seq (.block 1 (.seq (.reg 384 2 r3) (.seq (.reg 512 6 r4) (.cond (.t 16) (.seq (.reg 896 2 r5) (.ret)) (.skip))))) (.reg 1024 2 r6)))
def r7:List Ent:=[
 qe 0 4 (.mv (xN (-1)))]
def fi:FI:={ res:=[.t 4],code:=.seq (.reg 64 1 r0) (.seq (.seq (.reg 128 3 r1) (.block 0 (.loop b0))) (.seq (.reg 1152 1 r7) (.ret))) }
attribute [go_sem] r0 r1 r2 r3 r4 r5 r6 r7
theorem ok:chkF prog F_slices_IndexFunc__sint_int 2 fi=true:=by kernel_rfl
end slices_IndexFunc__sint_int
namespace slices_ContainsFunc__sint_int
def r0:List Ent:=[
 qe 0 4 (.mv xF)]
def r1:List Ent:=[
 qm 0 5 0,
 qm 1 6 1,
 qc 2 7 (qC F_slices_IndexFunc__sint_int [.t 5,.t 6]),
 qe 3 8 (qK .geq 7 0),
 qm 4 4 8]
def fi:FI:={ res:=[.t 4],code:=.seq (.reg 64 1 r0) (.seq (.reg 128 5 r1) (.ret)) }
attribute [go_sem] r0 r1
theorem ok:chkF prog F_slices_ContainsFunc__sint_int 2 fi=true:=by kernel_rfl
end slices_ContainsFunc__sint_int
namespace impl_isContext_c1
def r0:List Ent:=[
 qe 0 2 (.mv xF)]
def r1:List Ent:=[
 qm 0 3 0,
 qc 1 4 (qC F_impl_in [.t 3,xN 0,xN 255]),
 qe 2 5 (qN 4),
 qm 3 2 5]
def fi:FI:={ res:=[.t 2],code:=.seq (.reg 64 1 r0) (.seq (.reg 128 4 r1) (.ret)) }
attribute [go_sem] r0 r1
theorem ok:chkF prog F_impl_isContext_c1 1 fi=true:=by kernel_rfl
end impl_isContext_c1
namespace impl_isContext
def r0:List Ent:=[
 qe 0 2 (.mv xF)]
def r1:List Ent:=[
 qm 0 3 0,
 qe 1 4 (qZ 3),
 qe 2 5 (qK .eql 4 8),
 qm 3 6 5,
 qt 4 7 6 (qM 0),
 qh 5 8 6 (qC F_slices_ContainsFunc__sint_int [.t 7,.k (.clo F_impl_isContext_c1 [])]),
 qt 6 9 6 (qN 8),
 qe 7 10 (.pick (.t 6) (.t 9) xF),
 qm 8 2 10]
def fi:FI:={ res:=[.t 2],code:=.seq (.reg 64 1 r0) (.seq (.reg 128 9 r1) (.ret)) }
attribute [go_sem] r0 r1
theorem ok:chkF prog F_impl_isContext 1 fi=true:=by kernel_rfl
end impl_isContext
namespace spec_pl1Cur_next
def r0:List Ent:=[
 qe 0 2 (.mv (xN 0))]
def r1:List Ent:=[
 qe 0 3 (.mv (xN 0))]
def r2:List Ent:=[
 qm 0 4 0,
 qe 1 5 (.nck (.t 4)),
 qr 2 6 (qD 1 5),
 qr 3 7 (qL 1 6),
 qm 4 8 0,
 qe 5 9 (.nck (.t 8)),
 qr 6 10 (qD 0 9),
 qr 7 11 (qL 1 10),
 qr 8 12 (qZ 11),
 qe 9 13 (qB .lss 7 12)]
def r3:List Ent:=[
 qm 0 14 0,
 qe 1 15 (.nck (.t 14)),
 qr 2 16 (qD 0 15),
 qr 3 17 (qL 1 16),
 qm 4 18 0,
 qe 5 19 (.nck (.t 18)),
 qr 6 20 (qD 1 19),
 qr 7 21 (qL 1 20),
 qe 8 22 (qI 1 17 21),
 qe 9 23 (qL 1 22),
 qe 10 24 (.cnv .i64 (.t 23)),
 qm 11 3 24]
def r4:List Ent:=[
 qm 0 25 0,
 qe 1 26 (.nck (.t 25)),
 qe 2 27 (qD 1 26),
 qe 3 28 (qL 1 27),
 qe 4 29 (qK .add 28 1),
 qe 5 30 (.nck (.t 25)),
 qe 6 31 (qD 1 30),
 qs 7 (qW 1 31 29)]
def r5:List Ent:=[
 qm 0 32 0,
 qm 1 33 0,
 qe 2 34 (.nck (.t 33)),
 qe 3 35 (qD 2 34),
 qe 4 36 (qL 1 35),
 qe 5 37 (.bin .mul (.t 36) (.k (.dat none (.int .u64 6364136223846793005)))),
 qm 6 38 3,
 qe 7 39 (.cnv .u64 (.t 38)),
 qe 8 40 (qB .add 37 39),
 qe 9 41 (.bin .add (.t 40) (.k (.dat none (.int .u64 1442695040888963407)))),
 qe 10 42 (.nck (.t 32)),
 qe 11 43 (qD 2 42),
 qs 12 (qW 1 43 41)]
def r6:List Ent:=[
 qm 0 44 0,
 qe 1 45 (.nck (.t 44)),
 qr 2 46 (qD 1 45),
 qr 3 47 (qL 1 46),
 qm 4 48 0,
 qe 5 49 (.nck (.t 48)),
 qr 6 50 (qD 0 49),
 qr 7 51 (qL 1 50),
 qr 8 52 (qZ 51),
 qe 9 53 (qB .leq 47 52)]
def r7:List Ent:=[
 qm 0 54 3,
 qm 1 2 54]
def r8:List Ent:=[
 qm 0 55 0,
 qe 1 56 (.nck (.t 55)),
 qe 2 57 (qD 2 56),
 qe 3 58 (qL 1 57),
 qe 4 59 (.bin .shr (.t 58) (.k (.dat none (.int .u64 40)))),
 qe 5 60 (.bin .and (.t 59) (.k (.dat none (.int .u64 255)))),
 qe 6 61 (.cnv .i64 (.t 60)),
 qm 7 2 61]
def fi:FI:={ res:=[.t 2],code:=.seq (.reg 64 1 r0) (.seq (.reg 128 1 r1) (.seq (.seq (.reg 192 10 r2) (.cond (.t 13) (.reg 832 12 r3) (.skip))) (.seq (.reg 1600 8 r4) (.seq (.reg 2112 13 r5) (.seq (.seq (.reg 2944 10 r6) (.cond (.t 53) (.seq (.reg 3584 2 r7) (.ret)) (.skip))) (.seq (.reg 3712 8 r8) (.ret))))))) }
attribute [go_sem] r0 r1 r2 r3 r4 r5 r6 r7 r8
theorem ok:chkF prog F_spec_pl1Cur_next 1 fi=true:=by kernel_rfl
end spec_pl1Cur_next
namespace spec_pl1Cur_pick
def r0:List Ent:=[
 qe 0 4 (.mv (xN 0))]
def r1:List Ent:=[
 qm 0 6 1,
 qe 1 7 (qK .leq 6 1)]
def r2:List Ent:=[
 qe 0 4 (.mv (xN 0))]
def r3:List Ent:=[
 qm 0 8 0,
 qc 1 9 (.call F_spec_pl1Cur_next true [(.io,.t 8)]),
 qm 2 5 9]
def r4:List Ent:=[
 qm 0 10 1,
 qe 1 11 (qK .gtr 10 200)]
def r5:List Ent:=[
 qm 0 12 5,
 qe 1 13 (qK .mul 12 256),
 qm 2 14 0,
 qc 3 15 (.call F_spec_pl1Cur_next true [(.io,.t 14)]),
 qe 4 16 (qB .add 13 15),
 qm 5 5 16]
def r6:List Ent:=[
 qm 0 17 5,
 qm 1 18 1,
 qe 2 19 (qB .rem 17 18),
 qm 3 4 19]
def fi:FI:={ res:=[.t 4],code:=.seq (.reg 64 1 r0) (.seq (.seq (.reg 128 2 r1) (.cond (.t 7) (.seq (.reg 256 1 r2) (.ret)) (.skip))) (.seq (.reg 320 3 r3) (.seq (.seq (.reg 512 2 r4) (.cond (.t 11) (.reg 640 6 r5) (.skip))) (.seq (.reg 1024 4 r6) (.ret))))) }
attribute [go_sem] r0 r1 r2 r3 r4 r5 r6
theorem ok:chkF prog F_spec_pl1Cur_pick 2 fi=true:=by kernel_rfl
end spec_pl1Cur_pick
namespace spec_pl1Cur_one
def r0:List Ent:=[
 qe 0 4 (.mv xF)]
def r1:List Ent:=[
 qm 0 5 0,
 qm 1 6 1,
 qc 2 7 (.call F_spec_pl1Cur_pick true [(.io,.t 5),(.ro,.t 6)]),
 qe 3 8 (qK .eql 7 0),
 qm 4 4 8]
def fi:FI:={ res:=[.t 4],code:=.seq (.reg 64 1 r0) (.seq (.reg 128 5 r1) (.ret)) }
attribute [go_sem] r0 r1
theorem ok:chkF prog F_spec_pl1Cur_one 2 fi=true:=by kernel_rfl
end spec_pl1Cur_one
namespace spec_pl1Cur_among
def r0:List Ent:=[
 qe 0 4 (.mv (xN 0))]
def r1:List Ent:=[
 qm 0 5 1,
 qm 1 6 0,
 qm 2 7 1,
 qe 3 8 (qZ 7),
 qc 4 9 (.call F_spec_pl1Cur_pick true [(.io,.t 6),(.ro,.t 8)]),
 qe 5 10 (qI 1 5 9),
 qe 6 11 (qL 1 10),
 qm 7 4 11]
def fi:FI:={ res:=[.t 4],code:=.seq (.reg 64 1 r0) (.seq (.reg 128 8 r1) (.ret)) }
attribute [go_sem] r0 r1
theorem ok:chkF prog F_spec_pl1Cur_among 2 fi=true:=by kernel_rfl
end spec_pl1Cur_among
namespace spec_pl1Cur_step
def r0:List Ent:=[
 qe 0 4 (.box (.k (.agg [.dat none (.int .i64 0),.dat none (.int .i64 0),.dat none (.int .i64 0),.dat none (.int .i64 0),.dat none (.int .i64 0),.dat none (.int .i64 0)])))]
def r1:List Ent:=[
 qm 0 6 0,
 qe 1 7 (.bsl false 1 [xN 1,xN 1,xN 2,xN 2,xN 2,xN 3,xN 3,xN 4,xN 5,xN 5,xN 6,xN 7,xN 7,xN 8,xN 9,xN 10,xN 10]),
 qc 2 8 (.call F_spec_pl1Cur_among true [(.io,.t 6),(.co,.t 7)]),
 qe 3 9 (.bld [.t 8,.k (.dat none (.int .i64 0)),.k (.dat none (.int .i64 0)),.k (.dat none (.int .i64 0)),.k (.dat none (.int .i64 0)),.k (.dat none (.int .i64 0))]),
 qe 4 5 (.box (.k (.agg [.dat none (.int .i64 0),.dat none (.int .i64 0),.dat none (.int .i64 0),.dat none (.int .i64 0),.dat none (.int .i64 0),.dat none (.int .i64 0)]))),
 qs 5 (qW 6 5 9)]
def r2:List Ent:=[
 qe 0 10 (qD 0 5),
 qe 1 11 (qL 1 10),
 qe 2 12 (qK .geq 11 8),
 qm 3 13 12,
 qt 4 14 13 (qM 1),
 qt 5 15 13 (qK .lss 14 2),
 qe 6 16 (.pick (.t 13) (.t 15) xF)]
def r3:List Ent:=[
 qe 0 17 (qD 0 5),
 qs 1 (.store 1 (.t 17) (xN 3))]
def r4:List Ent:=[
 qe 0 18 (qD 0 5),
 qe 1 19 (qL 1 18)]
def r5:List Ent:=[
 qe 0 21 (qK .eql 19 1),
 qm 1 20 21]
def r6:List Ent:=[
 qe 0 22 (qK .eql 19 5),
 qm 1 20 22]
def r7:List Ent:=[
 qe 0 23 (qK .eql 19 9),
 qm 1 20 23]
def r8:List Ent:=[
 qe 0 24 (qK .eql 19 10),
 qm 1 20 24]
def r9:List Ent:=[
 qm 0 25 0,
 qc 1 26 (.call F_spec_pl1Cur_pick true [(.io,.t 25),(.ro,xN 3)]),
 qe 2 27 (qD 3 5),
 qs 3 (qW 1 27 26)]
def r10:List Ent:=[
 qe 0 28 (qD 0 5),
 qe 1 29 (qL 1 28),
 qe 2 30 (qK .neq 29 8)]
def r11:List Ent:=[
 qm 0 31 0,
 qc 1 32 (.call F_spec_pl1Cur_pick true [(.io,.t 31),(.ro,xN 3)]),
 qe 2 33 (qD 2 5),
 qs 3 (qW 1 33 32)]
def r12:List Ent:=[
 qe 0 34 (qD 0 5),
 qe 1 35 (qL 1 34)]
def r13:List Ent:=[
 qe 0 37 (qK .eql 35 1),
 qm 1 36 37]
def r14:List Ent:=[
 qe 0 38 (qK .eql 35 2),
 qm 1 36 38]
def r15:List Ent:=[
 qm 0 39 0,
 qc 1 40 (.call F_spec_pl1Cur_pick true [(.io,.t 39),(.ro,xN 10)]),
 qe 2 41 (.bin .add (xN 1) (.t 40)),
 qe 3 42 (qD 1 5),
 qs 4 (qW 1 42 41)]
def r16:List Ent:=[
 qe 0 43 (qD 0 5),
 qe 1 44 (qL 1 43)]
def r17:List Ent:=[
 qe 0 46 (qK .eql 44 2),
 qm 1 45 46]
def r18:List Ent:=[
 qe 0 47 (qK .eql 44 3),
 qm 1 45 47]
def r19:List Ent:=[
 qm 0 48 0,
 qm 1 49 0,
 qc 2 50 (.call F_spec_pl1Cur_pick true [(.io,.t 49),(.ro,xN 20)]),
 qe 3 51 (.bsl false 1 [xN 0,xN 1,xN 3,xN 7,xN 255,.t 50]),
 qc 4 52 (.call F_spec_pl1Cur_among true [(.io,.t 48),(.co,.t 51)]),
 qe 5 53 (qD 4 5),
 qs 6 (qW 1 53 52)]
def r20:List Ent:=[
 qe 0 55 (qK .eql 44 4),
 qm 1 54 55]
def r21:List Ent:=[
 qm 0 56 0,
 qm 1 57 0,
 qc 2 58 (.call F_spec_pl1Cur_pick true [(.io,.t 57),(.ro,xN 256)]),
 qm 3 59 0,
 qc 4 60 (.call F_spec_pl1Cur_pick true [(.io,.t 59),(.ro,xN 250)]),
 qe 5 61 (qB .mul 58 60),
 qe 6 62 (.bin .add (xN 256) (.t 61)),
 qe 7 63 (.bsl false 1 [xN 256,xN 65535,.t 62]),
 qc 8 64 (.call F_spec_pl1Cur_among true [(.io,.t 56),(.co,.t 63)]),
 qe 9 65 (qD 4 5),
 qs 10 (qW 1 65 64)]
def r22:List Ent:=[
 qe 0 67 (qK .eql 44 5),
 qm 1 66 67]
def r23:List Ent:=[
 qm 0 68 0,
 qc 1 69 (.call F_spec_pl1Cur_pick true [(.io,.t 68),(.ro,xN 5)]),
 qe 2 70 (qD 4 5),
 qs 3 (qW 1 70 69)]
def r24:List Ent:=[
 qe 0 72 (qK .eql 44 6),
 qm 1 71 72]
def r25:List Ent:=[
 qe 0 73 (qK .eql 44 7),
 qm 1 71 73]
def r26:List Ent:=[
 qm 0 74 0,
 qc 1 75 (.call F_spec_pl1Cur_pick true [(.io,.t 74),(.ro,xN 18)]),
 qe 2 76 (qD 4 5),
 qs 3 (qW 1 76 75)]
def r27:List Ent:=[
 qe 0 78 (qK .eql 44 8),
 qm 1 77 78]
def r28:List Ent:=[
 qe 0 79 (qK .eql 44 9),
 qm 1 77 79]
def r29:List Ent:=[
 qe 0 80 (qK .eql 44 10),
 qm 1 77 80]
def r30:List Ent:=[
 qm 0 81 0,
 qm 1 82 1,
 qe 2 83 (qK .sub 82 1),
 qc 3 84 (qC F_spec_l1Least [xN 4,.t 83]),
 qc 4 85 (.call F_spec_pl1Cur_pick true [(.io,.t 81),(.ro,.t 84)]),
 qe 5 86 (.bin .add (xN 1) (.t 85)),
 qe 6 87 (qD 5 5),
 qs 7 (qW 1 87 86)]
def r31:List Ent:=[
 qe 0 88 (qA 6 5),
 qs 1 (qW 6 4 88)]
def fi:FI:={ res:=[.c 4 true 6],code:=.seq (.reg 64 1 r0) (.seq (.reg 128 6 r1) (.seq (.seq (.reg 512 7 r2) (.cond (.t 16) (.reg 960 2 r3) (.skip))) (.seq (.seq (.reg 1088 2 r4) (.block 0 (.seq (.seq (.reg 1216 2 r5) (.cond (.t 20) (.skip) (.seq (.reg 1344 2 r6) (.cond (.t 20) (.skip) (.seq (.reg 1472 2 r7) (.cond (.t 20) (.skip) (.reg 1600 2 r8))))))) (.cond (.t 20) (.reg 1728 4 r9) (.skip))))) (.seq (.seq (.reg 1984 3 r10) (.cond (.t 30) (.reg 2176 4 r11) (.skip))) (.seq (.seq (.reg 2432 2 r12) (.block 1 (.seq (.seq (.reg 2560 2 r13) (.cond (.t 36) (.skip) (.reg 2688 2 r14))) (.cond (.t 36) (.reg 2816 5 r15) (.skip))))) (.seq (.seq (.reg 3136 2 r16) (.block 2 (.seq (.seq (.reg 3264 2 r17) (.cond (.t 45) (.skip) (.reg 3392 2 r18))) (.cond (.t 45) (.reg 3520 7 r19) (.seq (.reg 3968 2 r20) (.cond (.t 54) (.reg 4096 11 r21) (.seq (.reg 4800 2 r22) (.cond (.t 66) (.reg 4928 4 r23) (.seq (.seq (.reg 5184 2 r24) (.cond (.t 71) (.skip) (.reg 5312 2 r25))) (.cond (.t 71) (.reg 5440 4 r26) (.seq (.seq (.reg 5696 2 r27) (.cond (.t 77) (.skip) (.seq (.reg 5824 2 r28) (.cond (.t 77) (.skip) (.reg 5952 2 r29))))) (.cond (.t 77) (.reg 6080 8 r30) (.skip))))))))))))) (.seq (.reg 6592 2 r31) (.ret)))))))) }
attribute [go_sem] r0 r1 r2 r3 r4 r5 r6 r7 r8 r9 r10 r11 r12 r13 r14 r15 r16 r17 r18 r19 r20 r21 r22 r23 r24 r25 r26 r27 r28 r29 r30 r31
theorem ok:chkF prog F_spec_pl1Cur_step 2 fi=true:=by kernel_rfl
end spec_pl1Cur_step
namespace spec_pl1Cur_program
def r0:List Ent:=[
 qe 0 2 (.mv (.k (.nil 6)))]
def r1:List Ent:=[
 qe 0 3 (.mv (.k (.nil 6)))]
def r2:List Ent:=[
 qm 0 6 0,
 qc 1 7 (.call F_spec_pl1Cur_pick true [(.io,.t 6),(.ro,xN 12)]),
 qm 2 4 7]
def r3:List Ent:=[
 qm 0 8 0,
 qc 1 9 (.call F_spec_pl1Cur_one true [(.io,.t 8),(.ro,xN 30)])]
def r4:List Ent:=[
 qe 0 4 (.mv (xN 19))]
def r5:List Ent:=[
 qe 0 5 (.mv (xN 0))]
def r6:List Ent:=[
 qm 0 10 5,
 qm 1 11 4,
 qe 2 12 (qB .lss 10 11)]
def r7:List Ent:=[
 qm 0 15 3,
 qm 1 16 0,
 qm 2 17 4,
 qm 3 18 5,
 qe 4 19 (qB .sub 17 18),
 qc 5 20 (.call F_spec_pl1Cur_step true [(.io,.t 16),(.ro,.t 19)]),
 qe 6 21 (.bsl true 6 [.t 20]),
 qe 7 22 (.app 6 48 (.t 15) (.t 21)),
 qm 8 3 22]
def r8:List Ent:=[
 qm 0 13 5,
 qe 1 14 (qK .add 13 1),
 qm 2 5 14]
def b0:KC:=.seq (.seq (.reg 640 3 r6) (.cond (.t 12) (.skip) (.exit 0))) (.seq (.block 1 (.reg 832 9 r7)) (.reg 1408 3 r8))
def r9:List Ent:=[
 qm 0 23 3,
 qe 1 24 (.bld [xN 11,.k (.dat none (.int .i64 0)),.k (.dat none (.int .i64 0)),.k (.dat none (.int .i64 0)),.k (.dat none (.int .i64 0)),.k (.dat none (.int .i64 0))]),
 qe 2 25 (.bsl true 6 [.t 24]),
 qe 3 26 (.app 6 48 (.t 23) (.t 25)),
 qm 4 3 26]
def r10:List Ent:=[
 qm 0 27 0,
 qc 1 28 (.call F_spec_pl1Cur_one true [(.io,.t 27),(.ro,xN 30)])]
def r11:List Ent:=[
 qm 0 29 3,
 qm 1 30 0,
 qm 2 31 3,
 qe 3 32 (qZ 31),
 qc 4 33 (.call F_spec_pl1Cur_pick true [(.io,.t 30),(.ro,.t 32)]),
 qm 5 34 0,
 qc 6 35 (.call F_spec_pl1Cur_pick true [(.io,.t 34),(.ro,xN 13)]),
 qm 7 36 0,
 qc 8 37 (.call F_spec_pl1Cur_pick true [(.io,.t 36),(.ro,xN 3)]),
 qm 9 38 0,
 qc 10 39 (.call F_spec_pl1Cur_pick true [(.io,.t 38),(.ro,xN 8)]),
 qe 11 40 (qK .sub 39 1),
 qm 12 41 0,
 qe 13 42 (.bsl false 1 [xN 0,xN 255,xN 256,xN 65536]),
 qc 14 43 (.call F_spec_pl1Cur_among true [(.io,.t 41),(.co,.t 42)]),
 qm 15 44 0,
 qc 16 45 (.call F_spec_pl1Cur_pick true [(.io,.t 44),(.ro,xN 4)]),
 qe 17 46 (.bld [.t 35,.t 37,.t 40,.k (.dat none (.int .i64 0)),.t 43,.t 45]),
 qe 18 47 (qI 6 29 33),
 qs 19 (qW 6 47 46)]
def r12:List Ent:=[
 qm 0 48 3,
 qm 1 2 48]
def fi:FI:={ res:=[.t 2],code:=.seq (.reg 64 1 r0) (.seq (.reg 128 1 r1) (.seq (.reg 192 3 r2) (.seq (.seq (.reg 384 2 r3) (.cond (.t 9) (.reg 512 1 r4) (.skip))) (.seq (.seq (.reg 576 1 r5) (.nrm 3 1280 6 (.block 0 (.loop b0)))) (.seq (.reg 1600 5 r9) (.seq (.seq (.reg 1920 2 r10) (.cond (.t 28) (.reg 2048 20 r11) (.skip))) (.seq (.reg 3328 2 r12) (.ret)))))))) }
attribute [go_sem] r0 r1 r2 r3 r4 r5 r6 r7 r8 r9 r10 r11 r12
theorem ok:chkF prog F_spec_pl1Cur_program 1 fi=true:=by kernel_rfl
end spec_pl1Cur_program
namespace spec_pl1Cur_ctx
def r0:List Ent:=[
 qe 0 2 (.mv (.k (.nil 1)))]
def r1:List Ent:=[
 qe 0 3 (.mv (.k (.nil 1)))]
def r2:List Ent:=[
 qe 0 4 (.mv (xN 0))]
def r3:List Ent:=[
 qm 0 5 4,
 qe 1 6 (qK .lss 5 8)]
def r4:List Ent:=[
 qm 0 9 3,
 qm 1 10 0,
 qm 2 11 0,
 qc 3 12 (.call F_spec_pl1Cur_pick true [(.io,.t 11),(.ro,xN 256)]),
 qe 4 13 (.bsl false 1 [xN 0,xN 1,xN 7,xN 8,xN 255,.t 12]),
 qc 5 14 (.call F_spec_pl1Cur_among true [(.io,.t 10),(.co,.t 13)]),
 qe 6 15 (.bsl true 1 [.t 14]),
 qe 7 16 (.app 1 8 (.t 9) (.t 15)),
 qm 8 3 16]
def r5:List Ent:=[
 qm 0 7 4,
 qe 1 8 (qK .add 7 1),
 qm 2 4 8]
def b0:KC:=.seq (.seq (.reg 256 2 r3) (.cond (.t 6) (.skip) (.exit 0))) (.seq (.block 1 (.reg 384 9 r4)) (.reg 960 3 r5))
def r6:List Ent:=[
 qm 0 17 0,
 qc 1 18 (.call F_spec_pl1Cur_one true [(.io,.t 17),(.ro,xN 30)])]
def r7:List Ent:=[
 qm 0 19 3,
 qm 1 20 0,
 qe 2 21 (.bsl false 1 [xN (-1),xN 256]),
 qc 3 22 (.call F_spec_pl1Cur_among true [(.io,.t 20),(.co,.t 21)]),
 qe 4 23 (.iad 1 (.t 19) (xN 0)),
 qs 5 (qW 1 23 22)]
def r8:List Ent:=[
 qm 0 24 3,
 qm 1 2 24]
def fi:FI:={ res:=[.t 2],code:=.seq (.reg 64 1 r0) (.seq (.reg 128 1 r1) (.seq (.seq (.reg 192 1 r2) (.nrm 3 832 1 (.block 0 (.loop b0)))) (.seq (.seq (.reg 1152 2 r6) (.cond (.t 18) (.reg 1280 6 r7) (.skip))) (.seq (.reg 1664 2 r8) (.ret))))) }
attribute [go_sem] r0 r1 r2 r3 r4 r5 r6 r7 r8
theorem ok:chkF prog F_spec_pl1Cur_ctx 1 fi=true:=by kernel_rfl
end spec_pl1Cur_ctx
namespace spec_DrawTraceOf
def r0:List Ent:=[
 qe 0 2 (.mv (.k (.nil 6))),
 qe 1 3 (.mv (.k (.nil 1)))]
def r1:List Ent:=[
 qm 0 5 0,
 qe 1 6 (.bld [.t 5,.k (.dat none (.int .i64 0)),.k (.dat none (.int .u64 0))]),
 qe 2 7 (.box (.t 6)),
 qm 3 4 7]
def r2:List Ent:=[
 qm 0 8 4,
 qc 1 9 (.call F_spec_pl1Cur_program true [(.io,.t 8)]),
 qm 2 10 4,
 qc 3 11 (.call F_spec_pl1Cur_ctx true [(.io,.t 10)]),
 qm 4 2 9,
 qm 5 3 11]
def fi:FI:={ res:=[.t 2,.t 3],code:=.seq (.reg 64 2 r0) (.seq (.reg 192 4 r1) (.seq (.reg 448 6 r2) (.ret))) }
attribute [go_sem] r0 r1 r2
theorem ok:chkF prog F_spec_DrawTraceOf 1 fi=true:=by kernel_rfl
end spec_DrawTraceOf
namespace laws_sameBools
def r0:List Ent:=[
 qe 0 4 (.mv xF)]
def r1:List Ent:=[
 qm 0 6 0,
 qe 1 7 (qZ 6),
 qm 2 8 1,
 qe 3 9 (qZ 8),
 qe 4 10 (qB .neq 7 9)]
def r2:List Ent:=[
 qe 0 4 (.mv xF)]
def r3:List Ent:=[
 qm 0 11 0,
 qe 1 12 (qZ 11),
 qe 2 13 (.mv (xN 0))]
def r4:List Ent:=[
 qe 0 14 (qB .lss 13 12)]
def r5:List Ent:=[
 qm 0 15 13,
 qm 1 5 15]
def r6:List Ent:=[
 qm 0 16 0,
 qm 1 17 5,
 qr 2 18 (qI 1 16 17),
 qr 3 19 (qL 1 18),
 qm 4 20 1,
 qm 5 21 5,
 qr 6 22 (qI 1 20 21),
 qr 7 23 (qL 1 22),
 qe 8 24 (.eqb true (.t 19) (.t 23))]
def r7:List Ent:=[
 qe 0 4 (.mv xF)]
def r8:List Ent:=[
 qe 0 25 (qK .add 13 1),
 qm 1 13 25]
def b0:KC:=.seq (.reg 704 1 r4) (.seq (.cond (.t 14) (.skip) (.exit 0)) (.seq (.block 1 (.seq (.reg 768 2 r5) (.seq (.reg 896 9 r6) (.cond (.t 24) (.seq (.reg 1472 1 r7) (.ret)) (.skip))))) (.reg 1536 2 r8)))
def r9:List Ent:=[
 qe 0 4 (.mv xT)]
def fi:FI:={ res:=[.t 4],code:=.seq (.reg 64 1 r0) (.seq (.seq (.reg 128 5 r1) (.cond (.t 10) (.seq (.reg 448 1 r2) (.ret)) (.skip))) (.seq (.seq (.reg 512 3 r3) (.block 0 (.loop b0))) (.seq (.reg 1664 1 r9) (.ret)))) }
attribute [go_sem] r0 r1 r2 r3 r4 r5 r6 r7 r8 r9
theorem ok:chkF prog F_laws_sameBools 2 fi=true:=by kernel_rfl
end laws_sameBools
namespace laws_sameInts
def r0:List Ent:=[
 qe 0 4 (.mv xF)]
def r1:List Ent:=[
 qm 0 6 0,
 qe 1 7 (qZ 6),
 qm 2 8 1,
 qe 3 9 (qZ 8),
 qe 4 10 (qB .neq 7 9)]
def r2:List Ent:=[
 qe 0 4 (.mv xF)]
def r3:List Ent:=[
 qm 0 11 0,
 qe 1 12 (qZ 11),
 qe 2 13 (.mv (xN 0))]
def r4:List Ent:=[
 qe 0 14 (qB .lss 13 12)]
def r5:List Ent:=[
 qm 0 15 13,
 qm 1 5 15]
def r6:List Ent:=[
 qm 0 16 0,
 qm 1 17 5,
 qr 2 18 (qI 1 16 17),
 qr 3 19 (qL 1 18),
 qm 4 20 1,
 qm 5 21 5,
 qr 6 22 (qI 1 20 21),
 qr 7 23 (qL 1 22),
 qe 8 24 (qB .neq 19 23)]
def r7:List Ent:=[
 qe 0 4 (.mv xF)]
def r8:List Ent:=[
 qe 0 25 (qK .add 13 1),
 qm 1 13 25]
def b0:KC:=.seq (.reg 704 1 r4) (.seq (.cond (.t 14) (.skip) (.exit 0)) (.seq (.block 1 (.seq (.reg 768 2 r5) (.seq (.reg 896 9 r6) (.cond (.t 24) (.seq (.reg 1472 1 r7) (.ret)) (.skip))))) (.reg 1536 2 r8)))
def r9:List Ent:=[
 qe 0 4 (.mv xT)]
def fi:FI:={ res:=[.t 4],code:=.seq (.reg 64 1 r0) (.seq (.seq (.reg 128 5 r1) (.cond (.t 10) (.seq (.reg 448 1 r2) (.ret)) (.skip))) (.seq (.seq (.reg 512 3 r3) (.block 0 (.loop b0))) (.seq (.reg 1664 1 r9) (.ret)))) }
attribute [go_sem] r0 r1 r2 r3 r4 r5 r6 r7 r8 r9
theorem ok:chkF prog F_laws_sameInts 2 fi=true:=by kernel_rfl
end laws_sameInts
namespace laws_sameMay
def r0:List Ent:=[
 qe 0 2 (.box (.t 0)),
 qe 1 3 (.box (.t 1)),
 qe 2 4 (.mv xF)]
def r1:List Ent:=[
 qe 0 8 (qD 0 2),
 qe 1 9 (qL 1 8),
 qe 2 10 (qZ 9),
 qe 3 11 (qD 0 3),
 qe 4 12 (qL 1 11),
 qe 5 13 (qZ 12),
 qe 6 14 (qB .neq 10 13),
 qm 7 15 14,
 qf 8 16 15 (qD 1 2),
 qf 9 17 15 (qL 1 16),
 qf 10 18 15 (qZ 17),
 qf 11 19 15 (qD 1 3),
 qf 12 20 15 (qL 1 19),
 qf 13 21 15 (qZ 20),
 qf 14 22 15 (qB .neq 18 21),
 qe 15 23 (.pick (.t 15) xT (.t 22)),
 qm 16 24 23,
 qf 17 25 24 (qD 2 2),
 qf 18 26 24 (qL 1 25),
 qf 19 27 24 (qZ 26),
 qf 20 28 24 (qD 2 3),
 qf 21 29 24 (qL 1 28),
 qf 22 30 24 (qZ 29),
 qf 23 31 24 (qB .neq 27 30),
 qe 24 32 (.pick (.t 24) xT (.t 31)),
 qm 25 33 32,
 qf 26 34 33 (qD 3 2),
 qf 27 35 33 (qL 1 34),
 qf 28 36 33 (qD 3 3),
 qf 29 37 33 (qL 1 36),
 qj 30 38 33 (qC F_laws_sameBools [.t 35,.t 37]),
 qf 31 39 33 (qN 38),
 qe 32 40 (.pick (.t 33) xT (.t 39))]
def r2:List Ent:=[
 qe 0 4 (.mv xF)]
def r3:List Ent:=[
 qe 0 41 (qD 0 2),
 qe 1 42 (qL 1 41),
 qe 2 43 (qZ 42),
 qe 3 44 (.mv (xN 0))]
def r4:List Ent:=[
 qe 0 45 (qB .lss 44 43)]
def r5:List Ent:=[
 qm 0 46 44,
 qm 1 5 46]
def r6:List Ent:=[
 qr 0 47 (qD 0 2),
 qr 1 48 (qL 1 47),
 qm 2 49 5,
 qr 3 50 (qI 2 48 49),
 qr 4 51 (qA 2 50),
 qr 5 52 (qD 0 3),
 qr 6 53 (qL 1 52),
 qm 7 54 5,
 qr 8 55 (qI 2 53 54),
 qr 9 56 (qA 2 55),
 qe 10 57 (.eqag 2 true (.t 51) (.t 56))]
def r7:List Ent:=[
 qe 0 4 (.mv xF)]
def r8:List Ent:=[
 qe 0 58 (qK .add 44 1),
 qm 1 44 58]
def b0:KC:=.seq (.reg 2688 1 r4) (.seq (.cond (.t 45) (.skip) (.exit 0)) (.seq (.block 1 (.seq (.reg 2752 2 r5) (.seq (.reg 2880 11 r6) (.cond (.t 57) (.seq (.reg 3584 1 r7) (.ret)) (.skip))))) (.reg 3648 2 r8)))
def r9:List Ent:=[
 qe 0 59 (qD 1 2),
 qe 1 60 (qL 1 59),
 qe 2 61 (qZ 60),
 qe 3 62 (.mv (xN 0))]
def r10:List Ent:=[
 qe 0 63 (qB .lss 62 61)]
def r11:List Ent:=[
 qm 0 64 62,
 qm 1 6 64]
def r12:List Ent:=[
 qr 0 65 (qD 1 2),
 qr 1 66 (qL 1 65),
 qm 2 67 6,
 qr 3 68 (qI 2 66 67),
 qr 4 69 (qA 2 68),
 qr 5 70 (qD 1 3),
 qr 6 71 (qL 1 70),
 qm 7 72 6,
 qr 8 73 (qI 2 71 72),
 qr 9 74 (qA 2 73),
 qe 10 75 (.eqag 2 true (.t 69) (.t 74))]
def r13:List Ent:=[
 qe 0 4 (.mv xF)]
def r14:List Ent:=[
 qe 0 76 (qK .add 62 1),
 qm 1 62 76]
def b1:KC:=.seq (.reg 4032 1 r10) (.seq (.cond (.t 63) (.skip) (.exit 2)) (.seq (.block 3 (.seq (.reg 4096 2 r11) (.seq (.reg 4224 11 r12) (.cond (.t 75) (.seq (.reg 4928 1 r13) (.ret)) (.skip))))) (.reg 4992 2 r14)))
def r15:List Ent:=[
 qe 0 77 (qD 2 2),
 qe 1 78 (qL 1 77),
 qe 2 79 (qZ 78),
 qe 3 80 (.mv (xN 0))]
def r16:List Ent:=[
 qe 0 81 (qB .lss 80 79)]
def r17:List Ent:=[
 qm 0 82 80,
 qm 1 7 82]
def r18:List Ent:=[
 qr 0 83 (qD 2 2),
 qr 1 84 (qL 1 83),
 qm 2 85 7,
 qr 3 86 (qI 2 84 85),
 qr 4 87 (qA 2 86),
 qr 5 88 (qD 2 3),
 qr 6 89 (qL 1 88),
 qm 7 90 7,
 qr 8 91 (qI 2 89 90),
 qr 9 92 (qA 2 91),
 qe 10 93 (.eqag 2 true (.t 87) (.t 92))]
def r19:List Ent:=[
 qe 0 4 (.mv xF)]
def r20:List Ent:=[
 qe 0 94 (qK .add 80 1),
 qm 1 80 94]
def b2:KC:=.seq (.reg 5376 1 r16) (.seq (.cond (.t 81) (.skip) (.exit 4)) (.seq (.block 5 (.seq (.reg 5440 2 r17) (.seq (.reg 5568 11 r18) (.cond (.t 93) (.seq (.reg 6272 1 r19) (.ret)) (.skip))))) (.reg 6336 2 r20)))
def r21:List Ent:=[
 qe 0 4 (.mv xT)]
def fi:FI:={ res:=[.t 4],code:=.seq (.reg 64 3 r0) (.seq (.seq (.reg 256 33 r1) (.cond (.t 40) (.seq (.reg 2368 1 r2) (.ret)) (.skip))) (.seq (.seq (.reg 2432 4 r3) (.block 0 (.loop b0))) (.seq (.seq (.reg 3776 4 r9) (.block 2 (.loop b1))) (.seq (.seq (.reg 5120 4 r15) (.block 4 (.loop b2))) (.seq (.reg 6464 1 r21) (.ret)))))) }
attribute [go_sem] r0 r1 r2 r3 r4 r5 r6 r7 r8 r9 r10 r11 r12 r13 r14 r15 r16 r17 r18 r19 r20 r21
theorem ok:chkF prog F_laws_sameMay 2 fi=true:=by kernel_rfl
end laws_sameMay
namespace impl_isWord
def r0:List Ent:=[
 qe 0 2 (.mv xF)]
def r1:List Ent:=[
 qm 0 3 0,
 qc 1 4 (qC F_impl_in [.t 3,xN 0,xN 65535]),
 qm 2 2 4]
def fi:FI:={ res:=[.t 2],code:=.seq (.reg 64 1 r0) (.seq (.reg 128 3 r1) (.ret)) }
attribute [go_sem] r0 r1
theorem ok:chkF prog F_impl_isWord 1 fi=true:=by kernel_rfl
end impl_isWord
namespace impl_areWords_c1
def r0:List Ent:=[
 qe 0 2 (.mv xF)]
def r1:List Ent:=[
 qm 0 3 0,
 qc 1 4 (qV F_impl_isWord 3),
 qe 2 5 (qN 4),
 qm 3 2 5]
def fi:FI:={ res:=[.t 2],code:=.seq (.reg 64 1 r0) (.seq (.reg 128 4 r1) (.ret)) }
attribute [go_sem] r0 r1
theorem ok:chkF prog F_impl_areWords_c1 1 fi=true:=by kernel_rfl
end impl_areWords_c1
namespace impl_areWords
def r0:List Ent:=[
 qe 0 2 (.mv xF)]
def r1:List Ent:=[
 qm 0 3 0,
 qc 1 4 (qC F_slices_ContainsFunc__sint_int [.t 3,.k (.clo F_impl_areWords_c1 [])]),
 qe 2 5 (qN 4),
 qm 3 2 5]
def fi:FI:={ res:=[.t 2],code:=.seq (.reg 64 1 r0) (.seq (.reg 128 4 r1) (.ret)) }
attribute [go_sem] r0 r1
theorem ok:chkF prog F_impl_areWords 1 fi=true:=by kernel_rfl
end impl_areWords
namespace impl_GoodMachine
def r0:List Ent:=[
 qe 0 1 (.box (.t 0)),
 qe 1 2 (.mv xF)]
def r1:List Ent:=[
 qe 0 3 (qD 0 1),
 qe 1 4 (qL 1 3),
 qc 2 5 (qC F_impl_in [.t 4,xN 0,xN 19]),
 qm 3 6 5,
 qt 4 7 6 (qD 1 1),
 qt 5 8 6 (qL 1 7),
 qt 6 9 6 (qZ 8),
 qt 7 10 6 (qK .eql 9 6),
 qe 8 11 (.pick (.t 6) (.t 10) xF),
 qm 9 12 11,
 qt 10 13 12 (qD 2 1),
 qt 11 14 12 (qL 1 13),
 qt 12 15 12 (qZ 14),
 qt 13 16 12 (qK .eql 15 16),
 qe 14 17 (.pick (.t 12) (.t 16) xF),
 qm 15 18 17,
 qt 16 19 18 (qD 3 1),
 qt 17 20 18 (qL 1 19),
 qt 18 21 18 (qZ 20),
 qt 19 22 18 (qK .eql 21 16),
 qe 20 23 (.pick (.t 18) (.t 22) xF),
 qm 21 24 23,
 qt 22 25 24 (qD 1 1),
 qt 23 26 24 (qL 1 25),
 qh 24 27 24 (qV F_impl_areWords 26),
 qe 25 28 (.pick (.t 24) (.t 27) xF),
 qm 26 29 28,
 qt 27 30 29 (qD 2 1),
 qt 28 31 29 (qL 1 30),
 qh 29 32 29 (qV F_impl_areWords 31),
 qe 30 33 (.pick (.t 29) (.t 32) xF),
 qm 31 2 33]
def fi:FI:={ res:=[.t 2],code:=.seq (.reg 64 2 r0) (.seq (.reg 192 32 r1) (.ret)) }
attribute [go_sem] r0 r1
theorem ok:chkF prog F_impl_GoodMachine 1 fi=true:=by kernel_rfl
end impl_GoodMachine
namespace slices_Clone__sint_int
def r0:List Ent:=[
 qe 0 2 (.mv (.k (.nil 1)))]
def r1:List Ent:=[
 qm 0 3 0,
 qe 1 4 (.eqnil false (.t 3))]
def r2:List Ent:=[
 qe 0 2 (.mv (.k (.nil 1)))]
def r3:List Ent:=[
 qe 0 5 (.bsl false 1 []),
 qm 1 6 0,
 qe 2 7 (.app 1 8 (.t 5) (.t 6)),
 qm 3 2 7]
def fi:FI:={ res:=[.t 2],code:=.seq (.reg 64 1 r0) (.seq (.seq (.reg 128 2 r1) (.condu (.t 4) (.seq (.reg 256 1 r2) (.ret)) (.skip))) (.seq (.reg 320 4 r3) (.ret))) }
attribute [go_sem] r0 r1 r2 r3
theorem ok:chkF prog F_slices_Clone__sint_int 1 fi=true:=by kernel_rfl
end slices_Clone__sint_int
namespace impl_Machine_own
def r0:List Ent:=[
 qe 0 1 (.box (.t 0)),
 qe 1 2 (.box (.k (.agg [.dat none (.int .i64 0),.nil 1,.nil 1,.nil 1])))]
def r1:List Ent:=[
 qx 0 3 (qD 0 1) 2 [4,7,10] [] false,
 qx 1 4 (qL 1 3) 2 [4,7,10] [] false,
 qr 2 5 (qD 1 1),
 qr 3 6 (qL 1 5),
 EP 4 (some 7) none (.call F_slices_Clone__sint_int false (roA [.t 6])) 1 false,
 qx 5 8 (qD 2 1) 2 [4] [] false,
 qx 6 9 (qL 1 8) 2 [4] [] false,
 EP 7 (some 10) none (.call F_slices_Clone__sint_int false (roA [.t 9])) 1 false,
 qx 8 11 (qD 3 1) 2 [4,7] [] false,
 qx 9 12 (qL 1 11) 2 [4,7] [] false,
 EP 10 (some 13) none (.call F_slices_Clone__sbool_bool false (roA [.t 12])) 1 false,
 qe 11 14 (.bld [.t 4,.t 7,.t 10,.t 13]),
 qs 12 (qW 4 2 14)]
def fi:FI:={ res:=[.c 2 true 4],code:=.seq (.reg 64 2 r0) (.seq (.reg 192 13 r1) (.ret)) }
attribute [go_sem] r0 r1
theorem ok:chkF prog F_impl_Machine_own 1 fi=true:=by kernel_rfl
end impl_Machine_own
namespace impl_DoStep
def r0:List Ent:=[
 qe 0 5 (.box (.t 2)),
 qe 1 6 (.box (.k (.agg [.dat none (.int .i64 0),.nil 1,.nil 1,.nil 1]))),
 qe 2 7 (.mv (xN 0)),
 qe 3 8 (.mv xF),
 qe 4 9 (.mv xF)]
def r1:List Ent:=[
 qm 0 13 0,
 qc 1 14 (qV F_impl_GoodProgram 13),
 qe 2 15 (qN 14),
 qm 3 16 15,
 qf 4 17 16 (qM 1),
 qj 5 18 16 (qV F_impl_isContext 17),
 qf 6 19 16 (qN 18),
 qe 7 20 (.pick (.t 16) xT (.t 19)),
 qm 8 21 20,
 qf 9 22 21 (qA 4 5),
 qj 10 23 21 (qV F_impl_GoodMachine 22),
 qf 11 24 21 (qN 23),
 qe 12 25 (.pick (.t 21) xT (.t 24)),
 qm 13 26 25,
 qf 14 27 26 (qD 0 5),
 qf 15 28 26 (qL 1 27),
 qf 16 29 26 (qM 0),
 qf 17 30 26 (qZ 29),
 qf 18 31 26 (qB .geq 28 30),
 qe 19 32 (.pick (.t 26) xT (.t 31))]
def r2:List Ent:=[
 qe 0 33 (.bld [.k (.dat none (.int .i64 0)),.k (.nil 1),.k (.nil 1),.k (.nil 1)]),
 qs 1 (qW 4 6 33),
 qe 2 7 (.mv (xN 0)),
 qe 3 8 (.mv xF),
 qe 4 9 (.mv xF)]
def r3:List Ent:=[
 qe 0 34 (qA 4 5),
 qc 1 35 (qV F_impl_Machine_own 34),
 qe 2 10 (.box (.k (.agg [.dat none (.int .i64 0),.nil 1,.nil 1,.nil 1]))),
 qs 3 (qW 4 10 35)]
def r4:List Ent:=[
 qm 0 37 0,
 qm 1 38 1,
 qc 2 39 (.call F_impl_pMachine_step false [(.io,.t 10),(.ro,.t 37),(.ro,.t 38)]),
 qm 3 36 39,
 qe 4 40 (qX 0 36),
 qe 5 41 (qX 1 36),
 qm 6 11 40,
 qm 7 12 41]
def r5:List Ent:=[
 qm 0 42 11,
 qe 1 43 (qK .neq 42 0)]
def r6:List Ent:=[
 qe 0 44 (.bld [.k (.dat none (.int .i64 0)),.k (.nil 1),.k (.nil 1),.k (.nil 1)]),
 qm 1 45 11,
 qs 2 (qW 4 6 44),
 qm 3 7 45,
 qe 4 8 (.mv xF),
 qe 5 9 (.mv xT)]
def r7:List Ent:=[
 qe 0 46 (qA 4 10),
 qm 1 47 12,
 qs 2 (qW 4 6 46),
 qe 3 7 (.mv (xN 0)),
 qm 4 8 47,
 qe 5 9 (.mv xT)]
def fi:FI:={ res:=[.c 6 true 4,.t 7,.t 8,.t 9],code:=.seq (.reg 64 5 r0) (.seq (.seq (.reg 384 20 r1) (.cond (.t 32) (.seq (.reg 1664 5 r2) (.ret)) (.skip))) (.seq (.reg 1984 4 r3) (.seq (.reg 2240 8 r4) (.seq (.seq (.reg 2752 2 r5) (.cond (.t 43) (.seq (.reg 2880 6 r6) (.ret)) (.skip))) (.seq (.reg 3264 6 r7) (.ret)))))) }
attribute [go_sem] r0 r1 r2 r3 r4 r5 r6 r7
theorem ok:chkF prog F_impl_DoStep 3 fi=true:=by kernel_rfl
end impl_DoStep
namespace impl_GoodStretch
def r0:List Ent:=[
 qe 0 1 (.box (.t 0)),
 qe 1 2 (.mv xF)]
def r1:List Ent:=[
 qe 0 3 (qD 0 1),
 qe 1 4 (qL 1 3),
 qc 2 5 (qV F_impl_isWord 4),
 qm 3 6 5,
 qt 4 7 6 (qD 1 1),
 qt 5 8 6 (qL 1 7),
 qh 6 9 6 (qV F_impl_isWord 8),
 qe 7 10 (.pick (.t 6) (.t 9) xF),
 qm 8 11 10,
 qt 9 12 11 (qD 0 1),
 qt 10 13 11 (qL 1 12),
 qt 11 14 11 (qD 1 1),
 qt 12 15 11 (qL 1 14),
 qt 13 16 11 (qB .leq 13 15),
 qe 14 17 (.pick (.t 11) (.t 16) xF),
 qm 15 2 17]
def fi:FI:={ res:=[.t 2],code:=.seq (.reg 64 2 r0) (.seq (.reg 192 16 r1) (.ret)) }
attribute [go_sem] r0 r1
theorem ok:chkF prog F_impl_GoodStretch 1 fi=true:=by kernel_rfl
end impl_GoodStretch
namespace impl_GoodMay_c1
def r0:List Ent:=[
 qe 0 1 (.box (.t 0)),
 qe 1 2 (.mv xF)]
def r1:List Ent:=[
 qe 0 3 (qA 2 1),
 qc 1 4 (qV F_impl_GoodStretch 3),
 qe 2 5 (qN 4),
 qm 3 2 5]
def fi:FI:={ res:=[.t 2],code:=.seq (.reg 64 2 r0) (.seq (.reg 192 4 r1) (.ret)) }
attribute [go_sem] r0 r1
theorem ok:chkF prog F_impl_GoodMay_c1 1 fi=true:=by kernel_rfl
end impl_GoodMay_c1
namespace slices_IndexFunc__sStretch_Stretch
def r0:List Ent:=[
 qe 0 4 (.mv (xN 0))]
def r1:List Ent:=[
 qm 0 6 0,
 qe 1 7 (qZ 6),
 qe 2 8 (.mv (xN 0))]
def r2:List Ent:=[
 qe 0 9 (qB .lss 8 7)]
def r3:List Ent:=[
 qm 0 10 8,
 qm 1 5 10]
def r4:List Ent:=[
 qm 0 11 1,
 qm 1 12 0,
 qm 2 13 5,
 qe 3 14 (qI 2 12 13),
 qe 4 15 (qA 2 14),
 qc 5 16 (.ccl (.t 11) false [.t 15])]
def r5:List Ent:=[
 qm 0 17 5,
 qm 1 4 17]
def r6:List Ent:=[
 qe 0 18 (qK .add 8 1),
 qm 1 8 18]
def b0:KC:=.seq (.reg 320 1 r2) (.seq (.cond (.t 9) (.skip) (.exit 0)) (.seq (.block 1 (.seq (.reg 384 2 r3) (.seq (.reg 512 6 r4) (.cond (.t 16) (.seq (.reg 896 2 r5) (.ret)) (.skip))))) (.reg 1024 2 r6)))
def r7:List Ent:=[
 qe 0 4 (.mv (xN (-1)))]
def fi:FI:={ res:=[.t 4],code:=.seq (.reg 64 1 r0) (.seq (.seq (.reg 128 3 r1) (.block 0 (.loop b0))) (.seq (.reg 1152 1 r7) (.ret))) }
attribute [go_sem] r0 r1 r2 r3 r4 r5 r6 r7
theorem ok:chkF prog F_slices_IndexFunc__sStretch_Stretch 2 fi=true:=by kernel_rfl
end slices_IndexFunc__sStretch_Stretch
namespace slices_ContainsFunc__sStretch_Stretch
def r0:List Ent:=[
 qe 0 4 (.mv xF)]
def r1:List Ent:=[
 qm 0 5 0,
 qm 1 6 1,
 qc 2 7 (qC F_slices_IndexFunc__sStretch_Stretch [.t 5,.t 6]),
 qe 3 8 (qK .geq 7 0),
 qm 4 4 8]
def fi:FI:={ res:=[.t 4],code:=.seq (.reg 64 1 r0) (.seq (.reg 128 5 r1) (.ret)) }
attribute [go_sem] r0 r1
theorem ok:chkF prog F_slices_ContainsFunc__sStretch_Stretch 2 fi=true:=by kernel_rfl
end slices_ContainsFunc__sStretch_Stretch
namespace slices_IndexFunc__sKnown_Known
def r0:List Ent:=[
 qe 0 4 (.mv (xN 0))]
def r1:List Ent:=[
 qm 0 6 0,
 qe 1 7 (qZ 6),
 qe 2 8 (.mv (xN 0))]
def r2:List Ent:=[
 qe 0 9 (qB .lss 8 7)]
def r3:List Ent:=[
 qm 0 10 8,
 qm 1 5 10]
def r4:List Ent:=[
 qm 0 11 1,
 qm 1 12 0,
 qm 2 13 5,
 qe 3 14 (qI 2 12 13),
 qe 4 15 (qA 2 14),
 qc 5 16 (.ccl (.t 11) false [.t 15])]
def r5:List Ent:=[
 qm 0 17 5,
 qm 1 4 17]
def r6:List Ent:=[
 qe 0 18 (qK .add 8 1),
 qm 1 8 18]
def b0:KC:=.seq (.reg 320 1 r2) (.seq (.cond (.t 9) (.skip) (.exit 0)) (.seq (.block 1 (.seq (.reg 384 2 r3) (.seq (.reg 512 6 r4) (.cond (.t 16) (.seq (.reg 896 2 r5) (.ret)) (.skip))))) (.reg 1024 2 r6)))
def r7:List Ent:=[
 qe 0 4 (.mv (xN (-1)))]
def fi:FI:={ res:=[.t 4],code:=.seq (.reg 64 1 r0) (.seq (.seq (.reg 128 3 r1) (.block 0 (.loop b0))) (.seq (.reg 1152 1 r7) (.ret))) }
attribute [go_sem] r0 r1 r2 r3 r4 r5 r6 r7
theorem ok:chkF prog F_slices_IndexFunc__sKnown_Known 2 fi=true:=by kernel_rfl
end slices_IndexFunc__sKnown_Known
namespace slices_ContainsFunc__sKnown_Known
def r0:List Ent:=[
 qe 0 4 (.mv xF)]
def r1:List Ent:=[
 qm 0 5 0,
 qm 1 6 1,
 qc 2 7 (qC F_slices_IndexFunc__sKnown_Known [.t 5,.t 6]),
 qe 3 8 (qK .geq 7 0),
 qm 4 4 8]
def fi:FI:={ res:=[.t 4],code:=.seq (.reg 64 1 r0) (.seq (.reg 128 5 r1) (.ret)) }
attribute [go_sem] r0 r1
theorem ok:chkF prog F_slices_ContainsFunc__sKnown_Known 2 fi=true:=by kernel_rfl
end slices_ContainsFunc__sKnown_Known
namespace impl_GoodKnown
def r0:List Ent:=[
 qe 0 1 (.box (.t 0)),
 qe 1 2 (.mv xF)]
def r1:List Ent:=[
 qe 0 3 (qD 0 1),
 qe 1 4 (qL 1 3),
 qc 2 5 (qV F_impl_isWord 4),
 qm 3 6 5,
 qt 4 7 6 (qD 1 1),
 qt 5 8 6 (qL 1 7),
 qh 6 9 6 (qV F_impl_isWord 8),
 qe 7 10 (.pick (.t 6) (.t 9) xF),
 qm 8 11 10,
 qt 9 12 11 (qD 0 1),
 qt 10 13 11 (qL 1 12),
 qt 11 14 11 (qD 1 1),
 qt 12 15 11 (qL 1 14),
 qt 13 16 11 (qB .and 13 15),
 qt 14 17 11 (qK .eql 16 0),
 qe 15 18 (.pick (.t 11) (.t 17) xF),
 qm 16 2 18]
def fi:FI:={ res:=[.t 2],code:=.seq (.reg 64 2 r0) (.seq (.reg 192 17 r1) (.ret)) }
attribute [go_sem] r0 r1
theorem ok:chkF prog F_impl_GoodKnown 1 fi=true:=by kernel_rfl
end impl_GoodKnown
namespace impl_GoodMay_c2
def r0:List Ent:=[
 qe 0 1 (.box (.t 0)),
 qe 1 2 (.mv xF)]
def r1:List Ent:=[
 qe 0 3 (qA 2 1),
 qc 1 4 (qV F_impl_GoodKnown 3),
 qe 2 5 (qN 4),
 qm 3 2 5]
def fi:FI:={ res:=[.t 2],code:=.seq (.reg 64 2 r0) (.seq (.reg 192 4 r1) (.ret)) }
attribute [go_sem] r0 r1
theorem ok:chkF prog F_impl_GoodMay_c2 1 fi=true:=by kernel_rfl
end impl_GoodMay_c2
namespace impl_GoodMay
def r0:List Ent:=[
 qe 0 1 (.box (.t 0)),
 qe 1 2 (.mv xF)]
def r1:List Ent:=[
 qe 0 4 (qD 0 1),
 qe 1 5 (qL 1 4),
 qe 2 6 (qZ 5),
 qe 3 7 (qK .neq 6 6),
 qm 4 8 7,
 qf 5 9 8 (qD 1 1),
 qf 6 10 8 (qL 1 9),
 qf 7 11 8 (qZ 10),
 qf 8 12 8 (qK .neq 11 6),
 qe 9 13 (.pick (.t 8) xT (.t 12)),
 qm 10 14 13,
 qf 11 15 14 (qD 2 1),
 qf 12 16 14 (qL 1 15),
 qf 13 17 14 (qZ 16),
 qf 14 18 14 (qK .neq 17 16),
 qe 15 19 (.pick (.t 14) xT (.t 18)),
 qm 16 20 19,
 qf 17 21 20 (qD 3 1),
 qf 18 22 20 (qL 1 21),
 qf 19 23 20 (qZ 22),
 qf 20 24 20 (qK .neq 23 16),
 qe 21 25 (.pick (.t 20) xT (.t 24))]
def r2:List Ent:=[
 qe 0 2 (.mv xF)]
def r3:List Ent:=[
 qe 0 3 (.mv (.k (.clo F_impl_GoodMay_c1 [])))]
def r4:List Ent:=[
 qe 0 26 (qD 0 1),
 qe 1 27 (qL 1 26),
 qm 2 28 3,
 qc 3 29 (qC F_slices_ContainsFunc__sStretch_Stretch [.t 27,.t 28]),
 qe 4 30 (qN 29),
 qm 5 31 30,
 qt 6 32 31 (qD 2 1),
 qt 7 33 31 (qL 1 32),
 qt 8 34 31 (qM 3),
 qh 9 35 31 (qC F_slices_ContainsFunc__sStretch_Stretch [.t 33,.t 34]),
 qt 10 36 31 (qN 35),
 qe 11 37 (.pick (.t 31) (.t 36) xF),
 qm 12 38 37,
 qt 13 39 38 (qD 1 1),
 qt 14 40 38 (qL 1 39),
 qh 15 41 38 (qC F_slices_ContainsFunc__sKnown_Known [.t 40,.k (.clo F_impl_GoodMay_c2 [])]),
 qt 16 42 38 (qN 41),
 qe 17 43 (.pick (.t 38) (.t 42) xF),
 qm 18 2 43]
def fi:FI:={ res:=[.t 2],code:=.seq (.reg 64 2 r0) (.seq (.seq (.reg 192 22 r1) (.cond (.t 25) (.seq (.reg 1600 1 r2) (.ret)) (.skip))) (.seq (.reg 1664 1 r3) (.seq (.reg 1728 19 r4) (.ret)))) }
attribute [go_sem] r0 r1 r2 r3 r4
theorem ok:chkF prog F_impl_GoodMay 1 fi=true:=by kernel_rfl
end impl_GoodMay
namespace impl_InMay
def r0:List Ent:=[
 qe 0 2 (.box (.t 0)),
 qe 1 3 (.box (.t 1)),
 qe 2 4 (.mv xF),
 qe 3 5 (.mv xF)]
def r1:List Ent:=[
 qe 0 10 (qA 4 2),
 qc 1 11 (qV F_impl_GoodMay 10),
 qe 2 12 (qN 11),
 qm 3 13 12,
 qf 4 14 13 (qA 4 3),
 qj 5 15 13 (qV F_impl_GoodMachine 14),
 qf 6 16 13 (qN 15),
 qe 7 17 (.pick (.t 13) xT (.t 16))]
def r2:List Ent:=[
 qe 0 4 (.mv xF),
 qe 1 5 (.mv xF)]
def r3:List Ent:=[
 qe 0 18 (qD 1 3),
 qe 1 19 (qL 1 18),
 qe 2 20 (qZ 19),
 qe 3 21 (.mv (xN 0))]
def r4:List Ent:=[
 qe 0 22 (qB .lss 21 20)]
def r5:List Ent:=[
 qm 0 23 21,
 qe 1 24 (qI 1 19 21),
 qe 2 25 (qL 1 24),
 qm 3 6 23,
 qm 4 7 25]
def r6:List Ent:=[
 qm 0 26 7,
 qr 1 27 (qD 0 2),
 qr 2 28 (qL 1 27),
 qm 3 29 6,
 qr 4 30 (qI 2 28 29),
 qr 5 31 (qD 0 30),
 qr 6 32 (qL 1 31),
 qr 7 33 (qD 0 2),
 qr 8 34 (qL 1 33),
 qm 9 35 6,
 qr 10 36 (qI 2 34 35),
 qr 11 37 (qD 1 36),
 qr 12 38 (qL 1 37),
 qc 13 39 (qC F_impl_in [.t 26,.t 32,.t 38]),
 qe 14 40 (qN 39),
 qm 15 41 40,
 qf 16 42 41 (qD 1 2),
 qf 17 43 41 (qL 1 42),
 qf 18 44 41 (qM 6),
 qf 19 45 41 (qI 2 43 44),
 qf 20 46 41 (qA 2 45),
 qf 21 47 41 (qM 7),
 qj 22 48 41 (qC F_impl_Known_matches [.t 46,.t 47]),
 qf 23 49 41 (qN 48),
 qe 24 50 (.pick (.t 41) xT (.t 49))]
def r7:List Ent:=[
 qe 0 4 (.mv xF),
 qe 1 5 (.mv xT)]
def r8:List Ent:=[
 qe 0 51 (qK .add 21 1),
 qm 1 21 51]
def b0:KC:=.seq (.reg 1216 1 r4) (.seq (.cond (.t 22) (.skip) (.exit 0)) (.seq (.block 1 (.seq (.reg 1280 5 r5) (.seq (.reg 1600 25 r6) (.cond (.t 50) (.seq (.reg 3200 2 r7) (.ret)) (.skip))))) (.reg 3328 2 r8)))
def r9:List Ent:=[
 qe 0 52 (qD 2 3),
 qe 1 53 (qL 1 52),
 qe 2 54 (qZ 53),
 qe 3 55 (.mv (xN 0))]
def r10:List Ent:=[
 qe 0 56 (qB .lss 55 54)]
def r11:List Ent:=[
 qm 0 57 55,
 qe 1 58 (qI 1 53 55),
 qe 2 59 (qL 1 58),
 qm 3 8 57,
 qm 4 9 59]
def r12:List Ent:=[
 qe 0 60 (qD 3 3),
 qe 1 61 (qL 1 60),
 qm 2 62 8,
 qe 3 63 (qI 1 61 62),
 qe 4 64 (qL 1 63),
 qm 5 65 64,
 qt 6 66 65 (qM 9),
 ER 7 (some 67) (some (65,true)) (qD 2 2),
 ER 8 (some 68) (some (65,true)) (qL 1 67),
 qt 9 69 65 (qM 8),
 ER 10 (some 70) (some (65,true)) (qI 2 68 69),
 ER 11 (some 71) (some (65,true)) (qD 0 70),
 ER 12 (some 72) (some (65,true)) (qL 1 71),
 ER 13 (some 73) (some (65,true)) (qD 2 2),
 ER 14 (some 74) (some (65,true)) (qL 1 73),
 qt 15 75 65 (qM 8),
 ER 16 (some 76) (some (65,true)) (qI 2 74 75),
 ER 17 (some 77) (some (65,true)) (qD 1 76),
 ER 18 (some 78) (some (65,true)) (qL 1 77),
 qh 19 79 65 (qC F_impl_in [.t 66,.t 72,.t 78]),
 qt 20 80 65 (qN 79),
 qe 21 81 (.pick (.t 65) (.t 80) xF),
 qm 22 82 81,
 qf 23 83 82 (qD 3 2),
 qf 24 84 82 (qL 1 83),
 qf 25 85 82 (qM 8),
 qf 26 86 82 (qI 1 84 85),
 qf 27 87 82 (qL 1 86),
 qf 28 88 82 (qM 87),
 qt 29 89 88 (qD 3 3),
 qt 30 90 88 (qL 1 89),
 qt 31 91 88 (qM 8),
 qt 32 92 88 (qI 1 90 91),
 qt 33 93 88 (qL 1 92),
 qt 34 94 88 (qN 93),
 qf 35 95 82 (.pick (.t 88) (.t 94) xF),
 qe 36 96 (.pick (.t 82) xT (.t 95))]
def r13:List Ent:=[
 qe 0 4 (.mv xF),
 qe 1 5 (.mv xT)]
def r14:List Ent:=[
 qe 0 97 (qK .add 55 1),
 qm 1 55 97]
def b1:KC:=.seq (.reg 3712 1 r10) (.seq (.cond (.t 56) (.skip) (.exit 2)) (.seq (.block 3 (.seq (.reg 3776 5 r11) (.seq (.reg 4096 37 r12) (.cond (.t 96) (.seq (.reg 6464 2 r13) (.ret)) (.skip))))) (.reg 6592 2 r14)))
def r15:List Ent:=[
 qe 0 4 (.mv xT),
 qe 1 5 (.mv xT)]
def fi:FI:={ res:=[.t 4,.t 5],code:=.seq (.reg 64 4 r0) (.seq (.seq (.reg 320 8 r1) (.cond (.t 17) (.seq (.reg 832 2 r2) (.ret)) (.skip))) (.seq (.seq (.reg 960 4 r3) (.block 0 (.loop b0))) (.seq (.seq (.reg 3456 4 r9) (.block 2 (.loop b1))) (.seq (.reg 6720 2 r15) (.ret))))) }
attribute [go_sem] r0 r1 r2 r3 r4 r5 r6 r7 r8 r9 r10 r11 r12 r13 r14 r15
theorem ok:chkF prog F_impl_InMay 2 fi=true:=by kernel_rfl
end impl_InMay
namespace laws_has
def r0:List Ent:=[
 qe 0 4 (.mv xF)]
def r1:List Ent:=[
 qm 0 7 0,
 qe 1 8 (qZ 7),
 qe 2 9 (.mv (xN 0))]
def r2:List Ent:=[
 qe 0 10 (qB .lss 9 8)]
def r3:List Ent:=[
 qe 0 11 (qI 1 7 9),
 qe 1 12 (qL 1 11),
 qm 2 6 12]
def r4:List Ent:=[
 qm 0 13 6,
 qm 1 14 1,
 qe 2 15 (qB .eql 13 14)]
def r5:List Ent:=[
 qe 0 4 (.mv xT)]
def r6:List Ent:=[
 qe 0 16 (qK .add 9 1),
 qm 1 9 16]
def b0:KC:=.seq (.reg 320 1 r2) (.seq (.cond (.t 10) (.skip) (.exit 0)) (.seq (.block 1 (.seq (.reg 384 3 r3) (.seq (.reg 576 3 r4) (.cond (.t 15) (.seq (.reg 768 1 r5) (.ret)) (.skip))))) (.reg 832 2 r6)))
def r7:List Ent:=[
 qe 0 4 (.mv xF)]
def fi:FI:={ res:=[.t 4],code:=.seq (.reg 64 1 r0) (.seq (.seq (.reg 128 3 r1) (.block 0 (.loop b0))) (.seq (.reg 960 1 r7) (.ret))) }
attribute [go_sem] r0 r1 r2 r3 r4 r5 r6 r7
theorem ok:chkF prog F_laws_has 2 fi=true:=by kernel_rfl
end laws_has
namespace spec_l1Word
def r0:List Ent:=[
 qe 0 2 (.mv xF)]
def r1:List Ent:=[
 qm 0 3 0,
 qc 1 4 (qC F_spec_l1In [.t 3,xN 0,xN 65535]),
 qm 2 2 4]
def fi:FI:={ res:=[.t 2],code:=.seq (.reg 64 1 r0) (.seq (.reg 128 3 r1) (.ret)) }
attribute [go_sem] r0 r1
theorem ok:chkF prog F_spec_l1Word 1 fi=true:=by kernel_rfl
end spec_l1Word
namespace spec_GoodStretch
def r0:List Ent:=[
 qe 0 1 (.box (.t 0)),
 qe 1 2 (.mv xF)]
def r1:List Ent:=[
 qe 0 3 (qD 0 1),
 qe 1 4 (qL 1 3),
 qc 2 5 (qV F_spec_l1Word 4),
 qm 3 6 5,
 qt 4 7 6 (qD 1 1),
 qt 5 8 6 (qL 1 7),
 qh 6 9 6 (qV F_spec_l1Word 8),
 qe 7 10 (.pick (.t 6) (.t 9) xF),
 qm 8 11 10,
 qt 9 12 11 (qD 0 1),
 qt 10 13 11 (qL 1 12),
 qt 11 14 11 (qD 1 1),
 qt 12 15 11 (qL 1 14),
 qt 13 16 11 (qB .leq 13 15),
 qe 14 17 (.pick (.t 11) (.t 16) xF),
 qm 15 2 17]
def fi:FI:={ res:=[.t 2],code:=.seq (.reg 64 2 r0) (.seq (.reg 192 16 r1) (.ret)) }
attribute [go_sem] r0 r1
theorem ok:chkF prog F_spec_GoodStretch 1 fi=true:=by kernel_rfl
end spec_GoodStretch
namespace spec_pl1Cur_word
def r0:List Ent:=[
 qe 0 2 (.mv (xN 0))]
def r1:List Ent:=[
 qm 0 3 0,
 qm 1 4 0,
 qc 2 5 (.call F_spec_pl1Cur_pick true [(.io,.t 4),(.ro,xN 256)]),
 qe 3 6 (qK .mul 5 256),
 qm 4 7 0,
 qc 5 8 (.call F_spec_pl1Cur_pick true [(.io,.t 7),(.ro,xN 256)]),
 qe 6 9 (qB .add 6 8),
 qm 7 10 0,
 qc 8 11 (.call F_spec_pl1Cur_pick true [(.io,.t 10),(.ro,xN 256)]),
 qe 9 12 (qK .mul 11 256),
 qm 10 13 0,
 qc 11 14 (.call F_spec_pl1Cur_pick true [(.io,.t 13),(.ro,xN 256)]),
 qe 12 15 (qB .add 12 14),
 qm 13 16 0,
 qc 14 17 (.call F_spec_pl1Cur_pick true [(.io,.t 16),(.ro,xN 20)]),
 qe 15 18 (.bsl false 1 [xN 0,xN 1,xN 2,xN 255,xN 256,xN 32767,xN 32768,xN 65535,.t 9,.t 15,.t 17]),
 qc 16 19 (.call F_spec_pl1Cur_among true [(.io,.t 3),(.co,.t 18)]),
 qm 17 2 19]
def fi:FI:={ res:=[.t 2],code:=.seq (.reg 64 1 r0) (.seq (.reg 128 18 r1) (.ret)) }
attribute [go_sem] r0 r1
theorem ok:chkF prog F_spec_pl1Cur_word 1 fi=true:=by kernel_rfl
end spec_pl1Cur_word
namespace spec_pl1Cur_rawWord
def r0:List Ent:=[
 qe 0 2 (.mv (xN 0))]
def r1:List Ent:=[
 qm 0 3 0,
 qc 1 4 (.call F_spec_pl1Cur_one true [(.io,.t 3),(.ro,xN 20)])]
def r2:List Ent:=[
 qm 0 5 0,
 qe 1 6 (.bsl false 1 [xN (-1),xN 65536]),
 qc 2 7 (.call F_spec_pl1Cur_among true [(.io,.t 5),(.co,.t 6)]),
 qm 3 2 7]
def r3:List Ent:=[
 qm 0 8 0,
 qc 1 9 (.call F_spec_pl1Cur_word true [(.io,.t 8)]),
 qm 2 2 9]
def fi:FI:={ res:=[.t 2],code:=.seq (.reg 64 1 r0) (.seq (.seq (.reg 128 2 r1) (.cond (.t 4) (.seq (.reg 256 4 r2) (.ret)) (.skip))) (.seq (.reg 512 3 r3) (.ret))) }
attribute [go_sem] r0 r1 r2 r3
theorem ok:chkF prog F_spec_pl1Cur_rawWord 1 fi=true:=by kernel_rfl
end spec_pl1Cur_rawWord
namespace spec_pl1Cur_stretch
def r0:List Ent:=[
 qe 0 2 (.box (.k (.agg [.dat none (.int .i64 0),.dat none (.int .i64 0)])))]
def r1:List Ent:=[
 qm 0 6 0,
 qc 1 7 (.call F_spec_pl1Cur_word true [(.io,.t 6)]),
 qm 2 3 7]
def r2:List Ent:=[
 qm 0 8 0,
 qc 1 9 (.call F_spec_pl1Cur_word true [(.io,.t 8)]),
 qm 2 4 9]
def r3:List Ent:=[
 qm 0 10 0,
 qc 1 11 (.call F_spec_pl1Cur_one true [(.io,.t 10),(.ro,xN 3)])]
def r4:List Ent:=[
 qm 0 12 3,
 qm 1 13 0,
 qc 2 14 (.call F_spec_pl1Cur_pick true [(.io,.t 13),(.ro,xN 9)]),
 qe 3 15 (qB .add 12 14),
 qc 4 16 (qC F_spec_l1Least [xN 65535,.t 15]),
 qm 5 4 16]
def r5:List Ent:=[
 qm 0 17 3,
 qm 1 18 4,
 qc 2 19 (qC F_spec_l1Least [.t 17,.t 18]),
 qm 3 20 3,
 qm 4 21 4,
 qc 5 22 (qC F_spec_l1Most [.t 20,.t 21]),
 qe 6 23 (.bld [.t 19,.t 22]),
 qe 7 5 (.box (.k (.agg [.dat none (.int .i64 0),.dat none (.int .i64 0)]))),
 qs 8 (qW 2 5 23)]
def r6:List Ent:=[
 qm 0 24 0,
 qc 1 25 (.call F_spec_pl1Cur_one true [(.io,.t 24),(.ro,xN 30)])]
def r7:List Ent:=[
 qm 0 26 0,
 qc 1 27 (.call F_spec_pl1Cur_rawWord true [(.io,.t 26)]),
 qm 2 28 0,
 qc 3 29 (.call F_spec_pl1Cur_rawWord true [(.io,.t 28)]),
 qe 4 30 (.bld [.t 27,.t 29]),
 qs 5 (qW 2 5 30)]
def r8:List Ent:=[
 qe 0 31 (qA 2 5),
 qs 1 (qW 2 2 31)]
def fi:FI:={ res:=[.c 2 true 2],code:=.seq (.reg 64 1 r0) (.seq (.reg 128 3 r1) (.seq (.reg 320 3 r2) (.seq (.seq (.reg 512 2 r3) (.cond (.t 11) (.reg 640 6 r4) (.skip))) (.seq (.reg 1024 9 r5) (.seq (.seq (.reg 1600 2 r6) (.cond (.t 25) (.reg 1728 6 r7) (.skip))) (.seq (.reg 2112 2 r8) (.ret))))))) }
attribute [go_sem] r0 r1 r2 r3 r4 r5 r6 r7 r8
theorem ok:chkF prog F_spec_pl1Cur_stretch 1 fi=true:=by kernel_rfl
end spec_pl1Cur_stretch
namespace spec_pl1Cur_may
def r0:List Ent:=[
 qe 0 2 (.box (.k (.agg [.nil 2,.nil 2,.nil 2,.nil 1])))]
def r1:List Ent:=[
 qc 0 7 (qC F_spec_StartMay []),
 qe 1 3 (.box (.k (.agg [.nil 2,.nil 2,.nil 2,.nil 1]))),
 qs 2 (qW 4 3 7)]
def r2:List Ent:=[
 qe 0 8 (qD 0 3),
 qe 1 9 (qL 1 8),
 qe 2 10 (qZ 9),
 qe 3 11 (.mv (xN 0))]
def r3:List Ent:=[
 qe 0 12 (qB .lss 11 10)]
def r4:List Ent:=[
 qm 0 13 11,
 qm 1 4 13]
def r5:List Ent:=[
 qm 0 14 0,
 qc 1 15 (.call F_spec_pl1Cur_word true [(.io,.t 14)]),
 qm 2 5 15]
def r6:List Ent:=[
 qm 1 17 4,
 qm 2 18 0,
  EPB 3 (some 19) (.call F_spec_pl1Cur_stretch true [(.io,.t 18)]) 0 true,
 qm 4 20 5,
 qm 5 21 0,
  EPB 6 (some 22) (.call F_spec_pl1Cur_word true [(.io,.t 21)]) 0 true,
  EB 0 (some 16) (.i (qA 4 3)) 2 [] [3,6] false,
  E2 7 (some 23) none (.call F_spec_l10Not false (roA [.t 20,.t 22])),
 qc 8 24 (.call F_spec_l13Set false [(.co,.t 16),(.ro,.t 17),(.ro,.t 19),(.ro,.t 23)]),
 qs 9 (qW 4 3 24)]
def r7:List Ent:=[
 qe 0 25 (qD 0 3),
 qe 1 26 (qL 1 25),
 qm 2 27 4,
 qe 3 28 (qI 2 26 27),
 qe 4 29 (qA 2 28),
 qc 5 30 (qV F_spec_GoodStretch 29),
 qe 6 31 (qN 30)]
def r8:List Ent:=[
 qr 0 32 (qD 0 3),
 qr 1 33 (qL 1 32),
 qm 2 34 4,
  E2 3 (some 35) none (.call F_spec_l9All false (roA [])),
 qe 4 36 (qI 2 33 34),
 qs 5 (qW 2 36 35)]
def r9:List Ent:=[
 qe 0 37 (qK .add 11 1),
 qm 1 11 37]
def b0:KC:=.seq (.reg 576 1 r3) (.seq (.cond (.t 12) (.skip) (.exit 0)) (.seq (.block 1 (.seq (.reg 640 2 r4) (.seq (.reg 768 3 r5) (.seq (.reg 960 10 r6) (.seq (.reg 1600 7 r7) (.cond (.t 31) (.reg 2048 6 r8) (.skip))))))) (.reg 2432 2 r9)))
def r10:List Ent:=[
 qe 0 38 (qD 2 3),
 qe 1 39 (qL 1 38),
 qe 2 40 (qZ 39),
 qe 3 41 (.mv (xN 0))]
def r11:List Ent:=[
 qe 0 42 (qB .lss 41 40)]
def r12:List Ent:=[
 qm 0 43 41,
 qm 1 6 43]
def r13:List Ent:=[
 qm 0 44 0,
 qc 1 45 (.call F_spec_pl1Cur_one true [(.io,.t 44),(.ro,xN 2)])]
def r14:List Ent:=[
 qe 0 46 (qD 3 3),
 qe 1 47 (qL 1 46),
 qm 2 48 6,
 qe 3 49 (qI 1 47 48),
 qs 4 (.store 1 (.t 49) xT)]
def r15:List Ent:=[
 qm 2 52 6,
 qm 3 53 0,
  EPB 4 (some 54) (.call F_spec_pl1Cur_word true [(.io,.t 53)]) 0 true,
  EB 0 (some 50) (.i (qD 2 3)) 2 [] [4] false,
  EB 1 (some 51) (.i (qL 1 50)) 2 [] [4] false,
 qr 5 55 (.bld [xN 0,.t 54]),
 qe 6 56 (qI 2 51 52),
 qs 7 (qW 2 56 55)]
def r16:List Ent:=[
 qe 0 57 (qK .add 41 1),
 qm 1 41 57]
def b1:KC:=.seq (.reg 2816 1 r11) (.seq (.cond (.t 42) (.skip) (.exit 2)) (.seq (.block 3 (.seq (.reg 2880 2 r12) (.seq (.reg 3008 2 r13) (.cond (.t 45) (.seq (.reg 3136 5 r14) (.reg 3456 8 r15)) (.skip))))) (.reg 3968 2 r16)))
def r17:List Ent:=[
 qm 0 58 0,
 qc 1 59 (.call F_spec_pl1Cur_one true [(.io,.t 58),(.ro,xN 30)])]
def r18:List Ent:=[
 qe 0 60 (qD 0 3),
 qe 1 61 (qL 1 60),
 qe 2 62 (.bld [xN 5,xN 4]),
 qe 3 63 (.iad 2 (.t 61) (xN 0)),
 qs 4 (qW 2 63 62)]
def r19:List Ent:=[
 qe 0 64 (qA 4 3),
 qs 1 (qW 4 2 64)]
def fi:FI:={ res:=[.c 2 true 4],code:=.seq (.reg 64 1 r0) (.seq (.reg 128 3 r1) (.seq (.seq (.reg 320 4 r2) (.block 0 (.loop b0))) (.seq (.seq (.reg 2560 4 r10) (.block 2 (.loop b1))) (.seq (.seq (.reg 4096 2 r17) (.cond (.t 59) (.reg 4224 5 r18) (.skip))) (.seq (.reg 4544 2 r19) (.ret)))))) }
attribute [go_sem] r0 r1 r2 r3 r4 r5 r6 r7 r8 r9 r10 r11 r12 r13 r14 r15 r16 r17 r18 r19
theorem ok:chkF prog F_spec_pl1Cur_may 1 fi=true:=by kernel_rfl
end spec_pl1Cur_may
namespace spec_DrawJoinMay
def r0:List Ent:=[
 qe 0 2 (.box (.k (.agg [.nil 2,.nil 2,.nil 2,.nil 1]))),
 qe 1 3 (.box (.k (.agg [.nil 2,.nil 2,.nil 2,.nil 1])))]
def r1:List Ent:=[
 qm 0 5 0,
 qe 1 6 (.bld [.t 5,.k (.dat none (.int .i64 0)),.k (.dat none (.int .u64 0))]),
 qe 2 7 (.box (.t 6)),
 qm 3 4 7]
def r2:List Ent:=[
 qm 0 8 4,
 qc 1 9 (.call F_spec_pl1Cur_may true [(.io,.t 8)]),
 qm 2 10 4,
 qc 3 11 (.call F_spec_pl1Cur_may true [(.io,.t 10)]),
 qs 4 (qW 4 2 9),
 qs 5 (qW 4 3 11)]
def fi:FI:={ res:=[.c 2 true 4,.c 3 true 4],code:=.seq (.reg 64 2 r0) (.seq (.reg 192 4 r1) (.seq (.reg 448 6 r2) (.ret))) }
attribute [go_sem] r0 r1 r2
theorem ok:chkF prog F_spec_DrawJoinMay 1 fi=true:=by kernel_rfl
end spec_DrawJoinMay
namespace impl_JoinMay
def r0:List Ent:=[
 qe 0 2 (.box (.t 0)),
 qe 1 3 (.box (.t 1)),
 qe 2 4 (.box (.k (.agg [.nil 2,.nil 2,.nil 2,.nil 1]))),
 qe 3 5 (.mv xF)]
def r1:List Ent:=[
 qe 0 6 (qA 4 2),
 qc 1 7 (qV F_impl_GoodMay 6),
 qe 2 8 (qN 7),
 qm 3 9 8,
 qf 4 10 9 (qA 4 3),
 qj 5 11 9 (qV F_impl_GoodMay 10),
 qf 6 12 9 (qN 11),
 qe 7 13 (.pick (.t 9) xT (.t 12))]
def r2:List Ent:=[
 qe 0 14 (.bld [.k (.nil 2),.k (.nil 2),.k (.nil 2),.k (.nil 1)]),
 qs 1 (qW 4 4 14),
 qe 2 5 (.mv xF)]
def r3:List Ent:=[
 qe 0 15 (qA 4 2),
 qe 1 16 (qA 4 3),
 qc 2 17 (qC F_impl_joined [.t 15,.t 16]),
 qs 3 (qW 4 4 17),
 qe 4 5 (.mv xT)]
def fi:FI:={ res:=[.c 4 true 4,.t 5],code:=.seq (.reg 64 4 r0) (.seq (.seq (.reg 320 8 r1) (.cond (.t 13) (.seq (.reg 832 3 r2) (.ret)) (.skip))) (.seq (.reg 1024 5 r3) (.ret))) }
attribute [go_sem] r0 r1 r2 r3
theorem ok:chkF prog F_impl_JoinMay 2 fi=true:=by kernel_rfl
end impl_JoinMay
namespace spec_GoodKnown
def r0:List Ent:=[
 qe 0 1 (.box (.t 0)),
 qe 1 2 (.mv xF)]
def r1:List Ent:=[
 qe 0 3 (qD 0 1),
 qe 1 4 (qL 1 3),
 qc 2 5 (qV F_spec_l1Word 4),
 qm 3 6 5,
 qt 4 7 6 (qD 1 1),
 qt 5 8 6 (qL 1 7),
 qh 6 9 6 (qV F_spec_l1Word 8),
 qe 7 10 (.pick (.t 6) (.t 9) xF),
 qm 8 11 10,
 qt 9 12 11 (qD 0 1),
 qt 10 13 11 (qL 1 12),
 qt 11 14 11 (qD 1 1),
 qt 12 15 11 (qL 1 14),
 qt 13 16 11 (qB .and 13 15),
 qt 14 17 11 (qK .eql 16 0),
 qe 15 18 (.pick (.t 11) (.t 17) xF),
 qm 16 2 18]
def fi:FI:={ res:=[.t 2],code:=.seq (.reg 64 2 r0) (.seq (.reg 192 17 r1) (.ret)) }
attribute [go_sem] r0 r1
theorem ok:chkF prog F_spec_GoodKnown 1 fi=true:=by kernel_rfl
end spec_GoodKnown
namespace spec_GoodMay
def r0:List Ent:=[
 qe 0 1 (.box (.t 0)),
 qe 1 2 (.mv xF)]
def r1:List Ent:=[
 qe 0 9 (qD 0 1),
 qe 1 10 (qL 1 9),
 qe 2 11 (qZ 10),
 qe 3 12 (.mv (xN 0))]
def r2:List Ent:=[
 qe 0 13 (qB .lss 12 11)]
def r3:List Ent:=[
 qe 0 14 (qI 2 10 12),
 qe 1 15 (qA 2 14),
 qe 2 4 (.box (.k (.agg [.dat none (.int .i64 0),.dat none (.int .i64 0)]))),
 qs 3 (qW 2 4 15)]
def r4:List Ent:=[
 qe 0 16 (qA 2 4),
 qc 1 17 (qV F_spec_GoodStretch 16),
 qe 2 18 (qN 17)]
def r5:List Ent:=[
 qe 0 2 (.mv xF)]
def r6:List Ent:=[
 qe 0 19 (qK .add 12 1),
 qm 1 12 19]
def b0:KC:=.seq (.reg 448 1 r2) (.seq (.cond (.t 13) (.skip) (.exit 0)) (.seq (.block 1 (.seq (.reg 512 4 r3) (.seq (.reg 768 3 r4) (.cond (.t 18) (.seq (.reg 960 1 r5) (.ret)) (.skip))))) (.reg 1024 2 r6)))
def r7:List Ent:=[
 qe 0 20 (qD 1 1),
 qe 1 21 (qL 1 20),
 qe 2 22 (qZ 21),
 qe 3 23 (.mv (xN 0))]
def r8:List Ent:=[
 qe 0 24 (qB .lss 23 22)]
def r9:List Ent:=[
 qe 0 25 (qI 2 21 23),
 qe 1 26 (qA 2 25),
 qe 2 6 (.box (.k (.agg [.dat none (.int .i64 0),.dat none (.int .i64 0)]))),
 qs 3 (qW 2 6 26)]
def r10:List Ent:=[
 qe 0 27 (qA 2 6),
 qc 1 28 (qV F_spec_GoodKnown 27),
 qe 2 29 (qN 28)]
def r11:List Ent:=[
 qe 0 2 (.mv xF)]
def r12:List Ent:=[
 qe 0 30 (qK .add 23 1),
 qm 1 23 30]
def b1:KC:=.seq (.reg 1408 1 r8) (.seq (.cond (.t 24) (.skip) (.exit 2)) (.seq (.block 3 (.seq (.reg 1472 4 r9) (.seq (.reg 1728 3 r10) (.cond (.t 29) (.seq (.reg 1920 1 r11) (.ret)) (.skip))))) (.reg 1984 2 r12)))
def r13:List Ent:=[
 qe 0 31 (qD 2 1),
 qe 1 32 (qL 1 31),
 qe 2 33 (qZ 32),
 qe 3 34 (.mv (xN 0))]
def r14:List Ent:=[
 qe 0 35 (qB .lss 34 33)]
def r15:List Ent:=[
 qe 0 36 (qI 2 32 34),
 qe 1 37 (qA 2 36),
 qe 2 8 (.box (.k (.agg [.dat none (.int .i64 0),.dat none (.int .i64 0)]))),
 qs 3 (qW 2 8 37)]
def r16:List Ent:=[
 qe 0 38 (qA 2 8),
 qc 1 39 (qV F_spec_GoodStretch 38),
 qe 2 40 (qN 39)]
def r17:List Ent:=[
 qe 0 2 (.mv xF)]
def r18:List Ent:=[
 qe 0 41 (qK .add 34 1),
 qm 1 34 41]
def b2:KC:=.seq (.reg 2368 1 r14) (.seq (.cond (.t 35) (.skip) (.exit 4)) (.seq (.block 5 (.seq (.reg 2432 4 r15) (.seq (.reg 2688 3 r16) (.cond (.t 40) (.seq (.reg 2880 1 r17) (.ret)) (.skip))))) (.reg 2944 2 r18)))
def r19:List Ent:=[
 qe 0 42 (qD 0 1),
 qe 1 43 (qL 1 42),
 qe 2 44 (qZ 43),
 qe 3 45 (qK .eql 44 6),
 qm 4 46 45,
 qt 5 47 46 (qD 1 1),
 qt 6 48 46 (qL 1 47),
 qt 7 49 46 (qZ 48),
 qt 8 50 46 (qK .eql 49 6),
 qe 9 51 (.pick (.t 46) (.t 50) xF),
 qm 10 52 51,
 qt 11 53 52 (qD 2 1),
 qt 12 54 52 (qL 1 53),
 qt 13 55 52 (qZ 54),
 qt 14 56 52 (qK .eql 55 16),
 qe 15 57 (.pick (.t 52) (.t 56) xF),
 qm 16 58 57,
 qt 17 59 58 (qD 3 1),
 qt 18 60 58 (qL 1 59),
 qt 19 61 58 (qZ 60),
 qt 20 62 58 (qK .eql 61 16),
 qe 21 63 (.pick (.t 58) (.t 62) xF),
 qm 22 2 63]
def fi:FI:={ res:=[.t 2],code:=.seq (.reg 64 2 r0) (.seq (.seq (.reg 192 4 r1) (.block 0 (.loop b0))) (.seq (.seq (.reg 1152 4 r7) (.block 2 (.loop b1))) (.seq (.seq (.reg 2112 4 r13) (.block 4 (.loop b2))) (.seq (.reg 3072 23 r19) (.ret))))) }
attribute [go_sem] r0 r1 r2 r3 r4 r5 r6 r7 r8 r9 r10 r11 r12 r13 r14 r15 r16 r17 r18 r19
theorem ok:chkF prog F_spec_GoodMay 1 fi=true:=by kernel_rfl
end spec_GoodMay
namespace spec_JoinMay
def r0:List Ent:=[
 qe 0 2 (.box (.t 0)),
 qe 1 3 (.box (.t 1)),
 qe 2 4 (.box (.k (.agg [.nil 2,.nil 2,.nil 2,.nil 1]))),
 qe 3 5 (.mv xF)]
def r1:List Ent:=[
 qe 0 6 (qA 4 2),
 qc 1 7 (qV F_spec_GoodMay 6),
 qe 2 8 (qN 7),
 qm 3 9 8,
 qf 4 10 9 (qA 4 3),
 qj 5 11 9 (qV F_spec_GoodMay 10),
 qf 6 12 9 (qN 11),
 qe 7 13 (.pick (.t 9) xT (.t 12))]
def r2:List Ent:=[
 qe 0 14 (.bld [.k (.nil 2),.k (.nil 2),.k (.nil 2),.k (.nil 1)]),
 qs 1 (qW 4 4 14),
 qe 2 5 (.mv xF)]
def r3:List Ent:=[
 qe 0 15 (qA 4 2),
 qe 1 16 (qA 4 3),
 qc 2 17 (qC F_spec_l13Join [.t 15,.t 16]),
 qs 3 (qW 4 4 17),
 qe 4 5 (.mv xT)]
def fi:FI:={ res:=[.c 4 true 4,.t 5],code:=.seq (.reg 64 4 r0) (.seq (.seq (.reg 320 8 r1) (.cond (.t 13) (.seq (.reg 832 3 r2) (.ret)) (.skip))) (.seq (.reg 1024 5 r3) (.ret))) }
attribute [go_sem] r0 r1 r2 r3
theorem ok:chkF prog F_spec_JoinMay 2 fi=true:=by kernel_rfl
end spec_JoinMay
namespace spec_pl1Cur_machine
def r0:List Ent:=[
 qe 0 4 (.box (.k (.agg [.dat none (.int .i64 0),.nil 1,.nil 1,.nil 1])))]
def r1:List Ent:=[
 qc 0 8 (qC F_spec_NewMachine []),
 qe 1 5 (.box (.k (.agg [.dat none (.int .i64 0),.nil 1,.nil 1,.nil 1]))),
 qs 2 (qW 4 5 8)]
def r2:List Ent:=[
 qm 0 9 0,
 qm 1 10 1,
 qc 2 11 (.call F_spec_pl1Cur_pick true [(.io,.t 9),(.ro,.t 10)]),
 qe 3 12 (qD 0 5),
 qs 4 (qW 1 12 11)]
def r3:List Ent:=[
 qe 0 13 (qD 1 5),
 qe 1 14 (qL 1 13),
 qe 2 15 (qZ 14),
 qe 3 16 (.mv (xN 0))]
def r4:List Ent:=[
 qe 0 17 (qB .lss 16 15)]
def r5:List Ent:=[
 qm 0 18 16,
 qm 1 6 18]
def r6:List Ent:=[
 qm 2 21 6,
 qm 3 22 0,
 qm 4 23 0,
  EPB 5 (some 24) (.call F_spec_pl1Cur_word true [(.io,.t 23)]) 0 true,
 EP 6 (some 25) none (.i (.bsl false 1 [xN 0,xN 1,xN 5,.t 24])) 1 false,
  EPB 7 (some 26) (.call F_spec_pl1Cur_among true [(.io,.t 22),(.co,.t 25)]) 0 true,
  EB 0 (some 19) (.i (qD 1 5)) 2 [6] [5,7] false,
  EB 1 (some 20) (.i (qL 1 19)) 2 [6] [5,7] false,
 qe 8 27 (qI 1 20 21),
 qs 9 (qW 1 27 26)]
def r7:List Ent:=[
 qe 0 28 (qK .add 16 1),
 qm 1 16 28]
def b0:KC:=.seq (.reg 896 1 r4) (.seq (.cond (.t 17) (.skip) (.exit 0)) (.seq (.block 1 (.seq (.reg 960 2 r5) (.reg 1088 10 r6))) (.reg 1728 2 r7)))
def r8:List Ent:=[
 qe 0 29 (qD 2 5),
 qe 1 30 (qL 1 29),
 qe 2 31 (qZ 30),
 qe 3 32 (.mv (xN 0))]
def r9:List Ent:=[
 qe 0 33 (qB .lss 32 31)]
def r10:List Ent:=[
 qm 0 34 32,
 qm 1 7 34]
def r11:List Ent:=[
 qm 0 35 0,
 qc 1 36 (.call F_spec_pl1Cur_one true [(.io,.t 35),(.ro,xN 2)])]
def r12:List Ent:=[
 qm 2 39 7,
 qm 3 40 0,
  EPB 4 (some 41) (.call F_spec_pl1Cur_word true [(.io,.t 40)]) 0 true,
  EB 0 (some 37) (.i (qD 2 5)) 2 [] [4] false,
  EB 1 (some 38) (.i (qL 1 37)) 2 [] [4] false,
 qe 5 42 (qI 1 38 39),
 qs 6 (qW 1 42 41)]
def r13:List Ent:=[
 qe 0 43 (qD 3 5),
 qe 1 44 (qL 1 43),
 qm 2 45 7,
 qe 3 46 (qI 1 44 45),
 qs 4 (.store 1 (.t 46) xT)]
def r14:List Ent:=[
 qe 0 47 (qK .add 32 1),
 qm 1 32 47]
def b1:KC:=.seq (.reg 2112 1 r9) (.seq (.cond (.t 33) (.skip) (.exit 2)) (.seq (.block 3 (.seq (.reg 2176 2 r10) (.seq (.reg 2304 2 r11) (.cond (.t 36) (.seq (.reg 2432 7 r12) (.reg 2880 5 r13)) (.skip))))) (.reg 3200 2 r14)))
def r15:List Ent:=[
 qm 0 48 0,
 qc 1 49 (.call F_spec_pl1Cur_one true [(.io,.t 48),(.ro,xN 30)])]
def r16:List Ent:=[
 qm 2 52 0,
 EP 3 (some 53) none (.i (.bsl false 1 [xN (-1),xN 65536])) 1 false,
  EPB 4 (some 54) (.call F_spec_pl1Cur_among true [(.io,.t 52),(.co,.t 53)]) 0 true,
  EB 0 (some 50) (.i (qD 1 5)) 2 [3] [4] false,
  EB 1 (some 51) (.i (qL 1 50)) 2 [3] [4] false,
 qe 5 55 (.iad 1 (.t 51) (xN 0)),
 qs 6 (qW 1 55 54)]
def r17:List Ent:=[
 qe 0 56 (qA 4 5),
 qs 1 (qW 4 4 56)]
def fi:FI:={ res:=[.c 4 true 4],code:=.seq (.reg 64 1 r0) (.seq (.reg 128 3 r1) (.seq (.reg 320 5 r2) (.seq (.seq (.reg 640 4 r3) (.block 0 (.loop b0))) (.seq (.seq (.reg 1856 4 r8) (.block 2 (.loop b1))) (.seq (.seq (.reg 3328 2 r15) (.cond (.t 49) (.reg 3456 7 r16) (.skip))) (.seq (.reg 3904 2 r17) (.ret))))))) }
attribute [go_sem] r0 r1 r2 r3 r4 r5 r6 r7 r8 r9 r10 r11 r12 r13 r14 r15 r16 r17
theorem ok:chkF prog F_spec_pl1Cur_machine 2 fi=true:=by kernel_rfl
end spec_pl1Cur_machine
namespace spec_DrawInMay
def r0:List Ent:=[
 qe 0 2 (.box (.k (.agg [.nil 2,.nil 2,.nil 2,.nil 1]))),
 qe 1 3 (.box (.k (.agg [.dat none (.int .i64 0),.nil 1,.nil 1,.nil 1])))]
def r1:List Ent:=[
 qm 0 11 0,
 qe 1 12 (.bld [.t 11,.k (.dat none (.int .i64 0)),.k (.dat none (.int .u64 0))]),
 qe 2 13 (.box (.t 12)),
 qm 3 4 13]
def r2:List Ent:=[
 qm 0 14 4,
 qc 1 15 (.call F_spec_pl1Cur_machine true [(.io,.t 14),(.ro,xN 20)]),
 qe 2 5 (.box (.k (.agg [.dat none (.int .i64 0),.nil 1,.nil 1,.nil 1]))),
 qs 3 (qW 4 5 15)]
def r3:List Ent:=[
 qc 0 16 (qC F_spec_StartMay []),
 qe 1 6 (.box (.k (.agg [.nil 2,.nil 2,.nil 2,.nil 1]))),
 qs 2 (qW 4 6 16)]
def r4:List Ent:=[
 qe 0 17 (qD 1 5),
 qe 1 18 (qL 1 17),
 qe 2 19 (qZ 18),
 qe 3 20 (.mv (xN 0))]
def r5:List Ent:=[
 qe 0 21 (qB .lss 20 19)]
def r6:List Ent:=[
 qm 0 22 20,
 qe 1 23 (qI 1 18 20),
 qe 2 24 (qL 1 23),
 qm 3 7 22,
 qm 4 8 24]
def r7:List Ent:=[
 qm 0 26 8,
 qc 1 27 (qV F_spec_l13Const 26),
 qm 2 25 27,
 qe 3 28 (qX 0 25),
 qe 4 29 (qX 1 25),
 qe 5 9 (.box (.k (.agg [.dat none (.int .i64 0),.dat none (.int .i64 0)]))),
 qe 6 10 (.box (.k (.agg [.dat none (.int .i64 0),.dat none (.int .i64 0)]))),
 qs 7 (qW 2 9 28),
 qs 8 (qW 2 10 29)]
def r8:List Ent:=[
 qe 0 30 (qD 0 6),
 qe 1 31 (qL 1 30),
 qm 2 32 7,
 qe 3 33 (qA 2 9),
 qe 4 34 (qI 2 31 32),
 qs 5 (qW 2 34 33)]
def r9:List Ent:=[
 qe 0 35 (qD 1 6),
 qe 1 36 (qL 1 35),
 qm 2 37 7,
 qe 3 38 (qA 2 10),
 qe 4 39 (qI 2 36 37),
 qs 5 (qW 2 39 38)]
def r10:List Ent:=[
 qe 0 40 (qK .add 20 1),
 qm 1 20 40]
def b0:KC:=.seq (.reg 1152 1 r5) (.seq (.cond (.t 21) (.skip) (.exit 0)) (.seq (.block 1 (.seq (.reg 1216 5 r6) (.seq (.reg 1536 9 r7) (.seq (.reg 2112 6 r8) (.reg 2496 6 r9))))) (.reg 2880 2 r10)))
def r11:List Ent:=[
 qm 0 41 4,
 qc 1 42 (.call F_spec_pl1Cur_one true [(.io,.t 41),(.ro,xN 3)])]
def r12:List Ent:=[
 qm 0 43 4,
  EPB 1 (some 44) (.call F_spec_pl1Cur_may true [(.io,.t 43)]) 0 true,
  EPB 3 none (.i (qW 4 2 44)) 0 true,
  EB 2 (some 45) (.i (qA 4 5)) 2 [] [1,3] false,
 qs 4 (qW 4 3 45)]
def r13:List Ent:=[
 qr 0 46 (qA 4 6),
 EP 2 none none (.i (qW 4 2 46)) 0 true,
 qx 1 47 (qA 4 5) 2 [] [2] false,
 qs 3 (qW 4 3 47)]
def fi:FI:={ res:=[.c 2 true 4,.c 3 true 4],code:=.seq (.reg 64 2 r0) (.seq (.reg 192 4 r1) (.seq (.reg 448 4 r2) (.seq (.reg 704 3 r3) (.seq (.seq (.reg 896 4 r4) (.block 0 (.loop b0))) (.seq (.seq (.reg 3008 2 r11) (.cond (.t 42) (.seq (.reg 3136 5 r12) (.ret)) (.skip))) (.seq (.reg 3456 4 r13) (.ret))))))) }
attribute [go_sem] r0 r1 r2 r3 r4 r5 r6 r7 r8 r9 r10 r11 r12 r13
theorem ok:chkF prog F_spec_DrawInMay 1 fi=true:=by kernel_rfl
end spec_DrawInMay
namespace spec_GoodMachine
def r0:List Ent:=[
 qe 0 1 (.box (.t 0)),
 qe 1 2 (.mv xF)]
def r1:List Ent:=[
 qe 0 3 (qD 0 1),
 qe 1 4 (qL 1 3),
 qc 2 5 (qC F_spec_l1In [.t 4,xN 0,xN 19]),
 qm 3 6 5,
 qt 4 7 6 (qD 1 1),
 qt 5 8 6 (qL 1 7),
 qt 6 9 6 (qZ 8),
 qt 7 10 6 (qK .eql 9 6),
 qe 8 11 (.pick (.t 6) (.t 10) xF),
 qm 9 12 11,
 qt 10 13 12 (qD 1 1),
 qt 11 14 12 (qL 1 13),
 qh 12 15 12 (qC F_spec_l1All [.t 14,xN 0,xN 65535]),
 qe 13 16 (.pick (.t 12) (.t 15) xF),
 qm 14 17 16,
 qt 15 18 17 (qD 2 1),
 qt 16 19 17 (qL 1 18),
 qt 17 20 17 (qZ 19),
 qt 18 21 17 (qK .eql 20 16),
 qe 19 22 (.pick (.t 17) (.t 21) xF),
 qm 20 23 22,
 qt 21 24 23 (qD 2 1),
 qt 22 25 23 (qL 1 24),
 qh 23 26 23 (qC F_spec_l1All [.t 25,xN 0,xN 65535]),
 qe 24 27 (.pick (.t 23) (.t 26) xF),
 qm 25 28 27,
 qt 26 29 28 (qD 3 1),
 qt 27 30 28 (qL 1 29),
 qt 28 31 28 (qZ 30),
 qt 29 32 28 (qK .eql 31 16),
 qe 30 33 (.pick (.t 28) (.t 32) xF),
 qm 31 2 33]
def fi:FI:={ res:=[.t 2],code:=.seq (.reg 64 2 r0) (.seq (.reg 192 32 r1) (.ret)) }
attribute [go_sem] r0 r1
theorem ok:chkF prog F_spec_GoodMachine 1 fi=true:=by kernel_rfl
end spec_GoodMachine
namespace spec_InMay
def r0:List Ent:=[
 qe 0 2 (.box (.t 0)),
 qe 1 3 (.box (.t 1)),
 qe 2 4 (.mv xF),
 qe 3 5 (.mv xF)]
def r1:List Ent:=[
 qe 0 10 (qA 4 2),
 qc 1 11 (qV F_spec_GoodMay 10),
 qe 2 12 (qN 11),
 qm 3 13 12,
 qf 4 14 13 (qA 4 3),
 qj 5 15 13 (qV F_spec_GoodMachine 14),
 qf 6 16 13 (qN 15),
 qe 7 17 (.pick (.t 13) xT (.t 16))]
def r2:List Ent:=[
 qe 0 4 (.mv xF),
 qe 1 5 (.mv xF)]
def r3:List Ent:=[
 qe 0 18 (qD 1 3),
 qe 1 19 (qL 1 18),
 qe 2 20 (qZ 19),
 qe 3 21 (.mv (xN 0))]
def r4:List Ent:=[
 qe 0 22 (qB .lss 21 20)]
def r5:List Ent:=[
 qm 0 23 21,
 qe 1 24 (qI 1 19 21),
 qe 2 25 (qL 1 24),
 qm 3 6 23,
 qm 4 7 25]
def r6:List Ent:=[
 qm 0 26 7,
 qr 1 27 (qD 0 2),
 qr 2 28 (qL 1 27),
 qm 3 29 6,
 qr 4 30 (qI 2 28 29),
 qr 5 31 (qD 0 30),
 qr 6 32 (qL 1 31),
 qr 7 33 (qD 0 2),
 qr 8 34 (qL 1 33),
 qm 9 35 6,
 qr 10 36 (qI 2 34 35),
 qr 11 37 (qD 1 36),
 qr 12 38 (qL 1 37),
 qc 13 39 (qC F_spec_l1In [.t 26,.t 32,.t 38]),
 qe 14 40 (qN 39),
 qm 15 41 40,
 qf 16 42 41 (qD 1 2),
 qf 17 43 41 (qL 1 42),
 qf 18 44 41 (qM 6),
 qf 19 45 41 (qI 2 43 44),
 qf 20 46 41 (qA 2 45),
 qf 21 47 41 (qM 7),
 qj 22 48 41 (qC F_spec_l10May [.t 46,.t 47]),
 qf 23 49 41 (qN 48),
 qe 24 50 (.pick (.t 41) xT (.t 49))]
def r7:List Ent:=[
 qe 0 4 (.mv xF),
 qe 1 5 (.mv xT)]
def r8:List Ent:=[
 qe 0 51 (qK .add 21 1),
 qm 1 21 51]
def b0:KC:=.seq (.reg 1216 1 r4) (.seq (.cond (.t 22) (.skip) (.exit 0)) (.seq (.block 1 (.seq (.reg 1280 5 r5) (.seq (.reg 1600 25 r6) (.cond (.t 50) (.seq (.reg 3200 2 r7) (.ret)) (.skip))))) (.reg 3328 2 r8)))
def r9:List Ent:=[
 qe 0 52 (qD 3 3),
 qe 1 53 (qL 1 52),
 qe 2 54 (qZ 53),
 qe 3 55 (.mv (xN 0))]
def r10:List Ent:=[
 qe 0 56 (qB .lss 55 54)]
def r11:List Ent:=[
 qm 0 57 55,
 qe 1 58 (qI 1 53 55),
 qe 2 59 (qL 1 58),
 qm 3 8 57,
 qm 4 9 59]
def r12:List Ent:=[
 qe 0 60 (qD 3 2),
 qe 1 61 (qL 1 60),
 qm 2 62 8,
 qe 3 63 (qI 1 61 62),
 qe 4 64 (qL 1 63),
 qm 5 65 64,
 qt 6 66 65 (qM 9),
 qt 7 67 65 (qN 66),
 qe 8 68 (.pick (.t 65) (.t 67) xF),
 qm 9 69 68,
 qf 10 70 69 (qM 9),
 qf 11 71 69 (qM 70),
 ER 12 (some 72) (some (71,true)) (qD 2 3),
 ER 13 (some 73) (some (71,true)) (qL 1 72),
 qt 14 74 71 (qM 8),
 ER 15 (some 75) (some (71,true)) (qI 1 73 74),
 ER 16 (some 76) (some (71,true)) (qL 1 75),
 ER 17 (some 77) (some (71,true)) (qD 2 2),
 ER 18 (some 78) (some (71,true)) (qL 1 77),
 qt 19 79 71 (qM 8),
 ER 20 (some 80) (some (71,true)) (qI 2 78 79),
 ER 21 (some 81) (some (71,true)) (qD 0 80),
 ER 22 (some 82) (some (71,true)) (qL 1 81),
 ER 23 (some 83) (some (71,true)) (qD 2 2),
 ER 24 (some 84) (some (71,true)) (qL 1 83),
 qt 25 85 71 (qM 8),
 ER 26 (some 86) (some (71,true)) (qI 2 84 85),
 ER 27 (some 87) (some (71,true)) (qD 1 86),
 ER 28 (some 88) (some (71,true)) (qL 1 87),
 qh 29 89 71 (qC F_spec_l1In [.t 76,.t 82,.t 88]),
 qt 30 90 71 (qN 89),
 qf 31 91 69 (.pick (.t 71) (.t 90) xF),
 qe 32 92 (.pick (.t 69) xT (.t 91))]
def r13:List Ent:=[
 qe 0 4 (.mv xF),
 qe 1 5 (.mv xT)]
def r14:List Ent:=[
 qe 0 93 (qK .add 55 1),
 qm 1 55 93]
def b1:KC:=.seq (.reg 3712 1 r10) (.seq (.cond (.t 56) (.skip) (.exit 2)) (.seq (.block 3 (.seq (.reg 3776 5 r11) (.seq (.reg 4096 33 r12) (.cond (.t 92) (.seq (.reg 6208 2 r13) (.ret)) (.skip))))) (.reg 6336 2 r14)))
def r15:List Ent:=[
 qe 0 4 (.mv xT),
 qe 1 5 (.mv xT)]
def fi:FI:={ res:=[.t 4,.t 5],code:=.seq (.reg 64 4 r0) (.seq (.seq (.reg 320 8 r1) (.cond (.t 17) (.seq (.reg 832 2 r2) (.ret)) (.skip))) (.seq (.seq (.reg 960 4 r3) (.block 0 (.loop b0))) (.seq (.seq (.reg 3456 4 r9) (.block 2 (.loop b1))) (.seq (.reg 6464 2 r15) (.ret))))) }
attribute [go_sem] r0 r1 r2 r3 r4 r5 r6 r7 r8 r9 r10 r11 r12 r13 r14 r15
theorem ok:chkF prog F_spec_InMay 2 fi=true:=by kernel_rfl
end spec_InMay
namespace laws_FnMay
def r0:List Ent:=[
 qe 0 4 (.mv xF)]
def r1:List Ent:=[
 qm 0 33 0,
 qe 1 34 (qZ 33),
 qm 2 35 1,
 qe 3 36 (qZ 35),
 qe 4 37 (qB .add 34 36),
 qe 5 38 (qK .gtr 37 1048576)]
def r2:List Ent:=[
 qe 0 4 (.mv xT)]
def r3:List Ent:=[
 qm 0 40 0,
 qc 1 41 (qV F_spec_DrawTraceOf 40),
 qm 2 39 41,
 qe 3 42 (qX 0 39),
 qe 4 43 (qX 1 39),
 qm 5 5 42,
 qm 6 6 43]
def r4:List Ent:=[
 qm 0 45 5,
 qc 1 46 (qV F_impl_AnalyseProgram 45),
 qm 2 44 46,
 qe 3 47 (qX 0 44),
 qe 4 48 (qX 1 44),
 qe 5 7 (.box (.k (.agg [.nil 1,.nil 4,.nil 1]))),
 qs 6 (qW 3 7 47),
 qm 7 8 48]
def r5:List Ent:=[
 qm 0 50 5,
 qc 1 51 (qV F_spec_AnalyseProgram 50),
 qm 2 49 51,
 qe 3 52 (qX 0 49),
 qe 4 53 (qX 1 49),
 qe 5 9 (.box (.k (.agg [.nil 1,.nil 4,.nil 1]))),
 qs 6 (qW 3 9 52),
 qm 7 10 53]
def r6:List Ent:=[
 qm 0 54 8,
 qm 1 55 10,
 qe 2 56 (.eqb true (.t 54) (.t 55)),
 qm 3 57 56,
 qf 4 58 57 (qD 0 7),
 qf 5 59 57 (qL 1 58),
 qf 6 60 57 (qD 0 9),
 qf 7 61 57 (qL 1 60),
 qj 8 62 57 (qC F_laws_sameBools [.t 59,.t 61]),
 qf 9 63 57 (qN 62),
 qe 10 64 (.pick (.t 57) xT (.t 63)),
 qm 11 65 64,
 qf 12 66 65 (qD 2 7),
 qf 13 67 65 (qL 1 66),
 qf 14 68 65 (qD 2 9),
 qf 15 69 65 (qL 1 68),
 qj 16 70 65 (qC F_laws_sameInts [.t 67,.t 69]),
 qf 17 71 65 (qN 70),
 qe 18 72 (.pick (.t 65) xT (.t 71)),
 qm 19 73 72,
 qf 20 74 73 (qD 1 7),
 qf 21 75 73 (qL 1 74),
 qf 22 76 73 (qZ 75),
 qf 23 77 73 (qD 1 9),
 qf 24 78 73 (qL 1 77),
 qf 25 79 73 (qZ 78),
 qf 26 80 73 (qB .neq 76 79),
 qe 27 81 (.pick (.t 73) xT (.t 80))]
def r7:List Ent:=[
 qe 0 4 (.mv xF)]
def r8:List Ent:=[
 qe 0 82 (qD 1 7),
 qe 1 83 (qL 1 82),
 qe 2 84 (qZ 83),
 qe 3 85 (.mv (xN 0))]
def r9:List Ent:=[
 qe 0 86 (qB .lss 85 84)]
def r10:List Ent:=[
 qm 0 87 85,
 qm 1 11 87]
def r11:List Ent:=[
 qr 0 88 (qD 1 7),
 qr 1 89 (qL 1 88),
 qm 2 90 11,
 qr 3 91 (qI 4 89 90),
 qr 4 92 (qA 4 91),
 qr 5 93 (qD 1 9),
 qr 6 94 (qL 1 93),
 qm 7 95 11,
 qr 8 96 (qI 4 94 95),
 qr 9 97 (qA 4 96),
 qc 10 98 (qC F_laws_sameMay [.t 92,.t 97]),
 qe 11 99 (qN 98)]
def r12:List Ent:=[
 qe 0 4 (.mv xF)]
def r13:List Ent:=[
 qe 0 100 (qK .add 85 1),
 qm 1 85 100]
def b0:KC:=.seq (.reg 4160 1 r9) (.seq (.cond (.t 86) (.skip) (.exit 0)) (.seq (.block 1 (.seq (.reg 4224 2 r10) (.seq (.reg 4352 12 r11) (.cond (.t 99) (.seq (.reg 5120 1 r12) (.ret)) (.skip))))) (.reg 5184 2 r13)))
def r14:List Ent:=[
 qc 0 101 (qC F_impl_NewMachine []),
 qe 1 12 (.box (.k (.agg [.dat none (.int .i64 0),.nil 1,.nil 1,.nil 1]))),
 qs 2 (qW 4 12 101)]
def r15:List Ent:=[
 qe 0 13 (.mv (xN 0))]
def r16:List Ent:=[
 qm 0 102 8,
 qm 1 103 102,
 qt 2 104 103 (qM 13),
 qt 3 105 103 (qK .lss 104 20),
 qe 4 106 (.pick (.t 103) (.t 105) xF)]
def r17:List Ent:=[
 qm 0 110 5,
 qm 1 111 6,
 qe 2 112 (qA 4 12),
 qc 3 113 (qC F_impl_DoStep [.t 110,.t 111,.t 112]),
 qm 4 109 113,
 qe 5 114 (qX 0 109),
 qe 6 115 (qX 1 109),
 qe 7 116 (qX 2 109),
 qe 8 117 (qX 3 109),
 qe 9 14 (.box (.k (.agg [.dat none (.int .i64 0),.nil 1,.nil 1,.nil 1]))),
 qs 10 (qW 4 14 114),
 qm 11 15 115,
 qm 12 16 116,
 qm 13 17 117]
def r18:List Ent:=[
 qm 0 118 17,
 qe 1 119 (qN 118)]
def r19:List Ent:=[
 qe 0 120 (qD 0 12),
 qe 1 121 (qL 1 120),
 qe 2 122 (qK .lss 121 0),
 qm 3 123 122,
 qf 4 124 123 (qD 0 12),
 qf 5 125 123 (qL 1 124),
 qf 6 126 123 (qD 1 7),
 qf 7 127 123 (qL 1 126),
 qf 8 128 123 (qZ 127),
 qf 9 129 123 (qB .geq 125 128),
 qe 10 130 (.pick (.t 123) xT (.t 129)),
 qm 11 131 130,
 qf 12 132 131 (qD 0 12),
 qf 13 133 131 (qL 1 132),
 qf 14 134 131 (qD 0 7),
 qf 15 135 131 (qL 1 134),
 qf 16 136 131 (qZ 135),
 qf 17 137 131 (qB .geq 133 136),
 qe 18 138 (.pick (.t 131) xT (.t 137))]
def r20:List Ent:=[
 qe 0 4 (.mv xF)]
def r21:List Ent:=[
 qr 0 140 (qD 1 7),
 qr 1 141 (qL 1 140),
 qr 2 142 (qD 0 12),
 qr 3 143 (qL 1 142),
 qr 4 144 (qI 4 141 143),
 qr 5 145 (qA 4 144),
 qr 6 146 (qA 4 12),
 qc 7 147 (qC F_impl_InMay [.t 145,.t 146]),
 qm 8 139 147,
 qr 9 148 (qX 0 139),
 qr 10 149 (qX 1 139),
 qm 11 18 148,
 qm 12 19 149]
def r22:List Ent:=[
 qe 0 150 (qD 0 7),
 qe 1 151 (qL 1 150),
 qe 2 152 (qD 0 12),
 qe 3 153 (qL 1 152),
 qe 4 154 (qI 1 151 153),
 qe 5 155 (qL 1 154),
 qe 6 156 (qN 155),
 qm 7 157 156,
 qf 8 158 157 (qM 19),
 qf 9 159 157 (qN 158),
 qe 10 160 (.pick (.t 157) xT (.t 159)),
 qm 11 161 160,
 qf 12 162 161 (qM 18),
 qf 13 163 161 (qN 162),
 qe 14 164 (.pick (.t 161) xT (.t 163)),
 qm 15 165 164,
 qf 16 166 165 (qM 15),
 qf 17 167 165 (qK .gtr 166 0),
 qf 18 168 165 (qM 167),
 qt 19 169 168 (qD 2 7),
 qt 20 170 168 (qL 1 169),
 qt 21 171 168 (qD 0 12),
 qt 22 172 168 (qL 1 171),
 qh 23 173 168 (qC F_laws_has [.t 170,.t 172]),
 qt 24 174 168 (qN 173),
 qf 25 175 165 (.pick (.t 168) (.t 174) xF),
 qe 26 176 (.pick (.t 165) xT (.t 175))]
def r23:List Ent:=[
 qe 0 4 (.mv xF)]
def r24:List Ent:=[
 qm 0 177 15,
 qe 1 178 (qK .gtr 177 0),
 qm 2 179 178,
 qf 3 180 179 (qM 16),
 qe 4 181 (.pick (.t 179) xT (.t 180)),
 qm 5 182 181,
 qf 6 183 182 (qD 2 7),
 qf 7 184 182 (qL 1 183),
 qf 8 185 182 (qD 0 12),
 qf 9 186 182 (qL 1 185),
 qj 10 187 182 (qC F_laws_has [.t 184,.t 186]),
 qe 11 188 (.pick (.t 182) xT (.t 187))]
def r25:List Ent:=[
 qe 0 189 (qA 4 14),
 qs 1 (qW 4 12 189)]
def r26:List Ent:=[
 qm 0 107 13,
 qe 1 108 (qK .add 107 1),
 qm 2 13 108]
def b1:KC:=.seq (.seq (.reg 5568 5 r16) (.cond (.t 106) (.skip) (.exit 2))) (.seq (.block 3 (.seq (.reg 5888 14 r17) (.seq (.seq (.reg 6784 2 r18) (.cond (.t 119) (.exit 2) (.skip))) (.seq (.seq (.reg 6912 19 r19) (.cond (.t 138) (.seq (.reg 8128 1 r20) (.ret)) (.skip))) (.seq (.reg 8192 13 r21) (.seq (.seq (.reg 9024 27 r22) (.cond (.t 176) (.seq (.reg 10752 1 r23) (.ret)) (.skip))) (.seq (.seq (.reg 10816 12 r24) (.cond (.t 188) (.exit 2) (.skip))) (.fz 14 (.reg 11584 2 r25))))))))) (.reg 11712 3 r26))
def r27:List Ent:=[
 qm 0 191 1,
 qc 1 192 (qV F_spec_DrawJoinMay 191),
 qm 2 190 192,
 qe 3 193 (qX 0 190),
 qe 4 194 (qX 1 190),
 qe 5 20 (.box (.k (.agg [.nil 2,.nil 2,.nil 2,.nil 1]))),
 qe 6 21 (.box (.k (.agg [.nil 2,.nil 2,.nil 2,.nil 1]))),
 qs 7 (qW 4 20 193),
 qs 8 (qW 4 21 194)]
def r28:List Ent:=[
 qe 0 196 (qA 4 20),
 qe 1 197 (qA 4 21),
 qc 2 198 (qC F_impl_JoinMay [.t 196,.t 197]),
 qm 3 195 198,
 qe 4 199 (qX 0 195),
 qe 5 200 (qX 1 195),
 qe 6 22 (.box (.k (.agg [.nil 2,.nil 2,.nil 2,.nil 1]))),
 qs 7 (qW 4 22 199),
 qm 8 23 200]
def r29:List Ent:=[
 qe 0 202 (qA 4 20),
 qe 1 203 (qA 4 21),
 qc 2 204 (qC F_spec_JoinMay [.t 202,.t 203]),
 qm 3 201 204,
 qe 4 205 (qX 0 201),
 qe 5 206 (qX 1 201),
 qe 6 24 (.box (.k (.agg [.nil 2,.nil 2,.nil 2,.nil 1]))),
 qs 7 (qW 4 24 205),
 qm 8 25 206]
def r30:List Ent:=[
 qm 0 208 1,
 qc 1 209 (qV F_spec_DrawInMay 208),
 qm 2 207 209,
 qe 3 210 (qX 0 207),
 qe 4 211 (qX 1 207),
 qe 5 26 (.box (.k (.agg [.nil 2,.nil 2,.nil 2,.nil 1]))),
 qe 6 27 (.box (.k (.agg [.dat none (.int .i64 0),.nil 1,.nil 1,.nil 1]))),
 qs 7 (qW 4 26 210),
 qs 8 (qW 4 27 211)]
def r31:List Ent:=[
 qe 0 213 (qA 4 26),
 qe 1 214 (qA 4 27),
 qc 2 215 (qC F_impl_InMay [.t 213,.t 214]),
 qm 3 212 215,
 qe 4 216 (qX 0 212),
 qe 5 217 (qX 1 212),
 qm 6 28 216,
 qm 7 29 217]
def r32:List Ent:=[
 qe 0 219 (qA 4 26),
 qe 1 220 (qA 4 27),
 qc 2 221 (qC F_spec_InMay [.t 219,.t 220]),
 qm 3 218 221,
 qe 4 222 (qX 0 218),
 qe 5 223 (qX 1 218),
 qm 6 30 222,
 qm 7 31 223]
def r33:List Ent:=[
 qc 0 224 (qC F_impl_StartMay []),
 qe 1 32 (.box (.k (.agg [.nil 2,.nil 2,.nil 2,.nil 1]))),
 qs 2 (qW 4 32 224)]
def r34:List Ent:=[
 qm 0 225 23,
 qm 1 226 25,
 qe 2 227 (.eqb false (.t 225) (.t 226)),
 qm 3 228 227,
 ER 4 (some 229) (some (228,true)) (qA 4 22),
 ER 5 (some 230) (some (228,true)) (qA 4 24),
 qh 6 231 228 (qC F_laws_sameMay [.t 229,.t 230]),
 qe 7 232 (.pick (.t 228) (.t 231) xF),
 qm 8 233 232,
 qt 9 234 233 (qM 29),
 qt 10 235 233 (qM 31),
 qt 11 236 233 (.eqb false (.t 234) (.t 235)),
 qe 12 237 (.pick (.t 233) (.t 236) xF),
 qm 13 238 237,
 qt 14 239 238 (qM 28),
 qt 15 240 238 (qM 30),
 qt 16 241 238 (.eqb false (.t 239) (.t 240)),
 qe 17 242 (.pick (.t 238) (.t 241) xF),
 qm 18 243 242,
 EX 19 (some 244) (some (243,true)) (.i (qA 4 32)) 2 [20] [] false,
 EP 20 (some 245) (some (243,true)) (.call F_spec_StartMay false (roA [])) 1 false,
 qh 21 246 243 (qC F_laws_sameMay [.t 244,.t 245]),
 qe 22 247 (.pick (.t 243) (.t 246) xF),
 qm 23 248 247,
 ER 24 (some 249) (some (248,true)) (qA 4 20),
  E2 25 (some 250) (some (248,true)) (.call F_impl_GoodMay false (roA [.t 249])),
 ER 26 (some 251) (some (248,true)) (qA 4 20),
 qh 27 252 248 (qV F_spec_GoodMay 251),
 qt 28 253 248 (.eqb false (.t 250) (.t 252)),
 qe 29 254 (.pick (.t 248) (.t 253) xF),
 qm 30 255 254,
 qt 31 256 255 (qM 23),
 qt 32 257 255 (qN 256),
 qt 33 258 255 (qM 257),
 qf 34 259 258 (qA 4 22),
 qj 35 260 258 (qV F_impl_GoodMay 259),
 qt 36 261 255 (.pick (.t 258) xT (.t 260)),
 qe 37 262 (.pick (.t 255) (.t 261) xF),
 qm 38 4 262]
def fi:FI:={ res:=[.t 4],code:=.seq (.reg 64 1 r0) (.seq (.seq (.reg 128 6 r1) (.cond (.t 38) (.seq (.reg 512 1 r2) (.ret)) (.skip))) (.seq (.reg 576 7 r3) (.seq (.fz 6 (.fz 5 (.reg 1024 8 r4))) (.seq (.reg 1536 8 r5) (.seq (.seq (.fz 9 (.fz 7 (.reg 2048 28 r6))) (.cond (.t 81) (.seq (.reg 3840 1 r7) (.ret)) (.skip))) (.seq (.seq (.reg 3904 4 r8) (.block 0 (.loop b0))) (.seq (.reg 5312 3 r14) (.seq (.seq (.fz 12 (.reg 5504 1 r15)) (.block 2 (.loop b1))) (.seq (.reg 11904 9 r27) (.seq (.reg 12480 9 r28) (.seq (.reg 13056 9 r29) (.seq (.reg 13632 9 r30) (.seq (.reg 14208 8 r31) (.seq (.reg 14720 8 r32) (.seq (.reg 15232 3 r33) (.seq (.reg 15424 39 r34) (.ret))))))))))))))))) }
attribute [go_sem] r0 r1 r2 r3 r4 r5 r6 r7 r8 r9 r10 r11 r12 r13 r14 r15 r16 r17 r18 r19 r20 r21 r22 r23 r24 r25 r26 r27 r28 r29 r30 r31 r32 r33 r34
theorem ok:chkF prog F_laws_FnMay 2 fi=true:=by kernel_rfl
end laws_FnMay
end Go.Vm.YtmbhjcgikblpiaaGreat
