/- The functions that the law reaches, in the text of the interpreter, and that this text fits them: part 2 (no condition). -/
import Derived.Test.YtmicgdfekpoajaaIra
import Derived.Test.YtmicgdfekpoajaaProg
import Derived.KernelRfl
namespace Go.Vm.Ytmicgdfekpoajaa
open Go Go.Vm
set_option linter.unusedVariables false
set_option maxRecDepth 100000
namespace spec_pl1Cur_may
def r0:List Ent:=[
 qe 0 2 (.box (.k (.agg [.nil 2,.nil 2,.nil 2,.nil 1])))]
def r1:List Ent:=[
 qc 0 7 (qC F_spec_StartMay []),
 qe 1 3 (.box (.k (.agg [.nil 2,.nil 2,.nil 2,.nil 1]))),
 qs 2 (qW 4 3 7)]
def r2:List Ent:=[
 qe 0 8 (qD 0 3),
 qe 1 9 (qL 1 8),
 qe 2 10 (qZ 9),
 qe 3 11 (.mv (xN 0))]
def r3:List Ent:=[
 qe 0 12 (qB .lss 11 10)]
def r4:List Ent:=[
 qm 0 13 11,
 qm 1 4 13]
def r5:List Ent:=[
 qm 0 14 0,
 qc 1 15 (.call F_spec_pl1Cur_word true [(.io,.t 14)]),
 qm 2 5 15]
def r6:List Ent:=[
 qm 1 17 4,
 qm 2 18 0,
  EPB 3 (some 19) (.call F_spec_pl1Cur_stretch true [(.io,.t 18)]) 0 true,
 qm 4 20 5,
 qm 5 21 0,
  EPB 6 (some 22) (.call F_spec_pl1Cur_word true [(.io,.t 21)]) 0 true,
  EB 0 (some 16) (.i (qA 4 3)) 2 [] [3,6] false,
  E2 7 (some 23) none (.call F_spec_l10Not false (roA [.t 20,.t 22])),
 qc 8 24 (.call F_spec_l13Set false [(.co,.t 16),(.ro,.t 17),(.ro,.t 19),(.ro,.t 23)]),
 qs 9 (qW 4 3 24)]
def r7:List Ent:=[
 qe 0 25 (qD 0 3),
 qe 1 26 (qL 1 25),
 qm 2 27 4,
 qe 3 28 (qI 2 26 27),
 qe 4 29 (qA 2 28),
 qc 5 30 (qV F_spec_GoodStretch 29),
 qe 6 31 (qN 30)]
def r8:List Ent:=[
 qr 0 32 (qD 0 3),
 qr 1 33 (qL 1 32),
 qm 2 34 4,
  E2 3 (some 35) none (.call F_spec_l9All false (roA [])),
 qe 4 36 (qI 2 33 34),
 qs 5 (qW 2 36 35)]
def r9:List Ent:=[
 qe 0 37 (qK .add 11 1),
 qm 1 11 37]
def b0:KC:=.seq (.reg 576 1 r3) (.seq (.cond (.t 12) (.skip) (.exit 0)) (.seq (.block 1 (.seq (.reg 640 2 r4) (.seq (.reg 768 3 r5) (.seq (.reg 960 10 r6) (.seq (.reg 1600 7 r7) (.cond (.t 31) (.reg 2048 6 r8) (.skip))))))) (.reg 2432 2 r9)))
def r10:List Ent:=[
 qe 0 38 (qD 2 3),
 qe 1 39 (qL 1 38),
 qe 2 40 (qZ 39),
 qe 3 41 (.mv (xN 0))]
def r11:List Ent:=[
 qe 0 42 (qB .lss 41 40)]
def r12:List Ent:=[
 qm 0 43 41,
 qm 1 6 43]
def r13:List Ent:=[
 qm 0 44 0,
 qc 1 45 (.call F_spec_pl1Cur_one true [(.io,.t 44),(.ro,xN 2)])]
def r14:List Ent:=[
 qe 0 46 (qD 3 3),
 qe 1 47 (qL 1 46),
 qm 2 48 6,
 qe 3 49 (qI 1 47 48),
 qs 4 (.store 1 (.t 49) xT)]
def r15:List Ent:=[
 qm 2 52 6,
 qm 3 53 0,
  EPB 4 (some 54) (.call F_spec_pl1Cur_word true [(.io,.t 53)]) 0 true,
  EB 0 (some 50) (.i (qD 2 3)) 2 [] [4] false,
  EB 1 (some 51) (.i (qL 1 50)) 2 [] [4] false,
 qr 5 55 (.bld [xN 0,.t 54]),
 qe 6 56 (qI 2 51 52),
 qs 7 (qW 2 56 55)]
def r16:List Ent:=[
 qe 0 57 (qK .add 41 1),
 qm 1 41 57]
def b1:KC:=.seq (.reg 2816 1 r11) (.seq (.cond (.t 42) (.skip) (.exit 2)) (.seq (.block 3 (.seq (.reg 2880 2 r12) (.seq (.reg 3008 2 r13) (.cond (.t 45) (.seq (.reg 3136 5 r14) (.reg 3456 8 r15)) (.skip))))) (.reg 3968 2 r16)))
def r17:List Ent:=[
 qm 0 58 0,
 qc 1 59 (.call F_spec_pl1Cur_one true [(.io,.t 58),(.ro,xN 30)])]
def r18:List Ent:=[
 qe 0 60 (qD 0 3),
 qe 1 61 (qL 1 60),
 qe 2 62 (.bld [xN 5,xN 4]),
 qe 3 63 (.iad 2 (.t 61) (xN 0)),
 qs 4 (qW 2 63 62)]
def r19:List Ent:=[
 qe 0 64 (qA 4 3),
 qs 1 (qW 4 2 64)]
def fi:FI:={ res:=[.c 2 true 4],code:=.seq (.reg 64 1 r0) (.seq (.reg 128 3 r1) (.seq (.seq (.reg 320 4 r2) (.block 0 (.loop b0))) (.seq (.seq (.reg 2560 4 r10) (.block 2 (.loop b1))) (.seq (.seq (.reg 4096 2 r17) (.cond (.t 59) (.reg 4224 5 r18) (.skip))) (.seq (.reg 4544 2 r19) (.ret)))))) }
attribute [go_sem] r0 r1 r2 r3 r4 r5 r6 r7 r8 r9 r10 r11 r12 r13 r14 r15 r16 r17 r18 r19
theorem ok:chkF prog F_spec_pl1Cur_may 1 fi=true:=by kernel_rfl
end spec_pl1Cur_may
namespace spec_DrawHeedJump
def r0:List Ent:=[
 qe 0 2 (.box (.k (.agg [.dat none (.int .i64 0),.dat none (.int .i64 0),.dat none (.int .i64 0),.dat none (.int .i64 0),.dat none (.int .i64 0),.dat none (.int .i64 0)]))),
 qe 1 3 (.box (.k (.agg [.nil 2,.nil 2,.nil 2,.nil 1]))),
 qe 2 4 (.mv xF)]
def r1:List Ent:=[
 qm 0 6 0,
 qe 1 7 (.bld [.t 6,.k (.dat none (.int .i64 0)),.k (.dat none (.int .u64 0))]),
 qe 2 8 (.box (.t 7)),
 qm 3 5 8]
def r2:List Ent:=[
 qm 0 9 5,
 qe 1 10 (.bsl false 1 [xN 9,xN 10,xN 10,xN 8]),
 qc 2 11 (.call F_spec_pl1Cur_among true [(.io,.t 9),(.co,.t 10)]),
 qm 3 12 5,
 qc 4 13 (.call F_spec_pl1Cur_pick true [(.io,.t 12),(.ro,xN 3)]),
 qm 5 14 5,
 qc 6 15 (.call F_spec_pl1Cur_pick true [(.io,.t 14),(.ro,xN 3)]),
 qe 7 16 (.bld [.t 11,.k (.dat none (.int .i64 0)),.t 13,.t 15,.k (.dat none (.int .i64 0)),xN 1]),
 qm 8 17 5,
 qc 9 18 (.call F_spec_pl1Cur_may true [(.io,.t 17)]),
 qm 10 19 5,
 qc 11 20 (.call F_spec_pl1Cur_one true [(.io,.t 19),(.ro,xN 2)]),
 qs 12 (qW 6 2 16),
 qs 13 (qW 4 3 18),
 qm 14 4 20]
def fi:FI:={ res:=[.c 2 true 6,.c 3 true 4,.t 4],code:=.seq (.reg 64 3 r0) (.seq (.reg 256 4 r1) (.seq (.reg 512 15 r2) (.ret))) }
attribute [go_sem] r0 r1 r2
theorem ok:chkF prog F_spec_DrawHeedJump 1 fi=true:=by kernel_rfl
end spec_DrawHeedJump
namespace spec_pl1Cur_step
def r0:List Ent:=[
 qe 0 4 (.box (.k (.agg [.dat none (.int .i64 0),.dat none (.int .i64 0),.dat none (.int .i64 0),.dat none (.int .i64 0),.dat none (.int .i64 0),.dat none (.int .i64 0)])))]
def r1:List Ent:=[
 qm 0 6 0,
 qe 1 7 (.bsl false 1 [xN 1,xN 1,xN 2,xN 2,xN 2,xN 3,xN 3,xN 4,xN 5,xN 5,xN 6,xN 7,xN 7,xN 8,xN 9,xN 10,xN 10]),
 qc 2 8 (.call F_spec_pl1Cur_among true [(.io,.t 6),(.co,.t 7)]),
 qe 3 9 (.bld [.t 8,.k (.dat none (.int .i64 0)),.k (.dat none (.int .i64 0)),.k (.dat none (.int .i64 0)),.k (.dat none (.int .i64 0)),.k (.dat none (.int .i64 0))]),
 qe 4 5 (.box (.k (.agg [.dat none (.int .i64 0),.dat none (.int .i64 0),.dat none (.int .i64 0),.dat none (.int .i64 0),.dat none (.int .i64 0),.dat none (.int .i64 0)]))),
 qs 5 (qW 6 5 9)]
def r2:List Ent:=[
 qe 0 10 (qD 0 5),
 qe 1 11 (qL 1 10),
 qe 2 12 (qK .geq 11 8),
 qm 3 13 12,
 qt 4 14 13 (qM 1),
 qt 5 15 13 (qK .lss 14 2),
 qe 6 16 (.pick (.t 13) (.t 15) xF)]
def r3:List Ent:=[
 qe 0 17 (qD 0 5),
 qs 1 (.store 1 (.t 17) (xN 3))]
def r4:List Ent:=[
 qe 0 18 (qD 0 5),
 qe 1 19 (qL 1 18)]
def r5:List Ent:=[
 qe 0 21 (qK .eql 19 1),
 qm 1 20 21]
def r6:List Ent:=[
 qe 0 22 (qK .eql 19 5),
 qm 1 20 22]
def r7:List Ent:=[
 qe 0 23 (qK .eql 19 9),
 qm 1 20 23]
def r8:List Ent:=[
 qe 0 24 (qK .eql 19 10),
 qm 1 20 24]
def r9:List Ent:=[
 qm 0 25 0,
 qc 1 26 (.call F_spec_pl1Cur_pick true [(.io,.t 25),(.ro,xN 3)]),
 qe 2 27 (qD 3 5),
 qs 3 (qW 1 27 26)]
def r10:List Ent:=[
 qe 0 28 (qD 0 5),
 qe 1 29 (qL 1 28),
 qe 2 30 (qK .neq 29 8)]
def r11:List Ent:=[
 qm 0 31 0,
 qc 1 32 (.call F_spec_pl1Cur_pick true [(.io,.t 31),(.ro,xN 3)]),
 qe 2 33 (qD 2 5),
 qs 3 (qW 1 33 32)]
def r12:List Ent:=[
 qe 0 34 (qD 0 5),
 qe 1 35 (qL 1 34)]
def r13:List Ent:=[
 qe 0 37 (qK .eql 35 1),
 qm 1 36 37]
def r14:List Ent:=[
 qe 0 38 (qK .eql 35 2),
 qm 1 36 38]
def r15:List Ent:=[
 qm 0 39 0,
 qc 1 40 (.call F_spec_pl1Cur_pick true [(.io,.t 39),(.ro,xN 10)]),
 qe 2 41 (.bin .add (xN 1) (.t 40)),
 qe 3 42 (qD 1 5),
 qs 4 (qW 1 42 41)]
def r16:List Ent:=[
 qe 0 43 (qD 0 5),
 qe 1 44 (qL 1 43)]
def r17:List Ent:=[
 qe 0 46 (qK .eql 44 2),
 qm 1 45 46]
def r18:List Ent:=[
 qe 0 47 (qK .eql 44 3),
 qm 1 45 47]
def r19:List Ent:=[
 qm 0 48 0,
 qm 1 49 0,
 qc 2 50 (.call F_spec_pl1Cur_pick true [(.io,.t 49),(.ro,xN 20)]),
 qe 3 51 (.bsl false 1 [xN 0,xN 1,xN 3,xN 7,xN 255,.t 50]),
 qc 4 52 (.call F_spec_pl1Cur_among true [(.io,.t 48),(.co,.t 51)]),
 qe 5 53 (qD 4 5),
 qs 6 (qW 1 53 52)]
def r20:List Ent:=[
 qe 0 55 (qK .eql 44 4),
 qm 1 54 55]
def r21:List Ent:=[
 qm 0 56 0,
 qm 1 57 0,
 qc 2 58 (.call F_spec_pl1Cur_pick true [(.io,.t 57),(.ro,xN 256)]),
 qm 3 59 0,
 qc 4 60 (.call F_spec_pl1Cur_pick true [(.io,.t 59),(.ro,xN 250)]),
 qe 5 61 (qB .mul 58 60),
 qe 6 62 (.bin .add (xN 256) (.t 61)),
 qe 7 63 (.bsl false 1 [xN 256,xN 65535,.t 62]),
 qc 8 64 (.call F_spec_pl1Cur_among true [(.io,.t 56),(.co,.t 63)]),
 qe 9 65 (qD 4 5),
 qs 10 (qW 1 65 64)]
def r22:List Ent:=[
 qe 0 67 (qK .eql 44 5),
 qm 1 66 67]
def r23:List Ent:=[
 qm 0 68 0,
 qc 1 69 (.call F_spec_pl1Cur_pick true [(.io,.t 68),(.ro,xN 5)]),
 qe 2 70 (qD 4 5),
 qs 3 (qW 1 70 69)]
def r24:List Ent:=[
 qe 0 72 (qK .eql 44 6),
 qm 1 71 72]
def r25:List Ent:=[
 qe 0 73 (qK .eql 44 7),
 qm 1 71 73]
def r26:List Ent:=[
 qm 0 74 0,
 qc 1 75 (.call F_spec_pl1Cur_pick true [(.io,.t 74),(.ro,xN 18)]),
 qe 2 76 (qD 4 5),
 qs 3 (qW 1 76 75)]
def r27:List Ent:=[
 qe 0 78 (qK .eql 44 8),
 qm 1 77 78]
def r28:List Ent:=[
 qe 0 79 (qK .eql 44 9),
 qm 1 77 79]
def r29:List Ent:=[
 qe 0 80 (qK .eql 44 10),
 qm 1 77 80]
def r30:List Ent:=[
 qm 0 81 0,
 qm 1 82 1,
 qe 2 83 (qK .sub 82 1),
 qc 3 84 (qC F_spec_l1Least [xN 4,.t 83]),
 qc 4 85 (.call F_spec_pl1Cur_pick true [(.io,.t 81),(.ro,.t 84)]),
 qe 5 86 (.bin .add (xN 1) (.t 85)),
 qe 6 87 (qD 5 5),
 qs 7 (qW 1 87 86)]
def r31:List Ent:=[
 qe 0 88 (qA 6 5),
 qs 1 (qW 6 4 88)]
def fi:FI:={ res:=[.c 4 true 6],code:=.seq (.reg 64 1 r0) (.seq (.reg 128 6 r1) (.seq (.seq (.reg 512 7 r2) (.cond (.t 16) (.reg 960 2 r3) (.skip))) (.seq (.seq (.reg 1088 2 r4) (.block 0 (.seq (.seq (.reg 1216 2 r5) (.cond (.t 20) (.skip) (.seq (.reg 1344 2 r6) (.cond (.t 20) (.skip) (.seq (.reg 1472 2 r7) (.cond (.t 20) (.skip) (.reg 1600 2 r8))))))) (.cond (.t 20) (.reg 1728 4 r9) (.skip))))) (.seq (.seq (.reg 1984 3 r10) (.cond (.t 30) (.reg 2176 4 r11) (.skip))) (.seq (.seq (.reg 2432 2 r12) (.block 1 (.seq (.seq (.reg 2560 2 r13) (.cond (.t 36) (.skip) (.reg 2688 2 r14))) (.cond (.t 36) (.reg 2816 5 r15) (.skip))))) (.seq (.seq (.reg 3136 2 r16) (.block 2 (.seq (.seq (.reg 3264 2 r17) (.cond (.t 45) (.skip) (.reg 3392 2 r18))) (.cond (.t 45) (.reg 3520 7 r19) (.seq (.reg 3968 2 r20) (.cond (.t 54) (.reg 4096 11 r21) (.seq (.reg 4800 2 r22) (.cond (.t 66) (.reg 4928 4 r23) (.seq (.seq (.reg 5184 2 r24) (.cond (.t 71) (.skip) (.reg 5312 2 r25))) (.cond (.t 71) (.reg 5440 4 r26) (.seq (.seq (.reg 5696 2 r27) (.cond (.t 77) (.skip) (.seq (.reg 5824 2 r28) (.cond (.t 77) (.skip) (.reg 5952 2 r29))))) (.cond (.t 77) (.reg 6080 8 r30) (.skip))))))))))))) (.seq (.reg 6592 2 r31) (.ret)))))))) }
attribute [go_sem] r0 r1 r2 r3 r4 r5 r6 r7 r8 r9 r10 r11 r12 r13 r14 r15 r16 r17 r18 r19 r20 r21 r22 r23 r24 r25 r26 r27 r28 r29 r30 r31
theorem ok:chkF prog F_spec_pl1Cur_step 2 fi=true:=by kernel_rfl
end spec_pl1Cur_step
namespace spec_DrawStepMay
def r0:List Ent:=[
 qe 0 2 (.box (.k (.agg [.dat none (.int .i64 0),.dat none (.int .i64 0),.dat none (.int .i64 0),.dat none (.int .i64 0),.dat none (.int .i64 0),.dat none (.int .i64 0)]))),
 qe 1 3 (.box (.k (.agg [.nil 2,.nil 2,.nil 2,.nil 1])))]
def r1:List Ent:=[
 qm 0 5 0,
 qe 1 6 (.bld [.t 5,.k (.dat none (.int .i64 0)),.k (.dat none (.int .u64 0))]),
 qe 2 7 (.box (.t 6)),
 qm 3 4 7]
def r2:List Ent:=[
 qm 0 8 4,
 qc 1 9 (.call F_spec_pl1Cur_step true [(.io,.t 8),(.ro,xN 9)]),
 qm 2 10 4,
 qc 3 11 (.call F_spec_pl1Cur_may true [(.io,.t 10)]),
 qs 4 (qW 6 2 9),
 qs 5 (qW 4 3 11)]
def fi:FI:={ res:=[.c 2 true 6,.c 3 true 4],code:=.seq (.reg 64 2 r0) (.seq (.reg 192 4 r1) (.seq (.reg 448 6 r2) (.ret))) }
attribute [go_sem] r0 r1 r2
theorem ok:chkF prog F_spec_DrawStepMay 1 fi=true:=by kernel_rfl
end spec_DrawStepMay
namespace laws_sameBools
def r0:List Ent:=[
 qe 0 4 (.mv xF)]
def r1:List Ent:=[
 qm 0 6 0,
 qe 1 7 (qZ 6),
 qm 2 8 1,
 qe 3 9 (qZ 8),
 qe 4 10 (qB .neq 7 9)]
def r2:List Ent:=[
 qe 0 4 (.mv xF)]
def r3:List Ent:=[
 qm 0 11 0,
 qe 1 12 (qZ 11),
 qe 2 13 (.mv (xN 0))]
def r4:List Ent:=[
 qe 0 14 (qB .lss 13 12)]
def r5:List Ent:=[
 qm 0 15 13,
 qm 1 5 15]
def r6:List Ent:=[
 qm 0 16 0,
 qm 1 17 5,
 qr 2 18 (qI 1 16 17),
 qr 3 19 (qL 1 18),
 qm 4 20 1,
 qm 5 21 5,
 qr 6 22 (qI 1 20 21),
 qr 7 23 (qL 1 22),
 qe 8 24 (.eqb true (.t 19) (.t 23))]
def r7:List Ent:=[
 qe 0 4 (.mv xF)]
def r8:List Ent:=[
 qe 0 25 (qK .add 13 1),
 qm 1 13 25]
def b0:KC:=.seq (.reg 704 1 r4) (.seq (.cond (.t 14) (.skip) (.exit 0)) (.seq (.block 1 (.seq (.reg 768 2 r5) (.seq (.reg 896 9 r6) (.cond (.t 24) (.seq (.reg 1472 1 r7) (.ret)) (.skip))))) (.reg 1536 2 r8)))
def r9:List Ent:=[
 qe 0 4 (.mv xT)]
def fi:FI:={ res:=[.t 4],code:=.seq (.reg 64 1 r0) (.seq (.seq (.reg 128 5 r1) (.cond (.t 10) (.seq (.reg 448 1 r2) (.ret)) (.skip))) (.seq (.seq (.reg 512 3 r3) (.block 0 (.loop b0))) (.seq (.reg 1664 1 r9) (.ret)))) }
attribute [go_sem] r0 r1 r2 r3 r4 r5 r6 r7 r8 r9
theorem ok:chkF prog F_laws_sameBools 2 fi=true:=by kernel_rfl
end laws_sameBools
namespace laws_sameMay
def r0:List Ent:=[
 qe 0 2 (.box (.t 0)),
 qe 1 3 (.box (.t 1)),
 qe 2 4 (.mv xF)]
def r1:List Ent:=[
 qe 0 8 (qD 0 2),
 qe 1 9 (qL 1 8),
 qe 2 10 (qZ 9),
 qe 3 11 (qD 0 3),
 qe 4 12 (qL 1 11),
 qe 5 13 (qZ 12),
 qe 6 14 (qB .neq 10 13),
 qm 7 15 14,
 qf 8 16 15 (qD 1 2),
 qf 9 17 15 (qL 1 16),
 qf 10 18 15 (qZ 17),
 qf 11 19 15 (qD 1 3),
 qf 12 20 15 (qL 1 19),
 qf 13 21 15 (qZ 20),
 qf 14 22 15 (qB .neq 18 21),
 qe 15 23 (.pick (.t 15) xT (.t 22)),
 qm 16 24 23,
 qf 17 25 24 (qD 2 2),
 qf 18 26 24 (qL 1 25),
 qf 19 27 24 (qZ 26),
 qf 20 28 24 (qD 2 3),
 qf 21 29 24 (qL 1 28),
 qf 22 30 24 (qZ 29),
 qf 23 31 24 (qB .neq 27 30),
 qe 24 32 (.pick (.t 24) xT (.t 31)),
 qm 25 33 32,
 qf 26 34 33 (qD 3 2),
 qf 27 35 33 (qL 1 34),
 qf 28 36 33 (qD 3 3),
 qf 29 37 33 (qL 1 36),
 qj 30 38 33 (qC F_laws_sameBools [.t 35,.t 37]),
 qf 31 39 33 (qN 38),
 qe 32 40 (.pick (.t 33) xT (.t 39))]
def r2:List Ent:=[
 qe 0 4 (.mv xF)]
def r3:List Ent:=[
 qe 0 41 (qD 0 2),
 qe 1 42 (qL 1 41),
 qe 2 43 (qZ 42),
 qe 3 44 (.mv (xN 0))]
def r4:List Ent:=[
 qe 0 45 (qB .lss 44 43)]
def r5:List Ent:=[
 qm 0 46 44,
 qm 1 5 46]
def r6:List Ent:=[
 qr 0 47 (qD 0 2),
 qr 1 48 (qL 1 47),
 qm 2 49 5,
 qr 3 50 (qI 2 48 49),
 qr 4 51 (qA 2 50),
 qr 5 52 (qD 0 3),
 qr 6 53 (qL 1 52),
 qm 7 54 5,
 qr 8 55 (qI 2 53 54),
 qr 9 56 (qA 2 55),
 qe 10 57 (.eqag 2 true (.t 51) (.t 56))]
def r7:List Ent:=[
 qe 0 4 (.mv xF)]
def r8:List Ent:=[
 qe 0 58 (qK .add 44 1),
 qm 1 44 58]
def b0:KC:=.seq (.reg 2688 1 r4) (.seq (.cond (.t 45) (.skip) (.exit 0)) (.seq (.block 1 (.seq (.reg 2752 2 r5) (.seq (.reg 2880 11 r6) (.cond (.t 57) (.seq (.reg 3584 1 r7) (.ret)) (.skip))))) (.reg 3648 2 r8)))
def r9:List Ent:=[
 qe 0 59 (qD 1 2),
 qe 1 60 (qL 1 59),
 qe 2 61 (qZ 60),
 qe 3 62 (.mv (xN 0))]
def r10:List Ent:=[
 qe 0 63 (qB .lss 62 61)]
def r11:List Ent:=[
 qm 0 64 62,
 qm 1 6 64]
def r12:List Ent:=[
 qr 0 65 (qD 1 2),
 qr 1 66 (qL 1 65),
 qm 2 67 6,
 qr 3 68 (qI 2 66 67),
 qr 4 69 (qA 2 68),
 qr 5 70 (qD 1 3),
 qr 6 71 (qL 1 70),
 qm 7 72 6,
 qr 8 73 (qI 2 71 72),
 qr 9 74 (qA 2 73),
 qe 10 75 (.eqag 2 true (.t 69) (.t 74))]
def r13:List Ent:=[
 qe 0 4 (.mv xF)]
def r14:List Ent:=[
 qe 0 76 (qK .add 62 1),
 qm 1 62 76]
def b1:KC:=.seq (.reg 4032 1 r10) (.seq (.cond (.t 63) (.skip) (.exit 2)) (.seq (.block 3 (.seq (.reg 4096 2 r11) (.seq (.reg 4224 11 r12) (.cond (.t 75) (.seq (.reg 4928 1 r13) (.ret)) (.skip))))) (.reg 4992 2 r14)))
def r15:List Ent:=[
 qe 0 77 (qD 2 2),
 qe 1 78 (qL 1 77),
 qe 2 79 (qZ 78),
 qe 3 80 (.mv (xN 0))]
def r16:List Ent:=[
 qe 0 81 (qB .lss 80 79)]
def r17:List Ent:=[
 qm 0 82 80,
 qm 1 7 82]
def r18:List Ent:=[
 qr 0 83 (qD 2 2),
 qr 1 84 (qL 1 83),
 qm 2 85 7,
 qr 3 86 (qI 2 84 85),
 qr 4 87 (qA 2 86),
 qr 5 88 (qD 2 3),
 qr 6 89 (qL 1 88),
 qm 7 90 7,
 qr 8 91 (qI 2 89 90),
 qr 9 92 (qA 2 91),
 qe 10 93 (.eqag 2 true (.t 87) (.t 92))]
def r19:List Ent:=[
 qe 0 4 (.mv xF)]
def r20:List Ent:=[
 qe 0 94 (qK .add 80 1),
 qm 1 80 94]
def b2:KC:=.seq (.reg 5376 1 r16) (.seq (.cond (.t 81) (.skip) (.exit 4)) (.seq (.block 5 (.seq (.reg 5440 2 r17) (.seq (.reg 5568 11 r18) (.cond (.t 93) (.seq (.reg 6272 1 r19) (.ret)) (.skip))))) (.reg 6336 2 r20)))
def r21:List Ent:=[
 qe 0 4 (.mv xT)]
def fi:FI:={ res:=[.t 4],code:=.seq (.reg 64 3 r0) (.seq (.seq (.reg 256 33 r1) (.cond (.t 40) (.seq (.reg 2368 1 r2) (.ret)) (.skip))) (.seq (.seq (.reg 2432 4 r3) (.block 0 (.loop b0))) (.seq (.seq (.reg 3776 4 r9) (.block 2 (.loop b1))) (.seq (.seq (.reg 5120 4 r15) (.block 4 (.loop b2))) (.seq (.reg 6464 1 r21) (.ret)))))) }
attribute [go_sem] r0 r1 r2 r3 r4 r5 r6 r7 r8 r9 r10 r11 r12 r13 r14 r15 r16 r17 r18 r19 r20 r21
theorem ok:chkF prog F_laws_sameMay 2 fi=true:=by kernel_rfl
end laws_sameMay
namespace laws_FnHeeded
def r0:List Ent:=[
 qe 0 4 (.mv xF)]
def r1:List Ent:=[
 qm 0 47 0,
 qe 1 48 (qZ 47),
 qm 2 49 1,
 qe 3 50 (qZ 49),
 qe 4 51 (qB .add 48 50),
 qe 5 52 (qK .gtr 51 1048576)]
def r2:List Ent:=[
 qe 0 4 (.mv xT)]
def r3:List Ent:=[
 qm 0 54 0,
 qc 1 55 (qV F_spec_DrawReduceBoth 54),
 qm 2 53 55,
 qe 3 56 (qX 0 53),
 qe 4 57 (qX 1 53),
 qe 5 5 (.box (.k (.agg [.dat none (.int .i64 0),.dat none (.int .i64 0)]))),
 qe 6 6 (.box (.k (.agg [.dat none (.int .i64 0),.dat none (.int .i64 0)]))),
 qs 7 (qW 2 5 56),
 qs 8 (qW 2 6 57)]
def r4:List Ent:=[
 qe 0 59 (qA 2 5),
 qe 1 60 (qA 2 6),
 qc 2 61 (qC F_impl_ReduceBoth [.t 59,.t 60]),
 qm 3 58 61,
 qe 4 62 (qX 0 58),
 qe 5 63 (qX 1 58),
 qe 6 64 (qX 2 58),
 qe 7 7 (.box (.k (.agg [.dat none (.int .i64 0),.dat none (.int .i64 0)]))),
 qe 8 8 (.box (.k (.agg [.dat none (.int .i64 0),.dat none (.int .i64 0)]))),
 qs 9 (qW 2 7 62),
 qs 10 (qW 2 8 63),
 qm 11 9 64]
def r5:List Ent:=[
 qe 0 66 (qA 2 5),
 qe 1 67 (qA 2 6),
 qc 2 68 (qC F_spec_ReduceBoth [.t 66,.t 67]),
 qm 3 65 68,
 qe 4 69 (qX 0 65),
 qe 5 70 (qX 1 65),
 qe 6 71 (qX 2 65),
 qe 7 10 (.box (.k (.agg [.dat none (.int .i64 0),.dat none (.int .i64 0)]))),
 qe 8 11 (.box (.k (.agg [.dat none (.int .i64 0),.dat none (.int .i64 0)]))),
 qs 9 (qW 2 10 69),
 qs 10 (qW 2 11 70),
 qm 11 12 71]
def r6:List Ent:=[
 qm 0 72 9,
 qm 1 73 12,
 qe 2 74 (.eqb true (.t 72) (.t 73)),
 qm 3 75 74,
 qf 4 76 75 (qA 2 7),
 qf 5 77 75 (qA 2 10),
 qf 6 78 75 (.eqag 2 true (.t 76) (.t 77)),
 qe 7 79 (.pick (.t 75) xT (.t 78)),
 qm 8 80 79,
 qf 9 81 80 (qA 2 8),
 qf 10 82 80 (qA 2 11),
 qf 11 83 80 (.eqag 2 true (.t 81) (.t 82)),
 qe 12 84 (.pick (.t 80) xT (.t 83))]
def r7:List Ent:=[
 qe 0 4 (.mv xF)]
def r8:List Ent:=[
 qe 0 85 (qA 2 5),
 qc 1 86 (qV F_impl_GoodStretch 85),
 qm 2 87 86,
 qt 3 88 87 (qA 2 6),
 qh 4 89 87 (qV F_impl_GoodKnown 88),
 qe 5 90 (.pick (.t 87) (.t 89) xF)]
def r9:List Ent:=[
 qe 0 13 (.mv (xN 0))]
def r10:List Ent:=[
 qm 0 91 13,
 qe 1 92 (qK .lss 91 40)]
def r11:List Ent:=[
 qm 0 95 1,
 qc 1 96 (qV F_laws_numberOf 95),
 qe 2 97 (qK .mul 96 7),
 qm 3 98 13,
 qe 4 99 (qK .mul 98 811),
 qe 5 100 (qB .add 97 99),
 qc 6 101 (qV F_impl_WordOf 100),
 qm 7 14 101]
def r12:List Ent:=[
 qm 0 102 13,
 qe 1 103 (qK .rem 102 2),
 qe 2 104 (qK .eql 103 0)]
def r13:List Ent:=[
 qr 0 105 (qD 0 5),
 qr 1 106 (qL 1 105),
 qm 2 107 1,
  E2 3 (some 108) none (.call F_laws_numberOf false (roA [.t 107])),
 qm 4 109 13,
 qe 5 110 (qB .add 108 109),
 qr 6 111 (qD 1 5),
 qr 7 112 (qL 1 111),
 qr 8 113 (qD 0 5),
 qr 9 114 (qL 1 113),
 qe 10 115 (qB .sub 112 114),
 qe 11 116 (qK .add 115 1),
 qe 12 117 (qB .rem 110 116),
 qe 13 118 (qB .add 106 117),
 qm 14 14 118]
def r14:List Ent:=[
 qe 0 120 (qA 2 5),
 qm 1 121 14,
 qc 2 122 (qC F_impl_InStretch [.t 120,.t 121]),
 qm 3 119 122,
 qe 4 123 (qX 0 119),
 qe 5 124 (qX 1 119),
 qm 6 15 123,
 qm 7 16 124]
def r15:List Ent:=[
 qe 0 126 (qA 2 6),
 qm 1 127 14,
 qc 2 128 (qC F_impl_MayBe [.t 126,.t 127]),
 qm 3 125 128,
 qe 4 129 (qX 0 125),
 qe 5 130 (qX 1 125),
 qm 6 17 129,
 qm 7 18 130]
def r16:List Ent:=[
 qm 0 131 16,
 qe 1 132 (qN 131),
 qm 2 133 132,
 qf 3 134 133 (qM 18),
 qf 4 135 133 (qN 134),
 qe 5 136 (.pick (.t 133) xT (.t 135)),
 qm 6 137 136,
 qf 7 138 137 (qM 15),
 qf 8 139 137 (qM 138),
 qt 9 140 139 (qM 17),
 qf 10 141 137 (.pick (.t 139) (.t 140) xF),
 qf 11 142 137 (qM 141),
 qt 12 143 142 (qM 9),
 qt 13 144 142 (qN 143),
 qf 14 145 137 (.pick (.t 142) (.t 144) xF),
 qe 15 146 (.pick (.t 137) xT (.t 145))]
def r17:List Ent:=[
 qe 0 4 (.mv xF)]
def r18:List Ent:=[
 qm 0 147 9]
def r19:List Ent:=[
 qe 0 149 (qA 2 7),
 qm 1 150 14,
 qc 2 151 (qC F_impl_InStretch [.t 149,.t 150]),
 qm 3 148 151,
 qe 4 152 (qX 0 148),
 qe 5 153 (qX 1 148),
 qm 6 19 152,
 qm 7 20 153]
def r20:List Ent:=[
 qe 0 155 (qA 2 8),
 qm 1 156 14,
 qc 2 157 (qC F_impl_MayBe [.t 155,.t 156]),
 qm 3 154 157,
 qe 4 158 (qX 0 154),
 qe 5 159 (qX 1 154),
 qm 6 21 158,
 qm 7 22 159]
def r21:List Ent:=[
 qm 0 160 20,
 qe 1 161 (qN 160),
 qm 2 162 161,
 qf 3 163 162 (qM 22),
 qf 4 164 162 (qN 163),
 qe 5 165 (.pick (.t 162) xT (.t 164)),
 qm 6 166 165,
 qf 7 167 166 (qM 15),
 qf 8 168 166 (qM 167),
 qt 9 169 168 (qM 17),
 qf 10 170 166 (.pick (.t 168) (.t 169) xF),
 qf 11 171 166 (qM 170),
 qt 12 172 171 (qM 19),
 qt 13 173 171 (qN 172),
 qt 14 174 171 (qM 173),
 qf 15 175 174 (qM 21),
 qf 16 176 174 (qN 175),
 qt 17 177 171 (.pick (.t 174) xT (.t 176)),
 qf 18 178 166 (.pick (.t 171) (.t 177) xF),
 qe 19 179 (.pick (.t 166) xT (.t 178)),
 qm 20 180 179,
 qf 21 181 180 (qM 19),
 qf 22 182 180 (qM 181),
 qt 23 183 182 (qM 21),
 qf 24 184 180 (.pick (.t 182) (.t 183) xF),
 qf 25 185 180 (qM 184),
 qt 26 186 185 (qM 15),
 qt 27 187 185 (qN 186),
 qt 28 188 185 (qM 187),
 qf 29 189 188 (qM 17),
 qf 30 190 188 (qN 189),
 qt 31 191 185 (.pick (.t 188) xT (.t 190)),
 qf 32 192 180 (.pick (.t 185) (.t 191) xF),
 qe 33 193 (.pick (.t 180) xT (.t 192))]
def r22:List Ent:=[
 qe 0 4 (.mv xF)]
def r23:List Ent:=[
 qm 0 93 13,
 qe 1 94 (qK .add 93 1),
 qm 2 13 94]
def b0:KC:=.seq (.seq (.reg 4032 2 r10) (.cond (.t 92) (.skip) (.exit 0))) (.seq (.block 1 (.seq (.reg 4160 8 r11) (.seq (.seq (.reg 4672 3 r12) (.cond (.t 104) (.reg 4864 15 r13) (.skip))) (.seq (.reg 5824 8 r14) (.seq (.reg 6336 8 r15) (.seq (.seq (.reg 6848 16 r16) (.cond (.t 146) (.seq (.reg 7872 1 r17) (.ret)) (.skip))) (.seq (.reg 7936 1 r18) (.cond (.t 147) (.seq (.reg 8000 8 r19) (.seq (.reg 8512 8 r20) (.seq (.reg 9024 34 r21) (.cond (.t 193) (.seq (.reg 11200 1 r22) (.ret)) (.skip))))) (.skip))))))))) (.reg 11264 3 r23))
def r24:List Ent:=[
 qm 0 195 1,
 qc 1 196 (qV F_spec_DrawHeedJump 195),
 qm 2 194 196,
 qe 3 197 (qX 0 194),
 qe 4 198 (qX 1 194),
 qe 5 199 (qX 2 194),
 qe 6 23 (.box (.k (.agg [.dat none (.int .i64 0),.dat none (.int .i64 0),.dat none (.int .i64 0),.dat none (.int .i64 0),.dat none (.int .i64 0),.dat none (.int .i64 0)]))),
 qe 7 24 (.box (.k (.agg [.nil 2,.nil 2,.nil 2,.nil 1]))),
 qs 8 (qW 6 23 197),
 qs 9 (qW 4 24 198),
 qm 10 25 199]
def r25:List Ent:=[
 qe 0 201 (qA 6 23),
 qe 1 202 (qA 4 24),
 qm 2 203 25,
 qc 3 204 (qC F_impl_HeedJump [.t 201,.t 202,.t 203]),
 qm 4 200 204,
 qe 5 205 (qX 0 200),
 qe 6 206 (qX 1 200),
 qe 7 207 (qX 2 200),
 qe 8 26 (.box (.k (.agg [.nil 2,.nil 2,.nil 2,.nil 1]))),
 qs 9 (qW 4 26 205),
 qm 10 27 206,
 qm 11 28 207]
def r26:List Ent:=[
 qe 0 209 (qA 6 23),
 qe 1 210 (qA 4 24),
 qm 2 211 25,
 qc 3 212 (qC F_spec_HeedJump [.t 209,.t 210,.t 211]),
 qm 4 208 212,
 qe 5 213 (qX 0 208),
 qe 6 214 (qX 1 208),
 qe 7 215 (qX 2 208),
 qe 8 29 (.box (.k (.agg [.nil 2,.nil 2,.nil 2,.nil 1]))),
 qs 9 (qW 4 29 213),
 qm 10 30 214,
 qm 11 31 215]
def r27:List Ent:=[
 qm 0 217 1,
 qc 1 218 (qV F_spec_DrawStepMay 217),
 qm 2 216 218,
 qe 3 219 (qX 0 216),
 qe 4 220 (qX 1 216),
 qe 5 32 (.box (.k (.agg [.dat none (.int .i64 0),.dat none (.int .i64 0),.dat none (.int .i64 0),.dat none (.int .i64 0),.dat none (.int .i64 0),.dat none (.int .i64 0)]))),
 qe 6 33 (.box (.k (.agg [.nil 2,.nil 2,.nil 2,.nil 1]))),
 qs 7 (qW 6 32 219),
 qs 8 (qW 4 33 220)]
def r28:List Ent:=[
 qe 0 222 (qA 6 32),
 qe 1 223 (qA 4 33),
 qc 2 224 (qC F_impl_StepMay [.t 222,.t 223]),
 qm 3 221 224,
 qe 4 225 (qX 0 221),
 qe 5 226 (qX 1 221),
 qe 6 227 (qX 2 221),
 qe 7 34 (.box (.k (.agg [.nil 2,.nil 2,.nil 2,.nil 1]))),
 qs 8 (qW 4 34 225),
 qm 9 35 226,
 qm 10 36 227]
def r29:List Ent:=[
 qe 0 229 (qA 6 32),
 qe 1 230 (qA 4 33),
 qc 2 231 (qC F_spec_StepMay [.t 229,.t 230]),
 qm 3 228 231,
 qe 4 232 (qX 0 228),
 qe 5 233 (qX 1 228),
 qe 6 234 (qX 2 228),
 qe 7 37 (.box (.k (.agg [.nil 2,.nil 2,.nil 2,.nil 1]))),
 qs 8 (qW 4 37 232),
 qm 9 38 233,
 qm 10 39 234]
def r30:List Ent:=[
 qm 0 235 28,
 qm 1 236 31,
 qe 2 237 (.eqb true (.t 235) (.t 236)),
 qm 3 238 237,
 qf 4 239 238 (qM 27),
 qf 5 240 238 (qM 30),
 qf 6 241 238 (.eqb true (.t 239) (.t 240)),
 qe 7 242 (.pick (.t 238) xT (.t 241)),
 qm 8 243 242,
 qf 9 244 243 (qA 4 26),
 qf 10 245 243 (qA 4 29),
 qj 11 246 243 (qC F_laws_sameMay [.t 244,.t 245]),
 qf 12 247 243 (qN 246),
 qe 13 248 (.pick (.t 243) xT (.t 247)),
 qm 14 249 248,
 qf 15 250 249 (qM 36),
 qf 16 251 249 (qM 39),
 qf 17 252 249 (.eqb true (.t 250) (.t 251)),
 qe 18 253 (.pick (.t 249) xT (.t 252)),
 qm 19 254 253,
 qf 20 255 254 (qM 35),
 qf 21 256 254 (qM 38),
 qf 22 257 254 (qB .neq 255 256),
 qe 23 258 (.pick (.t 254) xT (.t 257)),
 qm 24 259 258,
 qf 25 260 259 (qA 4 34),
 qf 26 261 259 (qA 4 37),
 qj 27 262 259 (qC F_laws_sameMay [.t 260,.t 261]),
 qf 28 263 259 (qN 262),
 qe 29 264 (.pick (.t 259) xT (.t 263))]
def r31:List Ent:=[
 qe 0 4 (.mv xF)]
def r32:List Ent:=[
 qm 0 265 28,
 qm 1 266 265,
 qt 2 267 266 (qD 2 23),
 qt 3 268 266 (qL 1 267),
 qt 4 269 266 (qD 3 23),
 qt 5 270 266 (qL 1 269),
 qt 6 271 266 (qB .neq 268 270),
 qe 7 272 (.pick (.t 266) (.t 271) xF)]
def r33:List Ent:=[
 qr 0 273 (qD 0 24),
 qr 1 274 (qL 1 273),
 qr 2 275 (qD 2 23),
 qr 3 276 (qL 1 275),
 qr 4 277 (qI 2 274 276),
 qr 5 278 (qD 0 277),
 qr 6 279 (qL 1 278),
 qm 7 280 0,
  E2 8 (some 281) none (.call F_laws_numberOf false (roA [.t 280])),
 qr 9 282 (qD 0 24),
 qr 10 283 (qL 1 282),
 qr 11 284 (qD 2 23),
 qr 12 285 (qL 1 284),
 qr 13 286 (qI 2 283 285),
 qr 14 287 (qD 1 286),
 qr 15 288 (qL 1 287),
 qr 16 289 (qD 0 24),
 qr 17 290 (qL 1 289),
 qr 18 291 (qD 2 23),
 qr 19 292 (qL 1 291),
 qr 20 293 (qI 2 290 292),
 qr 21 294 (qD 0 293),
 qr 22 295 (qL 1 294),
 qe 23 296 (qB .sub 288 295),
 qe 24 297 (qK .add 296 1),
 qe 25 298 (qB .rem 281 297),
 qe 26 299 (qB .add 279 298),
 qm 27 40 299]
def r34:List Ent:=[
 qr 0 300 (qD 0 24),
 qr 1 301 (qL 1 300),
 qr 2 302 (qD 3 23),
 qr 3 303 (qL 1 302),
 qr 4 304 (qI 2 301 303),
 qr 5 305 (qD 0 304),
 qr 6 306 (qL 1 305),
 qm 7 307 0,
  E2 8 (some 308) none (.call F_laws_numberOf false (roA [.t 307])),
 qe 9 309 (qK .quo 308 11),
 qr 10 310 (qD 0 24),
 qr 11 311 (qL 1 310),
 qr 12 312 (qD 3 23),
 qr 13 313 (qL 1 312),
 qr 14 314 (qI 2 311 313),
 qr 15 315 (qD 1 314),
 qr 16 316 (qL 1 315),
 qr 17 317 (qD 0 24),
 qr 18 318 (qL 1 317),
 qr 19 319 (qD 3 23),
 qr 20 320 (qL 1 319),
 qr 21 321 (qI 2 318 320),
 qr 22 322 (qD 0 321),
 qr 23 323 (qL 1 322),
 qe 24 324 (qB .sub 316 323),
 qe 25 325 (qK .add 324 1),
 qe 26 326 (qB .rem 309 325),
 qe 27 327 (qB .add 306 326),
 qm 28 41 327]
def r35:List Ent:=[
 qm 0 328 40,
 qm 1 329 41,
 qe 2 330 (qB .eql 328 329),
 qm 3 42 330]
def r36:List Ent:=[
 qe 0 331 (qD 0 23),
 qe 1 332 (qL 1 331),
 qe 2 333 (qK .eql 332 10)]
def r37:List Ent:=[
 qm 0 334 40,
 qm 1 335 41,
 qe 2 336 (qB .lss 334 335),
 qm 3 42 336]
def r38:List Ent:=[
 qe 0 338 (qD 1 24),
 qe 1 339 (qL 1 338),
 qe 2 340 (qD 2 23),
 qe 3 341 (qL 1 340),
 qe 4 342 (qI 2 339 341),
 qe 5 343 (qA 2 342),
 qm 6 344 40,
 qc 7 345 (qC F_impl_MayBe [.t 343,.t 344]),
 qm 8 337 345,
 qe 9 346 (qX 0 337),
 qe 10 347 (qX 1 337),
 qm 11 43 346,
 qm 12 44 347]
def r39:List Ent:=[
 qe 0 349 (qD 1 24),
 qe 1 350 (qL 1 349),
 qe 2 351 (qD 3 23),
 qe 3 352 (qL 1 351),
 qe 4 353 (qI 2 350 352),
 qe 5 354 (qA 2 353),
 qm 6 355 41,
 qc 7 356 (qC F_impl_MayBe [.t 354,.t 355]),
 qm 8 348 356,
 qe 9 357 (qX 0 348),
 qe 10 358 (qX 1 348),
 qm 11 45 357,
 qm 12 46 358]
def r40:List Ent:=[
 qm 0 359 44,
 qm 1 360 359,
 qt 2 361 360 (qM 46),
 qe 3 362 (.pick (.t 360) (.t 361) xF),
 qm 4 363 362,
 qt 5 364 363 (qM 43),
 qe 6 365 (.pick (.t 363) (.t 364) xF),
 qm 7 366 365,
 qt 8 367 366 (qM 45),
 qe 9 368 (.pick (.t 366) (.t 367) xF),
 qm 10 369 368,
 qt 11 370 369 (qM 42),
 qt 12 371 369 (qM 25),
 qt 13 372 369 (.eqb false (.t 370) (.t 371)),
 qe 14 373 (.pick (.t 369) (.t 372) xF),
 qm 15 374 373,
 qt 16 375 374 (qM 27),
 qt 17 376 374 (qN 375),
 qt 18 377 374 (qM 376),
 qf 19 378 377 (qM 40),
 qf 20 379 377 (qD 0 26),
 qf 21 380 377 (qL 1 379),
 qf 22 381 377 (qD 2 23),
 qf 23 382 377 (qL 1 381),
 qf 24 383 377 (qI 2 380 382),
 qf 25 384 377 (qD 0 383),
 qf 26 385 377 (qL 1 384),
 qf 27 386 377 (qB .lss 378 385),
 qt 28 387 374 (.pick (.t 377) xT (.t 386)),
 qt 29 388 374 (qM 387),
 qf 30 389 388 (qM 40),
 qf 31 390 388 (qD 0 26),
 qf 32 391 388 (qL 1 390),
 qf 33 392 388 (qD 2 23),
 qf 34 393 388 (qL 1 392),
 qf 35 394 388 (qI 2 391 393),
 qf 36 395 388 (qD 1 394),
 qf 37 396 388 (qL 1 395),
 qf 38 397 388 (qB .gtr 389 396),
 qt 39 398 374 (.pick (.t 388) xT (.t 397)),
 qt 40 399 374 (qM 398),
 qf 41 400 399 (qM 41),
 qf 42 401 399 (qD 0 26),
 qf 43 402 399 (qL 1 401),
 qf 44 403 399 (qD 3 23),
 qf 45 404 399 (qL 1 403),
 qf 46 405 399 (qI 2 402 404),
 qf 47 406 399 (qD 0 405),
 qf 48 407 399 (qL 1 406),
 qf 49 408 399 (qB .lss 400 407),
 qt 50 409 374 (.pick (.t 399) xT (.t 408)),
 qt 51 410 374 (qM 409),
 qf 52 411 410 (qM 41),
 qf 53 412 410 (qD 0 26),
 qf 54 413 410 (qL 1 412),
 qf 55 414 410 (qD 3 23),
 qf 56 415 410 (qL 1 414),
 qf 57 416 410 (qI 2 413 415),
 qf 58 417 410 (qD 1 416),
 qf 59 418 410 (qL 1 417),
 qf 60 419 410 (qB .gtr 411 418),
 qt 61 420 374 (.pick (.t 410) xT (.t 419)),
 qe 62 421 (.pick (.t 374) (.t 420) xF)]
def r41:List Ent:=[
 qe 0 4 (.mv xF)]
def r42:List Ent:=[
 qm 0 422 36,
 qe 1 423 (qN 422),
 qm 2 424 423,
 qf 3 425 424 (qM 35),
 qf 4 426 424 (qK .gtr 425 0),
 qe 5 427 (.pick (.t 424) xT (.t 426)),
 qm 6 428 427,
 qf 7 429 428 (qA 4 34),
 qj 8 430 428 (qV F_impl_GoodMay 429),
 qe 9 431 (.pick (.t 428) xT (.t 430)),
 qm 10 4 431]
def fi:FI:={ res:=[.t 4],code:=.seq (.reg 64 1 r0) (.seq (.seq (.reg 128 6 r1) (.cond (.t 52) (.seq (.reg 512 1 r2) (.ret)) (.skip))) (.seq (.reg 576 9 r3) (.seq (.reg 1152 12 r4) (.seq (.reg 1920 12 r5) (.seq (.seq (.reg 2688 13 r6) (.cond (.t 84) (.seq (.reg 3520 1 r7) (.ret)) (.skip))) (.seq (.seq (.reg 3584 6 r8) (.cond (.t 90) (.seq (.reg 3968 1 r9) (.block 0 (.loop b0))) (.skip))) (.seq (.reg 11456 11 r24) (.seq (.reg 12160 12 r25) (.seq (.reg 12928 12 r26) (.seq (.reg 13696 9 r27) (.seq (.reg 14272 11 r28) (.seq (.reg 14976 11 r29) (.seq (.seq (.reg 15680 30 r30) (.cond (.t 264) (.seq (.reg 17600 1 r31) (.ret)) (.skip))) (.seq (.seq (.reg 17664 8 r32) (.cond (.t 272) (.seq (.reg 18176 28 r33) (.seq (.reg 19968 29 r34) (.seq (.reg 21824 4 r35) (.seq (.seq (.reg 22080 3 r36) (.cond (.t 333) (.reg 22272 4 r37) (.skip))) (.seq (.reg 22528 13 r38) (.seq (.reg 23360 13 r39) (.seq (.reg 24192 63 r40) (.cond (.t 421) (.seq (.reg 28224 1 r41) (.ret)) (.skip))))))))) (.skip))) (.seq (.reg 28288 11 r42) (.ret)))))))))))))))) }
attribute [go_sem] r0 r1 r2 r3 r4 r5 r6 r7 r8 r9 r10 r11 r12 r13 r14 r15 r16 r17 r18 r19 r20 r21 r22 r23 r24 r25 r26 r27 r28 r29 r30 r31 r32 r33 r34 r35 r36 r37 r38 r39 r40 r41 r42
theorem ok:chkF prog F_laws_FnHeeded 2 fi=true:=by kernel_rfl
end laws_FnHeeded
end Go.Vm.Ytmicgdfekpoajaa
