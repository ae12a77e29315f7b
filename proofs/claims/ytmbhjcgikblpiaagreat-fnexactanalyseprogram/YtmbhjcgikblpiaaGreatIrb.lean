/- The functions that the law reaches, in the text of the interpreter, and that this text fits them: part 2 (no condition). -/
import Derived.Test.YtmbhjcgikblpiaaGreatIra
import Derived.Test.YtmbhjcgikblpiaaGreatProg
import Derived.KernelRfl
namespace Go.Vm.YtmbhjcgikblpiaaGreat
open Go Go.Vm
set_option linter.unusedVariables false
set_option maxRecDepth 100000
namespace impl_AnalyseProgram
def r0 : List Ent := [
 qe 0 2 (.box (.k (.agg [.nil 1, .nil 4, .nil 1]))),
 qe 1 3 (.mv xF)]
def r1 : List Ent := [
 qm 0 13 0,
 qc 1 14 (qV F_impl_GoodProgram 13),
 qe 2 15 (qN 14)]
def r2 : List Ent := [
 qe 0 16 (.bld [.k (.nil 1), .k (.nil 4), .k (.nil 1)]),
 qs 1 (qW 3 2 16),
 qe 2 3 (.mv xF)]
def r3 : List Ent := [
 qm 0 17 0,
  EX 1 (some 18) none (.i (qZ 17)) 2 [5, 7] [] false,
  EX 2 (some 19) none (.i (.mks 1 1 (.bool false) (.t 18) (.t 18))) 1 [5, 7] [] false,
 qm 3 20 0,
  EX 4 (some 21) none (.i (qZ 20)) 2 [2, 7] [] false,
  EX 5 (some 22) none (.i (.mks 4 96 (.agg [.sl 2 [], .sl 2 [], .sl 2 [], .sl 1 []]) (.t 21) (.t 21))) 1 [2, 7] [] false,
  EX 6 (some 23) none (.i (.bld [.t 19, .t 22, .k (.nil 1)])) 2 [7] [] false,
  EX 7 (some 4) none (.i (.box (.k (.agg [.nil 1, .nil 4, .nil 1])))) 1 [2, 5] [] false,
 qs 8 (qW 3 4 23)]
def r4 : List Ent := [
  EX 0 (some 24) none (.i (qD 0 4)) 2 [4] [] false,
  EX 1 (some 25) none (.i (qL 1 24)) 2 [4] [] false,
  EP 4 (some 28) none (.call F_impl_StartMay false (roA [])) 1 false,
  ER 5 (some 29) none (.iad 1 (.t 25) (xN 0)),
  EP 6 none none (.i (.store 1 (.t 29) xT)) 0 true,
  EX 2 (some 26) none (.i (qD 1 4)) 2 [4] [6] false,
  EX 3 (some 27) none (.i (qL 1 26)) 2 [4] [6] false,
 qe 7 30 (.iad 4 (.t 27) (xN 0)),
 qs 8 (qW 4 30 28)]
def r5 : List Ent := [
 qm 0 31 0,
 qe 1 32 (qZ 31),
 qe 2 33 (.mv (xN 0))]
def r6 : List Ent := [
 qe 0 34 (qB .lss 33 32)]
def r7 : List Ent := [
 qm 0 35 33,
 qe 1 36 (qI 6 31 33),
 qe 2 37 (qA 6 36),
 qe 3 6 (.box (.k (.agg [.dat none (.int .i64 0), .dat none (.int .i64 0), .dat none (.int .i64 0), .dat none (.int .i64 0), .dat none (.int .i64 0), .dat none (.int .i64 0)]))),
 qm 4 5 35,
 qs 5 (qW 6 6 37)]
def r8 : List Ent := [
 qe 0 38 (qD 0 4),
 qe 1 39 (qL 1 38),
 qm 2 40 5,
 qe 3 41 (qI 1 39 40),
 qe 4 42 (qL 1 41),
 qe 5 43 (qN 42)]
def r9 : List Ent := [
  EX 0 (some 45) none (.i (qA 6 6)) 2 [10] [] false,
  EX 1 (some 46) none (.i (qD 1 4)) 2 [10] [] false,
  EX 2 (some 47) none (.i (qL 1 46)) 2 [10] [] false,
 qm 3 48 5,
  EX 4 (some 49) none (.i (qI 4 47 48)) 2 [10] [] false,
  EX 5 (some 50) none (.i (qA 4 49)) 2 [10] [] false,
  EX 6 (some 51) none (.call F_impl_stepMay false (roA [.t 45, .t 50])) 1 [10] [] false,
 qm 7 44 51,
  EX 8 (some 52) none (.i (qX 0 44)) 2 [10] [] false,
  EX 10 (some 7) none (.i (.box (.k (.agg [.nil 2, .nil 2, .nil 2, .nil 1])))) 1 [6] [] false,
  EP 11 none none (.i (qW 4 7 52)) 0 true,
  EX 9 (some 53) none (.i (qX 1 44)) 2 [10] [11] false,
 qm 12 8 53]
def r10 : List Ent := [
 qm 0 54 8,
 qe 1 55 (qK .neq 54 0)]
def r11 : List Ent := [
 qe 0 56 (qD 2 4),
 qe 1 57 (qL 1 56),
 qm 2 58 5,
 qe 3 59 (.bsl true 1 [.t 58]),
 qe 4 60 (.app 1 8 (.t 57) (.t 59)),
 qe 5 61 (qD 2 4),
 qs 6 (qW 1 61 60)]
def r12 : List Ent := [
 qm 0 62 0,
 qm 1 63 5,
 qc 2 64 (qC F_impl_nexts [.t 62, .t 63]),
 qe 3 65 (qZ 64),
 qe 4 66 (.mv (xN 0))]
def r13 : List Ent := [
 qe 0 67 (qB .lss 66 65)]
def r14 : List Ent := [
 qm 0 68 66,
 qe 1 69 (qI 1 64 66),
 qe 2 70 (qL 1 69),
 qm 3 9 68,
 qm 4 10 70]
def r15 : List Ent := [
 qe 0 71 (qA 4 7),
 qc 1 72 (qV F_impl_May_own 71),
 qe 2 11 (.box (.k (.agg [.nil 2, .nil 2, .nil 2, .nil 1]))),
 qs 3 (qW 4 11 72),
 qe 4 12 (.mv xT)]
def r16 : List Ent := [
 qe 0 73 (qA 6 6),
 qc 1 74 (qV F_impl_Step_branches 73)]
def r17 : List Ent := [
 qe 0 76 (qA 6 6),
 qe 1 77 (qA 4 7),
 qm 2 78 9,
 qe 3 79 (qK .eql 78 1),
 qc 4 80 (qC F_impl_heedJump [.t 76, .t 77, .t 79]),
 qm 5 75 80,
 qe 6 81 (qX 0 75),
 qe 7 82 (qX 1 75),
 qs 8 (qW 4 11 81),
 qm 9 12 82]
def r18 : List Ent := [
 qm 0 93 12,
 qe 1 94 (qN 93),
 qm 2 92 94]
def r19 : List Ent := [
 qe 0 96 (qD 0 4),
 qe 1 97 (qL 1 96),
 qm 2 98 10,
 qe 3 99 (qI 1 97 98),
 qe 4 100 (qL 1 99),
 qm 5 95 100]
def r20 : List Ent := [
  EX 0 (some 101) none (.i (qD 1 4)) 2 [9] [] false,
  EX 1 (some 102) none (.i (qL 1 101)) 2 [9] [] false,
 qm 2 103 10,
  ER 3 (some 104) none (.fad 1 (.t 4)),
  ER 4 (some 105) none (.load false false 1 (.t 104)),
 qm 5 106 10,
  ER 6 (some 107) none (.iad 4 (.t 105) (.t 106)),
  ER 7 (some 108) none (.load false true 4 (.t 107)),
  ER 8 (some 109) none (.load false true 4 (.t 11)),
  EP 9 (some 110) none (.call F_impl_joined false (roA [.t 108, .t 109])) 1 false,
 qe 10 111 (qI 4 102 103),
 qs 11 (qW 4 111 110)]
def r21 : List Ent := [
  ER 0 (some 83) none (.fad 0 (.t 4)),
  ER 1 (some 84) none (.load false false 1 (.t 83)),
 qm 2 85 10,
 qm 5 88 10,
  ER 7 (some 90) none (.iad 1 (.t 84) (.t 85)),
  EP 8 none none (.i (.store 1 (.t 90) xT)) 0 true,
  EX 3 (some 86) none (.i (qD 1 4)) 2 [] [8] false,
  EX 4 (some 87) none (.i (qL 1 86)) 2 [] [8] false,
  EX 6 (some 89) none (.i (qA 4 11)) 2 [] [8] false,
 qe 9 91 (qI 4 87 88),
 qs 10 (qW 4 91 89)]
def r22 : List Ent := [
 qe 0 112 (qK .add 66 1),
 qm 1 66 112]
def b0 : KC := .seq (.reg 4480 1 r13) (.seq (.cond (.t 67) (.skip) (.exit 2)) (.seq (.block 3 (.seq (.reg 4544 5 r14) (.seq (.reg 4864 5 r15) (.seq (.seq (.reg 5184 2 r16) (.cond (.t 74) (.reg 5312 10 r17) (.skip))) (.block 4 (.seq (.reg 5952 3 r18) (.cond (.t 92) (.skip) (.seq (.reg 6144 6 r19) (.cond (.t 95) (.reg 6528 12 r20) (.reg 7296 11 r21)))))))))) (.reg 8000 2 r22)))
def r23 : List Ent := [
 qe 0 113 (qK .add 33 1),
 qm 1 33 113]
def b1 : KC := .seq (.reg 1920 1 r6) (.seq (.cond (.t 34) (.skip) (.exit 0)) (.seq (.block 1 (.seq (.reg 1984 6 r7) (.seq (.seq (.reg 2368 6 r8) (.cond (.t 43) (.exit 1) (.skip))) (.seq (.reg 2752 13 r9) (.seq (.seq (.reg 3584 2 r10) (.cond (.t 55) (.seq (.reg 3712 7 r11) (.exit 1)) (.skip))) (.seq (.reg 4160 5 r12) (.block 2 (.loop b0)))))))) (.reg 8128 2 r23)))
def r24 : List Ent := [
 qe 0 114 (qA 3 4),
 qs 1 (qW 3 2 114),
 qe 2 3 (.mv xT)]
def fi : FI := { res := [.c 2 true 3, .t 3], code := .seq (.reg 64 2 r0) (.seq (.seq (.reg 192 3 r1) (.cond (.t 15) (.seq (.reg 384 3 r2) (.ret)) (.skip))) (.seq (.reg 576 9 r3) (.seq (.reg 1152 9 r4) (.seq (.seq (.reg 1728 3 r5) (.block 0 (.loop b1))) (.seq (.reg 8256 3 r24) (.ret)))))) }
attribute [go_sem] r0 r1 r2 r3 r4 r5 r6 r7 r8 r9 r10 r11 r12 r13 r14 r15 r16 r17 r18 r19 r20 r21 r22 r23 r24
theorem ok : chkF prog F_impl_AnalyseProgram 1 fi = true := by kernel_rfl
end impl_AnalyseProgram
namespace laws_eqIntS
def r0 : List Ent := [
 qe 0 4 (.mv xF)]
def r1 : List Ent := [
 qm 0 6 0,
 qe 1 7 (qZ 6),
 qm 2 8 1,
 qe 3 9 (qZ 8),
 qe 4 10 (qB .neq 7 9)]
def r2 : List Ent := [
 qe 0 4 (.mv xF)]
def r3 : List Ent := [
 qe 0 5 (.mv (xN 0))]
def r4 : List Ent := [
 qm 0 11 5,
 qm 1 12 0,
 qe 2 13 (qZ 12),
 qe 3 14 (qB .lss 11 13)]
def r5 : List Ent := [
 qm 0 17 0,
 qm 1 18 5,
  ER 2 (some 19) none (.iad 1 (.t 17) (.t 18)),
  ER 3 (some 20) none (.load false false 1 (.t 19)),
 qm 4 21 1,
 qm 5 22 5,
  ER 6 (some 23) none (.iad 1 (.t 21) (.t 22)),
  ER 7 (some 24) none (.load false false 1 (.t 23)),
 qe 8 25 (qB .neq 20 24)]
def r6 : List Ent := [
 qe 0 4 (.mv xF)]
def r7 : List Ent := [
 qm 0 15 5,
 qe 1 16 (qK .add 15 1),
 qm 2 5 16]
def b0 : KC := .seq (.seq (.reg 576 4 r4) (.cond (.t 14) (.skip) (.exit 0))) (.seq (.block 1 (.seq (.reg 832 9 r5) (.cond (.t 25) (.seq (.reg 1408 1 r6) (.ret)) (.skip)))) (.reg 1472 3 r7))
def r8 : List Ent := [
 qe 0 4 (.mv xT)]
def fi : FI := { res := [.t 4], code := .seq (.reg 64 1 r0) (.seq (.seq (.reg 128 5 r1) (.cond (.t 10) (.seq (.reg 448 1 r2) (.ret)) (.skip))) (.seq (.seq (.reg 512 1 r3) (.block 0 (.loop b0))) (.seq (.reg 1664 1 r8) (.ret)))) }
attribute [go_sem] r0 r1 r2 r3 r4 r5 r6 r7 r8
theorem ok : chkF prog F_laws_eqIntS 2 fi = true := by kernel_rfl
end laws_eqIntS
namespace laws_eqBoolS
def r0 : List Ent := [
 qe 0 4 (.mv xF)]
def r1 : List Ent := [
 qm 0 6 0,
 qe 1 7 (qZ 6),
 qm 2 8 1,
 qe 3 9 (qZ 8),
 qe 4 10 (qB .neq 7 9)]
def r2 : List Ent := [
 qe 0 4 (.mv xF)]
def r3 : List Ent := [
 qe 0 5 (.mv (xN 0))]
def r4 : List Ent := [
 qm 0 11 5,
 qm 1 12 0,
 qe 2 13 (qZ 12),
 qe 3 14 (qB .lss 11 13)]
def r5 : List Ent := [
 qm 0 17 0,
 qm 1 18 5,
  ER 2 (some 19) none (.iad 1 (.t 17) (.t 18)),
  ER 3 (some 20) none (.load false false 1 (.t 19)),
 qm 4 21 1,
 qm 5 22 5,
  ER 6 (some 23) none (.iad 1 (.t 21) (.t 22)),
  ER 7 (some 24) none (.load false false 1 (.t 23)),
 qe 8 25 (.eqb true (.t 20) (.t 24))]
def r6 : List Ent := [
 qe 0 4 (.mv xF)]
def r7 : List Ent := [
 qm 0 15 5,
 qe 1 16 (qK .add 15 1),
 qm 2 5 16]
def b0 : KC := .seq (.seq (.reg 576 4 r4) (.cond (.t 14) (.skip) (.exit 0))) (.seq (.block 1 (.seq (.reg 832 9 r5) (.cond (.t 25) (.seq (.reg 1408 1 r6) (.ret)) (.skip)))) (.reg 1472 3 r7))
def r8 : List Ent := [
 qe 0 4 (.mv xT)]
def fi : FI := { res := [.t 4], code := .seq (.reg 64 1 r0) (.seq (.seq (.reg 128 5 r1) (.cond (.t 10) (.seq (.reg 448 1 r2) (.ret)) (.skip))) (.seq (.seq (.reg 512 1 r3) (.block 0 (.loop b0))) (.seq (.reg 1664 1 r8) (.ret)))) }
attribute [go_sem] r0 r1 r2 r3 r4 r5 r6 r7 r8
theorem ok : chkF prog F_laws_eqBoolS 2 fi = true := by kernel_rfl
end laws_eqBoolS
namespace laws_eqStretch
def r0 : List Ent := [
 qe 0 2 (.box (.t 0)),
 qe 1 3 (.box (.t 1)),
 qe 2 4 (.mv xF)]
def r1 : List Ent := [
 qe 0 5 (qD 0 2),
 qe 1 6 (qL 1 5),
 qe 2 7 (qD 0 3),
 qe 3 8 (qL 1 7),
 qe 4 9 (qB .neq 6 8)]
def r2 : List Ent := [
 qe 0 4 (.mv xF)]
def r3 : List Ent := [
 qe 0 10 (qD 1 2),
 qe 1 11 (qL 1 10),
 qe 2 12 (qD 1 3),
 qe 3 13 (qL 1 12),
 qe 4 14 (qB .neq 11 13)]
def r4 : List Ent := [
 qe 0 4 (.mv xF)]
def r5 : List Ent := [
 qe 0 4 (.mv xT)]
def fi : FI := { res := [.t 4], code := .seq (.reg 64 3 r0) (.seq (.seq (.reg 256 5 r1) (.cond (.t 9) (.seq (.reg 576 1 r2) (.ret)) (.skip))) (.seq (.seq (.reg 640 5 r3) (.cond (.t 14) (.seq (.reg 960 1 r4) (.ret)) (.skip))) (.seq (.reg 1024 1 r5) (.ret)))) }
attribute [go_sem] r0 r1 r2 r3 r4 r5
theorem ok : chkF prog F_laws_eqStretch 2 fi = true := by kernel_rfl
end laws_eqStretch
namespace laws_eqStretchS
def r0 : List Ent := [
 qe 0 4 (.mv xF)]
def r1 : List Ent := [
 qm 0 6 0,
 qe 1 7 (qZ 6),
 qm 2 8 1,
 qe 3 9 (qZ 8),
 qe 4 10 (qB .neq 7 9)]
def r2 : List Ent := [
 qe 0 4 (.mv xF)]
def r3 : List Ent := [
 qe 0 5 (.mv (xN 0))]
def r4 : List Ent := [
 qm 0 11 5,
 qm 1 12 0,
 qe 2 13 (qZ 12),
 qe 3 14 (qB .lss 11 13)]
def r5 : List Ent := [
 qm 0 17 0,
 qm 1 18 5,
  ER 2 (some 19) none (.iad 2 (.t 17) (.t 18)),
  ER 3 (some 20) none (.load false true 2 (.t 19)),
 qm 4 21 1,
 qm 5 22 5,
  ER 6 (some 23) none (.iad 2 (.t 21) (.t 22)),
  ER 7 (some 24) none (.load false true 2 (.t 23)),
 qc 8 25 (qC F_laws_eqStretch [.t 20, .t 24]),
 qe 9 26 (qN 25)]
def r6 : List Ent := [
 qe 0 4 (.mv xF)]
def r7 : List Ent := [
 qm 0 15 5,
 qe 1 16 (qK .add 15 1),
 qm 2 5 16]
def b0 : KC := .seq (.seq (.reg 576 4 r4) (.cond (.t 14) (.skip) (.exit 0))) (.seq (.block 1 (.seq (.reg 832 10 r5) (.cond (.t 26) (.seq (.reg 1472 1 r6) (.ret)) (.skip)))) (.reg 1536 3 r7))
def r8 : List Ent := [
 qe 0 4 (.mv xT)]
def fi : FI := { res := [.t 4], code := .seq (.reg 64 1 r0) (.seq (.seq (.reg 128 5 r1) (.cond (.t 10) (.seq (.reg 448 1 r2) (.ret)) (.skip))) (.seq (.seq (.reg 512 1 r3) (.block 0 (.loop b0))) (.seq (.reg 1728 1 r8) (.ret)))) }
attribute [go_sem] r0 r1 r2 r3 r4 r5 r6 r7 r8
theorem ok : chkF prog F_laws_eqStretchS 2 fi = true := by kernel_rfl
end laws_eqStretchS
namespace laws_eqKnown
def r0 : List Ent := [
 qe 0 2 (.box (.t 0)),
 qe 1 3 (.box (.t 1)),
 qe 2 4 (.mv xF)]
def r1 : List Ent := [
 qe 0 5 (qD 0 2),
 qe 1 6 (qL 1 5),
 qe 2 7 (qD 0 3),
 qe 3 8 (qL 1 7),
 qe 4 9 (qB .neq 6 8)]
def r2 : List Ent := [
 qe 0 4 (.mv xF)]
def r3 : List Ent := [
 qe 0 10 (qD 1 2),
 qe 1 11 (qL 1 10),
 qe 2 12 (qD 1 3),
 qe 3 13 (qL 1 12),
 qe 4 14 (qB .neq 11 13)]
def r4 : List Ent := [
 qe 0 4 (.mv xF)]
def r5 : List Ent := [
 qe 0 4 (.mv xT)]
def fi : FI := { res := [.t 4], code := .seq (.reg 64 3 r0) (.seq (.seq (.reg 256 5 r1) (.cond (.t 9) (.seq (.reg 576 1 r2) (.ret)) (.skip))) (.seq (.seq (.reg 640 5 r3) (.cond (.t 14) (.seq (.reg 960 1 r4) (.ret)) (.skip))) (.seq (.reg 1024 1 r5) (.ret)))) }
attribute [go_sem] r0 r1 r2 r3 r4 r5
theorem ok : chkF prog F_laws_eqKnown 2 fi = true := by kernel_rfl
end laws_eqKnown
namespace laws_eqKnownS
def r0 : List Ent := [
 qe 0 4 (.mv xF)]
def r1 : List Ent := [
 qm 0 6 0,
 qe 1 7 (qZ 6),
 qm 2 8 1,
 qe 3 9 (qZ 8),
 qe 4 10 (qB .neq 7 9)]
def r2 : List Ent := [
 qe 0 4 (.mv xF)]
def r3 : List Ent := [
 qe 0 5 (.mv (xN 0))]
def r4 : List Ent := [
 qm 0 11 5,
 qm 1 12 0,
 qe 2 13 (qZ 12),
 qe 3 14 (qB .lss 11 13)]
def r5 : List Ent := [
 qm 0 17 0,
 qm 1 18 5,
  ER 2 (some 19) none (.iad 2 (.t 17) (.t 18)),
  ER 3 (some 20) none (.load false true 2 (.t 19)),
 qm 4 21 1,
 qm 5 22 5,
  ER 6 (some 23) none (.iad 2 (.t 21) (.t 22)),
  ER 7 (some 24) none (.load false true 2 (.t 23)),
 qc 8 25 (qC F_laws_eqKnown [.t 20, .t 24]),
 qe 9 26 (qN 25)]
def r6 : List Ent := [
 qe 0 4 (.mv xF)]
def r7 : List Ent := [
 qm 0 15 5,
 qe 1 16 (qK .add 15 1),
 qm 2 5 16]
def b0 : KC := .seq (.seq (.reg 576 4 r4) (.cond (.t 14) (.skip) (.exit 0))) (.seq (.block 1 (.seq (.reg 832 10 r5) (.cond (.t 26) (.seq (.reg 1472 1 r6) (.ret)) (.skip)))) (.reg 1536 3 r7))
def r8 : List Ent := [
 qe 0 4 (.mv xT)]
def fi : FI := { res := [.t 4], code := .seq (.reg 64 1 r0) (.seq (.seq (.reg 128 5 r1) (.cond (.t 10) (.seq (.reg 448 1 r2) (.ret)) (.skip))) (.seq (.seq (.reg 512 1 r3) (.block 0 (.loop b0))) (.seq (.reg 1728 1 r8) (.ret)))) }
attribute [go_sem] r0 r1 r2 r3 r4 r5 r6 r7 r8
theorem ok : chkF prog F_laws_eqKnownS 2 fi = true := by kernel_rfl
end laws_eqKnownS
namespace laws_eqMay
def r0 : List Ent := [
 qe 0 2 (.box (.t 0)),
 qe 1 3 (.box (.t 1)),
 qe 2 4 (.mv xF)]
def r1 : List Ent := [
 qe 0 5 (qD 0 2),
 qe 1 6 (qL 1 5),
 qe 2 7 (qD 0 3),
 qe 3 8 (qL 1 7),
 qc 4 9 (qC F_laws_eqStretchS [.t 6, .t 8]),
 qe 5 10 (qN 9)]
def r2 : List Ent := [
 qe 0 4 (.mv xF)]
def r3 : List Ent := [
 qe 0 11 (qD 1 2),
 qe 1 12 (qL 1 11),
 qe 2 13 (qD 1 3),
 qe 3 14 (qL 1 13),
 qc 4 15 (qC F_laws_eqKnownS [.t 12, .t 14]),
 qe 5 16 (qN 15)]
def r4 : List Ent := [
 qe 0 4 (.mv xF)]
def r5 : List Ent := [
 qe 0 17 (qD 2 2),
 qe 1 18 (qL 1 17),
 qe 2 19 (qD 2 3),
 qe 3 20 (qL 1 19),
 qc 4 21 (qC F_laws_eqStretchS [.t 18, .t 20]),
 qe 5 22 (qN 21)]
def r6 : List Ent := [
 qe 0 4 (.mv xF)]
def r7 : List Ent := [
 qe 0 23 (qD 3 2),
 qe 1 24 (qL 1 23),
 qe 2 25 (qD 3 3),
 qe 3 26 (qL 1 25),
 qc 4 27 (qC F_laws_eqBoolS [.t 24, .t 26]),
 qe 5 28 (qN 27)]
def r8 : List Ent := [
 qe 0 4 (.mv xF)]
def r9 : List Ent := [
 qe 0 4 (.mv xT)]
def fi : FI := { res := [.t 4], code := .seq (.reg 64 3 r0) (.seq (.seq (.reg 256 6 r1) (.cond (.t 10) (.seq (.reg 640 1 r2) (.ret)) (.skip))) (.seq (.seq (.reg 704 6 r3) (.cond (.t 16) (.seq (.reg 1088 1 r4) (.ret)) (.skip))) (.seq (.seq (.reg 1152 6 r5) (.cond (.t 22) (.seq (.reg 1536 1 r6) (.ret)) (.skip))) (.seq (.seq (.reg 1600 6 r7) (.cond (.t 28) (.seq (.reg 1984 1 r8) (.ret)) (.skip))) (.seq (.reg 2048 1 r9) (.ret)))))) }
attribute [go_sem] r0 r1 r2 r3 r4 r5 r6 r7 r8 r9
theorem ok : chkF prog F_laws_eqMay 2 fi = true := by kernel_rfl
end laws_eqMay
namespace laws_eqMayS
def r0 : List Ent := [
 qe 0 4 (.mv xF)]
def r1 : List Ent := [
 qm 0 6 0,
 qe 1 7 (qZ 6),
 qm 2 8 1,
 qe 3 9 (qZ 8),
 qe 4 10 (qB .neq 7 9)]
def r2 : List Ent := [
 qe 0 4 (.mv xF)]
def r3 : List Ent := [
 qe 0 5 (.mv (xN 0))]
def r4 : List Ent := [
 qm 0 11 5,
 qm 1 12 0,
 qe 2 13 (qZ 12),
 qe 3 14 (qB .lss 11 13)]
def r5 : List Ent := [
 qm 0 17 0,
 qm 1 18 5,
  ER 2 (some 19) none (.iad 4 (.t 17) (.t 18)),
  ER 3 (some 20) none (.load false true 4 (.t 19)),
 qm 4 21 1,
 qm 5 22 5,
  ER 6 (some 23) none (.iad 4 (.t 21) (.t 22)),
  ER 7 (some 24) none (.load false true 4 (.t 23)),
 qc 8 25 (qC F_laws_eqMay [.t 20, .t 24]),
 qe 9 26 (qN 25)]
def r6 : List Ent := [
 qe 0 4 (.mv xF)]
def r7 : List Ent := [
 qm 0 15 5,
 qe 1 16 (qK .add 15 1),
 qm 2 5 16]
def b0 : KC := .seq (.seq (.reg 576 4 r4) (.cond (.t 14) (.skip) (.exit 0))) (.seq (.block 1 (.seq (.reg 832 10 r5) (.cond (.t 26) (.seq (.reg 1472 1 r6) (.ret)) (.skip)))) (.reg 1536 3 r7))
def r8 : List Ent := [
 qe 0 4 (.mv xT)]
def fi : FI := { res := [.t 4], code := .seq (.reg 64 1 r0) (.seq (.seq (.reg 128 5 r1) (.cond (.t 10) (.seq (.reg 448 1 r2) (.ret)) (.skip))) (.seq (.seq (.reg 512 1 r3) (.block 0 (.loop b0))) (.seq (.reg 1728 1 r8) (.ret)))) }
attribute [go_sem] r0 r1 r2 r3 r4 r5 r6 r7 r8
theorem ok : chkF prog F_laws_eqMayS 2 fi = true := by kernel_rfl
end laws_eqMayS
namespace laws_eqReport
def r0 : List Ent := [
 qe 0 2 (.box (.t 0)),
 qe 1 3 (.box (.t 1)),
 qe 2 4 (.mv xF)]
def r1 : List Ent := [
 qe 0 5 (qD 0 2),
 qe 1 6 (qL 1 5),
 qe 2 7 (qD 0 3),
 qe 3 8 (qL 1 7),
 qc 4 9 (qC F_laws_eqBoolS [.t 6, .t 8]),
 qe 5 10 (qN 9)]
def r2 : List Ent := [
 qe 0 4 (.mv xF)]
def r3 : List Ent := [
 qe 0 11 (qD 1 2),
 qe 1 12 (qL 1 11),
 qe 2 13 (qD 1 3),
 qe 3 14 (qL 1 13),
 qc 4 15 (qC F_laws_eqMayS [.t 12, .t 14]),
 qe 5 16 (qN 15)]
def r4 : List Ent := [
 qe 0 4 (.mv xF)]
def r5 : List Ent := [
 qe 0 17 (qD 2 2),
 qe 1 18 (qL 1 17),
 qe 2 19 (qD 2 3),
 qe 3 20 (qL 1 19),
 qc 4 21 (qC F_laws_eqIntS [.t 18, .t 20]),
 qe 5 22 (qN 21)]
def r6 : List Ent := [
 qe 0 4 (.mv xF)]
def r7 : List Ent := [
 qe 0 4 (.mv xT)]
def fi : FI := { res := [.t 4], code := .seq (.reg 64 3 r0) (.seq (.seq (.reg 256 6 r1) (.cond (.t 10) (.seq (.reg 640 1 r2) (.ret)) (.skip))) (.seq (.seq (.reg 704 6 r3) (.cond (.t 16) (.seq (.reg 1088 1 r4) (.ret)) (.skip))) (.seq (.seq (.reg 1152 6 r5) (.cond (.t 22) (.seq (.reg 1536 1 r6) (.ret)) (.skip))) (.seq (.reg 1600 1 r7) (.ret))))) }
attribute [go_sem] r0 r1 r2 r3 r4 r5 r6 r7
theorem ok : chkF prog F_laws_eqReport 2 fi = true := by kernel_rfl
end laws_eqReport
namespace laws_eqStep
def r0 : List Ent := [
 qe 0 2 (.box (.t 0)),
 qe 1 3 (.box (.t 1)),
 qe 2 4 (.mv xF)]
def r1 : List Ent := [
 qe 0 5 (qD 0 2),
 qe 1 6 (qL 1 5),
 qe 2 7 (qD 0 3),
 qe 3 8 (qL 1 7),
 qe 4 9 (qB .neq 6 8)]
def r2 : List Ent := [
 qe 0 4 (.mv xF)]
def r3 : List Ent := [
 qe 0 10 (qD 1 2),
 qe 1 11 (qL 1 10),
 qe 2 12 (qD 1 3),
 qe 3 13 (qL 1 12),
 qe 4 14 (qB .neq 11 13)]
def r4 : List Ent := [
 qe 0 4 (.mv xF)]
def r5 : List Ent := [
 qe 0 15 (qD 2 2),
 qe 1 16 (qL 1 15),
 qe 2 17 (qD 2 3),
 qe 3 18 (qL 1 17),
 qe 4 19 (qB .neq 16 18)]
def r6 : List Ent := [
 qe 0 4 (.mv xF)]
def r7 : List Ent := [
 qe 0 20 (qD 3 2),
 qe 1 21 (qL 1 20),
 qe 2 22 (qD 3 3),
 qe 3 23 (qL 1 22),
 qe 4 24 (qB .neq 21 23)]
def r8 : List Ent := [
 qe 0 4 (.mv xF)]
def r9 : List Ent := [
 qe 0 25 (qD 4 2),
 qe 1 26 (qL 1 25),
 qe 2 27 (qD 4 3),
 qe 3 28 (qL 1 27),
 qe 4 29 (qB .neq 26 28)]
def r10 : List Ent := [
 qe 0 4 (.mv xF)]
def r11 : List Ent := [
 qe 0 30 (qD 5 2),
 qe 1 31 (qL 1 30),
 qe 2 32 (qD 5 3),
 qe 3 33 (qL 1 32),
 qe 4 34 (qB .neq 31 33)]
def r12 : List Ent := [
 qe 0 4 (.mv xF)]
def r13 : List Ent := [
 qe 0 4 (.mv xT)]
def fi : FI := { res := [.t 4], code := .seq (.reg 64 3 r0) (.seq (.seq (.reg 256 5 r1) (.cond (.t 9) (.seq (.reg 576 1 r2) (.ret)) (.skip))) (.seq (.seq (.reg 640 5 r3) (.cond (.t 14) (.seq (.reg 960 1 r4) (.ret)) (.skip))) (.seq (.seq (.reg 1024 5 r5) (.cond (.t 19) (.seq (.reg 1344 1 r6) (.ret)) (.skip))) (.seq (.seq (.reg 1408 5 r7) (.cond (.t 24) (.seq (.reg 1728 1 r8) (.ret)) (.skip))) (.seq (.seq (.reg 1792 5 r9) (.cond (.t 29) (.seq (.reg 2112 1 r10) (.ret)) (.skip))) (.seq (.seq (.reg 2176 5 r11) (.cond (.t 34) (.seq (.reg 2496 1 r12) (.ret)) (.skip))) (.seq (.reg 2560 1 r13) (.ret)))))))) }
attribute [go_sem] r0 r1 r2 r3 r4 r5 r6 r7 r8 r9 r10 r11 r12 r13
theorem ok : chkF prog F_laws_eqStep 2 fi = true := by kernel_rfl
end laws_eqStep
namespace laws_eqStepS
def r0 : List Ent := [
 qe 0 4 (.mv xF)]
def r1 : List Ent := [
 qm 0 6 0,
 qe 1 7 (qZ 6),
 qm 2 8 1,
 qe 3 9 (qZ 8),
 qe 4 10 (qB .neq 7 9)]
def r2 : List Ent := [
 qe 0 4 (.mv xF)]
def r3 : List Ent := [
 qe 0 5 (.mv (xN 0))]
def r4 : List Ent := [
 qm 0 11 5,
 qm 1 12 0,
 qe 2 13 (qZ 12),
 qe 3 14 (qB .lss 11 13)]
def r5 : List Ent := [
 qm 0 17 0,
 qm 1 18 5,
  ER 2 (some 19) none (.iad 6 (.t 17) (.t 18)),
  ER 3 (some 20) none (.load false true 6 (.t 19)),
 qm 4 21 1,
 qm 5 22 5,
  ER 6 (some 23) none (.iad 6 (.t 21) (.t 22)),
  ER 7 (some 24) none (.load false true 6 (.t 23)),
 qc 8 25 (qC F_laws_eqStep [.t 20, .t 24]),
 qe 9 26 (qN 25)]
def r6 : List Ent := [
 qe 0 4 (.mv xF)]
def r7 : List Ent := [
 qm 0 15 5,
 qe 1 16 (qK .add 15 1),
 qm 2 5 16]
def b0 : KC := .seq (.seq (.reg 576 4 r4) (.cond (.t 14) (.skip) (.exit 0))) (.seq (.block 1 (.seq (.reg 832 10 r5) (.cond (.t 26) (.seq (.reg 1472 1 r6) (.ret)) (.skip)))) (.reg 1536 3 r7))
def r8 : List Ent := [
 qe 0 4 (.mv xT)]
def fi : FI := { res := [.t 4], code := .seq (.reg 64 1 r0) (.seq (.seq (.reg 128 5 r1) (.cond (.t 10) (.seq (.reg 448 1 r2) (.ret)) (.skip))) (.seq (.seq (.reg 512 1 r3) (.block 0 (.loop b0))) (.seq (.reg 1728 1 r8) (.ret)))) }
attribute [go_sem] r0 r1 r2 r3 r4 r5 r6 r7 r8
theorem ok : chkF prog F_laws_eqStepS 2 fi = true := by kernel_rfl
end laws_eqStepS
namespace laws_markStepS
def r0 : List Ent := [
 qe 0 4 (.mv (xN 0))]
def r1 : List Ent := [
 qe 0 5 (.mv (xN 0))]
def r2 : List Ent := [
 qm 0 6 5,
 qm 1 7 0,
 qe 2 8 (qZ 7),
 qe 3 9 (qB .lss 6 8)]
def r3 : List Ent := [
 qm 0 12 0,
 qm 1 13 5,
 qm 2 14 1,
 qe 3 15 (qI 6 12 13),
 qe 4 16 (qD 0 15),
 qs 5 (qW 1 16 14)]
def r4 : List Ent := [
 qm 0 17 1,
 qe 1 18 (qK .add 17 1),
 qm 2 1 18]
def r5 : List Ent := [
 qm 0 19 0,
 qm 1 20 5,
 qm 2 21 1,
 qe 3 22 (qI 6 19 20),
 qe 4 23 (qD 1 22),
 qs 5 (qW 1 23 21)]
def r6 : List Ent := [
 qm 0 24 1,
 qe 1 25 (qK .add 24 1),
 qm 2 1 25]
def r7 : List Ent := [
 qm 0 26 0,
 qm 1 27 5,
 qm 2 28 1,
 qe 3 29 (qI 6 26 27),
 qe 4 30 (qD 2 29),
 qs 5 (qW 1 30 28)]
def r8 : List Ent := [
 qm 0 31 1,
 qe 1 32 (qK .add 31 1),
 qm 2 1 32]
def r9 : List Ent := [
 qm 0 33 0,
 qm 1 34 5,
 qm 2 35 1,
 qe 3 36 (qI 6 33 34),
 qe 4 37 (qD 3 36),
 qs 5 (qW 1 37 35)]
def r10 : List Ent := [
 qm 0 38 1,
 qe 1 39 (qK .add 38 1),
 qm 2 1 39]
def r11 : List Ent := [
 qm 0 40 0,
 qm 1 41 5,
 qm 2 42 1,
 qe 3 43 (qI 6 40 41),
 qe 4 44 (qD 4 43),
 qs 5 (qW 1 44 42)]
def r12 : List Ent := [
 qm 0 45 1,
 qe 1 46 (qK .add 45 1),
 qm 2 1 46]
def r13 : List Ent := [
 qm 0 47 0,
 qm 1 48 5,
 qm 2 49 1,
 qe 3 50 (qI 6 47 48),
 qe 4 51 (qD 5 50),
 qs 5 (qW 1 51 49)]
def r14 : List Ent := [
 qm 0 52 1,
 qe 1 53 (qK .add 52 1),
 qm 2 1 53]
def r15 : List Ent := [
 qm 0 10 5,
 qe 1 11 (qK .add 10 1),
 qm 2 5 11]
def b0 : KC := .seq (.seq (.reg 192 4 r2) (.cond (.t 9) (.skip) (.exit 0))) (.seq (.block 1 (.seq (.reg 448 6 r3) (.seq (.reg 832 3 r4) (.seq (.reg 1024 6 r5) (.seq (.reg 1408 3 r6) (.seq (.reg 1600 6 r7) (.seq (.reg 1984 3 r8) (.seq (.reg 2176 6 r9) (.seq (.reg 2560 3 r10) (.seq (.reg 2752 6 r11) (.seq (.reg 3136 3 r12) (.seq (.reg 3328 6 r13) (.reg 3712 3 r14))))))))))))) (.reg 3904 3 r15))
def r16 : List Ent := [
 qm 0 54 1,
 qm 1 4 54]
def fi : FI := { res := [.t 4], code := .seq (.reg 64 1 r0) (.seq (.seq (.reg 128 1 r1) (.block 0 (.loop b0))) (.seq (.reg 4096 2 r16) (.ret))) }
attribute [go_sem] r0 r1 r2 r3 r4 r5 r6 r7 r8 r9 r10 r11 r12 r13 r14 r15 r16
theorem ok : chkF prog F_laws_markStepS 2 fi = true := by kernel_rfl
end laws_markStepS
namespace laws_markBoolS
def r0 : List Ent := [
 qe 0 4 (.mv (xN 0))]
def r1 : List Ent := [
 qe 0 5 (.mv (xN 0))]
def r2 : List Ent := [
 qm 0 6 5,
 qm 1 7 0,
 qe 2 8 (qZ 7),
 qe 3 9 (qB .lss 6 8)]
def r3 : List Ent := [
 qm 0 12 0,
 qm 1 13 5,
 qm 2 14 1,
 qe 3 15 (qK .rem 14 3),
 qe 4 16 (qK .eql 15 0),
 qe 5 17 (qI 1 12 13),
 qs 6 (qW 1 17 16)]
def r4 : List Ent := [
 qm 0 18 1,
 qe 1 19 (qK .add 18 1),
 qm 2 1 19]
def r5 : List Ent := [
 qm 0 10 5,
 qe 1 11 (qK .add 10 1),
 qm 2 5 11]
def b0 : KC := .seq (.seq (.reg 192 4 r2) (.cond (.t 9) (.skip) (.exit 0))) (.seq (.block 1 (.seq (.reg 448 7 r3) (.reg 896 3 r4))) (.reg 1088 3 r5))
def r6 : List Ent := [
 qm 0 20 1,
 qm 1 4 20]
def fi : FI := { res := [.t 4], code := .seq (.reg 64 1 r0) (.seq (.seq (.reg 128 1 r1) (.block 0 (.loop b0))) (.seq (.reg 1280 2 r6) (.ret))) }
attribute [go_sem] r0 r1 r2 r3 r4 r5 r6
theorem ok : chkF prog F_laws_markBoolS 2 fi = true := by kernel_rfl
end laws_markBoolS
namespace laws_markStretchS
def r0 : List Ent := [
 qe 0 4 (.mv (xN 0))]
def r1 : List Ent := [
 qe 0 5 (.mv (xN 0))]
def r2 : List Ent := [
 qm 0 6 5,
 qm 1 7 0,
 qe 2 8 (qZ 7),
 qe 3 9 (qB .lss 6 8)]
def r3 : List Ent := [
 qm 0 12 0,
 qm 1 13 5,
 qm 2 14 1,
 qe 3 15 (qI 2 12 13),
 qe 4 16 (qD 0 15),
 qs 5 (qW 1 16 14)]
def r4 : List Ent := [
 qm 0 17 1,
 qe 1 18 (qK .add 17 1),
 qm 2 1 18]
def r5 : List Ent := [
 qm 0 19 0,
 qm 1 20 5,
 qm 2 21 1,
 qe 3 22 (qI 2 19 20),
 qe 4 23 (qD 1 22),
 qs 5 (qW 1 23 21)]
def r6 : List Ent := [
 qm 0 24 1,
 qe 1 25 (qK .add 24 1),
 qm 2 1 25]
def r7 : List Ent := [
 qm 0 10 5,
 qe 1 11 (qK .add 10 1),
 qm 2 5 11]
def b0 : KC := .seq (.seq (.reg 192 4 r2) (.cond (.t 9) (.skip) (.exit 0))) (.seq (.block 1 (.seq (.reg 448 6 r3) (.seq (.reg 832 3 r4) (.seq (.reg 1024 6 r5) (.reg 1408 3 r6))))) (.reg 1600 3 r7))
def r8 : List Ent := [
 qm 0 26 1,
 qm 1 4 26]
def fi : FI := { res := [.t 4], code := .seq (.reg 64 1 r0) (.seq (.seq (.reg 128 1 r1) (.block 0 (.loop b0))) (.seq (.reg 1792 2 r8) (.ret))) }
attribute [go_sem] r0 r1 r2 r3 r4 r5 r6 r7 r8
theorem ok : chkF prog F_laws_markStretchS 2 fi = true := by kernel_rfl
end laws_markStretchS
namespace laws_markKnownS
def r0 : List Ent := [
 qe 0 4 (.mv (xN 0))]
def r1 : List Ent := [
 qe 0 5 (.mv (xN 0))]
def r2 : List Ent := [
 qm 0 6 5,
 qm 1 7 0,
 qe 2 8 (qZ 7),
 qe 3 9 (qB .lss 6 8)]
def r3 : List Ent := [
 qm 0 12 0,
 qm 1 13 5,
 qm 2 14 1,
 qe 3 15 (qI 2 12 13),
 qe 4 16 (qD 0 15),
 qs 5 (qW 1 16 14)]
def r4 : List Ent := [
 qm 0 17 1,
 qe 1 18 (qK .add 17 1),
 qm 2 1 18]
def r5 : List Ent := [
 qm 0 19 0,
 qm 1 20 5,
 qm 2 21 1,
 qe 3 22 (qI 2 19 20),
 qe 4 23 (qD 1 22),
 qs 5 (qW 1 23 21)]
def r6 : List Ent := [
 qm 0 24 1,
 qe 1 25 (qK .add 24 1),
 qm 2 1 25]
def r7 : List Ent := [
 qm 0 10 5,
 qe 1 11 (qK .add 10 1),
 qm 2 5 11]
def b0 : KC := .seq (.seq (.reg 192 4 r2) (.cond (.t 9) (.skip) (.exit 0))) (.seq (.block 1 (.seq (.reg 448 6 r3) (.seq (.reg 832 3 r4) (.seq (.reg 1024 6 r5) (.reg 1408 3 r6))))) (.reg 1600 3 r7))
def r8 : List Ent := [
 qm 0 26 1,
 qm 1 4 26]
def fi : FI := { res := [.t 4], code := .seq (.reg 64 1 r0) (.seq (.seq (.reg 128 1 r1) (.block 0 (.loop b0))) (.seq (.reg 1792 2 r8) (.ret))) }
attribute [go_sem] r0 r1 r2 r3 r4 r5 r6 r7 r8
theorem ok : chkF prog F_laws_markKnownS 2 fi = true := by kernel_rfl
end laws_markKnownS
namespace laws_markMayS
def r0 : List Ent := [
 qe 0 4 (.mv (xN 0))]
def r1 : List Ent := [
 qe 0 5 (.mv (xN 0))]
def r2 : List Ent := [
 qm 0 6 5,
 qm 1 7 0,
 qe 2 8 (qZ 7),
 qe 3 9 (qB .lss 6 8)]
def r3 : List Ent := [
 qm 0 12 0,
 qm 1 13 5,
 qe 2 14 (qI 4 12 13),
 qe 3 15 (qD 0 14),
 qe 4 16 (.load true false 1 (.t 15)),
 qm 5 17 1,
 qc 6 18 (.call F_laws_markStretchS false [(.io, .t 16), (.ro, .t 17)]),
 qm 7 1 18]
def r4 : List Ent := [
 qm 0 19 0,
 qm 1 20 5,
 qe 2 21 (qI 4 19 20),
 qe 3 22 (qD 1 21),
 qe 4 23 (.load true false 1 (.t 22)),
 qm 5 24 1,
 qc 6 25 (.call F_laws_markKnownS false [(.io, .t 23), (.ro, .t 24)]),
 qm 7 1 25]
def r5 : List Ent := [
 qm 0 26 0,
 qm 1 27 5,
 qe 2 28 (qI 4 26 27),
 qe 3 29 (qD 2 28),
 qe 4 30 (.load true false 1 (.t 29)),
 qm 5 31 1,
 qc 6 32 (.call F_laws_markStretchS false [(.io, .t 30), (.ro, .t 31)]),
 qm 7 1 32]
def r6 : List Ent := [
 qm 0 33 0,
 qm 1 34 5,
 qe 2 35 (qI 4 33 34),
 qe 3 36 (qD 3 35),
 qe 4 37 (.load true false 1 (.t 36)),
 qm 5 38 1,
 qc 6 39 (.call F_laws_markBoolS false [(.io, .t 37), (.ro, .t 38)]),
 qm 7 1 39]
def r7 : List Ent := [
 qm 0 10 5,
 qe 1 11 (qK .add 10 1),
 qm 2 5 11]
def b0 : KC := .seq (.seq (.reg 192 4 r2) (.cond (.t 9) (.skip) (.exit 0))) (.seq (.block 1 (.seq (.reg 448 8 r3) (.seq (.reg 960 8 r4) (.seq (.reg 1472 8 r5) (.reg 1984 8 r6))))) (.reg 2496 3 r7))
def r8 : List Ent := [
 qm 0 40 1,
 qm 1 4 40]
def fi : FI := { res := [.t 4], code := .seq (.reg 64 1 r0) (.seq (.seq (.reg 128 1 r1) (.block 0 (.loop b0))) (.seq (.reg 2688 2 r8) (.ret))) }
attribute [go_sem] r0 r1 r2 r3 r4 r5 r6 r7 r8
theorem ok : chkF prog F_laws_markMayS 2 fi = true := by kernel_rfl
end laws_markMayS
namespace laws_markIntS
def r0 : List Ent := [
 qe 0 4 (.mv (xN 0))]
def r1 : List Ent := [
 qe 0 5 (.mv (xN 0))]
def r2 : List Ent := [
 qm 0 6 5,
 qm 1 7 0,
 qe 2 8 (qZ 7),
 qe 3 9 (qB .lss 6 8)]
def r3 : List Ent := [
 qm 0 12 0,
 qm 1 13 5,
 qm 2 14 1,
 qe 3 15 (qI 1 12 13),
 qs 4 (qW 1 15 14)]
def r4 : List Ent := [
 qm 0 16 1,
 qe 1 17 (qK .add 16 1),
 qm 2 1 17]
def r5 : List Ent := [
 qm 0 10 5,
 qe 1 11 (qK .add 10 1),
 qm 2 5 11]
def b0 : KC := .seq (.seq (.reg 192 4 r2) (.cond (.t 9) (.skip) (.exit 0))) (.seq (.block 1 (.seq (.reg 448 5 r3) (.reg 768 3 r4))) (.reg 960 3 r5))
def r6 : List Ent := [
 qm 0 18 1,
 qm 1 4 18]
def fi : FI := { res := [.t 4], code := .seq (.reg 64 1 r0) (.seq (.seq (.reg 128 1 r1) (.block 0 (.loop b0))) (.seq (.reg 1152 2 r6) (.ret))) }
attribute [go_sem] r0 r1 r2 r3 r4 r5 r6
theorem ok : chkF prog F_laws_markIntS 2 fi = true := by kernel_rfl
end laws_markIntS
namespace laws_markReport
def r0 : List Ent := [
 qe 0 2 (.box (.t 0)),
 qe 1 4 (.mv (xN 0))]
def r1 : List Ent := [
 qe 0 5 (qD 0 2),
 qe 1 6 (qL 1 5),
 qm 2 7 1,
 qc 3 8 (.call F_laws_markBoolS false [(.io, .t 6), (.ro, .t 7)]),
 qm 4 1 8]
def r2 : List Ent := [
 qe 0 9 (qD 1 2),
 qe 1 10 (qL 1 9),
 qm 2 11 1,
 qc 3 12 (.call F_laws_markMayS false [(.io, .t 10), (.ro, .t 11)]),
 qm 4 1 12]
def r3 : List Ent := [
 qe 0 13 (qD 2 2),
 qe 1 14 (qL 1 13),
 qm 2 15 1,
 qc 3 16 (.call F_laws_markIntS false [(.io, .t 14), (.ro, .t 15)]),
 qm 4 1 16]
def r4 : List Ent := [
 qm 0 17 1,
 qm 1 4 17]
def fi : FI := { res := [.t 4], code := .seq (.reg 64 2 r0) (.seq (.reg 192 5 r1) (.seq (.reg 512 5 r2) (.seq (.reg 832 5 r3) (.seq (.reg 1152 2 r4) (.ret))))) }
attribute [go_sem] r0 r1 r2 r3 r4
theorem ok : chkF prog F_laws_markReport 2 fi = true := by kernel_rfl
end laws_markReport
namespace laws_heldBoolS
def r0 : List Ent := [
 qe 0 4 (.mv (xN 0))]
def r1 : List Ent := [
 qe 0 5 (.mv (xN 0))]
def r2 : List Ent := [
 qm 0 6 5,
 qm 1 7 0,
 qe 2 8 (qZ 7),
 qe 3 9 (qB .lss 6 8)]
def r3 : List Ent := [
 qm 0 12 0,
 qm 1 13 5,
 qe 2 14 (qI 1 12 13),
 qe 3 15 (qL 1 14),
 qm 4 16 1,
 qe 5 17 (qK .rem 16 3),
 qe 6 18 (qK .eql 17 0),
 qe 7 19 (.eqb true (.t 15) (.t 18))]
def r4 : List Ent := [
 qe 0 4 (.mv (xN (-1)))]
def r5 : List Ent := [
 qm 0 20 1,
 qe 1 21 (qK .add 20 1),
 qm 2 1 21]
def r6 : List Ent := [
 qm 0 10 5,
 qe 1 11 (qK .add 10 1),
 qm 2 5 11]
def b0 : KC := .seq (.seq (.reg 192 4 r2) (.cond (.t 9) (.skip) (.exit 0))) (.seq (.block 1 (.seq (.seq (.reg 448 8 r3) (.cond (.t 19) (.seq (.reg 960 1 r4) (.ret)) (.skip))) (.reg 1024 3 r5))) (.reg 1216 3 r6))
def r7 : List Ent := [
 qm 0 22 1,
 qm 1 4 22]
def fi : FI := { res := [.t 4], code := .seq (.reg 64 1 r0) (.seq (.seq (.reg 128 1 r1) (.block 0 (.loop b0))) (.seq (.reg 1408 2 r7) (.ret))) }
attribute [go_sem] r0 r1 r2 r3 r4 r5 r6 r7
theorem ok : chkF prog F_laws_heldBoolS 2 fi = true := by kernel_rfl
end laws_heldBoolS
namespace laws_heldStretchS
def r0 : List Ent := [
 qe 0 4 (.mv (xN 0))]
def r1 : List Ent := [
 qe 0 5 (.mv (xN 0))]
def r2 : List Ent := [
 qm 0 6 5,
 qm 1 7 0,
 qe 2 8 (qZ 7),
 qe 3 9 (qB .lss 6 8)]
def r3 : List Ent := [
 qm 0 12 0,
 qm 1 13 5,
 qe 2 14 (qI 2 12 13),
 qe 3 15 (qD 0 14),
 qe 4 16 (qL 1 15),
 qm 5 17 1,
 qe 6 18 (qB .neq 16 17)]
def r4 : List Ent := [
 qe 0 4 (.mv (xN (-1)))]
def r5 : List Ent := [
 qm 0 19 1,
 qe 1 20 (qK .add 19 1),
 qm 2 1 20]
def r6 : List Ent := [
 qm 0 21 0,
 qm 1 22 5,
 qe 2 23 (qI 2 21 22),
 qe 3 24 (qD 1 23),
 qe 4 25 (qL 1 24),
 qm 5 26 1,
 qe 6 27 (qB .neq 25 26)]
def r7 : List Ent := [
 qe 0 4 (.mv (xN (-1)))]
def r8 : List Ent := [
 qm 0 28 1,
 qe 1 29 (qK .add 28 1),
 qm 2 1 29]
def r9 : List Ent := [
 qm 0 10 5,
 qe 1 11 (qK .add 10 1),
 qm 2 5 11]
def b0 : KC := .seq (.seq (.reg 192 4 r2) (.cond (.t 9) (.skip) (.exit 0))) (.seq (.block 1 (.seq (.seq (.reg 448 7 r3) (.cond (.t 18) (.seq (.reg 896 1 r4) (.ret)) (.skip))) (.seq (.reg 960 3 r5) (.seq (.seq (.reg 1152 7 r6) (.cond (.t 27) (.seq (.reg 1600 1 r7) (.ret)) (.skip))) (.reg 1664 3 r8))))) (.reg 1856 3 r9))
def r10 : List Ent := [
 qm 0 30 1,
 qm 1 4 30]
def fi : FI := { res := [.t 4], code := .seq (.reg 64 1 r0) (.seq (.seq (.reg 128 1 r1) (.block 0 (.loop b0))) (.seq (.reg 2048 2 r10) (.ret))) }
attribute [go_sem] r0 r1 r2 r3 r4 r5 r6 r7 r8 r9 r10
theorem ok : chkF prog F_laws_heldStretchS 2 fi = true := by kernel_rfl
end laws_heldStretchS
namespace laws_heldKnownS
def r0 : List Ent := [
 qe 0 4 (.mv (xN 0))]
def r1 : List Ent := [
 qe 0 5 (.mv (xN 0))]
def r2 : List Ent := [
 qm 0 6 5,
 qm 1 7 0,
 qe 2 8 (qZ 7),
 qe 3 9 (qB .lss 6 8)]
def r3 : List Ent := [
 qm 0 12 0,
 qm 1 13 5,
 qe 2 14 (qI 2 12 13),
 qe 3 15 (qD 0 14),
 qe 4 16 (qL 1 15),
 qm 5 17 1,
 qe 6 18 (qB .neq 16 17)]
def r4 : List Ent := [
 qe 0 4 (.mv (xN (-1)))]
def r5 : List Ent := [
 qm 0 19 1,
 qe 1 20 (qK .add 19 1),
 qm 2 1 20]
def r6 : List Ent := [
 qm 0 21 0,
 qm 1 22 5,
 qe 2 23 (qI 2 21 22),
 qe 3 24 (qD 1 23),
 qe 4 25 (qL 1 24),
 qm 5 26 1,
 qe 6 27 (qB .neq 25 26)]
def r7 : List Ent := [
 qe 0 4 (.mv (xN (-1)))]
def r8 : List Ent := [
 qm 0 28 1,
 qe 1 29 (qK .add 28 1),
 qm 2 1 29]
def r9 : List Ent := [
 qm 0 10 5,
 qe 1 11 (qK .add 10 1),
 qm 2 5 11]
def b0 : KC := .seq (.seq (.reg 192 4 r2) (.cond (.t 9) (.skip) (.exit 0))) (.seq (.block 1 (.seq (.seq (.reg 448 7 r3) (.cond (.t 18) (.seq (.reg 896 1 r4) (.ret)) (.skip))) (.seq (.reg 960 3 r5) (.seq (.seq (.reg 1152 7 r6) (.cond (.t 27) (.seq (.reg 1600 1 r7) (.ret)) (.skip))) (.reg 1664 3 r8))))) (.reg 1856 3 r9))
def r10 : List Ent := [
 qm 0 30 1,
 qm 1 4 30]
def fi : FI := { res := [.t 4], code := .seq (.reg 64 1 r0) (.seq (.seq (.reg 128 1 r1) (.block 0 (.loop b0))) (.seq (.reg 2048 2 r10) (.ret))) }
attribute [go_sem] r0 r1 r2 r3 r4 r5 r6 r7 r8 r9 r10
theorem ok : chkF prog F_laws_heldKnownS 2 fi = true := by kernel_rfl
end laws_heldKnownS
namespace laws_heldMayS
def r0 : List Ent := [
 qe 0 4 (.mv (xN 0))]
def r1 : List Ent := [
 qe 0 5 (.mv (xN 0))]
def r2 : List Ent := [
 qm 0 6 5,
 qm 1 7 0,
 qe 2 8 (qZ 7),
 qe 3 9 (qB .lss 6 8)]
def r3 : List Ent := [
 qm 0 12 0,
 qm 1 13 5,
 qe 2 14 (qI 4 12 13),
 qe 3 15 (qD 0 14),
 qe 4 16 (qL 1 15),
 qm 5 17 1,
 qc 6 18 (qC F_laws_heldStretchS [.t 16, .t 17]),
 qm 7 1 18]
def r4 : List Ent := [
 qm 0 19 1,
 qe 1 20 (qK .lss 19 0)]
def r5 : List Ent := [
 qe 0 4 (.mv (xN (-1)))]
def r6 : List Ent := [
 qm 0 21 0,
 qm 1 22 5,
 qe 2 23 (qI 4 21 22),
 qe 3 24 (qD 1 23),
 qe 4 25 (qL 1 24),
 qm 5 26 1,
 qc 6 27 (qC F_laws_heldKnownS [.t 25, .t 26]),
 qm 7 1 27]
def r7 : List Ent := [
 qm 0 28 1,
 qe 1 29 (qK .lss 28 0)]
def r8 : List Ent := [
 qe 0 4 (.mv (xN (-1)))]
def r9 : List Ent := [
 qm 0 30 0,
 qm 1 31 5,
 qe 2 32 (qI 4 30 31),
 qe 3 33 (qD 2 32),
 qe 4 34 (qL 1 33),
 qm 5 35 1,
 qc 6 36 (qC F_laws_heldStretchS [.t 34, .t 35]),
 qm 7 1 36]
def r10 : List Ent := [
 qm 0 37 1,
 qe 1 38 (qK .lss 37 0)]
def r11 : List Ent := [
 qe 0 4 (.mv (xN (-1)))]
def r12 : List Ent := [
 qm 0 39 0,
 qm 1 40 5,
 qe 2 41 (qI 4 39 40),
 qe 3 42 (qD 3 41),
 qe 4 43 (qL 1 42),
 qm 5 44 1,
 qc 6 45 (qC F_laws_heldBoolS [.t 43, .t 44]),
 qm 7 1 45]
def r13 : List Ent := [
 qm 0 46 1,
 qe 1 47 (qK .lss 46 0)]
def r14 : List Ent := [
 qe 0 4 (.mv (xN (-1)))]
def r15 : List Ent := [
 qm 0 10 5,
 qe 1 11 (qK .add 10 1),
 qm 2 5 11]
def b0 : KC := .seq (.seq (.reg 192 4 r2) (.cond (.t 9) (.skip) (.exit 0))) (.seq (.block 1 (.seq (.reg 448 8 r3) (.seq (.seq (.reg 960 2 r4) (.cond (.t 20) (.seq (.reg 1088 1 r5) (.ret)) (.skip))) (.seq (.reg 1152 8 r6) (.seq (.seq (.reg 1664 2 r7) (.cond (.t 29) (.seq (.reg 1792 1 r8) (.ret)) (.skip))) (.seq (.reg 1856 8 r9) (.seq (.seq (.reg 2368 2 r10) (.cond (.t 38) (.seq (.reg 2496 1 r11) (.ret)) (.skip))) (.seq (.reg 2560 8 r12) (.seq (.reg 3072 2 r13) (.cond (.t 47) (.seq (.reg 3200 1 r14) (.ret)) (.skip))))))))))) (.reg 3264 3 r15))
def r16 : List Ent := [
 qm 0 48 1,
 qm 1 4 48]
def fi : FI := { res := [.t 4], code := .seq (.reg 64 1 r0) (.seq (.seq (.reg 128 1 r1) (.block 0 (.loop b0))) (.seq (.reg 3456 2 r16) (.ret))) }
attribute [go_sem] r0 r1 r2 r3 r4 r5 r6 r7 r8 r9 r10 r11 r12 r13 r14 r15 r16
theorem ok : chkF prog F_laws_heldMayS 2 fi = true := by kernel_rfl
end laws_heldMayS
namespace laws_heldIntS
def r0 : List Ent := [
 qe 0 4 (.mv (xN 0))]
def r1 : List Ent := [
 qe 0 5 (.mv (xN 0))]
def r2 : List Ent := [
 qm 0 6 5,
 qm 1 7 0,
 qe 2 8 (qZ 7),
 qe 3 9 (qB .lss 6 8)]
def r3 : List Ent := [
 qm 0 12 0,
 qm 1 13 5,
 qe 2 14 (qI 1 12 13),
 qe 3 15 (qL 1 14),
 qm 4 16 1,
 qe 5 17 (qB .neq 15 16)]
def r4 : List Ent := [
 qe 0 4 (.mv (xN (-1)))]
def r5 : List Ent := [
 qm 0 18 1,
 qe 1 19 (qK .add 18 1),
 qm 2 1 19]
def r6 : List Ent := [
 qm 0 10 5,
 qe 1 11 (qK .add 10 1),
 qm 2 5 11]
def b0 : KC := .seq (.seq (.reg 192 4 r2) (.cond (.t 9) (.skip) (.exit 0))) (.seq (.block 1 (.seq (.seq (.reg 448 6 r3) (.cond (.t 17) (.seq (.reg 832 1 r4) (.ret)) (.skip))) (.reg 896 3 r5))) (.reg 1088 3 r6))
def r7 : List Ent := [
 qm 0 20 1,
 qm 1 4 20]
def fi : FI := { res := [.t 4], code := .seq (.reg 64 1 r0) (.seq (.seq (.reg 128 1 r1) (.block 0 (.loop b0))) (.seq (.reg 1280 2 r7) (.ret))) }
attribute [go_sem] r0 r1 r2 r3 r4 r5 r6 r7
theorem ok : chkF prog F_laws_heldIntS 2 fi = true := by kernel_rfl
end laws_heldIntS
namespace laws_heldReport
def r0 : List Ent := [
 qe 0 2 (.box (.t 0)),
 qe 1 4 (.mv (xN 0))]
def r1 : List Ent := [
 qe 0 5 (qD 0 2),
 qe 1 6 (qL 1 5),
 qm 2 7 1,
 qc 3 8 (qC F_laws_heldBoolS [.t 6, .t 7]),
 qm 4 1 8]
def r2 : List Ent := [
 qm 0 9 1,
 qe 1 10 (qK .lss 9 0)]
def r3 : List Ent := [
 qe 0 4 (.mv (xN (-1)))]
def r4 : List Ent := [
 qe 0 11 (qD 1 2),
 qe 1 12 (qL 1 11),
 qm 2 13 1,
 qc 3 14 (qC F_laws_heldMayS [.t 12, .t 13]),
 qm 4 1 14]
def r5 : List Ent := [
 qm 0 15 1,
 qe 1 16 (qK .lss 15 0)]
def r6 : List Ent := [
 qe 0 4 (.mv (xN (-1)))]
def r7 : List Ent := [
 qe 0 17 (qD 2 2),
 qe 1 18 (qL 1 17),
 qm 2 19 1,
 qc 3 20 (qC F_laws_heldIntS [.t 18, .t 19]),
 qm 4 1 20]
def r8 : List Ent := [
 qm 0 21 1,
 qe 1 22 (qK .lss 21 0)]
def r9 : List Ent := [
 qe 0 4 (.mv (xN (-1)))]
def r10 : List Ent := [
 qm 0 23 1,
 qm 1 4 23]
def fi : FI := { res := [.t 4], code := .seq (.reg 64 2 r0) (.seq (.reg 192 5 r1) (.seq (.seq (.reg 512 2 r2) (.cond (.t 10) (.seq (.reg 640 1 r3) (.ret)) (.skip))) (.seq (.reg 704 5 r4) (.seq (.seq (.reg 1024 2 r5) (.cond (.t 16) (.seq (.reg 1152 1 r6) (.ret)) (.skip))) (.seq (.reg 1216 5 r7) (.seq (.seq (.reg 1536 2 r8) (.cond (.t 22) (.seq (.reg 1664 1 r9) (.ret)) (.skip))) (.seq (.reg 1728 2 r10) (.ret)))))))) }
attribute [go_sem] r0 r1 r2 r3 r4 r5 r6 r7 r8 r9 r10
theorem ok : chkF prog F_laws_heldReport 2 fi = true := by kernel_rfl
end laws_heldReport
namespace laws_FnExactAnalyseProgram
def r0 : List Ent := [
 qe 0 2 (.mv xF)]
def r1 : List Ent := [
 qe 0 3 (.mv (xN 1048576))]
def r2 : List Ent := [
 qm 0 14 0,
 qm 1 15 3,
 qc 2 16 (qC F_laws_szStepS [.t 14, .t 15]),
 qm 3 3 16]
def r3 : List Ent := [
 qm 0 17 3,
 qe 1 18 (qK .lss 17 0)]
def r4 : List Ent := [
 qe 0 2 (.mv xT)]
def r5 : List Ent := [
 qm 0 20 0,
 qc 1 21 (qV F_laws_toStepS 20),
 qc 2 22 (qV F_spec_AnalyseProgram 21),
 qm 3 19 22,
 qe 4 23 (qX 0 19),
 qe 5 24 (qX 1 19),
 qe 6 4 (.box (.k (.agg [.nil 1, .nil 4, .nil 1]))),
 qs 7 (qW 3 4 23),
 qm 8 5 24]
def r6 : List Ent := [
 qm 0 25 0,
 qc 1 26 (qV F_laws_toStepS 25),
 qm 2 6 26]
def r7 : List Ent := [
 qm 0 28 6,
 qc 1 29 (qV F_impl_AnalyseProgram 28),
 qm 2 27 29,
 qe 3 30 (qX 0 27),
 qe 4 31 (qX 1 27),
 qe 5 7 (.box (.k (.agg [.nil 1, .nil 4, .nil 1]))),
 qs 6 (qW 3 7 30),
 qm 7 8 31]
def r8 : List Ent := [
 qe 0 32 (qA 3 7),
 qe 1 33 (qA 3 4),
 qc 2 34 (qC F_laws_eqReport [.t 32, .t 33]),
 qe 3 35 (qN 34),
 qm 4 36 35,
 qf 5 37 36 (qM 8),
 qf 6 38 36 (qM 5),
 qf 7 39 36 (.eqb true (.t 37) (.t 38)),
 qe 8 40 (.pick (.t 36) xT (.t 39))]
def r9 : List Ent := [
 qe 0 2 (.mv xF)]
def r10 : List Ent := [
 qm 0 41 6,
 qm 1 42 0,
 qc 2 43 (qV F_laws_toStepS 42),
 qc 3 44 (qC F_laws_eqStepS [.t 41, .t 43]),
 qe 4 45 (qN 44)]
def r11 : List Ent := [
 qe 0 2 (.mv xF)]
def r12 : List Ent := [
 qe 0 9 (.mv (xN 1))]
def r13 : List Ent := [
 qm 0 46 6,
 qm 1 47 9,
 qc 2 48 (.call F_laws_markStepS false [(.io, .t 46), (.ro, .t 47)]),
 qm 3 9 48]
def r14 : List Ent := [
 qm 0 49 9,
 qe 1 50 (qK .lss 49 0),
 qm 2 51 50,
 qf 3 52 51 (qA 3 7),
 qf 4 53 51 (qA 3 4),
 qj 5 54 51 (qC F_laws_eqReport [.t 52, .t 53]),
 qf 6 55 51 (qN 54),
 qe 7 56 (.pick (.t 51) xT (.t 55)),
 qm 8 57 56,
 qf 9 58 57 (qM 8),
 qf 10 59 57 (qM 5),
 qf 11 60 57 (.eqb true (.t 58) (.t 59)),
 qe 12 61 (.pick (.t 57) xT (.t 60))]
def r15 : List Ent := [
 qe 0 2 (.mv xF)]
def r16 : List Ent := [
 qe 0 10 (.mv (xN 1))]
def r17 : List Ent := [
 qe 0 62 (qA 3 7),
 qm 1 63 10,
 qc 2 64 (.call F_laws_markReport false [(.io, .t 62), (.ro, .t 63)]),
 qm 3 10 64]
def r18 : List Ent := [
 qe 0 11 (.mv (xN 1))]
def r19 : List Ent := [
 qe 0 65 (qA 3 7),
 qm 1 66 11,
 qc 2 67 (qC F_laws_heldReport [.t 65, .t 66]),
 qm 3 11 67]
def r20 : List Ent := [
 qm 0 68 11,
 qe 1 69 (qK .lss 68 0)]
def r21 : List Ent := [
 qe 0 2 (.mv xF)]
def r22 : List Ent := [
 qm 0 70 11,
 qm 1 71 10,
 qe 2 72 (qB .neq 70 71)]
def r23 : List Ent := [
 qe 0 2 (.mv xF)]
def r24 : List Ent := [
 qm 0 74 0,
 qc 1 75 (qV F_laws_toStepS 74),
 qc 2 76 (qV F_impl_AnalyseProgram 75),
 qm 3 73 76,
 qe 4 77 (qX 0 73),
 qe 5 78 (qX 1 73),
 qe 6 12 (.box (.k (.agg [.nil 1, .nil 4, .nil 1]))),
 qs 7 (qW 3 12 77),
 qm 8 13 78]
def r25 : List Ent := [
 qe 0 79 (qA 3 12),
 qe 1 80 (qA 3 4),
 qc 2 81 (qC F_laws_eqReport [.t 79, .t 80]),
 qe 3 82 (qN 81),
 qm 4 83 82,
 qf 5 84 83 (qM 13),
 qf 6 85 83 (qM 5),
 qf 7 86 83 (.eqb true (.t 84) (.t 85)),
 qe 8 87 (.pick (.t 83) xT (.t 86))]
def r26 : List Ent := [
 qe 0 2 (.mv xF)]
def r27 : List Ent := [
 qe 0 11 (.mv (xN 1))]
def r28 : List Ent := [
 qe 0 88 (qA 3 7),
 qm 1 89 11,
 qc 2 90 (qC F_laws_heldReport [.t 88, .t 89]),
 qm 3 11 90]
def r29 : List Ent := [
 qm 0 91 11,
 qe 1 92 (qK .lss 91 0)]
def r30 : List Ent := [
 qe 0 2 (.mv xF)]
def r31 : List Ent := [
 qm 0 93 11,
 qm 1 94 10,
 qe 2 95 (qB .neq 93 94)]
def r32 : List Ent := [
 qe 0 2 (.mv xF)]
def r33 : List Ent := [
 qe 0 2 (.mv xT)]
def fi : FI := { res := [.t 2], code := .seq (.reg 64 1 r0) (.seq (.reg 128 1 r1) (.seq (.reg 192 4 r2) (.seq (.seq (.reg 448 2 r3) (.cond (.t 18) (.seq (.reg 576 1 r4) (.ret)) (.skip))) (.seq (.reg 640 9 r5) (.seq (.reg 1216 3 r6) (.seq (.reg 1408 8 r7) (.seq (.seq (.reg 1920 9 r8) (.cond (.t 40) (.seq (.reg 2496 1 r9) (.ret)) (.skip))) (.seq (.seq (.reg 2560 5 r10) (.cond (.t 45) (.seq (.reg 2880 1 r11) (.ret)) (.skip))) (.seq (.reg 2944 1 r12) (.seq (.reg 3008 4 r13) (.seq (.seq (.reg 3264 13 r14) (.cond (.t 61) (.seq (.reg 4096 1 r15) (.ret)) (.skip))) (.seq (.reg 4160 1 r16) (.seq (.reg 4224 4 r17) (.seq (.reg 4480 1 r18) (.seq (.reg 4544 4 r19) (.seq (.seq (.reg 4800 2 r20) (.cond (.t 69) (.seq (.reg 4928 1 r21) (.ret)) (.skip))) (.seq (.seq (.reg 4992 3 r22) (.cond (.t 72) (.seq (.reg 5184 1 r23) (.ret)) (.skip))) (.seq (.reg 5248 9 r24) (.seq (.seq (.reg 5824 9 r25) (.cond (.t 87) (.seq (.reg 6400 1 r26) (.ret)) (.skip))) (.seq (.reg 6464 1 r27) (.seq (.reg 6528 4 r28) (.seq (.seq (.reg 6784 2 r29) (.cond (.t 92) (.seq (.reg 6912 1 r30) (.ret)) (.skip))) (.seq (.seq (.reg 6976 3 r31) (.cond (.t 95) (.seq (.reg 7168 1 r32) (.ret)) (.skip))) (.seq (.reg 7232 1 r33) (.ret))))))))))))))))))))))))) }
attribute [go_sem] r0 r1 r2 r3 r4 r5 r6 r7 r8 r9 r10 r11 r12 r13 r14 r15 r16 r17 r18 r19 r20 r21 r22 r23 r24 r25 r26 r27 r28 r29 r30 r31 r32 r33
theorem ok : chkF prog F_laws_FnExactAnalyseProgram 1 fi = true := by kernel_rfl
end laws_FnExactAnalyseProgram
end Go.Vm.YtmbhjcgikblpiaaGreat
