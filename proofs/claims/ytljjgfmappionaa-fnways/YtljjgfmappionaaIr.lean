/- The functions that the law reaches, in the text of the interpreter, and that this text fits them (no condition). -/
import Derived.Test.YtljjgfmappionaaVmd
import Derived.Test.YtljjgfmappionaaProg
import Derived.KernelRfl
namespace Go.Vm.Ytljjgfmappionaa
open Go Go.Vm
set_option linter.unusedVariables false
set_option maxRecDepth 100000
noncomputable abbrev prog:Program:=Go.Proofs.Try.prog
abbrev xF:X:=.k (.dat none (.bool false))
abbrev xT:X:=.k (.dat none (.bool true))
abbrev xN (n:Int):X:=.k (I64 n)
abbrev qm (j d n:Nat):Ent:=E0 j (some d) none (.i (.mv (.t n)))
abbrev qe (j d:Nat) (x:I):Ent:=E0 j (some d) none (.i x)
abbrev qs (j:Nat) (x:I):Ent:=E0 j none none (.i x)
abbrev qc (j d:Nat) (x:KO):Ent:=E0 j (some d) none x
abbrev qt (j d g:Nat) (x:I):Ent:=E0 j (some d) (some (g,true)) (.i x)
abbrev qf (j d g:Nat) (x:I):Ent:=E0 j (some d) (some (g,false)) (.i x)
abbrev qh (j d g:Nat) (x:KO):Ent:=E0 j (some d) (some (g,true)) x
abbrev qj (j d g:Nat) (x:KO):Ent:=E0 j (some d) (some (g,false)) x
abbrev qM (n:Nat):I:=.mv (.t n)
abbrev qL (n a:Nat):I:=.load false false n (.t a)
abbrev qA (n a:Nat):I:=.load false true n (.t a)
abbrev qD (k a:Nat):I:=.fad k (.t a)
abbrev qN (a:Nat):I:=.un .not (.t a)
abbrev qI (z a b:Nat):I:=.iad z (.t a) (.t b)
abbrev qZ (a:Nat):I:=.len (.t a)
abbrev qB (o:BinOp) (a b:Nat):I:=.bin o (.t a) (.t b)
abbrev qK (o:BinOp) (a:Nat) (n:Int):I:=.bin o (.t a) (.k (I64 n))
abbrev qX (j a:Nat):I:=.ext j (.t a)
abbrev qW (k:Nat) (a b:Nat):I:=.store k (.t a) (.t b)
abbrev qr (j d:Nat) (x:I):Ent:=ER j (some d) none x
abbrev qx (j d:Nat) (x:I) (k:Nat) (a b:List Nat) (w:Bool):Ent:=EX j (some d) none (.i x) k a b w
abbrev qC (f:FuncId) (l:List X):KO:=.call f false (roA l)
abbrev qV (f:FuncId) (a:Nat):KO:=.call f false (roA [.t a])
abbrev F_laws_FnWays:FuncId:=3
abbrev F_spec_DrawWayOf:FuncId:=4
abbrev F_impl_WayOf:FuncId:=5
abbrev F_spec_WayOf:FuncId:=6
abbrev F_laws_sameWay:FuncId:=7
abbrev F_impl_WaysThrough:FuncId:=8
abbrev F_impl_WayCount:FuncId:=9
abbrev F_impl_FollowWay:FuncId:=10
abbrev F_impl_GoodWay:FuncId:=11
abbrev F_spec_DrawWaysThrough:FuncId:=12
abbrev F_spec_WaysThrough:FuncId:=13
abbrev F_spec_DrawTraceOf:FuncId:=14
abbrev F_impl_TraceOf:FuncId:=15
abbrev F_impl_turnsOf:FuncId:=16
abbrev F_spec_TraceOf:FuncId:=17
abbrev F_spec_l14Branch:FuncId:=18
abbrev F_laws_sameInts:FuncId:=19
abbrev F_laws_sameBools:FuncId:=20
abbrev F_impl_GoodProgram:FuncId:=21
abbrev F_impl_ways:FuncId:=22
abbrev F_impl_isStep:FuncId:=23
abbrev F_impl_wayCount:FuncId:=24
abbrev F_impl_isContext:FuncId:=25
abbrev F_impl_NewMachine:FuncId:=26
abbrev F_impl_pMachine_step:FuncId:=27
abbrev F_slices_Contains__sint_int:FuncId:=28
abbrev F_impl_nexts:FuncId:=29
abbrev F_slices_Equal__sbool_bool:FuncId:=30
abbrev F_spec_DrawGoodProgram:FuncId:=31
abbrev F_spec_GoodProgram:FuncId:=32
abbrev F_spec_l14All:FuncId:=33
abbrev F_spec_pl1Cur_program:FuncId:=34
abbrev F_spec_pl1Cur_ctx:FuncId:=35
abbrev F_impl_run:FuncId:=36
abbrev F_impl_Step_branches:FuncId:=37
abbrev F_spec_l3Ctx:FuncId:=38
abbrev F_spec_l3Run:FuncId:=39
abbrev F_impl_in:FuncId:=40
abbrev F_impl_Step_valid:FuncId:=41
abbrev F_impl_Step_jumps:FuncId:=42
abbrev F_slices_Clone__sint_int:FuncId:=43
abbrev F_slices_Clone__sbool_bool:FuncId:=44
abbrev F_slices_ContainsFunc__sint_int:FuncId:=45
abbrev F_impl_isContext_c1:FuncId:=46
abbrev F_impl_do:FuncId:=47
abbrev F_slices_Index__sint_int:FuncId:=48
abbrev F_spec_l2Step:FuncId:=49
abbrev F_spec_l1In:FuncId:=50
abbrev F_spec_l14Own:FuncId:=51
abbrev F_spec_l2Nexts:FuncId:=52
abbrev F_spec_pl1Cur_pick:FuncId:=53
abbrev F_spec_pl1Cur_one:FuncId:=54
abbrev F_spec_pl1Cur_step:FuncId:=55
abbrev F_spec_pl1Cur_among:FuncId:=56
abbrev F_spec_l1All:FuncId:=57
abbrev F_spec_NewMachine:FuncId:=58
abbrev F_spec_l3Do:FuncId:=59
abbrev F_impl_fields:FuncId:=60
abbrev F_impl_Step_ranges:FuncId:=61
abbrev F_impl_pStep_field:FuncId:=62
abbrev F_slices_IndexFunc__sint_int:FuncId:=63
abbrev F_impl_WordOf:FuncId:=64
abbrev F_spec_l2Reg:FuncId:=65
abbrev F_spec_l2Zero:FuncId:=66
abbrev F_spec_pl1Cur_next:FuncId:=67
abbrev F_spec_l1Least:FuncId:=68
abbrev F_spec_l1Do:FuncId:=69
abbrev F_spec_l1Wrap:FuncId:=70
abbrev F_runtime_boundsError_Error:FuncId:=71
abbrev F_runtime_boundsError_RuntimeError:FuncId:=72
abbrev F_runtime_errorString_Error:FuncId:=73
abbrev F_runtime_errorString_RuntimeError:FuncId:=74
abbrev F_runtime_plainError_Error:FuncId:=75
abbrev F_runtime_plainError_RuntimeError:FuncId:=76
abbrev F_runtime_errorAddressString_Error:FuncId:=77
abbrev F_runtime_errorAddressString_RuntimeError:FuncId:=78
abbrev F_runtime_pTypeAssertionError_Error:FuncId:=79
abbrev F_runtime_pTypeAssertionError_RuntimeError:FuncId:=80
abbrev F_runtime_pPanicNilError_Error:FuncId:=81
abbrev F_runtime_pPanicNilError_RuntimeError:FuncId:=82
abbrev F_abi_pType_Align:FuncId:=83
abbrev F_maps_unhashableTypeError_Error:FuncId:=84
abbrev F_maps_unhashableTypeError_RuntimeError:FuncId:=85
abbrev F_impl_Machine_own:FuncId:=86
abbrev F_abi_Kind_String:FuncId:=87
namespace spec_pl1Cur_next
def r0:List Ent:=[
 qe 0 2 (.mv (xN 0))]
def r1:List Ent:=[
 qe 0 3 (.mv (xN 0))]
def r2:List Ent:=[
 qm 0 4 0,
 qe 1 5 (.nck (.t 4)),
 qr 2 6 (qD 1 5),
 qr 3 7 (qL 1 6),
 qm 4 8 0,
 qe 5 9 (.nck (.t 8)),
 qr 6 10 (qD 0 9),
 qr 7 11 (qL 1 10),
 qr 8 12 (qZ 11),
 qe 9 13 (qB .lss 7 12)]
def r3:List Ent:=[
 qm 0 14 0,
 qe 1 15 (.nck (.t 14)),
 qr 2 16 (qD 0 15),
 qr 3 17 (qL 1 16),
 qm 4 18 0,
 qe 5 19 (.nck (.t 18)),
 qr 6 20 (qD 1 19),
 qr 7 21 (qL 1 20),
 qe 8 22 (qI 1 17 21),
 qe 9 23 (qL 1 22),
 qe 10 24 (.cnv .i64 (.t 23)),
 qm 11 3 24]
def r4:List Ent:=[
 qm 0 25 0,
 qe 1 26 (.nck (.t 25)),
 qe 2 27 (qD 1 26),
 qe 3 28 (qL 1 27),
 qe 4 29 (qK .add 28 1),
 qe 5 30 (.nck (.t 25)),
 qe 6 31 (qD 1 30),
 qs 7 (qW 1 31 29)]
def r5:List Ent:=[
 qm 0 32 0,
 qm 1 33 0,
 qe 2 34 (.nck (.t 33)),
 qe 3 35 (qD 2 34),
 qe 4 36 (qL 1 35),
 qe 5 37 (.bin .mul (.t 36) (.k (.dat none (.int .u64 6364136223846793005)))),
 qm 6 38 3,
 qe 7 39 (.cnv .u64 (.t 38)),
 qe 8 40 (qB .add 37 39),
 qe 9 41 (.bin .add (.t 40) (.k (.dat none (.int .u64 1442695040888963407)))),
 qe 10 42 (.nck (.t 32)),
 qe 11 43 (qD 2 42),
 qs 12 (qW 1 43 41)]
def r6:List Ent:=[
 qm 0 44 0,
 qe 1 45 (.nck (.t 44)),
 qr 2 46 (qD 1 45),
 qr 3 47 (qL 1 46),
 qm 4 48 0,
 qe 5 49 (.nck (.t 48)),
 qr 6 50 (qD 0 49),
 qr 7 51 (qL 1 50),
 qr 8 52 (qZ 51),
 qe 9 53 (qB .leq 47 52)]
def r7:List Ent:=[
 qm 0 54 3,
 qm 1 2 54]
def r8:List Ent:=[
 qm 0 55 0,
 qe 1 56 (.nck (.t 55)),
 qe 2 57 (qD 2 56),
 qe 3 58 (qL 1 57),
 qe 4 59 (.bin .shr (.t 58) (.k (.dat none (.int .u64 40)))),
 qe 5 60 (.bin .and (.t 59) (.k (.dat none (.int .u64 255)))),
 qe 6 61 (.cnv .i64 (.t 60)),
 qm 7 2 61]
def fi:FI:={ res:=[.t 2],code:=.seq (.reg 64 1 r0) (.seq (.reg 128 1 r1) (.seq (.seq (.reg 192 10 r2) (.cond (.t 13) (.reg 832 12 r3) (.skip))) (.seq (.reg 1600 8 r4) (.seq (.reg 2112 13 r5) (.seq (.seq (.reg 2944 10 r6) (.cond (.t 53) (.seq (.reg 3584 2 r7) (.ret)) (.skip))) (.seq (.reg 3712 8 r8) (.ret))))))) }
attribute [go_sem] r0 r1 r2 r3 r4 r5 r6 r7 r8
theorem ok:chkF prog F_spec_pl1Cur_next 1 fi=true:=by kernel_rfl
end spec_pl1Cur_next
namespace spec_pl1Cur_pick
def r0:List Ent:=[
 qe 0 4 (.mv (xN 0))]
def r1:List Ent:=[
 qm 0 6 1,
 qe 1 7 (qK .leq 6 1)]
def r2:List Ent:=[
 qe 0 4 (.mv (xN 0))]
def r3:List Ent:=[
 qm 0 8 0,
 qc 1 9 (.call F_spec_pl1Cur_next true [(.io,.t 8)]),
 qm 2 5 9]
def r4:List Ent:=[
 qm 0 10 1,
 qe 1 11 (qK .gtr 10 200)]
def r5:List Ent:=[
 qm 0 12 5,
 qe 1 13 (qK .mul 12 256),
 qm 2 14 0,
 qc 3 15 (.call F_spec_pl1Cur_next true [(.io,.t 14)]),
 qe 4 16 (qB .add 13 15),
 qm 5 5 16]
def r6:List Ent:=[
 qm 0 17 5,
 qm 1 18 1,
 qe 2 19 (qB .rem 17 18),
 qm 3 4 19]
def fi:FI:={ res:=[.t 4],code:=.seq (.reg 64 1 r0) (.seq (.seq (.reg 128 2 r1) (.cond (.t 7) (.seq (.reg 256 1 r2) (.ret)) (.skip))) (.seq (.reg 320 3 r3) (.seq (.seq (.reg 512 2 r4) (.cond (.t 11) (.reg 640 6 r5) (.skip))) (.seq (.reg 1024 4 r6) (.ret))))) }
attribute [go_sem] r0 r1 r2 r3 r4 r5 r6
theorem ok:chkF prog F_spec_pl1Cur_pick 2 fi=true:=by kernel_rfl
end spec_pl1Cur_pick
namespace spec_pl1Cur_one
def r0:List Ent:=[
 qe 0 4 (.mv xF)]
def r1:List Ent:=[
 qm 0 5 0,
 qm 1 6 1,
 qc 2 7 (.call F_spec_pl1Cur_pick true [(.io,.t 5),(.ro,.t 6)]),
 qe 3 8 (qK .eql 7 0),
 qm 4 4 8]
def fi:FI:={ res:=[.t 4],code:=.seq (.reg 64 1 r0) (.seq (.reg 128 5 r1) (.ret)) }
attribute [go_sem] r0 r1
theorem ok:chkF prog F_spec_pl1Cur_one 2 fi=true:=by kernel_rfl
end spec_pl1Cur_one
namespace spec_pl1Cur_among
def r0:List Ent:=[
 qe 0 4 (.mv (xN 0))]
def r1:List Ent:=[
 qm 0 5 1,
 qm 1 6 0,
 qm 2 7 1,
 qe 3 8 (qZ 7),
 qc 4 9 (.call F_spec_pl1Cur_pick true [(.io,.t 6),(.ro,.t 8)]),
 qe 5 10 (qI 1 5 9),
 qe 6 11 (qL 1 10),
 qm 7 4 11]
def fi:FI:={ res:=[.t 4],code:=.seq (.reg 64 1 r0) (.seq (.reg 128 8 r1) (.ret)) }
attribute [go_sem] r0 r1
theorem ok:chkF prog F_spec_pl1Cur_among 2 fi=true:=by kernel_rfl
end spec_pl1Cur_among
namespace spec_l1Least
def r0:List Ent:=[
 qe 0 4 (.mv (xN 0))]
def r1:List Ent:=[
 qm 0 5 0,
 qm 1 6 1,
 qe 2 7 (qB .lss 5 6)]
def r2:List Ent:=[
 qm 0 8 0,
 qm 1 4 8]
def r3:List Ent:=[
 qm 0 9 1,
 qm 1 4 9]
def fi:FI:={ res:=[.t 4],code:=.seq (.reg 64 1 r0) (.seq (.seq (.reg 128 3 r1) (.cond (.t 7) (.seq (.reg 320 2 r2) (.ret)) (.skip))) (.seq (.reg 448 2 r3) (.ret))) }
attribute [go_sem] r0 r1 r2 r3
theorem ok:chkF prog F_spec_l1Least 2 fi=true:=by kernel_rfl
end spec_l1Least
namespace spec_pl1Cur_step
def r0:List Ent:=[
 qe 0 4 (.box (.k (.agg [.dat none (.int .i64 0),.dat none (.int .i64 0),.dat none (.int .i64 0),.dat none (.int .i64 0),.dat none (.int .i64 0),.dat none (.int .i64 0)])))]
def r1:List Ent:=[
 qm 0 6 0,
 qe 1 7 (.bsl false 1 [xN 1,xN 1,xN 2,xN 2,xN 2,xN 3,xN 3,xN 4,xN 5,xN 5,xN 6,xN 7,xN 7,xN 8,xN 9,xN 10,xN 10]),
 qc 2 8 (.call F_spec_pl1Cur_among true [(.io,.t 6),(.co,.t 7)]),
 qe 3 9 (.bld [.t 8,.k (.dat none (.int .i64 0)),.k (.dat none (.int .i64 0)),.k (.dat none (.int .i64 0)),.k (.dat none (.int .i64 0)),.k (.dat none (.int .i64 0))]),
 qe 4 5 (.box (.k (.agg [.dat none (.int .i64 0),.dat none (.int .i64 0),.dat none (.int .i64 0),.dat none (.int .i64 0),.dat none (.int .i64 0),.dat none (.int .i64 0)]))),
 qs 5 (qW 6 5 9)]
def r2:List Ent:=[
 qe 0 10 (qD 0 5),
 qe 1 11 (qL 1 10),
 qe 2 12 (qK .geq 11 8),
 qm 3 13 12,
 qt 4 14 13 (qM 1),
 qt 5 15 13 (qK .lss 14 2),
 qe 6 16 (.pick (.t 13) (.t 15) xF)]
def r3:List Ent:=[
 qe 0 17 (qD 0 5),
 qs 1 (.store 1 (.t 17) (xN 3))]
def r4:List Ent:=[
 qe 0 18 (qD 0 5),
 qe 1 19 (qL 1 18)]
def r5:List Ent:=[
 qe 0 21 (qK .eql 19 1),
 qm 1 20 21]
def r6:List Ent:=[
 qe 0 22 (qK .eql 19 5),
 qm 1 20 22]
def r7:List Ent:=[
 qe 0 23 (qK .eql 19 9),
 qm 1 20 23]
def r8:List Ent:=[
 qe 0 24 (qK .eql 19 10),
 qm 1 20 24]
def r9:List Ent:=[
 qm 0 25 0,
 qc 1 26 (.call F_spec_pl1Cur_pick true [(.io,.t 25),(.ro,xN 3)]),
 qe 2 27 (qD 3 5),
 qs 3 (qW 1 27 26)]
def r10:List Ent:=[
 qe 0 28 (qD 0 5),
 qe 1 29 (qL 1 28),
 qe 2 30 (qK .neq 29 8)]
def r11:List Ent:=[
 qm 0 31 0,
 qc 1 32 (.call F_spec_pl1Cur_pick true [(.io,.t 31),(.ro,xN 3)]),
 qe 2 33 (qD 2 5),
 qs 3 (qW 1 33 32)]
def r12:List Ent:=[
 qe 0 34 (qD 0 5),
 qe 1 35 (qL 1 34)]
def r13:List Ent:=[
 qe 0 37 (qK .eql 35 1),
 qm 1 36 37]
def r14:List Ent:=[
 qe 0 38 (qK .eql 35 2),
 qm 1 36 38]
def r15:List Ent:=[
 qm 0 39 0,
 qc 1 40 (.call F_spec_pl1Cur_pick true [(.io,.t 39),(.ro,xN 10)]),
 qe 2 41 (.bin .add (xN 1) (.t 40)),
 qe 3 42 (qD 1 5),
 qs 4 (qW 1 42 41)]
def r16:List Ent:=[
 qe 0 43 (qD 0 5),
 qe 1 44 (qL 1 43)]
def r17:List Ent:=[
 qe 0 46 (qK .eql 44 2),
 qm 1 45 46]
def r18:List Ent:=[
 qe 0 47 (qK .eql 44 3),
 qm 1 45 47]
def r19:List Ent:=[
 qm 0 48 0,
 qm 1 49 0,
 qc 2 50 (.call F_spec_pl1Cur_pick true [(.io,.t 49),(.ro,xN 20)]),
 qe 3 51 (.bsl false 1 [xN 0,xN 1,xN 3,xN 7,xN 255,.t 50]),
 qc 4 52 (.call F_spec_pl1Cur_among true [(.io,.t 48),(.co,.t 51)]),
 qe 5 53 (qD 4 5),
 qs 6 (qW 1 53 52)]
def r20:List Ent:=[
 qe 0 55 (qK .eql 44 4),
 qm 1 54 55]
def r21:List Ent:=[
 qm 0 56 0,
 qm 1 57 0,
 qc 2 58 (.call F_spec_pl1Cur_pick true [(.io,.t 57),(.ro,xN 256)]),
 qm 3 59 0,
 qc 4 60 (.call F_spec_pl1Cur_pick true [(.io,.t 59),(.ro,xN 250)]),
 qe 5 61 (qB .mul 58 60),
 qe 6 62 (.bin .add (xN 256) (.t 61)),
 qe 7 63 (.bsl false 1 [xN 256,xN 65535,.t 62]),
 qc 8 64 (.call F_spec_pl1Cur_among true [(.io,.t 56),(.co,.t 63)]),
 qe 9 65 (qD 4 5),
 qs 10 (qW 1 65 64)]
def r22:List Ent:=[
 qe 0 67 (qK .eql 44 5),
 qm 1 66 67]
def r23:List Ent:=[
 qm 0 68 0,
 qc 1 69 (.call F_spec_pl1Cur_pick true [(.io,.t 68),(.ro,xN 5)]),
 qe 2 70 (qD 4 5),
 qs 3 (qW 1 70 69)]
def r24:List Ent:=[
 qe 0 72 (qK .eql 44 6),
 qm 1 71 72]
def r25:List Ent:=[
 qe 0 73 (qK .eql 44 7),
 qm 1 71 73]
def r26:List Ent:=[
 qm 0 74 0,
 qc 1 75 (.call F_spec_pl1Cur_pick true [(.io,.t 74),(.ro,xN 18)]),
 qe 2 76 (qD 4 5),
 qs 3 (qW 1 76 75)]
def r27:List Ent:=[
 qe 0 78 (qK .eql 44 8),
 qm 1 77 78]
def r28:List Ent:=[
 qe 0 79 (qK .eql 44 9),
 qm 1 77 79]
def r29:List Ent:=[
 qe 0 80 (qK .eql 44 10),
 qm 1 77 80]
def r30:List Ent:=[
 qm 0 81 0,
 qm 1 82 1,
 qe 2 83 (qK .sub 82 1),
 qc 3 84 (qC F_spec_l1Least [xN 4,.t 83]),
 qc 4 85 (.call F_spec_pl1Cur_pick true [(.io,.t 81),(.ro,.t 84)]),
 qe 5 86 (.bin .add (xN 1) (.t 85)),
 qe 6 87 (qD 5 5),
 qs 7 (qW 1 87 86)]
def r31:List Ent:=[
 qe 0 88 (qA 6 5),
 qs 1 (qW 6 4 88)]
def fi:FI:={ res:=[.c 4 true 6],code:=.seq (.reg 64 1 r0) (.seq (.reg 128 6 r1) (.seq (.seq (.reg 512 7 r2) (.cond (.t 16) (.reg 960 2 r3) (.skip))) (.seq (.seq (.reg 1088 2 r4) (.block 0 (.seq (.seq (.reg 1216 2 r5) (.cond (.t 20) (.skip) (.seq (.reg 1344 2 r6) (.cond (.t 20) (.skip) (.seq (.reg 1472 2 r7) (.cond (.t 20) (.skip) (.reg 1600 2 r8))))))) (.cond (.t 20) (.reg 1728 4 r9) (.skip))))) (.seq (.seq (.reg 1984 3 r10) (.cond (.t 30) (.reg 2176 4 r11) (.skip))) (.seq (.seq (.reg 2432 2 r12) (.block 1 (.seq (.seq (.reg 2560 2 r13) (.cond (.t 36) (.skip) (.reg 2688 2 r14))) (.cond (.t 36) (.reg 2816 5 r15) (.skip))))) (.seq (.seq (.reg 3136 2 r16) (.block 2 (.seq (.seq (.reg 3264 2 r17) (.cond (.t 45) (.skip) (.reg 3392 2 r18))) (.cond (.t 45) (.reg 3520 7 r19) (.seq (.reg 3968 2 r20) (.cond (.t 54) (.reg 4096 11 r21) (.seq (.reg 4800 2 r22) (.cond (.t 66) (.reg 4928 4 r23) (.seq (.seq (.reg 5184 2 r24) (.cond (.t 71) (.skip) (.reg 5312 2 r25))) (.cond (.t 71) (.reg 5440 4 r26) (.seq (.seq (.reg 5696 2 r27) (.cond (.t 77) (.skip) (.seq (.reg 5824 2 r28) (.cond (.t 77) (.skip) (.reg 5952 2 r29))))) (.cond (.t 77) (.reg 6080 8 r30) (.skip))))))))))))) (.seq (.reg 6592 2 r31) (.ret)))))))) }
attribute [go_sem] r0 r1 r2 r3 r4 r5 r6 r7 r8 r9 r10 r11 r12 r13 r14 r15 r16 r17 r18 r19 r20 r21 r22 r23 r24 r25 r26 r27 r28 r29 r30 r31
theorem ok:chkF prog F_spec_pl1Cur_step 2 fi=true:=by kernel_rfl
end spec_pl1Cur_step
namespace spec_pl1Cur_program
def r0:List Ent:=[
 qe 0 2 (.mv (.k (.nil 6)))]
def r1:List Ent:=[
 qe 0 3 (.mv (.k (.nil 6)))]
def r2:List Ent:=[
 qm 0 6 0,
 qc 1 7 (.call F_spec_pl1Cur_pick true [(.io,.t 6),(.ro,xN 12)]),
 qm 2 4 7]
def r3:List Ent:=[
 qm 0 8 0,
 qc 1 9 (.call F_spec_pl1Cur_one true [(.io,.t 8),(.ro,xN 30)])]
def r4:List Ent:=[
 qe 0 4 (.mv (xN 19))]
def r5:List Ent:=[
 qe 0 5 (.mv (xN 0))]
def r6:List Ent:=[
 qm 0 10 5,
 qm 1 11 4,
 qe 2 12 (qB .lss 10 11)]
def r7:List Ent:=[
 qm 0 15 3,
 qm 1 16 0,
 qm 2 17 4,
 qm 3 18 5,
 qe 4 19 (qB .sub 17 18),
 qc 5 20 (.call F_spec_pl1Cur_step true [(.io,.t 16),(.ro,.t 19)]),
 qe 6 21 (.bsl true 6 [.t 20]),
 qe 7 22 (.app 6 48 (.t 15) (.t 21)),
 qm 8 3 22]
def r8:List Ent:=[
 qm 0 13 5,
 qe 1 14 (qK .add 13 1),
 qm 2 5 14]
def b0:KC:=.seq (.seq (.reg 640 3 r6) (.cond (.t 12) (.skip) (.exit 0))) (.seq (.block 1 (.reg 832 9 r7)) (.reg 1408 3 r8))
def r9:List Ent:=[
 qm 0 23 3,
 qe 1 24 (.bld [xN 11,.k (.dat none (.int .i64 0)),.k (.dat none (.int .i64 0)),.k (.dat none (.int .i64 0)),.k (.dat none (.int .i64 0)),.k (.dat none (.int .i64 0))]),
 qe 2 25 (.bsl true 6 [.t 24]),
 qe 3 26 (.app 6 48 (.t 23) (.t 25)),
 qm 4 3 26]
def r10:List Ent:=[
 qm 0 27 0,
 qc 1 28 (.call F_spec_pl1Cur_one true [(.io,.t 27),(.ro,xN 30)])]
def r11:List Ent:=[
 qm 0 29 3,
 qm 1 30 0,
 qm 2 31 3,
 qe 3 32 (qZ 31),
 qc 4 33 (.call F_spec_pl1Cur_pick true [(.io,.t 30),(.ro,.t 32)]),
 qm 5 34 0,
 qc 6 35 (.call F_spec_pl1Cur_pick true [(.io,.t 34),(.ro,xN 13)]),
 qm 7 36 0,
 qc 8 37 (.call F_spec_pl1Cur_pick true [(.io,.t 36),(.ro,xN 3)]),
 qm 9 38 0,
 qc 10 39 (.call F_spec_pl1Cur_pick true [(.io,.t 38),(.ro,xN 8)]),
 qe 11 40 (qK .sub 39 1),
 qm 12 41 0,
 qe 13 42 (.bsl false 1 [xN 0,xN 255,xN 256,xN 65536]),
 qc 14 43 (.call F_spec_pl1Cur_among true [(.io,.t 41),(.co,.t 42)]),
 qm 15 44 0,
 qc 16 45 (.call F_spec_pl1Cur_pick true [(.io,.t 44),(.ro,xN 4)]),
 qe 17 46 (.bld [.t 35,.t 37,.t 40,.k (.dat none (.int .i64 0)),.t 43,.t 45]),
 qe 18 47 (qI 6 29 33),
 qs 19 (qW 6 47 46)]
def r12:List Ent:=[
 qm 0 48 3,
 qm 1 2 48]
def fi:FI:={ res:=[.t 2],code:=.seq (.reg 64 1 r0) (.seq (.reg 128 1 r1) (.seq (.reg 192 3 r2) (.seq (.seq (.reg 384 2 r3) (.cond (.t 9) (.reg 512 1 r4) (.skip))) (.seq (.seq (.reg 576 1 r5) (.nrm 3 1280 6 (.block 0 (.loop b0)))) (.seq (.reg 1600 5 r9) (.seq (.seq (.reg 1920 2 r10) (.cond (.t 28) (.reg 2048 20 r11) (.skip))) (.seq (.reg 3328 2 r12) (.ret)))))))) }
attribute [go_sem] r0 r1 r2 r3 r4 r5 r6 r7 r8 r9 r10 r11 r12
theorem ok:chkF prog F_spec_pl1Cur_program 1 fi=true:=by kernel_rfl
end spec_pl1Cur_program
namespace spec_pl1Cur_ctx
def r0:List Ent:=[
 qe 0 2 (.mv (.k (.nil 1)))]
def r1:List Ent:=[
 qe 0 3 (.mv (.k (.nil 1)))]
def r2:List Ent:=[
 qe 0 4 (.mv (xN 0))]
def r3:List Ent:=[
 qm 0 5 4,
 qe 1 6 (qK .lss 5 8)]
def r4:List Ent:=[
 qm 0 9 3,
 qm 1 10 0,
 qm 2 11 0,
 qc 3 12 (.call F_spec_pl1Cur_pick true [(.io,.t 11),(.ro,xN 256)]),
 qe 4 13 (.bsl false 1 [xN 0,xN 1,xN 7,xN 8,xN 255,.t 12]),
 qc 5 14 (.call F_spec_pl1Cur_among true [(.io,.t 10),(.co,.t 13)]),
 qe 6 15 (.bsl true 1 [.t 14]),
 qe 7 16 (.app 1 8 (.t 9) (.t 15)),
 qm 8 3 16]
def r5:List Ent:=[
 qm 0 7 4,
 qe 1 8 (qK .add 7 1),
 qm 2 4 8]
def b0:KC:=.seq (.seq (.reg 256 2 r3) (.cond (.t 6) (.skip) (.exit 0))) (.seq (.block 1 (.reg 384 9 r4)) (.reg 960 3 r5))
def r6:List Ent:=[
 qm 0 17 0,
 qc 1 18 (.call F_spec_pl1Cur_one true [(.io,.t 17),(.ro,xN 30)])]
def r7:List Ent:=[
 qm 0 19 3,
 qm 1 20 0,
 qe 2 21 (.bsl false 1 [xN (-1),xN 256]),
 qc 3 22 (.call F_spec_pl1Cur_among true [(.io,.t 20),(.co,.t 21)]),
 qe 4 23 (.iad 1 (.t 19) (xN 0)),
 qs 5 (qW 1 23 22)]
def r8:List Ent:=[
 qm 0 24 3,
 qm 1 2 24]
def fi:FI:={ res:=[.t 2],code:=.seq (.reg 64 1 r0) (.seq (.reg 128 1 r1) (.seq (.seq (.reg 192 1 r2) (.nrm 3 832 1 (.block 0 (.loop b0)))) (.seq (.seq (.reg 1152 2 r6) (.cond (.t 18) (.reg 1280 6 r7) (.skip))) (.seq (.reg 1664 2 r8) (.ret))))) }
attribute [go_sem] r0 r1 r2 r3 r4 r5 r6 r7 r8
theorem ok:chkF prog F_spec_pl1Cur_ctx 1 fi=true:=by kernel_rfl
end spec_pl1Cur_ctx
namespace spec_DrawTraceOf
def r0:List Ent:=[
 qe 0 2 (.mv (.k (.nil 6))),
 qe 1 3 (.mv (.k (.nil 1)))]
def r1:List Ent:=[
 qm 0 5 0,
 qe 1 6 (.bld [.t 5,.k (.dat none (.int .i64 0)),.k (.dat none (.int .u64 0))]),
 qe 2 7 (.box (.t 6)),
 qm 3 4 7]
def r2:List Ent:=[
 qm 0 8 4,
 qc 1 9 (.call F_spec_pl1Cur_program true [(.io,.t 8)]),
 qm 2 10 4,
 qc 3 11 (.call F_spec_pl1Cur_ctx true [(.io,.t 10)]),
 qm 4 2 9,
 qm 5 3 11]
def fi:FI:={ res:=[.t 2,.t 3],code:=.seq (.reg 64 2 r0) (.seq (.reg 192 4 r1) (.seq (.reg 448 6 r2) (.ret))) }
attribute [go_sem] r0 r1 r2
theorem ok:chkF prog F_spec_DrawTraceOf 1 fi=true:=by kernel_rfl
end spec_DrawTraceOf
namespace spec_DrawWayOf
def r0:List Ent:=[
 qe 0 2 (.mv (.k (.nil 6))),
 qe 1 3 (.mv (.k (.nil 1)))]
def r1:List Ent:=[
 qm 0 4 0,
 qc 1 5 (qV F_spec_DrawTraceOf 4),
 qe 2 6 (qX 0 5),
 qe 3 7 (qX 1 5),
 qm 4 2 6,
 qm 5 3 7]
def fi:FI:={ res:=[.t 2,.t 3],code:=.seq (.reg 64 2 r0) (.seq (.reg 192 6 r1) (.ret)) }
attribute [go_sem] r0 r1
theorem ok:chkF prog F_spec_DrawWayOf 1 fi=true:=by kernel_rfl
end spec_DrawWayOf
namespace impl_in
def r0:List Ent:=[
 qe 0 6 (.mv xF)]
def r1:List Ent:=[
 qm 0 7 0,
 qm 1 8 1,
 qe 2 9 (qB .geq 7 8),
 qm 3 10 9,
 qt 4 11 10 (qM 0),
 qt 5 12 10 (qM 2),
 qt 6 13 10 (qB .leq 11 12),
 qe 7 14 (.pick (.t 10) (.t 13) xF),
 qm 8 6 14]
def fi:FI:={ res:=[.t 6],code:=.seq (.reg 64 1 r0) (.seq (.reg 128 9 r1) (.ret)) }
attribute [go_sem] r0 r1
theorem ok:chkF prog F_impl_in 3 fi=true:=by kernel_rfl
end impl_in
namespace impl_fields
def r0:List Ent:=[
 qe 0 2 (.mv (.k (.dat none (.str ⟨#[]⟩))))]
def r1:List Ent:=[
 qm 0 3 0]
def r2:List Ent:=[
 qe 0 5 (qK .eql 3 1),
 qm 1 4 5]
def r3:List Ent:=[
 qe 0 2 (.mv (.k (.dat none (.str ⟨#[111,100,115]⟩))))]
def r4:List Ent:=[
 qe 0 7 (qK .eql 3 2),
 qm 1 6 7]
def r5:List Ent:=[
 qe 0 2 (.mv (.k (.dat none (.str ⟨#[111,100,105]⟩))))]
def r6:List Ent:=[
 qe 0 9 (qK .eql 3 3),
 qm 1 8 9]
def r7:List Ent:=[
 qe 0 10 (qK .eql 3 4),
 qm 1 8 10]
def r8:List Ent:=[
 qe 0 11 (qK .eql 3 6),
 qm 1 8 11]
def r9:List Ent:=[
 qe 0 12 (qK .eql 3 7),
 qm 1 8 12]
def r10:List Ent:=[
 qe 0 2 (.mv (.k (.dat none (.str ⟨#[100,105]⟩))))]
def r11:List Ent:=[
 qe 0 14 (qK .eql 3 5),
 qm 1 13 14]
def r12:List Ent:=[
 qe 0 2 (.mv (.k (.dat none (.str ⟨#[100,115,105]⟩))))]
def r13:List Ent:=[
 qe 0 16 (qK .eql 3 8),
 qm 1 15 16]
def r14:List Ent:=[
 qe 0 2 (.mv (.k (.dat none (.str ⟨#[116]⟩))))]
def r15:List Ent:=[
 qe 0 18 (qK .eql 3 9),
 qm 1 17 18]
def r16:List Ent:=[
 qe 0 19 (qK .eql 3 10),
 qm 1 17 19]
def r17:List Ent:=[
 qe 0 2 (.mv (.k (.dat none (.str ⟨#[100,115,116]⟩))))]
def r18:List Ent:=[
 qe 0 2 (.mv (.k (.dat none (.str ⟨#[]⟩))))]
def fi:FI:={ res:=[.t 2],code:=.seq (.reg 64 1 r0) (.seq (.seq (.reg 128 1 r1) (.block 0 (.seq (.reg 192 2 r2) (.cond (.t 4) (.seq (.reg 320 1 r3) (.ret)) (.seq (.reg 384 2 r4) (.cond (.t 6) (.seq (.reg 512 1 r5) (.ret)) (.seq (.seq (.reg 576 2 r6) (.cond (.t 8) (.skip) (.seq (.reg 704 2 r7) (.cond (.t 8) (.skip) (.seq (.reg 832 2 r8) (.cond (.t 8) (.skip) (.reg 960 2 r9))))))) (.cond (.t 8) (.seq (.reg 1088 1 r10) (.ret)) (.seq (.reg 1152 2 r11) (.cond (.t 13) (.seq (.reg 1280 1 r12) (.ret)) (.seq (.reg 1344 2 r13) (.cond (.t 15) (.seq (.reg 1472 1 r14) (.ret)) (.seq (.seq (.reg 1536 2 r15) (.cond (.t 17) (.skip) (.reg 1664 2 r16))) (.cond (.t 17) (.seq (.reg 1792 1 r17) (.ret)) (.skip))))))))))))))) (.seq (.reg 1856 1 r18) (.ret))) }
attribute [go_sem] r0 r1 r2 r3 r4 r5 r6 r7 r8 r9 r10 r11 r12 r13 r14 r15 r16 r17 r18
theorem ok:chkF prog F_impl_fields 1 fi=true:=by kernel_rfl
end impl_fields
namespace impl_Step_ranges
def r0:List Ent:=[
 qe 0 2 (.box (.t 0)),
 qe 1 4 (.mv (xN 0)),
 qe 2 5 (.mv (xN 0))]
def r1:List Ent:=[
 qm 0 7 1,
 qe 1 8 (.bin .eql (.t 7) (.k (.dat none (.int .u8 111)))),
 qm 2 6 8]
def r2:List Ent:=[
 qe 0 4 (.mv (xN 1)),
 qe 1 5 (.mv (xN 10))]
def r3:List Ent:=[
 qm 0 10 1,
 qe 1 11 (.bin .eql (.t 10) (.k (.dat none (.int .u8 100)))),
 qm 2 12 11,
 qf 3 13 12 (qM 1),
 qf 4 14 12 (.bin .eql (.t 13) (.k (.dat none (.int .u8 115)))),
 qe 5 15 (.pick (.t 12) xT (.t 14)),
 qm 6 9 15]
def r4:List Ent:=[
 qe 0 4 (.mv (xN 0)),
 qe 1 5 (.mv (xN 5))]
def r5:List Ent:=[
 qm 0 17 1,
 qe 1 18 (.bin .eql (.t 17) (.k (.dat none (.int .u8 116)))),
 qm 2 16 18]
def r6:List Ent:=[
 qe 0 4 (.mv (xN 1)),
 qe 1 5 (.mv (xN 19))]
def r7:List Ent:=[
 qe 0 20 (qD 0 2),
 qe 1 21 (qL 1 20),
 qe 2 22 (qK .eql 21 4),
 qm 3 19 22]
def r8:List Ent:=[
 qe 0 4 (.mv (xN 256)),
 qe 1 5 (.mv (xN 65535))]
def r9:List Ent:=[
 qe 0 24 (qD 0 2),
 qe 1 25 (qL 1 24),
 qe 2 26 (qK .eql 25 5),
 qm 3 23 26]
def r10:List Ent:=[
 qe 0 4 (.mv (xN 0)),
 qe 1 5 (.mv (xN 7))]
def r11:List Ent:=[
 qe 0 4 (.mv (xN 0)),
 qe 1 5 (.mv (xN 255))]
def fi:FI:={ res:=[.t 4,.t 5],code:=.seq (.reg 64 3 r0) (.seq (.block 0 (.seq (.reg 256 3 r1) (.cond (.t 6) (.seq (.reg 448 2 r2) (.ret)) (.seq (.reg 576 7 r3) (.cond (.t 9) (.seq (.reg 1024 2 r4) (.ret)) (.seq (.reg 1152 3 r5) (.cond (.t 16) (.seq (.reg 1344 2 r6) (.ret)) (.seq (.reg 1472 4 r7) (.cond (.t 19) (.seq (.reg 1728 2 r8) (.ret)) (.seq (.reg 1856 4 r9) (.cond (.t 23) (.seq (.reg 2112 2 r10) (.ret)) (.skip)))))))))))) (.seq (.reg 2240 2 r11) (.ret))) }
attribute [go_sem] r0 r1 r2 r3 r4 r5 r6 r7 r8 r9 r10 r11
theorem ok:chkF prog F_impl_Step_ranges 2 fi=true:=by kernel_rfl
end impl_Step_ranges
namespace impl_Step_valid
def r0:List Ent:=[
 qe 0 1 (.box (.t 0)),
 qe 1 2 (.mv xF)]
def r1:List Ent:=[
 qe 0 8 (qA 6 1),
 qe 1 3 (.box (.k (.agg [.dat none (.int .i64 0),.dat none (.int .i64 0),.dat none (.int .i64 0),.dat none (.int .i64 0),.dat none (.int .i64 0),.dat none (.int .i64 0)]))),
 qs 2 (qW 6 3 8)]
def r2:List Ent:=[
 qe 0 9 (qD 0 3),
 qs 1 (.store 1 (.t 9) (xN 0))]
def r3:List Ent:=[
 qe 0 10 (qD 0 1),
 qe 1 11 (qL 1 10),
 qc 2 12 (qV F_impl_fields 11),
 qe 3 13 (.lens (.t 12)),
 qe 4 14 (.mv (xN 0))]
def r4:List Ent:=[
 qe 0 15 (qB .lss 14 13)]
def r5:List Ent:=[
 qm 0 16 14,
 qm 1 4 16]
def r6:List Ent:=[
 qe 0 17 (qD 0 1),
 qe 1 18 (qL 1 17),
 qc 2 19 (qV F_impl_fields 18),
 qm 3 20 4,
 qe 4 21 (.ids (.t 19) (.t 20)),
 qm 5 5 21]
def r7:List Ent:=[
 qe 0 23 (qA 6 1),
 qm 1 24 5,
 qc 2 25 (qC F_impl_Step_ranges [.t 23,.t 24]),
 qm 3 22 25,
 qe 4 26 (qX 0 22),
 qe 5 27 (qX 1 22),
 qm 6 6 26,
 qm 7 7 27]
def r8:List Ent:=[
 qm 0 28 5,
 qc 1 29 (.fcl F_impl_pStep_field (.t 1) (.t 28)),
 qe 2 30 (.nck (.t 29)),
 qe 3 31 (qL 1 30),
 qm 4 32 6,
 qm 5 33 7,
 qc 6 34 (qC F_impl_in [.t 31,.t 32,.t 33]),
 qe 7 35 (qN 34)]
def r9:List Ent:=[
 qe 0 2 (.mv xF)]
def r10:List Ent:=[
 qm 0 36 5,
 qc 1 37 (.fcl F_impl_pStep_field (.t 3) (.t 36)),
 qe 2 38 (.nck (.t 37)),
 qs 3 (.store 1 (.t 38) (xN 0))]
def r11:List Ent:=[
 qe 0 39 (qK .add 14 1),
 qm 1 14 39]
def b0:KC:=.seq (.reg 832 1 r4) (.seq (.cond (.t 15) (.skip) (.exit 0)) (.seq (.block 1 (.seq (.reg 896 2 r5) (.seq (.reg 1024 6 r6) (.seq (.reg 1408 8 r7) (.seq (.seq (.reg 1920 8 r8) (.cond (.t 35) (.seq (.reg 2432 1 r9) (.ret)) (.skip))) (.reg 2496 4 r10)))))) (.reg 2752 2 r11)))
def r12:List Ent:=[
 qe 0 40 (qD 0 1),
 qe 1 41 (qL 1 40),
 qc 2 42 (qC F_impl_in [.t 41,xN 1,xN 11]),
 qm 3 43 42,
 qt 4 44 43 (qA 6 3),
 qt 5 45 43 (.bld [.k (.dat none (.int .i64 0)),.k (.dat none (.int .i64 0)),.k (.dat none (.int .i64 0)),.k (.dat none (.int .i64 0)),.k (.dat none (.int .i64 0)),.k (.dat none (.int .i64 0))]),
 qt 6 46 43 (.eqag 6 false (.t 44) (.t 45)),
 qe 7 47 (.pick (.t 43) (.t 46) xF),
 qm 8 2 47]
def fi:FI:={ res:=[.t 2],code:=.seq (.reg 64 2 r0) (.seq (.reg 192 3 r1) (.seq (.reg 384 2 r2) (.seq (.seq (.reg 512 5 r3) (.block 0 (.loop b0))) (.seq (.reg 2880 9 r12) (.ret))))) }
attribute [go_sem] r0 r1 r2 r3 r4 r5 r6 r7 r8 r9 r10 r11 r12
theorem ok:chkF prog F_impl_Step_valid 1 fi=true:=by kernel_rfl
end impl_Step_valid
namespace impl_Step_jumps
def r0:List Ent:=[
 qe 0 1 (.box (.t 0)),
 qe 1 2 (.mv xF)]
def r1:List Ent:=[
 qe 0 3 (qD 0 1),
 qe 1 4 (qL 1 3),
 qe 2 5 (qK .eql 4 8),
 qm 3 6 5,
 qf 4 7 6 (qD 0 1),
 qf 5 8 6 (qL 1 7),
 qf 6 9 6 (qK .eql 8 9),
 qe 7 10 (.pick (.t 6) xT (.t 9)),
 qm 8 11 10,
 qf 9 12 11 (qD 0 1),
 qf 10 13 11 (qL 1 12),
 qf 11 14 11 (qK .eql 13 10),
 qe 12 15 (.pick (.t 11) xT (.t 14)),
 qm 13 2 15]
def fi:FI:={ res:=[.t 2],code:=.seq (.reg 64 2 r0) (.seq (.reg 192 14 r1) (.ret)) }
attribute [go_sem] r0 r1
theorem ok:chkF prog F_impl_Step_jumps 1 fi=true:=by kernel_rfl
end impl_Step_jumps
namespace impl_GoodProgram
def r0:List Ent:=[
 qe 0 2 (.mv xF)]
def r1:List Ent:=[
 qm 0 5 0,
 qe 1 6 (qZ 5),
 qc 2 7 (qC F_impl_in [.t 6,xN 1,xN 20]),
 qe 3 8 (qN 7),
 qm 4 9 8,
 qf 5 10 9 (qM 0),
 qf 6 11 9 (qM 0),
 qf 7 12 9 (qZ 11),
 qf 8 13 9 (qK .sub 12 1),
 qf 9 14 9 (qI 6 10 13),
 qf 10 15 9 (qD 0 14),
 qf 11 16 9 (qL 1 15),
 qf 12 17 9 (qK .neq 16 11),
 qe 13 18 (.pick (.t 9) xT (.t 17))]
def r2:List Ent:=[
 qe 0 2 (.mv xF)]
def r3:List Ent:=[
 qm 0 19 0,
 qe 1 20 (qZ 19),
 qe 2 21 (.mv (xN 0))]
def r4:List Ent:=[
 qe 0 22 (qB .lss 21 20)]
def r5:List Ent:=[
 qm 0 23 21,
 qe 1 24 (qI 6 19 21),
 qe 2 25 (qA 6 24),
 qe 3 4 (.box (.k (.agg [.dat none (.int .i64 0),.dat none (.int .i64 0),.dat none (.int .i64 0),.dat none (.int .i64 0),.dat none (.int .i64 0),.dat none (.int .i64 0)]))),
 qm 4 3 23,
 qs 5 (qW 6 4 25)]
def r6:List Ent:=[
 qe 0 26 (qA 6 4),
 qc 1 27 (qV F_impl_Step_valid 26),
 qe 2 28 (qN 27),
 qm 3 29 28,
 qf 4 30 29 (qA 6 4),
 qj 5 31 29 (qV F_impl_Step_jumps 30),
 qf 6 32 29 (qM 31),
 qt 7 33 32 (qM 3),
 qt 8 34 32 (qD 5 4),
 qt 9 35 32 (qL 1 34),
 qt 10 36 32 (qB .add 33 35),
 qt 11 37 32 (qK .add 36 1),
 qt 12 38 32 (qM 0),
 qt 13 39 32 (qZ 38),
 qt 14 40 32 (qB .geq 37 39),
 qf 15 41 29 (.pick (.t 32) (.t 40) xF),
 qe 16 42 (.pick (.t 29) xT (.t 41))]
def r7:List Ent:=[
 qe 0 2 (.mv xF)]
def r8:List Ent:=[
 qe 0 43 (qK .add 21 1),
 qm 1 21 43]
def b0:KC:=.seq (.reg 1280 1 r4) (.seq (.cond (.t 22) (.skip) (.exit 0)) (.seq (.block 1 (.seq (.reg 1344 6 r5) (.seq (.reg 1728 17 r6) (.cond (.t 42) (.seq (.reg 2816 1 r7) (.ret)) (.skip))))) (.reg 2880 2 r8)))
def r9:List Ent:=[
 qe 0 2 (.mv xT)]
def fi:FI:={ res:=[.t 2],code:=.seq (.reg 64 1 r0) (.seq (.seq (.reg 128 14 r1) (.cond (.t 18) (.seq (.reg 1024 1 r2) (.ret)) (.skip))) (.seq (.seq (.reg 1088 3 r3) (.block 0 (.loop b0))) (.seq (.reg 3008 1 r9) (.ret)))) }
attribute [go_sem] r0 r1 r2 r3 r4 r5 r6 r7 r8 r9
theorem ok:chkF prog F_impl_GoodProgram 1 fi=true:=by kernel_rfl
end impl_GoodProgram
namespace slices_IndexFunc__sint_int
def r0:List Ent:=[
 qe 0 4 (.mv (xN 0))]
def r1:List Ent:=[
 qm 0 6 0,
 qe 1 7 (qZ 6),
 qe 2 8 (.mv (xN 0))]
def r2:List Ent:=[
 qe 0 9 (qB .lss 8 7)]
def r3:List Ent:=[
 qm 0 10 8,
 qm 1 5 10]
def r4:List Ent:=[
 qm 0 11 1,
 qm 1 12 0,
 qm 2 13 5,
 qe 3 14 (qI 1 12 13),
 qe 4 15 (qL 1 14),
 qc 5 16 (.ccl (.t 11) false [.t 15])]
def r5:List Ent:=[
 qm 0 17 5,
 qm 1 4 17]
def r6:List Ent:=[
 qe 0 18 (qK .add 8 1),
 qm 1 8 18]
def b0:KC:=.seq (.reg 320 1 r2) (.seq (.cond (.t 9) (.skip) (.exit 0)) (.seq (.block 1 (.seq (.reg 384 2 r3) (.seq (.reg 512 6 r4) (.cond (.t 16) (.seq (.reg 896 2 r5) (.ret)) (.skip))))) (.reg 1024 2 r6)))
def r7:List Ent:=[
 qe 0 4 (.mv (xN (-1)))]
def fi:FI:={ res:=[.t 4],code:=.seq (.reg 64 1 r0) (.seq (.seq (.reg 128 3 r1) (.block 0 (.loop b0))) (.seq (.reg 1152 1 r7) (.ret))) }
attribute [go_sem] r0 r1 r2 r3 r4 r5 r6 r7
theorem ok:chkF prog F_slices_IndexFunc__sint_int 2 fi=true:=by kernel_rfl
end slices_IndexFunc__sint_int
namespace slices_ContainsFunc__sint_int
def r0:List Ent:=[
 qe 0 4 (.mv xF)]
def r1:List Ent:=[
 qm 0 5 0,
 qm 1 6 1,
 qc 2 7 (qC F_slices_IndexFunc__sint_int [.t 5,.t 6]),
 qe 3 8 (qK .geq 7 0),
 qm 4 4 8]
def fi:FI:={ res:=[.t 4],code:=.seq (.reg 64 1 r0) (.seq (.reg 128 5 r1) (.ret)) }
attribute [go_sem] r0 r1
theorem ok:chkF prog F_slices_ContainsFunc__sint_int 2 fi=true:=by kernel_rfl
end slices_ContainsFunc__sint_int
namespace impl_isContext_c1
def r0:List Ent:=[
 qe 0 2 (.mv xF)]
def r1:List Ent:=[
 qm 0 3 0,
 qc 1 4 (qC F_impl_in [.t 3,xN 0,xN 255]),
 qe 2 5 (qN 4),
 qm 3 2 5]
def fi:FI:={ res:=[.t 2],code:=.seq (.reg 64 1 r0) (.seq (.reg 128 4 r1) (.ret)) }
attribute [go_sem] r0 r1
theorem ok:chkF prog F_impl_isContext_c1 1 fi=true:=by kernel_rfl
end impl_isContext_c1
namespace impl_isContext
def r0:List Ent:=[
 qe 0 2 (.mv xF)]
def r1:List Ent:=[
 qm 0 3 0,
 qe 1 4 (qZ 3),
 qe 2 5 (qK .eql 4 8),
 qm 3 6 5,
 qt 4 7 6 (qM 0),
 qh 5 8 6 (qC F_slices_ContainsFunc__sint_int [.t 7,.k (.clo F_impl_isContext_c1 [])]),
 qt 6 9 6 (qN 8),
 qe 7 10 (.pick (.t 6) (.t 9) xF),
 qm 8 2 10]
def fi:FI:={ res:=[.t 2],code:=.seq (.reg 64 1 r0) (.seq (.reg 128 9 r1) (.ret)) }
attribute [go_sem] r0 r1
theorem ok:chkF prog F_impl_isContext 1 fi=true:=by kernel_rfl
end impl_isContext
namespace impl_NewMachine
def r0:List Ent:=[
 qe 0 0 (.box (.k (.agg [.dat none (.int .i64 0),.nil 1,.nil 1,.nil 1])))]
def r1:List Ent:=[
 qx 0 1 (.mks 1 8 (.int .i64 0) (xN 6) (xN 6)) 1 [1,2] [] false,
 qx 1 2 (.mks 1 8 (.int .i64 0) (xN 16) (xN 16)) 1 [0,2] [] false,
 qx 2 3 (.mks 1 1 (.bool false) (xN 16) (xN 16)) 1 [0,1] [] false,
 qe 3 4 (.bld [.k (.dat none (.int .i64 0)),.t 1,.t 2,.t 3]),
 qs 4 (qW 4 0 4)]
def fi:FI:={ res:=[.c 0 true 4],code:=.seq (.reg 64 1 r0) (.seq (.reg 128 5 r1) (.ret)) }
attribute [go_sem] r0 r1
theorem ok:chkF prog F_impl_NewMachine 0 fi=true:=by kernel_rfl
end impl_NewMachine
namespace impl_WordOf
def r0:List Ent:=[
 qe 0 2 (.mv (xN 0))]
def r1:List Ent:=[
 qm 0 3 0,
 qe 1 4 (qK .and 3 65535),
 qm 2 2 4]
def fi:FI:={ res:=[.t 2],code:=.seq (.reg 64 1 r0) (.seq (.reg 128 3 r1) (.ret)) }
attribute [go_sem] r0 r1
theorem ok:chkF prog F_impl_WordOf 1 fi=true:=by kernel_rfl
end impl_WordOf
namespace impl_do
def r0:List Ent:=[
 qe 0 6 (.mv (xN 0))]
def r1:List Ent:=[
 qm 0 7 0]
def r2:List Ent:=[
 qe 0 9 (qK .eql 7 1),
 qm 1 8 9]
def r3:List Ent:=[
 qm 0 10 1,
 qm 1 11 2,
 qe 2 12 (qB .add 10 11),
 qc 3 13 (qV F_impl_WordOf 12),
 qm 4 6 13]
def r4:List Ent:=[
 qe 0 15 (qK .eql 7 2),
 qm 1 14 15]
def r5:List Ent:=[
 qm 0 16 1,
 qm 1 17 2,
 qe 2 18 (qB .sub 16 17),
 qc 3 19 (qV F_impl_WordOf 18),
 qm 4 6 19]
def r6:List Ent:=[
 qe 0 21 (qK .eql 7 3),
 qm 1 20 21]
def r7:List Ent:=[
 qm 0 22 1,
 qm 1 23 2,
 qe 2 24 (qB .mul 22 23),
 qc 3 25 (qV F_impl_WordOf 24),
 qm 4 6 25]
def r8:List Ent:=[
 qe 0 27 (qK .eql 7 4),
 qm 1 26 27]
def r9:List Ent:=[
 qm 0 28 2,
 qe 1 29 (qK .eql 28 0)]
def r10:List Ent:=[
 qe 0 6 (.mv (xN 0))]
def r11:List Ent:=[
 qm 0 30 1,
 qm 1 31 2,
 qe 2 32 (qB .quo 30 31),
 qm 3 6 32]
def r12:List Ent:=[
 qe 0 34 (qK .eql 7 5),
 qm 1 33 34]
def r13:List Ent:=[
 qm 0 35 2,
 qe 1 36 (qK .eql 35 0)]
def r14:List Ent:=[
 qm 0 37 1,
 qm 1 6 37]
def r15:List Ent:=[
 qm 0 38 1,
 qm 1 39 2,
 qe 2 40 (qB .rem 38 39),
 qm 3 6 40]
def r16:List Ent:=[
 qe 0 42 (qK .eql 7 6),
 qm 1 41 42]
def r17:List Ent:=[
 qm 0 43 1,
 qm 1 44 2,
 qe 2 45 (qB .and 43 44),
 qm 3 6 45]
def r18:List Ent:=[
 qe 0 47 (qK .eql 7 7),
 qm 1 46 47]
def r19:List Ent:=[
 qm 0 48 1,
 qm 1 49 2,
 qe 2 50 (qB .or 48 49),
 qm 3 6 50]
def r20:List Ent:=[
 qe 0 52 (qK .eql 7 8),
 qm 1 51 52]
def r21:List Ent:=[
 qm 0 53 1,
 qm 1 54 2,
 qe 2 55 (qB .xor 53 54),
 qm 3 6 55]
def r22:List Ent:=[
 qe 0 57 (qK .eql 7 9),
 qm 1 56 57]
def r23:List Ent:=[
 qm 0 58 1,
 qm 1 59 2,
 qe 2 60 (qK .rem 59 16),
 qe 3 61 (qB .shl 58 60),
 qc 4 62 (qV F_impl_WordOf 61),
 qm 5 6 62]
def r24:List Ent:=[
 qm 0 63 1,
 qm 1 64 2,
 qe 2 65 (qK .rem 64 16),
 qe 3 66 (qB .shr 63 65),
 qm 4 6 66]
def fi:FI:={ res:=[.t 6],code:=.seq (.reg 64 1 r0) (.seq (.seq (.reg 128 1 r1) (.block 0 (.seq (.reg 192 2 r2) (.cond (.t 8) (.seq (.reg 320 5 r3) (.ret)) (.seq (.reg 640 2 r4) (.cond (.t 14) (.seq (.reg 768 5 r5) (.ret)) (.seq (.reg 1088 2 r6) (.cond (.t 20) (.seq (.reg 1216 5 r7) (.ret)) (.seq (.reg 1536 2 r8) (.cond (.t 26) (.seq (.seq (.reg 1664 2 r9) (.cond (.t 29) (.seq (.reg 1792 1 r10) (.ret)) (.skip))) (.seq (.reg 1856 4 r11) (.ret))) (.seq (.reg 2112 2 r12) (.cond (.t 33) (.seq (.seq (.reg 2240 2 r13) (.cond (.t 36) (.seq (.reg 2368 2 r14) (.ret)) (.skip))) (.seq (.reg 2496 4 r15) (.ret))) (.seq (.reg 2752 2 r16) (.cond (.t 41) (.seq (.reg 2880 4 r17) (.ret)) (.seq (.reg 3136 2 r18) (.cond (.t 46) (.seq (.reg 3264 4 r19) (.ret)) (.seq (.reg 3520 2 r20) (.cond (.t 51) (.seq (.reg 3648 4 r21) (.ret)) (.seq (.reg 3904 2 r22) (.cond (.t 56) (.seq (.reg 4032 6 r23) (.ret)) (.skip))))))))))))))))))))) (.seq (.reg 4416 5 r24) (.ret))) }
attribute [go_sem] r0 r1 r2 r3 r4 r5 r6 r7 r8 r9 r10 r11 r12 r13 r14 r15 r16 r17 r18 r19 r20 r21 r22 r23 r24
theorem ok:chkF prog F_impl_do 3 fi=true:=by kernel_rfl
end impl_do
namespace impl_pMachine_step
def r0:List Ent:=[
 qe 0 6 (.mv (xN 0)),
 qe 1 7 (.mv xF)]
def r1:List Ent:=[
 qm 0 12 1,
 qm 1 13 0,
 qe 2 14 (.nck (.t 13)),
 qe 3 15 (qD 0 14),
 qe 4 16 (qL 1 15),
 qe 5 17 (qI 6 12 16),
 qe 6 18 (qA 6 17),
 qe 7 8 (.box (.k (.agg [.dat none (.int .i64 0),.dat none (.int .i64 0),.dat none (.int .i64 0),.dat none (.int .i64 0),.dat none (.int .i64 0),.dat none (.int .i64 0)]))),
 qs 8 (qW 6 8 18)]
def r2:List Ent:=[
 qm 0 19 0,
 qe 1 20 (.nck (.t 19)),
 qe 2 21 (qD 0 20),
 qe 3 22 (qL 1 21),
 qe 4 23 (qK .add 22 1),
 qm 5 9 23]
def r3:List Ent:=[
 qm 0 24 0,
 qe 1 25 (.nck (.t 24)),
 qe 2 26 (qD 1 25),
 qe 3 27 (qL 1 26),
 qm 4 10 27]
def r4:List Ent:=[
 qe 0 28 (qD 0 8),
 qe 1 29 (qL 1 28)]
def r5:List Ent:=[
 qe 0 69 (qK .eql 29 1),
 qm 1 68 69]
def r6:List Ent:=[
 qm 0 70 10,
 qr 1 71 (qD 2 8),
 qr 2 72 (qL 1 71),
 qr 3 73 (qD 1 8),
 qr 4 74 (qL 1 73),
 qm 5 75 10,
 qr 6 76 (qD 2 8),
 qr 7 77 (qL 1 76),
 qr 8 78 (qI 1 75 77),
 qr 9 79 (qL 1 78),
 qm 10 80 10,
 qr 11 81 (qD 3 8),
 qr 12 82 (qL 1 81),
 qr 13 83 (qI 1 80 82),
 qr 14 84 (qL 1 83),
  E2 15 (some 85) none (.call F_impl_do false (roA [.t 74,.t 79,.t 84])),
 qe 16 86 (qI 1 70 72),
 qs 17 (qW 1 86 85)]
def r7:List Ent:=[
 qe 0 88 (qK .eql 29 2),
 qm 1 87 88]
def r8:List Ent:=[
 qm 0 89 10,
 qr 1 90 (qD 2 8),
 qr 2 91 (qL 1 90),
 qr 3 92 (qD 1 8),
 qr 4 93 (qL 1 92),
 qm 5 94 10,
 qr 6 95 (qD 2 8),
 qr 7 96 (qL 1 95),
 qr 8 97 (qI 1 94 96),
 qr 9 98 (qL 1 97),
 qr 10 99 (qD 4 8),
 qr 11 100 (qL 1 99),
  E2 12 (some 101) none (.call F_impl_do false (roA [.t 93,.t 98,.t 100])),
 qe 13 102 (qI 1 89 91),
 qs 14 (qW 1 102 101)]
def r9:List Ent:=[
 qe 0 104 (qK .eql 29 3),
 qm 1 103 104]
def r10:List Ent:=[
 qe 0 105 (qK .eql 29 4),
 qm 1 103 105]
def r11:List Ent:=[
 qm 0 106 10,
 qe 1 107 (qD 2 8),
 qe 2 108 (qL 1 107),
 qe 3 109 (qD 4 8),
 qe 4 110 (qL 1 109),
 qe 5 111 (qI 1 106 108),
 qs 6 (qW 1 111 110)]
def r12:List Ent:=[
 qe 0 113 (qK .eql 29 5),
 qm 1 112 113]
def r13:List Ent:=[
 qm 0 114 10,
 qr 1 115 (qD 3 8),
 qr 2 116 (qL 1 115),
 qr 3 117 (qI 1 114 116),
 qr 4 118 (qL 1 117),
 qr 5 119 (qD 4 8),
 qr 6 120 (qL 1 119),
 qe 7 121 (qB .add 118 120),
 qm 8 11 121]
def r14:List Ent:=[
 qm 0 122 11,
 qe 1 123 (qK .geq 122 8)]
def r15:List Ent:=[
 qe 0 6 (.mv (xN 1)),
 qe 1 7 (.mv xF)]
def r16:List Ent:=[
 qm 0 124 10,
 qr 1 125 (qD 2 8),
 qr 2 126 (qL 1 125),
 qm 3 127 2,
 qm 4 128 11,
 qr 5 129 (qI 1 127 128),
 qr 6 130 (qL 1 129),
 qe 7 131 (qI 1 124 126),
 qs 8 (qW 1 131 130)]
def r17:List Ent:=[
 qe 0 133 (qK .eql 29 7),
 qm 1 132 133]
def r18:List Ent:=[
 qe 0 134 (qK .eql 29 6),
 qm 1 132 134]
def r19:List Ent:=[
 qe 0 135 (qD 4 8),
 qe 1 136 (qL 1 135),
 qe 2 137 (qK .geq 136 16)]
def r20:List Ent:=[
 qe 0 6 (.mv (xN 2)),
 qe 1 7 (.mv xF)]
def r21:List Ent:=[
 qe 0 138 (qD 0 8),
 qe 1 139 (qL 1 138),
 qe 2 140 (qK .eql 139 7)]
def r22:List Ent:=[
 qm 0 141 0,
 qe 1 142 (.nck (.t 141)),
 qr 2 143 (qD 2 142),
 qr 3 144 (qL 1 143),
 qr 4 145 (qD 4 8),
 qr 5 146 (qL 1 145),
 qm 6 147 0,
 qe 7 148 (.nck (.t 147)),
 qr 8 149 (qD 3 148),
 qr 9 150 (qL 1 149),
 qm 12 153 10,
 qr 13 154 (qD 2 8),
 qr 14 155 (qL 1 154),
 qr 15 156 (qI 1 153 155),
 qr 16 157 (qL 1 156),
 qr 17 158 (qI 1 144 146),
 EP 18 none none (.i (qW 1 158 157)) 0 true,
 qx 10 151 (qD 4 8) 2 [] [18] false,
 qx 11 152 (qL 1 151) 2 [] [18] false,
 qe 19 159 (qI 1 150 152),
 qs 20 (.store 1 (.t 159) xT)]
def r23:List Ent:=[
 qm 0 160 0,
 qe 1 161 (.nck (.t 160)),
 qr 2 162 (qD 3 161),
 qr 3 163 (qL 1 162),
 qr 4 164 (qD 4 8),
 qr 5 165 (qL 1 164),
 qe 6 166 (qI 1 163 165),
 qe 7 167 (qL 1 166),
 qe 8 168 (qN 167)]
def r24:List Ent:=[
 qe 0 6 (.mv (xN 3)),
 qe 1 7 (.mv xF)]
def r25:List Ent:=[
 qm 0 169 10,
 qr 1 170 (qD 2 8),
 qr 2 171 (qL 1 170),
 qm 3 172 0,
 qe 4 173 (.nck (.t 172)),
 qr 5 174 (qD 2 173),
 qr 6 175 (qL 1 174),
 qr 7 176 (qD 4 8),
 qr 8 177 (qL 1 176),
 qr 9 178 (qI 1 175 177),
 qr 10 179 (qL 1 178),
 qe 11 180 (qI 1 169 171),
 qs 12 (qW 1 180 179)]
def r26:List Ent:=[
 qe 0 182 (qK .eql 29 11),
 qm 1 181 182]
def r27:List Ent:=[
 qe 0 6 (.mv (xN 0)),
 qe 1 7 (.mv xT)]
def r28:List Ent:=[
 qe 0 184 (qK .eql 29 8),
 qm 1 183 184]
def r29:List Ent:=[
 qm 0 185 9,
 qe 1 186 (qD 5 8),
 qe 2 187 (qL 1 186),
 qe 3 188 (qB .add 185 187),
 qm 4 9 188]
def r30:List Ent:=[
 qe 0 30 (qD 0 8),
 qe 1 31 (qL 1 30),
 qe 2 32 (qK .eql 31 9),
 qm 3 33 32,
 qt 4 34 33 (qM 10),
 ER 5 (some 35) (some (33,true)) (qD 2 8),
 ER 6 (some 36) (some (33,true)) (qL 1 35),
 ER 7 (some 37) (some (33,true)) (qI 1 34 36),
 ER 8 (some 38) (some (33,true)) (qL 1 37),
 qt 9 39 33 (qM 10),
 ER 10 (some 40) (some (33,true)) (qD 3 8),
 ER 11 (some 41) (some (33,true)) (qL 1 40),
 ER 12 (some 42) (some (33,true)) (qI 1 39 41),
 ER 13 (some 43) (some (33,true)) (qL 1 42),
 qt 14 44 33 (qB .eql 38 43),
 qe 15 45 (.pick (.t 33) (.t 44) xF),
 qm 16 46 45,
 qf 17 47 46 (qD 0 8),
 qf 18 48 46 (qL 1 47),
 qf 19 49 46 (qK .eql 48 10),
 qf 20 50 46 (qM 49),
 qt 21 51 50 (qM 10),
 ER 22 (some 52) (some (50,true)) (qD 2 8),
 ER 23 (some 53) (some (50,true)) (qL 1 52),
 ER 24 (some 54) (some (50,true)) (qI 1 51 53),
 ER 25 (some 55) (some (50,true)) (qL 1 54),
 qt 26 56 50 (qM 10),
 ER 27 (some 57) (some (50,true)) (qD 3 8),
 ER 28 (some 58) (some (50,true)) (qL 1 57),
 ER 29 (some 59) (some (50,true)) (qI 1 56 58),
 ER 30 (some 60) (some (50,true)) (qL 1 59),
 qt 31 61 50 (qB .lss 55 60),
 qf 32 62 46 (.pick (.t 50) (.t 61) xF),
 qe 33 63 (.pick (.t 46) xT (.t 62))]
def r31:List Ent:=[
 qm 0 64 9,
 qe 1 65 (qD 5 8),
 qe 2 66 (qL 1 65),
 qe 3 67 (qB .add 64 66),
 qm 4 9 67]
def r32:List Ent:=[
 qm 0 189 0,
 qm 1 190 9,
 qe 2 191 (.nck (.t 189)),
 qe 3 192 (qD 0 191),
 qs 4 (qW 1 192 190)]
def r33:List Ent:=[
 qe 0 6 (.mv (xN 0)),
 qe 1 7 (.mv xF)]
def fi:FI:={ res:=[.t 6,.t 7],code:=.seq (.reg 64 2 r0) (.seq (.reg 192 9 r1) (.seq (.reg 768 6 r2) (.seq (.reg 1152 5 r3) (.seq (.seq (.reg 1472 2 r4) (.block 0 (.seq (.reg 1600 2 r5) (.cond (.t 68) (.reg 1728 18 r6) (.seq (.reg 2880 2 r7) (.cond (.t 87) (.reg 3008 15 r8) (.seq (.seq (.reg 3968 2 r9) (.cond (.t 103) (.skip) (.reg 4096 2 r10))) (.cond (.t 103) (.reg 4224 7 r11) (.seq (.reg 4672 2 r12) (.cond (.t 112) (.seq (.reg 4800 9 r13) (.seq (.seq (.reg 5376 2 r14) (.cond (.t 123) (.seq (.reg 5504 2 r15) (.ret)) (.skip))) (.reg 5632 9 r16))) (.seq (.seq (.reg 6208 2 r17) (.cond (.t 132) (.skip) (.reg 6336 2 r18))) (.cond (.t 132) (.seq (.seq (.reg 6464 3 r19) (.cond (.t 137) (.seq (.reg 6656 2 r20) (.ret)) (.skip))) (.seq (.seq (.reg 6784 3 r21) (.cond (.t 140) (.seq (.reg 6976 21 r22) (.exit 0)) (.skip))) (.seq (.seq (.reg 8320 9 r23) (.cond (.t 168) (.seq (.reg 8896 2 r24) (.ret)) (.skip))) (.reg 9024 13 r25)))) (.seq (.reg 9856 2 r26) (.cond (.t 181) (.seq (.reg 9984 2 r27) (.ret)) (.seq (.reg 10112 2 r28) (.cond (.t 183) (.reg 10240 5 r29) (.seq (.reg 10560 34 r30) (.cond (.t 63) (.reg 12736 5 r31) (.skip))))))))))))))))))) (.seq (.reg 13056 5 r32) (.seq (.reg 13376 2 r33) (.ret))))))) }
attribute [go_sem] r0 r1 r2 r3 r4 r5 r6 r7 r8 r9 r10 r11 r12 r13 r14 r15 r16 r17 r18 r19 r20 r21 r22 r23 r24 r25 r26 r27 r28 r29 r30 r31 r32 r33
theorem ok:chkF prog F_impl_pMachine_step 3 fi=true:=by kernel_rfl
end impl_pMachine_step
namespace impl_run
def r0:List Ent:=[
 qe 0 6 (.mv (xN 0)),
 qe 1 7 (.mv (xN 0)),
 qe 2 8 (.mv (xN 0)),
 qe 3 9 (.mv (.k (.nil 1)))]
def r1:List Ent:=[
 qc 0 15 (qC F_impl_NewMachine []),
 qe 1 10 (.box (.k (.agg [.dat none (.int .i64 0),.nil 1,.nil 1,.nil 1]))),
 qs 2 (qW 4 10 15)]
def r2:List Ent:=[
 qe 0 11 (.mv (.k (.nil 1)))]
def r3:List Ent:=[
 qe 0 16 (qD 0 10),
 qe 1 17 (qL 1 16),
 qm 2 12 17]
def r4:List Ent:=[
 qm 0 18 11,
 qe 1 19 (qZ 18),
 qm 2 20 2,
 qe 3 21 (qB .eql 19 20)]
def r5:List Ent:=[
 qm 0 22 12,
 qm 1 23 11,
 qe 2 6 (.mv (xN 0)),
 qe 3 7 (.mv (xN 4)),
 qm 4 8 22,
 qm 5 9 23]
def r6:List Ent:=[
 qm 0 24 11,
 qm 1 25 12,
 qe 2 26 (.bsl true 1 [.t 25]),
 qe 3 27 (.app 1 8 (.t 24) (.t 26)),
 qm 4 11 27]
def r7:List Ent:=[
 qm 0 29 0,
 qm 1 30 1,
 qc 2 31 (.call F_impl_pMachine_step false [(.io,.t 10),(.ro,.t 29),(.ro,.t 30)]),
 qm 3 28 31,
 qe 4 32 (qX 0 28),
 qe 5 33 (qX 1 28),
 qm 6 13 32,
 qm 7 14 33]
def r8:List Ent:=[
 qm 0 34 13,
 qe 1 35 (qK .neq 34 0)]
def r9:List Ent:=[
 qm 0 36 13,
 qm 1 37 12,
 qm 2 38 11,
 qe 3 6 (.mv (xN 0)),
 qm 4 7 36,
 qm 5 8 37,
 qm 6 9 38]
def r10:List Ent:=[
 qm 0 39 14]
def r11:List Ent:=[
 qe 0 40 (qD 1 10),
 qe 1 41 (qL 1 40),
 qe 2 42 (.iad 1 (.t 41) (xN 0)),
 qe 3 43 (qL 1 42),
 qm 4 44 11,
 qm 5 6 43,
 qe 6 7 (.mv (xN 0)),
 qe 7 8 (.mv (xN 0)),
 qm 8 9 44]
def b0:KC:=.block 1 (.seq (.reg 576 3 r3) (.seq (.seq (.reg 768 4 r4) (.cond (.t 21) (.seq (.reg 1024 6 r5) (.ret)) (.skip))) (.seq (.reg 1408 5 r6) (.seq (.reg 1728 8 r7) (.seq (.seq (.reg 2240 2 r8) (.cond (.t 35) (.seq (.reg 2368 7 r9) (.ret)) (.skip))) (.seq (.reg 2816 1 r10) (.cond (.t 39) (.seq (.reg 2880 9 r11) (.ret)) (.skip))))))))
def fi:FI:={ res:=[.t 6,.t 7,.t 8,.t 9],code:=.seq (.reg 64 4 r0) (.seq (.reg 320 3 r1) (.seq (.reg 512 1 r2) (.nrm 11 1600 1 (.block 0 (.loop b0))))) }
attribute [go_sem] r0 r1 r2 r3 r4 r5 r6 r7 r8 r9 r10 r11
theorem ok:chkF prog F_impl_run 3 fi=true:=by kernel_rfl
end impl_run
namespace impl_TraceOf
def r0:List Ent:=[
 qe 0 4 (.mv (.k (.nil 1))),
 qe 1 5 (.mv (xN 0)),
 qe 2 6 (.mv xF)]
def r1:List Ent:=[
 qm 0 11 0,
 qc 1 12 (qV F_impl_GoodProgram 11),
 qe 2 13 (qN 12),
 qm 3 14 13,
 qf 4 15 14 (qM 1),
 qj 5 16 14 (qV F_impl_isContext 15),
 qf 6 17 14 (qN 16),
 qe 7 18 (.pick (.t 14) xT (.t 17))]
def r2:List Ent:=[
 qe 0 4 (.mv (.k (.nil 1))),
 qe 1 5 (.mv (xN 0)),
 qe 2 6 (.mv xF)]
def r3:List Ent:=[
 qm 0 20 0,
 qm 1 21 1,
 qc 2 22 (qC F_impl_run [.t 20,.t 21,xN 100]),
 qm 3 19 22,
 qe 4 23 (qX 0 19),
 qe 5 24 (qX 1 19),
 qe 6 25 (qX 2 19),
 qe 7 26 (qX 3 19),
 qm 8 7 23,
 qm 9 8 24,
 qm 10 9 25,
 qm 11 10 26]
def r4:List Ent:=[
 qm 0 27 10,
 qm 1 28 8,
 qm 2 4 27,
 qm 3 5 28,
 qe 4 6 (.mv xT)]
def fi:FI:={ res:=[.t 4,.t 5,.t 6],code:=.seq (.reg 64 3 r0) (.seq (.seq (.reg 256 8 r1) (.cond (.t 18) (.seq (.reg 768 3 r2) (.ret)) (.skip))) (.seq (.reg 960 12 r3) (.seq (.reg 1728 5 r4) (.ret)))) }
attribute [go_sem] r0 r1 r2 r3 r4
theorem ok:chkF prog F_impl_TraceOf 2 fi=true:=by kernel_rfl
end impl_TraceOf
namespace impl_Step_branches
def r0:List Ent:=[
 qe 0 1 (.box (.t 0)),
 qe 1 2 (.mv xF)]
def r1:List Ent:=[
 qe 0 3 (qD 0 1),
 qe 1 4 (qL 1 3),
 qe 2 5 (qK .eql 4 9),
 qm 3 6 5,
 qf 4 7 6 (qD 0 1),
 qf 5 8 6 (qL 1 7),
 qf 6 9 6 (qK .eql 8 10),
 qe 7 10 (.pick (.t 6) xT (.t 9)),
 qm 8 2 10]
def fi:FI:={ res:=[.t 2],code:=.seq (.reg 64 2 r0) (.seq (.reg 192 9 r1) (.ret)) }
attribute [go_sem] r0 r1
theorem ok:chkF prog F_impl_Step_branches 1 fi=true:=by kernel_rfl
end impl_Step_branches
namespace impl_turnsOf
def r0:List Ent:=[
 qe 0 4 (.mv (.k (.nil 1)))]
def r1:List Ent:=[
 qe 0 5 (.mv (.k (.nil 1)))]
def r2:List Ent:=[
 qm 0 8 1,
 qe 1 9 (qZ 8),
 qe 2 10 (.mv (xN 0))]
def r3:List Ent:=[
 qe 0 11 (qB .lss 10 9)]
def r4:List Ent:=[
 qm 0 12 10,
 qe 1 13 (qI 1 8 10),
 qe 2 14 (qL 1 13),
 qm 3 6 12,
 qm 4 7 14]
def r5:List Ent:=[
 qm 0 15 0,
 qm 1 16 7,
 qe 2 17 (qI 6 15 16),
 qe 3 18 (qA 6 17),
 qc 4 19 (qV F_impl_Step_branches 18),
 qm 5 20 19,
 qt 6 21 20 (qM 6),
 qt 7 22 20 (qK .add 21 1),
 qt 8 23 20 (qM 1),
 qt 9 24 20 (qZ 23),
 qt 10 25 20 (qB .lss 22 24),
 qe 11 26 (.pick (.t 20) (.t 25) xF)]
def r6:List Ent:=[
 qm 0 27 5,
 qm 1 28 1,
 qm 2 29 6,
 qe 3 30 (qK .add 29 1),
 qr 4 31 (qI 1 28 30),
 qr 5 32 (qL 1 31),
 qm 6 33 7,
 qm 7 34 0,
 qm 8 35 7,
 qr 9 36 (qI 6 34 35),
 qr 10 37 (qD 5 36),
 qr 11 38 (qL 1 37),
 qe 12 39 (qB .add 33 38),
 qe 13 40 (qK .add 39 1),
 qe 14 41 (qB .eql 32 40),
 qe 15 42 (.bsl true 1 [.t 41]),
 qe 16 43 (.app 1 1 (.t 27) (.t 42)),
 qm 17 5 43]
def r7:List Ent:=[
 qe 0 44 (qK .add 10 1),
 qm 1 10 44]
def b0:KC:=.seq (.reg 384 1 r3) (.seq (.cond (.t 11) (.skip) (.exit 0)) (.seq (.block 1 (.seq (.reg 448 5 r4) (.seq (.reg 768 12 r5) (.cond (.t 26) (.reg 1536 18 r6) (.skip))))) (.reg 2688 2 r7)))
def r8:List Ent:=[
 qm 0 45 5,
 qm 1 4 45]
def fi:FI:={ res:=[.t 4],code:=.seq (.reg 64 1 r0) (.seq (.reg 128 1 r1) (.seq (.seq (.reg 192 3 r2) (.nrm 5 2560 1 (.block 0 (.loop b0)))) (.seq (.reg 2816 2 r8) (.ret)))) }
attribute [go_sem] r0 r1 r2 r3 r4 r5 r6 r7 r8
theorem ok:chkF prog F_impl_turnsOf 2 fi=true:=by kernel_rfl
end impl_turnsOf
namespace impl_WayOf
def r0:List Ent:=[
 qe 0 4 (.box (.k (.agg [.nil 1,.nil 1]))),
 qe 1 5 (.mv xF)]
def r1:List Ent:=[
 qm 0 10 0,
 qm 1 11 1,
 qc 2 12 (qC F_impl_TraceOf [.t 10,.t 11]),
 qm 3 9 12,
 qe 4 13 (qX 0 9),
 qe 5 14 (qX 1 9),
 qe 6 15 (qX 2 9),
 qm 7 6 13,
 qm 8 7 14,
 qm 9 8 15]
def r2:List Ent:=[
 qm 0 16 8,
 qe 1 17 (qN 16),
 qm 2 18 17,
 qf 3 19 18 (qM 7),
 qf 4 20 18 (qK .neq 19 0),
 qe 5 21 (.pick (.t 18) xT (.t 20))]
def r3:List Ent:=[
 qe 0 22 (.bld [.k (.nil 1),.k (.nil 1)]),
 qs 1 (qW 2 4 22),
 qe 2 5 (.mv xF)]
def r4:List Ent:=[
 qm 0 23 6,
 qm 1 24 0,
 qm 2 25 6,
 qc 3 26 (qC F_impl_turnsOf [.t 24,.t 25]),
 qe 4 27 (.bld [.t 23,.t 26]),
 qs 5 (qW 2 4 27),
 qe 6 5 (.mv xT)]
def fi:FI:={ res:=[.c 4 true 2,.t 5],code:=.seq (.reg 64 2 r0) (.seq (.reg 192 10 r1) (.seq (.seq (.reg 832 6 r2) (.cond (.t 21) (.seq (.reg 1216 3 r3) (.ret)) (.skip))) (.seq (.reg 1408 7 r4) (.ret)))) }
attribute [go_sem] r0 r1 r2 r3 r4
theorem ok:chkF prog F_impl_WayOf 2 fi=true:=by kernel_rfl
end impl_WayOf
namespace spec_l1In
def r0:List Ent:=[
 qe 0 6 (.mv xF)]
def r1:List Ent:=[
 qm 0 7 0,
 qm 1 8 1,
 qe 2 9 (qB .geq 7 8),
 qm 3 10 9,
 qt 4 11 10 (qM 0),
 qt 5 12 10 (qM 2),
 qt 6 13 10 (qB .leq 11 12),
 qe 7 14 (.pick (.t 10) (.t 13) xF),
 qm 8 6 14]
def fi:FI:={ res:=[.t 6],code:=.seq (.reg 64 1 r0) (.seq (.reg 128 9 r1) (.ret)) }
attribute [go_sem] r0 r1
theorem ok:chkF prog F_spec_l1In 3 fi=true:=by kernel_rfl
end spec_l1In
namespace spec_l2Reg
def r0:List Ent:=[
 qe 0 2 (.mv xF)]
def r1:List Ent:=[
 qm 0 3 0,
 qc 1 4 (qC F_spec_l1In [.t 3,xN 0,xN 5]),
 qm 2 2 4]
def fi:FI:={ res:=[.t 2],code:=.seq (.reg 64 1 r0) (.seq (.reg 128 3 r1) (.ret)) }
attribute [go_sem] r0 r1
theorem ok:chkF prog F_spec_l2Reg 1 fi=true:=by kernel_rfl
end spec_l2Reg
namespace spec_l2Zero
def r0:List Ent:=[
 qe 0 6 (.box (.t 0)),
 qe 1 12 (.mv xF)]
def r1:List Ent:=[
 qm 0 13 1,
 qm 1 14 13,
 qf 2 15 14 (qD 1 6),
 qf 3 16 14 (qL 1 15),
 qf 4 17 14 (qK .eql 16 0),
 qe 5 18 (.pick (.t 14) xT (.t 17)),
 qm 6 19 18,
 qt 7 20 19 (qM 2),
 qt 8 21 19 (qM 20),
 qf 9 22 21 (qD 2 6),
 qf 10 23 21 (qL 1 22),
 qf 11 24 21 (qK .eql 23 0),
 qt 12 25 19 (.pick (.t 21) xT (.t 24)),
 qe 13 26 (.pick (.t 19) (.t 25) xF),
 qm 14 27 26,
 qt 15 28 27 (qM 3),
 qt 16 29 27 (qM 28),
 qf 17 30 29 (qD 3 6),
 qf 18 31 29 (qL 1 30),
 qf 19 32 29 (qK .eql 31 0),
 qt 20 33 27 (.pick (.t 29) xT (.t 32)),
 qe 21 34 (.pick (.t 27) (.t 33) xF),
 qm 22 35 34,
 qt 23 36 35 (qM 4),
 qt 24 37 35 (qM 36),
 qf 25 38 37 (qD 4 6),
 qf 26 39 37 (qL 1 38),
 qf 27 40 37 (qK .eql 39 0),
 qt 28 41 35 (.pick (.t 37) xT (.t 40)),
 qe 29 42 (.pick (.t 35) (.t 41) xF),
 qm 30 43 42,
 qt 31 44 43 (qM 5),
 qt 32 45 43 (qM 44),
 qf 33 46 45 (qD 5 6),
 qf 34 47 45 (qL 1 46),
 qf 35 48 45 (qK .eql 47 0),
 qt 36 49 43 (.pick (.t 45) xT (.t 48)),
 qe 37 50 (.pick (.t 43) (.t 49) xF),
 qm 38 12 50]
def fi:FI:={ res:=[.t 12],code:=.seq (.reg 64 2 r0) (.seq (.reg 192 39 r1) (.ret)) }
attribute [go_sem] r0 r1
theorem ok:chkF prog F_spec_l2Zero 6 fi=true:=by kernel_rfl
end spec_l2Zero
namespace spec_l2Step
def r0:List Ent:=[
 qe 0 1 (.box (.t 0)),
 qe 1 2 (.mv xF)]
def r1:List Ent:=[
 qe 0 5 (qD 1 1),
 qe 1 6 (qL 1 5),
 qc 2 7 (qC F_spec_l1In [.t 6,xN 1,xN 10]),
 qm 3 3 7]
def r2:List Ent:=[
 qe 0 8 (qD 5 1),
 qe 1 9 (qL 1 8),
 qc 2 10 (qC F_spec_l1In [.t 9,xN 1,xN 19]),
 qm 3 4 10]
def r3:List Ent:=[
 qe 0 11 (qD 2 1),
 qe 1 12 (qL 1 11),
 qc 2 13 (qV F_spec_l2Reg 12),
 qe 3 14 (qN 13),
 qm 4 15 14,
 qf 5 16 15 (qD 3 1),
 qf 6 17 15 (qL 1 16),
 qj 7 18 15 (qV F_spec_l2Reg 17),
 qf 8 19 15 (qN 18),
 qe 9 20 (.pick (.t 15) xT (.t 19))]
def r4:List Ent:=[
 qe 0 2 (.mv xF)]
def r5:List Ent:=[
 qe 0 21 (qD 0 1),
 qe 1 22 (qL 1 21)]
def r6:List Ent:=[
 qe 0 24 (qK .eql 22 1),
 qm 1 23 24]
def r7:List Ent:=[
 qm 0 25 3,
 qm 1 26 25,
 qt 2 27 26 (qA 6 1),
 qh 3 28 26 (qC F_spec_l2Zero [.t 27,xT,xT,xT,xF,xF]),
 qe 4 29 (.pick (.t 26) (.t 28) xF),
 qm 5 2 29]
def r8:List Ent:=[
 qe 0 31 (qK .eql 22 2),
 qm 1 30 31]
def r9:List Ent:=[
 qm 0 32 3,
 qm 1 33 32,
 qt 2 34 33 (qD 4 1),
 qt 3 35 33 (qL 1 34),
 qh 4 36 33 (qC F_spec_l1In [.t 35,xN 0,xN 255]),
 qe 5 37 (.pick (.t 33) (.t 36) xF),
 qm 6 38 37,
 qt 7 39 38 (qA 6 1),
 qh 8 40 38 (qC F_spec_l2Zero [.t 39,xT,xT,xF,xT,xF]),
 qe 9 41 (.pick (.t 38) (.t 40) xF),
 qm 10 2 41]
def r10:List Ent:=[
 qe 0 43 (qK .eql 22 3),
 qm 1 42 43]
def r11:List Ent:=[
 qe 0 44 (qD 4 1),
 qe 1 45 (qL 1 44),
 qc 2 46 (qC F_spec_l1In [.t 45,xN 0,xN 255]),
 qm 3 47 46,
 qt 4 48 47 (qA 6 1),
 qh 5 49 47 (qC F_spec_l2Zero [.t 48,xF,xT,xF,xT,xF]),
 qe 6 50 (.pick (.t 47) (.t 49) xF),
 qm 7 2 50]
def r12:List Ent:=[
 qe 0 52 (qK .eql 22 4),
 qm 1 51 52]
def r13:List Ent:=[
 qe 0 53 (qD 4 1),
 qe 1 54 (qL 1 53),
 qc 2 55 (qC F_spec_l1In [.t 54,xN 256,xN 65535]),
 qm 3 56 55,
 qt 4 57 56 (qA 6 1),
 qh 5 58 56 (qC F_spec_l2Zero [.t 57,xF,xT,xF,xT,xF]),
 qe 6 59 (.pick (.t 56) (.t 58) xF),
 qm 7 2 59]
def r14:List Ent:=[
 qe 0 61 (qK .eql 22 5),
 qm 1 60 61]
def r15:List Ent:=[
 qe 0 62 (qD 4 1),
 qe 1 63 (qL 1 62),
 qc 2 64 (qC F_spec_l1In [.t 63,xN 0,xN 7]),
 qm 3 65 64,
 qt 4 66 65 (qA 6 1),
 qh 5 67 65 (qC F_spec_l2Zero [.t 66,xF,xT,xT,xT,xF]),
 qe 6 68 (.pick (.t 65) (.t 67) xF),
 qm 7 2 68]
def r16:List Ent:=[
 qe 0 70 (qK .eql 22 6),
 qm 1 69 70]
def r17:List Ent:=[
 qe 0 71 (qK .eql 22 7),
 qm 1 69 71]
def r18:List Ent:=[
 qe 0 72 (qD 4 1),
 qe 1 73 (qL 1 72),
 qc 2 74 (qC F_spec_l1In [.t 73,xN 0,xN 255]),
 qm 3 75 74,
 qt 4 76 75 (qA 6 1),
 qh 5 77 75 (qC F_spec_l2Zero [.t 76,xF,xT,xF,xT,xF]),
 qe 6 78 (.pick (.t 75) (.t 77) xF),
 qm 7 2 78]
def r19:List Ent:=[
 qe 0 80 (qK .eql 22 8),
 qm 1 79 80]
def r20:List Ent:=[
 qm 0 81 4,
 qm 1 82 81,
 qt 2 83 82 (qA 6 1),
 qh 3 84 82 (qC F_spec_l2Zero [.t 83,xF,xF,xF,xF,xT]),
 qe 4 85 (.pick (.t 82) (.t 84) xF),
 qm 5 2 85]
def r21:List Ent:=[
 qe 0 87 (qK .eql 22 9),
 qm 1 86 87]
def r22:List Ent:=[
 qe 0 88 (qK .eql 22 10),
 qm 1 86 88]
def r23:List Ent:=[
 qm 0 89 4,
 qm 1 90 89,
 qt 2 91 90 (qA 6 1),
 qh 3 92 90 (qC F_spec_l2Zero [.t 91,xF,xT,xT,xF,xT]),
 qe 4 93 (.pick (.t 90) (.t 92) xF),
 qm 5 2 93]
def r24:List Ent:=[
 qe 0 94 (qD 0 1),
 qe 1 95 (qL 1 94),
 qe 2 96 (qK .eql 95 11),
 qm 3 97 96,
 qt 4 98 97 (qA 6 1),
 qh 5 99 97 (qC F_spec_l2Zero [.t 98,xF,xF,xF,xF,xF]),
 qe 6 100 (.pick (.t 97) (.t 99) xF),
 qm 7 2 100]
def fi:FI:={ res:=[.t 2],code:=.seq (.reg 64 2 r0) (.seq (.reg 192 4 r1) (.seq (.reg 448 4 r2) (.seq (.seq (.reg 704 10 r3) (.cond (.t 20) (.seq (.reg 1344 1 r4) (.ret)) (.skip))) (.seq (.seq (.reg 1408 2 r5) (.block 0 (.seq (.reg 1536 2 r6) (.cond (.t 23) (.seq (.reg 1664 6 r7) (.ret)) (.seq (.reg 2048 2 r8) (.cond (.t 30) (.seq (.reg 2176 11 r9) (.ret)) (.seq (.reg 2880 2 r10) (.cond (.t 42) (.seq (.reg 3008 8 r11) (.ret)) (.seq (.reg 3520 2 r12) (.cond (.t 51) (.seq (.reg 3648 8 r13) (.ret)) (.seq (.reg 4160 2 r14) (.cond (.t 60) (.seq (.reg 4288 8 r15) (.ret)) (.seq (.seq (.reg 4800 2 r16) (.cond (.t 69) (.skip) (.reg 4928 2 r17))) (.cond (.t 69) (.seq (.reg 5056 8 r18) (.ret)) (.seq (.reg 5568 2 r19) (.cond (.t 79) (.seq (.reg 5696 6 r20) (.ret)) (.seq (.seq (.reg 6080 2 r21) (.cond (.t 86) (.skip) (.reg 6208 2 r22))) (.cond (.t 86) (.seq (.reg 6336 6 r23) (.ret)) (.skip))))))))))))))))))) (.seq (.reg 6720 8 r24) (.ret)))))) }
attribute [go_sem] r0 r1 r2 r3 r4 r5 r6 r7 r8 r9 r10 r11 r12 r13 r14 r15 r16 r17 r18 r19 r20 r21 r22 r23 r24
theorem ok:chkF prog F_spec_l2Step 1 fi=true:=by kernel_rfl
end spec_l2Step
namespace spec_GoodProgram
def r0:List Ent:=[
 qe 0 2 (.mv xF)]
def r1:List Ent:=[
 qm 0 5 0,
 qe 1 6 (qZ 5),
 qe 2 7 (.mv (xN 0))]
def r2:List Ent:=[
 qe 0 8 (qB .lss 7 6)]
def r3:List Ent:=[
 qm 0 9 7,
 qe 1 10 (qI 6 5 7),
 qe 2 11 (qA 6 10),
 qe 3 4 (.box (.k (.agg [.dat none (.int .i64 0),.dat none (.int .i64 0),.dat none (.int .i64 0),.dat none (.int .i64 0),.dat none (.int .i64 0),.dat none (.int .i64 0)]))),
 qm 4 3 9,
 qs 5 (qW 6 4 11)]
def r4:List Ent:=[
 qe 0 12 (qA 6 4),
 qc 1 13 (qV F_spec_l2Step 12),
 qe 2 14 (qN 13),
 qm 3 15 14,
 qf 4 16 15 (qD 5 4),
 qf 5 17 15 (qL 1 16),
 qf 6 18 15 (qK .gtr 17 0),
 qf 7 19 15 (qM 18),
 qt 8 20 19 (qM 3),
 qt 9 21 19 (qD 5 4),
 qt 10 22 19 (qL 1 21),
 qt 11 23 19 (qB .add 20 22),
 qt 12 24 19 (qK .add 23 1),
 qt 13 25 19 (qM 0),
 qt 14 26 19 (qZ 25),
 qt 15 27 19 (qB .geq 24 26),
 qf 16 28 15 (.pick (.t 19) (.t 27) xF),
 qe 17 29 (.pick (.t 15) xT (.t 28))]
def r5:List Ent:=[
 qe 0 2 (.mv xF)]
def r6:List Ent:=[
 qe 0 30 (qK .add 7 1),
 qm 1 7 30]
def b0:KC:=.seq (.reg 320 1 r2) (.seq (.cond (.t 8) (.skip) (.exit 0)) (.seq (.block 1 (.seq (.reg 384 6 r3) (.seq (.reg 768 18 r4) (.cond (.t 29) (.seq (.reg 1920 1 r5) (.ret)) (.skip))))) (.reg 1984 2 r6)))
def r7:List Ent:=[
 qm 0 31 0,
 qe 1 32 (qZ 31),
 qc 2 33 (qC F_spec_l1In [.t 32,xN 1,xN 20]),
 qm 3 34 33,
 qt 4 35 34 (qM 0),
 qt 5 36 34 (qM 0),
 qt 6 37 34 (qZ 36),
 qt 7 38 34 (qK .sub 37 1),
 qt 8 39 34 (qI 6 35 38),
 qt 9 40 34 (qD 0 39),
 qt 10 41 34 (qL 1 40),
 qt 11 42 34 (qK .eql 41 11),
 qe 12 43 (.pick (.t 34) (.t 42) xF),
 qm 13 2 43]
def fi:FI:={ res:=[.t 2],code:=.seq (.reg 64 1 r0) (.seq (.seq (.reg 128 3 r1) (.block 0 (.loop b0))) (.seq (.reg 2112 14 r7) (.ret))) }
attribute [go_sem] r0 r1 r2 r3 r4 r5 r6 r7
theorem ok:chkF prog F_spec_GoodProgram 1 fi=true:=by kernel_rfl
end spec_GoodProgram
namespace spec_l1All
def r0:List Ent:=[
 qe 0 6 (.mv xF)]
def r1:List Ent:=[
 qm 0 9 0,
 qe 1 10 (qZ 9),
 qe 2 11 (.mv (xN 0))]
def r2:List Ent:=[
 qe 0 12 (qB .lss 11 10)]
def r3:List Ent:=[
 qe 0 13 (qI 1 9 11),
 qe 1 14 (qL 1 13),
 qm 2 8 14]
def r4:List Ent:=[
 qm 0 15 8,
 qm 1 16 1,
 qm 2 17 2,
 qc 3 18 (qC F_spec_l1In [.t 15,.t 16,.t 17]),
 qe 4 19 (qN 18)]
def r5:List Ent:=[
 qe 0 6 (.mv xF)]
def r6:List Ent:=[
 qe 0 20 (qK .add 11 1),
 qm 1 11 20]
def b0:KC:=.seq (.reg 320 1 r2) (.seq (.cond (.t 12) (.skip) (.exit 0)) (.seq (.block 1 (.seq (.reg 384 3 r3) (.seq (.reg 576 5 r4) (.cond (.t 19) (.seq (.reg 896 1 r5) (.ret)) (.skip))))) (.reg 960 2 r6)))
def r7:List Ent:=[
 qe 0 6 (.mv xT)]
def fi:FI:={ res:=[.t 6],code:=.seq (.reg 64 1 r0) (.seq (.seq (.reg 128 3 r1) (.block 0 (.loop b0))) (.seq (.reg 1088 1 r7) (.ret))) }
attribute [go_sem] r0 r1 r2 r3 r4 r5 r6 r7
theorem ok:chkF prog F_spec_l1All 3 fi=true:=by kernel_rfl
end spec_l1All
namespace spec_l3Ctx
def r0:List Ent:=[
 qe 0 2 (.mv xF)]
def r1:List Ent:=[
 qm 0 3 0,
 qe 1 4 (qZ 3),
 qe 2 5 (qK .eql 4 8),
 qm 3 6 5,
 qt 4 7 6 (qM 0),
 qh 5 8 6 (qC F_spec_l1All [.t 7,xN 0,xN 255]),
 qe 6 9 (.pick (.t 6) (.t 8) xF),
 qm 7 2 9]
def fi:FI:={ res:=[.t 2],code:=.seq (.reg 64 1 r0) (.seq (.reg 128 8 r1) (.ret)) }
attribute [go_sem] r0 r1
theorem ok:chkF prog F_spec_l3Ctx 1 fi=true:=by kernel_rfl
end spec_l3Ctx
namespace spec_NewMachine
def r0:List Ent:=[
 qe 0 0 (.box (.k (.agg [.dat none (.int .i64 0),.nil 1,.nil 1,.nil 1])))]
def r1:List Ent:=[
 qx 0 1 (.mks 1 8 (.int .i64 0) (xN 6) (xN 6)) 1 [1,2] [] false,
 qx 1 2 (.mks 1 8 (.int .i64 0) (xN 16) (xN 16)) 1 [0,2] [] false,
 qx 2 3 (.mks 1 1 (.bool false) (xN 16) (xN 16)) 1 [0,1] [] false,
 qe 3 4 (.bld [.k (.dat none (.int .i64 0)),.t 1,.t 2,.t 3]),
 qs 4 (qW 4 0 4)]
def fi:FI:={ res:=[.c 0 true 4],code:=.seq (.reg 64 1 r0) (.seq (.reg 128 5 r1) (.ret)) }
attribute [go_sem] r0 r1
theorem ok:chkF prog F_spec_NewMachine 0 fi=true:=by kernel_rfl
end spec_NewMachine
namespace spec_l1Wrap
def r0:List Ent:=[
 qe 0 2 (.mv (xN 0))]
def r1:List Ent:=[
 qm 0 3 0,
 qe 1 4 (qK .rem 3 65536),
 qe 2 5 (qK .add 4 65536),
 qe 3 6 (qK .rem 5 65536),
 qm 4 2 6]
def fi:FI:={ res:=[.t 2],code:=.seq (.reg 64 1 r0) (.seq (.reg 128 5 r1) (.ret)) }
attribute [go_sem] r0 r1
theorem ok:chkF prog F_spec_l1Wrap 1 fi=true:=by kernel_rfl
end spec_l1Wrap
namespace spec_l1Do
def r0:List Ent:=[
 qe 0 6 (.mv (xN 0))]
def r1:List Ent:=[
 qm 0 7 0]
def r2:List Ent:=[
 qe 0 9 (qK .eql 7 1),
 qm 1 8 9]
def r3:List Ent:=[
 qm 0 10 1,
 qm 1 11 2,
 qe 2 12 (qB .add 10 11),
 qc 3 13 (qV F_spec_l1Wrap 12),
 qm 4 6 13]
def r4:List Ent:=[
 qe 0 15 (qK .eql 7 2),
 qm 1 14 15]
def r5:List Ent:=[
 qm 0 16 1,
 qm 1 17 2,
 qe 2 18 (qB .sub 16 17),
 qc 3 19 (qV F_spec_l1Wrap 18),
 qm 4 6 19]
def r6:List Ent:=[
 qe 0 21 (qK .eql 7 3),
 qm 1 20 21]
def r7:List Ent:=[
 qm 0 22 1,
 qm 1 23 2,
 qe 2 24 (qB .mul 22 23),
 qc 3 25 (qV F_spec_l1Wrap 24),
 qm 4 6 25]
def r8:List Ent:=[
 qe 0 27 (qK .eql 7 4),
 qm 1 26 27]
def r9:List Ent:=[
 qm 0 28 2,
 qe 1 29 (qK .eql 28 0)]
def r10:List Ent:=[
 qe 0 6 (.mv (xN 0))]
def r11:List Ent:=[
 qm 0 30 1,
 qm 1 31 2,
 qe 2 32 (qB .quo 30 31),
 qm 3 6 32]
def r12:List Ent:=[
 qe 0 34 (qK .eql 7 5),
 qm 1 33 34]
def r13:List Ent:=[
 qm 0 35 2,
 qe 1 36 (qK .eql 35 0)]
def r14:List Ent:=[
 qm 0 37 1,
 qm 1 6 37]
def r15:List Ent:=[
 qm 0 38 1,
 qm 1 39 2,
 qe 2 40 (qB .rem 38 39),
 qm 3 6 40]
def r16:List Ent:=[
 qe 0 42 (qK .eql 7 6),
 qm 1 41 42]
def r17:List Ent:=[
 qm 0 43 1,
 qm 1 44 2,
 qe 2 45 (qB .and 43 44),
 qm 3 6 45]
def r18:List Ent:=[
 qe 0 47 (qK .eql 7 7),
 qm 1 46 47]
def r19:List Ent:=[
 qm 0 48 1,
 qm 1 49 2,
 qe 2 50 (qB .or 48 49),
 qm 3 6 50]
def r20:List Ent:=[
 qe 0 52 (qK .eql 7 8),
 qm 1 51 52]
def r21:List Ent:=[
 qm 0 53 1,
 qm 1 54 2,
 qe 2 55 (qB .xor 53 54),
 qm 3 6 55]
def r22:List Ent:=[
 qe 0 57 (qK .eql 7 9),
 qm 1 56 57]
def r23:List Ent:=[
 qm 0 58 1,
 qm 1 59 2,
 qe 2 60 (qK .rem 59 16),
 qe 3 61 (.cnv .u64 (.t 60)),
 qe 4 62 (qB .shl 58 61),
 qc 5 63 (qV F_spec_l1Wrap 62),
 qm 6 6 63]
def r24:List Ent:=[
 qm 0 64 1,
 qm 1 65 2,
 qe 2 66 (qK .rem 65 16),
 qe 3 67 (.cnv .u64 (.t 66)),
 qe 4 68 (qB .shr 64 67),
 qm 5 6 68]
def fi:FI:={ res:=[.t 6],code:=.seq (.reg 64 1 r0) (.seq (.seq (.reg 128 1 r1) (.block 0 (.seq (.reg 192 2 r2) (.cond (.t 8) (.seq (.reg 320 5 r3) (.ret)) (.seq (.reg 640 2 r4) (.cond (.t 14) (.seq (.reg 768 5 r5) (.ret)) (.seq (.reg 1088 2 r6) (.cond (.t 20) (.seq (.reg 1216 5 r7) (.ret)) (.seq (.reg 1536 2 r8) (.cond (.t 26) (.seq (.seq (.reg 1664 2 r9) (.cond (.t 29) (.seq (.reg 1792 1 r10) (.ret)) (.skip))) (.seq (.reg 1856 4 r11) (.ret))) (.seq (.reg 2112 2 r12) (.cond (.t 33) (.seq (.seq (.reg 2240 2 r13) (.cond (.t 36) (.seq (.reg 2368 2 r14) (.ret)) (.skip))) (.seq (.reg 2496 4 r15) (.ret))) (.seq (.reg 2752 2 r16) (.cond (.t 41) (.seq (.reg 2880 4 r17) (.ret)) (.seq (.reg 3136 2 r18) (.cond (.t 46) (.seq (.reg 3264 4 r19) (.ret)) (.seq (.reg 3520 2 r20) (.cond (.t 51) (.seq (.reg 3648 4 r21) (.ret)) (.seq (.reg 3904 2 r22) (.cond (.t 56) (.seq (.reg 4032 7 r23) (.ret)) (.skip))))))))))))))))))))) (.seq (.reg 4480 6 r24) (.ret))) }
attribute [go_sem] r0 r1 r2 r3 r4 r5 r6 r7 r8 r9 r10 r11 r12 r13 r14 r15 r16 r17 r18 r19 r20 r21 r22 r23 r24
theorem ok:chkF prog F_spec_l1Do 3 fi=true:=by kernel_rfl
end spec_l1Do
namespace spec_l3Do
def r0:List Ent:=[
 qe 0 5 (.box (.t 2)),
 qe 1 6 (.box (.k (.agg [.dat none (.int .i64 0),.nil 1,.nil 1,.nil 1]))),
 qe 2 7 (.mv (xN 0)),
 qe 3 8 (.mv xF)]
def r1:List Ent:=[
 qm 0 13 0,
 qe 1 14 (qD 0 5),
 qe 2 15 (qL 1 14),
 qe 3 16 (qI 6 13 15),
 qe 4 17 (qA 6 16),
 qe 5 9 (.box (.k (.agg [.dat none (.int .i64 0),.dat none (.int .i64 0),.dat none (.int .i64 0),.dat none (.int .i64 0),.dat none (.int .i64 0),.dat none (.int .i64 0)]))),
 qs 6 (qW 6 9 17)]
def r2:List Ent:=[
 qe 0 18 (qD 0 5),
 qe 1 19 (qL 1 18),
 qe 2 20 (qK .add 19 1),
 qm 3 10 20]
def r3:List Ent:=[
 qe 0 21 (qD 1 5),
 qe 1 22 (qL 1 21),
 qe 2 23 (qD 2 9),
 qe 3 24 (qL 1 23),
 qe 4 25 (qI 1 22 24),
 qe 5 26 (qL 1 25),
 qm 6 11 26]
def r4:List Ent:=[
 qe 0 27 (qD 1 5),
 qe 1 28 (qL 1 27),
 qe 2 29 (qD 3 9),
 qe 3 30 (qL 1 29),
 qe 4 31 (qI 1 28 30),
 qe 5 32 (qL 1 31),
 qm 6 12 32]
def r5:List Ent:=[
 qe 0 33 (qD 0 9),
 qe 1 34 (qL 1 33)]
def r6:List Ent:=[
 qe 0 36 (qK .eql 34 11),
 qm 1 35 36]
def r7:List Ent:=[
 qe 0 37 (qA 4 5),
 qs 1 (qW 4 6 37),
 qe 2 7 (.mv (xN 0)),
 qe 3 8 (.mv xT)]
def r8:List Ent:=[
 qe 0 39 (qK .eql 34 1),
 qm 1 38 39]
def r9:List Ent:=[
 qr 0 40 (qD 1 5),
 qr 1 41 (qL 1 40),
 qr 2 42 (qD 2 9),
 qr 3 43 (qL 1 42),
 qr 4 44 (qD 1 9),
 qr 5 45 (qL 1 44),
 qm 6 46 11,
 qm 7 47 12,
  E2 8 (some 48) none (.call F_spec_l1Do false (roA [.t 45,.t 46,.t 47])),
 qe 9 49 (qI 1 41 43),
 qs 10 (qW 1 49 48)]
def r10:List Ent:=[
 qe 0 51 (qK .eql 34 2),
 qm 1 50 51]
def r11:List Ent:=[
 qr 0 52 (qD 1 5),
 qr 1 53 (qL 1 52),
 qr 2 54 (qD 2 9),
 qr 3 55 (qL 1 54),
 qr 4 56 (qD 1 9),
 qr 5 57 (qL 1 56),
 qm 6 58 11,
 qr 7 59 (qD 4 9),
 qr 8 60 (qL 1 59),
  E2 9 (some 61) none (.call F_spec_l1Do false (roA [.t 57,.t 58,.t 60])),
 qe 10 62 (qI 1 53 55),
 qs 11 (qW 1 62 61)]
def r12:List Ent:=[
 qe 0 64 (qK .eql 34 3),
 qm 1 63 64]
def r13:List Ent:=[
 qe 0 65 (qK .eql 34 4),
 qm 1 63 65]
def r14:List Ent:=[
 qe 0 66 (qD 1 5),
 qe 1 67 (qL 1 66),
 qe 2 68 (qD 2 9),
 qe 3 69 (qL 1 68),
 qe 4 70 (qD 4 9),
 qe 5 71 (qL 1 70),
 qe 6 72 (qI 1 67 69),
 qs 7 (qW 1 72 71)]
def r15:List Ent:=[
 qe 0 74 (qK .eql 34 5),
 qm 1 73 74]
def r16:List Ent:=[
 qm 0 75 12,
 qe 1 76 (qD 4 9),
 qe 2 77 (qL 1 76),
 qe 3 78 (qB .add 75 77),
 qe 4 79 (qK .geq 78 8)]
def r17:List Ent:=[
 qe 0 80 (qA 4 5),
 qs 1 (qW 4 6 80),
 qe 2 7 (.mv (xN 1)),
 qe 3 8 (.mv xF)]
def r18:List Ent:=[
 qr 0 81 (qD 1 5),
 qr 1 82 (qL 1 81),
 qr 2 83 (qD 2 9),
 qr 3 84 (qL 1 83),
 qm 4 85 1,
 qm 5 86 12,
 qr 6 87 (qD 4 9),
 qr 7 88 (qL 1 87),
 qe 8 89 (qB .add 86 88),
 qr 9 90 (qI 1 85 89),
 qr 10 91 (qL 1 90),
 qe 11 92 (qI 1 82 84),
 qs 12 (qW 1 92 91)]
def r19:List Ent:=[
 qe 0 94 (qK .eql 34 7),
 qm 1 93 94]
def r20:List Ent:=[
 qe 0 95 (qK .eql 34 6),
 qm 1 93 95]
def r21:List Ent:=[
 qe 0 96 (qD 4 9),
 qe 1 97 (qL 1 96),
 qe 2 98 (qK .geq 97 16)]
def r22:List Ent:=[
 qe 0 99 (qA 4 5),
 qs 1 (qW 4 6 99),
 qe 2 7 (.mv (xN 2)),
 qe 3 8 (.mv xF)]
def r23:List Ent:=[
 qe 0 100 (qD 0 9),
 qe 1 101 (qL 1 100),
 qe 2 102 (qK .eql 101 7)]
def r24:List Ent:=[
 qe 0 103 (qD 2 5),
 qe 1 104 (qL 1 103),
 qe 2 105 (qD 4 9),
 qe 3 106 (qL 1 105),
 qm 4 107 11,
 qe 5 108 (qI 1 104 106),
 qs 6 (qW 1 108 107)]
def r25:List Ent:=[
 qe 0 109 (qD 3 5),
 qe 1 110 (qL 1 109),
 qe 2 111 (qD 4 9),
 qe 3 112 (qL 1 111),
 qe 4 113 (qI 1 110 112),
 qs 5 (.store 1 (.t 113) xT)]
def r26:List Ent:=[
 qe 0 114 (qD 3 5),
 qe 1 115 (qL 1 114),
 qe 2 116 (qD 4 9),
 qe 3 117 (qL 1 116),
 qe 4 118 (qI 1 115 117),
 qe 5 119 (qL 1 118),
 qe 6 120 (qN 119)]
def r27:List Ent:=[
 qe 0 121 (qA 4 5),
 qs 1 (qW 4 6 121),
 qe 2 7 (.mv (xN 3)),
 qe 3 8 (.mv xF)]
def r28:List Ent:=[
 qr 0 122 (qD 1 5),
 qr 1 123 (qL 1 122),
 qr 2 124 (qD 2 9),
 qr 3 125 (qL 1 124),
 qr 4 126 (qD 2 5),
 qr 5 127 (qL 1 126),
 qr 6 128 (qD 4 9),
 qr 7 129 (qL 1 128),
 qr 8 130 (qI 1 127 129),
 qr 9 131 (qL 1 130),
 qe 10 132 (qI 1 123 125),
 qs 11 (qW 1 132 131)]
def r29:List Ent:=[
 qe 0 133 (qD 0 9),
 qe 1 134 (qL 1 133),
 qe 2 135 (qK .eql 134 8),
 qm 3 136 135,
 qf 4 137 136 (qD 0 9),
 qf 5 138 136 (qL 1 137),
 qf 6 139 136 (qK .eql 138 9),
 qf 7 140 136 (qM 139),
 qt 8 141 140 (qM 11),
 qt 9 142 140 (qM 12),
 qt 10 143 140 (qB .eql 141 142),
 qf 11 144 136 (.pick (.t 140) (.t 143) xF),
 qe 12 145 (.pick (.t 136) xT (.t 144)),
 qm 13 146 145,
 qf 14 147 146 (qD 0 9),
 qf 15 148 146 (qL 1 147),
 qf 16 149 146 (qK .eql 148 10),
 qf 17 150 146 (qM 149),
 qt 18 151 150 (qM 11),
 qt 19 152 150 (qM 12),
 qt 20 153 150 (qB .lss 151 152),
 qf 21 154 146 (.pick (.t 150) (.t 153) xF),
 qe 22 155 (.pick (.t 146) xT (.t 154))]
def r30:List Ent:=[
 qe 0 156 (qD 0 5),
 qe 1 157 (qL 1 156),
 qe 2 158 (qD 5 9),
 qe 3 159 (qL 1 158),
 qe 4 160 (qB .add 157 159),
 qe 5 161 (qK .add 160 1),
 qm 6 10 161]
def r31:List Ent:=[
 qm 0 162 10,
 qe 1 163 (qD 0 5),
 qs 2 (qW 1 163 162)]
def r32:List Ent:=[
 qe 0 164 (qA 4 5),
 qs 1 (qW 4 6 164),
 qe 2 7 (.mv (xN 0)),
 qe 3 8 (.mv xF)]
def fi:FI:={ res:=[.c 6 true 4,.t 7,.t 8],code:=.seq (.reg 64 4 r0) (.seq (.reg 320 7 r1) (.seq (.reg 768 4 r2) (.seq (.reg 1024 7 r3) (.seq (.reg 1472 7 r4) (.seq (.seq (.reg 1920 2 r5) (.block 0 (.seq (.reg 2048 2 r6) (.cond (.t 35) (.seq (.reg 2176 4 r7) (.ret)) (.seq (.reg 2432 2 r8) (.cond (.t 38) (.reg 2560 11 r9) (.seq (.reg 3264 2 r10) (.cond (.t 50) (.reg 3392 12 r11) (.seq (.seq (.reg 4160 2 r12) (.cond (.t 63) (.skip) (.reg 4288 2 r13))) (.cond (.t 63) (.reg 4416 8 r14) (.seq (.reg 4928 2 r15) (.cond (.t 73) (.seq (.seq (.reg 5056 5 r16) (.cond (.t 79) (.seq (.reg 5376 4 r17) (.ret)) (.skip))) (.reg 5632 13 r18)) (.seq (.seq (.reg 6464 2 r19) (.cond (.t 93) (.skip) (.reg 6592 2 r20))) (.cond (.t 93) (.seq (.seq (.reg 6720 3 r21) (.cond (.t 98) (.seq (.reg 6912 4 r22) (.ret)) (.skip))) (.seq (.seq (.reg 7168 3 r23) (.cond (.t 102) (.seq (.reg 7360 7 r24) (.seq (.reg 7808 6 r25) (.exit 0))) (.skip))) (.seq (.seq (.reg 8192 7 r26) (.cond (.t 120) (.seq (.reg 8640 4 r27) (.ret)) (.skip))) (.reg 8896 12 r28)))) (.skip))))))))))))))) (.seq (.seq (.reg 9664 23 r29) (.cond (.t 155) (.reg 11136 7 r30) (.skip))) (.seq (.reg 11584 3 r31) (.seq (.reg 11776 4 r32) (.ret))))))))) }
attribute [go_sem] r0 r1 r2 r3 r4 r5 r6 r7 r8 r9 r10 r11 r12 r13 r14 r15 r16 r17 r18 r19 r20 r21 r22 r23 r24 r25 r26 r27 r28 r29 r30 r31 r32
theorem ok:chkF prog F_spec_l3Do 3 fi=true:=by kernel_rfl
end spec_l3Do
namespace spec_l3Run
def r0:List Ent:=[
 qe 0 6 (.mv (xN 0)),
 qe 1 7 (.mv (xN 0)),
 qe 2 8 (.mv (xN 0)),
 qe 3 9 (.mv (.k (.nil 1)))]
def r1:List Ent:=[
 qc 0 15 (qC F_spec_NewMachine []),
 qe 1 10 (.box (.k (.agg [.dat none (.int .i64 0),.nil 1,.nil 1,.nil 1]))),
 qs 2 (qW 4 10 15)]
def r2:List Ent:=[
 qe 0 11 (.mv (.k (.nil 1)))]
def r3:List Ent:=[
 qm 0 16 2,
 qe 1 17 (qK .gtr 16 0)]
def r4:List Ent:=[
 qm 0 20 11,
 qe 1 21 (qD 0 10),
 qe 2 22 (qL 1 21),
 qe 3 23 (.bsl true 1 [.t 22]),
 qe 4 24 (.app 1 8 (.t 20) (.t 23)),
 qm 5 11 24]
def r5:List Ent:=[
 qm 0 26 0,
 qm 1 27 1,
 qe 2 28 (qA 4 10),
 qc 3 29 (.call F_spec_l3Do false [(.ro,.t 26),(.ro,.t 27),(.co,.t 28)]),
 qm 4 25 29,
 qe 5 30 (qX 0 25),
 qe 6 31 (qX 1 25),
 qe 7 32 (qX 2 25),
 qe 8 12 (.box (.k (.agg [.dat none (.int .i64 0),.nil 1,.nil 1,.nil 1]))),
 qs 9 (qW 4 12 30),
 qm 10 13 31,
 qm 11 14 32]
def r6:List Ent:=[
 qm 0 33 13,
 qe 1 34 (qK .gtr 33 0)]
def r7:List Ent:=[
 qm 0 35 13,
 qe 1 36 (qD 0 10),
 qe 2 37 (qL 1 36),
 qm 3 38 11,
 qe 4 6 (.mv (xN 0)),
 qm 5 7 35,
 qm 6 8 37,
 qm 7 9 38]
def r8:List Ent:=[
 qm 0 39 14]
def r9:List Ent:=[
 qe 0 40 (qD 1 12),
 qe 1 41 (qL 1 40),
 qe 2 42 (.iad 1 (.t 41) (xN 0)),
 qe 3 43 (qL 1 42),
 qm 4 44 11,
 qm 5 6 43,
 qe 6 7 (.mv (xN 0)),
 qe 7 8 (.mv (xN 0)),
 qm 8 9 44]
def r10:List Ent:=[
 qe 0 45 (qA 4 12),
 qs 1 (qW 4 10 45)]
def r11:List Ent:=[
 qm 0 18 2,
 qe 1 19 (qK .sub 18 1),
 qm 2 2 19]
def b0:KC:=.seq (.seq (.reg 576 2 r3) (.cond (.t 17) (.skip) (.exit 0))) (.seq (.block 1 (.seq (.reg 704 6 r4) (.seq (.reg 1088 12 r5) (.seq (.seq (.reg 1856 2 r6) (.cond (.t 34) (.seq (.reg 1984 8 r7) (.ret)) (.skip))) (.seq (.seq (.reg 2496 1 r8) (.cond (.t 39) (.seq (.reg 2560 9 r9) (.ret)) (.skip))) (.reg 3136 2 r10)))))) (.reg 3264 3 r11))
def r12:List Ent:=[
 qe 0 46 (qD 0 10),
 qe 1 47 (qL 1 46),
 qm 2 48 11,
 qe 3 6 (.mv (xN 0)),
 qe 4 7 (.mv (xN 4)),
 qm 5 8 47,
 qm 6 9 48]
def fi:FI:={ res:=[.t 6,.t 7,.t 8,.t 9],code:=.seq (.reg 64 4 r0) (.seq (.reg 320 3 r1) (.seq (.reg 512 1 r2) (.seq (.nrm 11 960 1 (.block 0 (.loop b0))) (.seq (.reg 3456 7 r12) (.ret))))) }
attribute [go_sem] r0 r1 r2 r3 r4 r5 r6 r7 r8 r9 r10 r11 r12
theorem ok:chkF prog F_spec_l3Run 3 fi=true:=by kernel_rfl
end spec_l3Run
namespace spec_TraceOf
def r0:List Ent:=[
 qe 0 4 (.mv (.k (.nil 1))),
 qe 1 5 (.mv (xN 0)),
 qe 2 6 (.mv xF)]
def r1:List Ent:=[
 qm 0 11 0,
 qc 1 12 (qV F_spec_GoodProgram 11),
 qe 2 13 (qN 12),
 qm 3 14 13,
 qf 4 15 14 (qM 1),
 qj 5 16 14 (qV F_spec_l3Ctx 15),
 qf 6 17 14 (qN 16),
 qe 7 18 (.pick (.t 14) xT (.t 17))]
def r2:List Ent:=[
 qe 0 4 (.mv (.k (.nil 1))),
 qe 1 5 (.mv (xN 0)),
 qe 2 6 (.mv xF)]
def r3:List Ent:=[
 qm 0 20 0,
 qm 1 21 1,
 qc 2 22 (qC F_spec_l3Run [.t 20,.t 21,xN 100]),
 qm 3 19 22,
 qe 4 23 (qX 0 19),
 qe 5 24 (qX 1 19),
 qe 6 25 (qX 2 19),
 qe 7 26 (qX 3 19),
 qm 8 7 23,
 qm 9 8 24,
 qm 10 9 25,
 qm 11 10 26]
def r4:List Ent:=[
 qm 0 27 10,
 qm 1 28 8,
 qm 2 4 27,
 qm 3 5 28,
 qe 4 6 (.mv xT)]
def fi:FI:={ res:=[.t 4,.t 5,.t 6],code:=.seq (.reg 64 3 r0) (.seq (.seq (.reg 256 8 r1) (.cond (.t 18) (.seq (.reg 768 3 r2) (.ret)) (.skip))) (.seq (.reg 960 12 r3) (.seq (.reg 1728 5 r4) (.ret)))) }
attribute [go_sem] r0 r1 r2 r3 r4
theorem ok:chkF prog F_spec_TraceOf 2 fi=true:=by kernel_rfl
end spec_TraceOf
namespace spec_l14Branch
def r0:List Ent:=[
 qe 0 1 (.box (.t 0)),
 qe 1 2 (.mv xF)]
def r1:List Ent:=[
 qe 0 3 (qD 0 1),
 qe 1 4 (qL 1 3),
 qe 2 5 (qK .eql 4 9),
 qm 3 6 5,
 qf 4 7 6 (qD 0 1),
 qf 5 8 6 (qL 1 7),
 qf 6 9 6 (qK .eql 8 10),
 qe 7 10 (.pick (.t 6) xT (.t 9)),
 qm 8 2 10]
def fi:FI:={ res:=[.t 2],code:=.seq (.reg 64 2 r0) (.seq (.reg 192 9 r1) (.ret)) }
attribute [go_sem] r0 r1
theorem ok:chkF prog F_spec_l14Branch 1 fi=true:=by kernel_rfl
end spec_l14Branch
namespace spec_WayOf
def r0:List Ent:=[
 qe 0 4 (.box (.k (.agg [.nil 1,.nil 1]))),
 qe 1 5 (.mv xF)]
def r1:List Ent:=[
 qm 0 12 0,
 qm 1 13 1,
 qc 2 14 (qC F_spec_TraceOf [.t 12,.t 13]),
 qm 3 11 14,
 qe 4 15 (qX 0 11),
 qe 5 16 (qX 1 11),
 qe 6 17 (qX 2 11),
 qm 7 6 15,
 qm 8 7 16,
 qm 9 8 17]
def r2:List Ent:=[
 qm 0 18 8,
 qe 1 19 (qN 18),
 qm 2 20 19,
 qf 3 21 20 (qM 7),
 qf 4 22 20 (qK .gtr 21 0),
 qe 5 23 (.pick (.t 20) xT (.t 22))]
def r3:List Ent:=[
 qe 0 24 (.bld [.k (.nil 1),.k (.nil 1)]),
 qs 1 (qW 2 4 24),
 qe 2 5 (.mv xF)]
def r4:List Ent:=[
 qm 0 25 6,
 qe 1 26 (.bld [.t 25,.k (.nil 1)]),
 qe 2 9 (.box (.k (.agg [.nil 1,.nil 1]))),
 qs 3 (qW 2 9 26)]
def r5:List Ent:=[
 qe 0 10 (.mv (xN 1))]
def r6:List Ent:=[
 qm 0 27 10,
 qm 1 28 6,
 qe 2 29 (qZ 28),
 qe 3 30 (qB .lss 27 29)]
def r7:List Ent:=[
 qm 0 33 0,
 qm 1 34 6,
 qm 2 35 10,
 qe 3 36 (qK .sub 35 1),
 qe 4 37 (qI 1 34 36),
 qe 5 38 (qL 1 37),
 qe 6 39 (qI 6 33 38),
 qe 7 40 (qA 6 39),
 qc 8 41 (qV F_spec_l14Branch 40)]
def r8:List Ent:=[
 qx 0 42 (qD 1 9) 2 [13] [] false,
 qx 1 43 (qL 1 42) 2 [13] [] false,
 qm 2 44 6,
 qm 3 45 10,
 qr 4 46 (qI 1 44 45),
 qr 5 47 (qL 1 46),
 qm 6 48 6,
 qm 7 49 10,
 qe 8 50 (qK .sub 49 1),
 qr 9 51 (qI 1 48 50),
 qr 10 52 (qL 1 51),
 qe 11 53 (qK .add 52 1),
 qe 12 54 (qB .neq 47 53),
 EP 13 (some 55) none (.i (.bsl true 1 [.t 54])) 1 false,
 qe 14 56 (.app 1 1 (.t 43) (.t 55)),
 qe 15 57 (qD 1 9),
 qs 16 (qW 1 57 56)]
def r9:List Ent:=[
 qm 0 31 10,
 qe 1 32 (qK .add 31 1),
 qm 2 10 32]
def b0:KC:=.seq (.seq (.reg 1728 4 r6) (.cond (.t 30) (.skip) (.exit 0))) (.seq (.block 1 (.seq (.reg 1984 9 r7) (.cond (.t 41) (.reg 2560 17 r8) (.skip)))) (.reg 3648 3 r9))
def r10:List Ent:=[
 qe 0 58 (qA 2 9),
 qs 1 (qW 2 4 58),
 qe 2 5 (.mv xT)]
def fi:FI:={ res:=[.c 4 true 2,.t 5],code:=.seq (.reg 64 2 r0) (.seq (.reg 192 10 r1) (.seq (.seq (.reg 832 6 r2) (.cond (.t 23) (.seq (.reg 1216 3 r3) (.ret)) (.skip))) (.seq (.reg 1408 4 r4) (.seq (.seq (.reg 1664 1 r5) (.block 0 (.loop b0))) (.seq (.reg 3840 3 r10) (.ret)))))) }
attribute [go_sem] r0 r1 r2 r3 r4 r5 r6 r7 r8 r9 r10
theorem ok:chkF prog F_spec_WayOf 2 fi=true:=by kernel_rfl
end spec_WayOf
namespace laws_sameInts
def r0:List Ent:=[
 qe 0 4 (.mv xF)]
def r1:List Ent:=[
 qm 0 6 0,
 qe 1 7 (qZ 6),
 qm 2 8 1,
 qe 3 9 (qZ 8),
 qe 4 10 (qB .neq 7 9)]
def r2:List Ent:=[
 qe 0 4 (.mv xF)]
def r3:List Ent:=[
 qm 0 11 0,
 qe 1 12 (qZ 11),
 qe 2 13 (.mv (xN 0))]
def r4:List Ent:=[
 qe 0 14 (qB .lss 13 12)]
def r5:List Ent:=[
 qm 0 15 13,
 qm 1 5 15]
def r6:List Ent:=[
 qm 0 16 0,
 qm 1 17 5,
 qr 2 18 (qI 1 16 17),
 qr 3 19 (qL 1 18),
 qm 4 20 1,
 qm 5 21 5,
 qr 6 22 (qI 1 20 21),
 qr 7 23 (qL 1 22),
 qe 8 24 (qB .neq 19 23)]
def r7:List Ent:=[
 qe 0 4 (.mv xF)]
def r8:List Ent:=[
 qe 0 25 (qK .add 13 1),
 qm 1 13 25]
def b0:KC:=.seq (.reg 704 1 r4) (.seq (.cond (.t 14) (.skip) (.exit 0)) (.seq (.block 1 (.seq (.reg 768 2 r5) (.seq (.reg 896 9 r6) (.cond (.t 24) (.seq (.reg 1472 1 r7) (.ret)) (.skip))))) (.reg 1536 2 r8)))
def r9:List Ent:=[
 qe 0 4 (.mv xT)]
def fi:FI:={ res:=[.t 4],code:=.seq (.reg 64 1 r0) (.seq (.seq (.reg 128 5 r1) (.cond (.t 10) (.seq (.reg 448 1 r2) (.ret)) (.skip))) (.seq (.seq (.reg 512 3 r3) (.block 0 (.loop b0))) (.seq (.reg 1664 1 r9) (.ret)))) }
attribute [go_sem] r0 r1 r2 r3 r4 r5 r6 r7 r8 r9
theorem ok:chkF prog F_laws_sameInts 2 fi=true:=by kernel_rfl
end laws_sameInts
namespace laws_sameBools
def r0:List Ent:=[
 qe 0 4 (.mv xF)]
def r1:List Ent:=[
 qm 0 6 0,
 qe 1 7 (qZ 6),
 qm 2 8 1,
 qe 3 9 (qZ 8),
 qe 4 10 (qB .neq 7 9)]
def r2:List Ent:=[
 qe 0 4 (.mv xF)]
def r3:List Ent:=[
 qm 0 11 0,
 qe 1 12 (qZ 11),
 qe 2 13 (.mv (xN 0))]
def r4:List Ent:=[
 qe 0 14 (qB .lss 13 12)]
def r5:List Ent:=[
 qm 0 15 13,
 qm 1 5 15]
def r6:List Ent:=[
 qm 0 16 0,
 qm 1 17 5,
 qr 2 18 (qI 1 16 17),
 qr 3 19 (qL 1 18),
 qm 4 20 1,
 qm 5 21 5,
 qr 6 22 (qI 1 20 21),
 qr 7 23 (qL 1 22),
 qe 8 24 (.eqb true (.t 19) (.t 23))]
def r7:List Ent:=[
 qe 0 4 (.mv xF)]
def r8:List Ent:=[
 qe 0 25 (qK .add 13 1),
 qm 1 13 25]
def b0:KC:=.seq (.reg 704 1 r4) (.seq (.cond (.t 14) (.skip) (.exit 0)) (.seq (.block 1 (.seq (.reg 768 2 r5) (.seq (.reg 896 9 r6) (.cond (.t 24) (.seq (.reg 1472 1 r7) (.ret)) (.skip))))) (.reg 1536 2 r8)))
def r9:List Ent:=[
 qe 0 4 (.mv xT)]
def fi:FI:={ res:=[.t 4],code:=.seq (.reg 64 1 r0) (.seq (.seq (.reg 128 5 r1) (.cond (.t 10) (.seq (.reg 448 1 r2) (.ret)) (.skip))) (.seq (.seq (.reg 512 3 r3) (.block 0 (.loop b0))) (.seq (.reg 1664 1 r9) (.ret)))) }
attribute [go_sem] r0 r1 r2 r3 r4 r5 r6 r7 r8 r9
theorem ok:chkF prog F_laws_sameBools 2 fi=true:=by kernel_rfl
end laws_sameBools
namespace laws_sameWay
def r0:List Ent:=[
 qe 0 2 (.box (.t 0)),
 qe 1 3 (.box (.t 1)),
 qe 2 4 (.mv xF)]
def r1:List Ent:=[
 qe 0 5 (qD 0 2),
 qe 1 6 (qL 1 5),
 qe 2 7 (qD 0 3),
 qe 3 8 (qL 1 7),
 qc 4 9 (qC F_laws_sameInts [.t 6,.t 8]),
 qm 5 10 9,
 qt 6 11 10 (qD 1 2),
 qt 7 12 10 (qL 1 11),
 qt 8 13 10 (qD 1 3),
 qt 9 14 10 (qL 1 13),
 qh 10 15 10 (qC F_laws_sameBools [.t 12,.t 14]),
 qe 11 16 (.pick (.t 10) (.t 15) xF),
 qm 12 4 16]
def fi:FI:={ res:=[.t 4],code:=.seq (.reg 64 3 r0) (.seq (.reg 256 13 r1) (.ret)) }
attribute [go_sem] r0 r1
theorem ok:chkF prog F_laws_sameWay 2 fi=true:=by kernel_rfl
end laws_sameWay
namespace impl_nexts
def r0:List Ent:=[
 qe 0 4 (.mv (.k (.nil 1)))]
def r1:List Ent:=[
 qm 0 6 0,
 qm 1 7 1,
 qe 2 8 (qI 6 6 7),
 qe 3 9 (qA 6 8),
 qe 4 5 (.box (.k (.agg [.dat none (.int .i64 0),.dat none (.int .i64 0),.dat none (.int .i64 0),.dat none (.int .i64 0),.dat none (.int .i64 0),.dat none (.int .i64 0)]))),
 qs 5 (qW 6 5 9)]
def r2:List Ent:=[
 qe 0 10 (qD 0 5),
 qe 1 11 (qL 1 10)]
def r3:List Ent:=[
 qe 0 13 (qK .eql 11 11),
 qm 1 12 13]
def r4:List Ent:=[
 qe 0 4 (.mv (.k (.nil 1)))]
def r5:List Ent:=[
 qe 0 15 (qK .eql 11 8),
 qm 1 14 15]
def r6:List Ent:=[
 qm 0 16 1,
 qe 1 17 (qD 5 5),
 qe 2 18 (qL 1 17),
 qe 3 19 (qB .add 16 18),
 qe 4 20 (qK .add 19 1),
 qe 5 21 (.bsl false 1 [.t 20]),
 qm 6 4 21]
def r7:List Ent:=[
 qe 0 23 (qK .eql 11 9),
 qm 1 22 23]
def r8:List Ent:=[
 qe 0 24 (qK .eql 11 10),
 qm 1 22 24]
def r9:List Ent:=[
 qm 0 25 1,
 qe 1 26 (qK .add 25 1),
 qm 2 27 1,
 qe 3 28 (qD 5 5),
 qe 4 29 (qL 1 28),
 qe 5 30 (qB .add 27 29),
 qe 6 31 (qK .add 30 1),
 qe 7 32 (.bsl false 1 [.t 26,.t 31]),
 qm 8 4 32]
def r10:List Ent:=[
 qm 0 33 1,
 qe 1 34 (qK .add 33 1),
 qe 2 35 (.bsl false 1 [.t 34]),
 qm 3 4 35]
def fi:FI:={ res:=[.t 4],code:=.seq (.reg 64 1 r0) (.seq (.reg 128 6 r1) (.seq (.seq (.reg 512 2 r2) (.block 0 (.seq (.reg 640 2 r3) (.cond (.t 12) (.seq (.reg 768 1 r4) (.ret)) (.seq (.reg 832 2 r5) (.cond (.t 14) (.seq (.reg 960 7 r6) (.ret)) (.seq (.seq (.reg 1408 2 r7) (.cond (.t 22) (.skip) (.reg 1536 2 r8))) (.cond (.t 22) (.seq (.reg 1664 9 r9) (.ret)) (.skip))))))))) (.seq (.reg 2240 4 r10) (.ret)))) }
attribute [go_sem] r0 r1 r2 r3 r4 r5 r6 r7 r8 r9 r10
theorem ok:chkF prog F_impl_nexts 2 fi=true:=by kernel_rfl
end impl_nexts
namespace slices_Clone__sint_int
def r0:List Ent:=[
 qe 0 2 (.mv (.k (.nil 1)))]
def r1:List Ent:=[
 qm 0 3 0,
 qe 1 4 (.eqnil false (.t 3))]
def r2:List Ent:=[
 qe 0 2 (.mv (.k (.nil 1)))]
def r3:List Ent:=[
 qe 0 5 (.bsl false 1 []),
 qm 1 6 0,
 qe 2 7 (.app 1 8 (.t 5) (.t 6)),
 qm 3 2 7]
def fi:FI:={ res:=[.t 2],code:=.seq (.reg 64 1 r0) (.seq (.seq (.reg 128 2 r1) (.condu (.t 4) (.seq (.reg 256 1 r2) (.ret)) (.skip))) (.seq (.reg 320 4 r3) (.ret))) }
attribute [go_sem] r0 r1 r2 r3
theorem ok:chkF prog F_slices_Clone__sint_int 1 fi=true:=by kernel_rfl
end slices_Clone__sint_int
namespace slices_Clone__sbool_bool
def r0:List Ent:=[
 qe 0 2 (.mv (.k (.nil 1)))]
def r1:List Ent:=[
 qm 0 3 0,
 qe 1 4 (.eqnil false (.t 3))]
def r2:List Ent:=[
 qe 0 2 (.mv (.k (.nil 1)))]
def r3:List Ent:=[
 qe 0 5 (.bsl false 1 []),
 qm 1 6 0,
 qe 2 7 (.app 1 1 (.t 5) (.t 6)),
 qm 3 2 7]
def fi:FI:={ res:=[.t 2],code:=.seq (.reg 64 1 r0) (.seq (.seq (.reg 128 2 r1) (.condu (.t 4) (.seq (.reg 256 1 r2) (.ret)) (.skip))) (.seq (.reg 320 4 r3) (.ret))) }
attribute [go_sem] r0 r1 r2 r3
theorem ok:chkF prog F_slices_Clone__sbool_bool 1 fi=true:=by kernel_rfl
end slices_Clone__sbool_bool
namespace impl_ways
def r0:List Ent:=[
 qe 0 4 (.box (.t 1)),
 qe 1 6 (.mv xF)]
def r1:List Ent:=[
 qe 0 12 (qD 0 4),
 qe 1 13 (qL 1 12),
 qe 2 14 (qD 0 4),
 qe 3 15 (qL 1 14),
 qe 4 16 (qZ 15),
 qe 5 17 (qK .sub 16 1),
 qe 6 18 (qI 1 13 17),
 qe 7 19 (qL 1 18),
 qm 8 7 19]
def r2:List Ent:=[
 qm 0 20 0,
 qm 1 21 7,
 qc 2 22 (qC F_impl_nexts [.t 20,.t 21]),
 qm 3 8 22]
def r3:List Ent:=[
 qm 0 23 8,
 qe 1 24 (qZ 23),
 qe 2 25 (qK .eql 24 0)]
def r4:List Ent:=[
 qm 0 26 2,
 qm 1 27 2,
 qe 2 28 (.nck (.t 27)),
 qr 4 30 (qA 2 4),
 EP 5 (some 31) none (.i (.bsl false 2 [.t 30])) 0 true,
 qx 3 29 (qL 1 28) 2 [] [5] false,
 qe 6 32 (.app 2 48 (.t 29) (.t 31)),
 qe 7 33 (.nck (.t 26)),
 qs 8 (qW 1 33 32)]
def r5:List Ent:=[
 qm 0 34 2,
 qe 1 35 (.nck (.t 34)),
 qe 2 36 (qL 1 35),
 qe 3 37 (qZ 36),
 qe 4 38 (qK .leq 37 64),
 qm 5 6 38]
def r6:List Ent:=[
 qm 0 39 8,
 qe 1 40 (qZ 39),
 qe 2 41 (.mv (xN 0))]
def r7:List Ent:=[
 qe 0 42 (qB .lss 41 40)]
def r8:List Ent:=[
 qm 0 43 41,
 qe 1 44 (qI 1 39 41),
 qe 2 45 (qL 1 44),
 qm 3 9 43,
 qm 4 10 45]
def r9:List Ent:=[
 qx 0 46 (qD 0 4) 2 [4,10] [] false,
 qx 1 47 (qL 1 46) 2 [4,10] [] false,
 EX 2 (some 48) none (.call F_slices_Clone__sint_int false (roA [.t 47])) 1 [4,10] [] false,
 qm 3 49 10,
 qx 4 50 (.bsl true 1 [.t 49]) 1 [2,10] [] false,
 qx 5 51 (.app 1 8 (.t 48) (.t 50)) 0 [10] [] true,
 qx 6 52 (qD 1 4) 2 [2,4,10] [5] false,
 qx 7 53 (qL 1 52) 2 [2,4,10] [5] false,
 EX 8 (some 54) none (.call F_slices_Clone__sbool_bool false (roA [.t 53])) 1 [10] [] false,
 qx 9 55 (.bld [.t 51,.t 54]) 2 [10] [] false,
 qx 10 11 (.box (.k (.agg [.nil 1,.nil 1]))) 1 [2,4,8] [5] false,
 qs 11 (qW 2 11 55)]
def r10:List Ent:=[
 qm 0 56 0,
 qm 1 57 7,
 qe 2 58 (qI 6 56 57),
 qe 3 59 (qA 6 58),
 qc 4 60 (qV F_impl_Step_branches 59)]
def r11:List Ent:=[
 qe 0 61 (qD 1 11),
 qe 1 62 (qL 1 61),
 qm 2 63 9,
 qe 3 64 (qK .eql 63 1),
 qe 4 65 (.bsl true 1 [.t 64]),
 qe 5 66 (.app 1 1 (.t 62) (.t 65)),
 qe 6 67 (qD 1 11),
 qs 7 (qW 1 67 66)]
def r12:List Ent:=[
 qm 0 68 0,
 qe 1 69 (qA 2 11),
 qm 2 70 2,
 qc 3 71 (.call F_impl_ways false [(.ro,.t 68),(.co,.t 69),(.io,.t 70)]),
 qe 4 72 (qN 71)]
def r13:List Ent:=[
 qe 0 6 (.mv xF)]
def r14:List Ent:=[
 qe 0 73 (qK .add 41 1),
 qm 1 41 73]
def b0:KC:=.seq (.reg 2368 1 r7) (.seq (.cond (.t 42) (.skip) (.exit 0)) (.seq (.block 1 (.seq (.reg 2432 5 r8) (.seq (.reg 2752 12 r9) (.seq (.seq (.reg 3520 5 r10) (.cond (.t 60) (.reg 3840 8 r11) (.skip))) (.seq (.reg 4352 5 r12) (.cond (.t 72) (.seq (.reg 4672 1 r13) (.ret)) (.skip))))))) (.reg 4736 2 r14)))
def r15:List Ent:=[
 qe 0 6 (.mv xT)]
def fi:FI:={ res:=[.t 6],code:=.seq (.reg 64 2 r0) (.seq (.reg 192 9 r1) (.seq (.reg 768 4 r2) (.seq (.seq (.reg 1024 3 r3) (.cond (.t 25) (.seq (.reg 1216 9 r4) (.seq (.reg 1792 6 r5) (.ret))) (.skip))) (.seq (.seq (.reg 2176 3 r6) (.block 0 (.loop b0))) (.seq (.reg 4864 1 r15) (.ret)))))) }
attribute [go_sem] r0 r1 r2 r3 r4 r5 r6 r7 r8 r9 r10 r11 r12 r13 r14 r15
theorem ok:chkF prog F_impl_ways 3 fi=true:=by kernel_rfl
end impl_ways
namespace impl_WaysThrough
def r0:List Ent:=[
 qe 0 2 (.mv (.k (.nil 2))),
 qe 1 3 (.mv xF)]
def r1:List Ent:=[
 qm 0 5 0,
 qc 1 6 (qV F_impl_GoodProgram 5),
 qe 2 7 (qN 6)]
def r2:List Ent:=[
 qe 0 2 (.mv (.k (.nil 2))),
 qe 1 3 (.mv xF)]
def r3:List Ent:=[
 qe 0 4 (.box (.k (.nil 2)))]
def r4:List Ent:=[
 qm 0 8 0,
 qe 1 9 (.bsl false 1 [xN 0]),
 qe 2 10 (.bld [.t 9,.k (.nil 1)]),
 qc 3 11 (.call F_impl_ways false [(.ro,.t 8),(.co,.t 10),(.io,.t 4)]),
 qe 4 12 (qN 11)]
def r5:List Ent:=[
 qe 0 2 (.mv (.k (.nil 2))),
 qe 1 3 (.mv xF)]
def r6:List Ent:=[
 qe 0 13 (qL 1 4),
 qm 1 2 13,
 qe 2 3 (.mv xT)]
def fi:FI:={ res:=[.t 2,.t 3],code:=.seq (.reg 64 2 r0) (.seq (.seq (.reg 192 3 r1) (.cond (.t 7) (.seq (.reg 384 2 r2) (.ret)) (.skip))) (.seq (.reg 512 1 r3) (.seq (.seq (.reg 576 5 r4) (.cond (.t 12) (.seq (.reg 896 2 r5) (.ret)) (.skip))) (.seq (.reg 1024 3 r6) (.ret))))) }
attribute [go_sem] r0 r1 r2 r3 r4 r5 r6
theorem ok:chkF prog F_impl_WaysThrough 1 fi=true:=by kernel_rfl
end impl_WaysThrough
namespace impl_isStep
def r0:List Ent:=[
 qe 0 4 (.mv xF)]
def r1:List Ent:=[
 qm 0 5 0,
 qc 1 6 (qV F_impl_GoodProgram 5),
 qm 2 7 6,
 qt 3 8 7 (qM 1),
 qt 4 9 7 (qM 0),
 qt 5 10 7 (qZ 9),
 qt 6 11 7 (qK .sub 10 1),
 qh 7 12 7 (qC F_impl_in [.t 8,xN 0,.t 11]),
 qe 8 13 (.pick (.t 7) (.t 12) xF),
 qm 9 4 13]
def fi:FI:={ res:=[.t 4],code:=.seq (.reg 64 1 r0) (.seq (.reg 128 10 r1) (.ret)) }
attribute [go_sem] r0 r1
theorem ok:chkF prog F_impl_isStep 2 fi=true:=by kernel_rfl
end impl_isStep
namespace impl_wayCount
def r0:List Ent:=[
 qe 0 6 (.mv (xN 0))]
def r1:List Ent:=[
 qm 0 11 0,
 qe 1 12 (qZ 11),
 qe 2 13 (.mks 1 8 (.int .i64 0) (.t 12) (.t 12)),
 qm 3 7 13]
def r2:List Ent:=[
 qm 0 14 7,
 qe 1 15 (.iad 1 (.t 14) (xN 0)),
 qs 2 (.store 1 (.t 15) (xN 1))]
def r3:List Ent:=[
 qm 0 16 0,
 qe 1 17 (qZ 16),
 qe 2 18 (.mv (xN 0))]
def r4:List Ent:=[
 qe 0 19 (qB .lss 18 17)]
def r5:List Ent:=[
 qm 0 20 18,
 qm 1 8 20]
def r6:List Ent:=[
 qm 0 21 8,
 qm 1 22 2,
 qe 2 23 (qB .eql 21 22)]
def r7:List Ent:=[
 qm 0 24 7,
 qm 1 25 8,
 qe 2 26 (qI 1 24 25),
 qs 3 (.store 1 (.t 26) (xN 0))]
def r8:List Ent:=[
 qm 0 27 0,
 qm 1 28 8,
 qc 2 29 (qC F_impl_nexts [.t 27,.t 28]),
 qe 3 30 (qZ 29),
 qe 4 31 (.mv (xN 0))]
def r9:List Ent:=[
 qe 0 32 (qB .lss 31 30)]
def r10:List Ent:=[
 qe 0 33 (qI 1 29 31),
 qe 1 34 (qL 1 33),
 qm 2 10 34]
def r11:List Ent:=[
 qm 0 35 7,
 qm 1 36 10,
 qr 2 37 (qI 1 35 36),
 qr 3 38 (qL 1 37),
 qm 4 39 7,
 qm 5 40 8,
 qr 6 41 (qI 1 39 40),
 qr 7 42 (qL 1 41),
 qe 8 43 (qB .add 38 42),
 qe 9 44 (qI 1 35 36),
 qs 10 (qW 1 44 43)]
def r12:List Ent:=[
 qe 0 45 (qK .add 31 1),
 qm 1 31 45]
def b0:KC:=.seq (.reg 1728 1 r9) (.seq (.cond (.t 32) (.skip) (.exit 2)) (.seq (.block 3 (.seq (.reg 1792 3 r10) (.reg 1984 11 r11))) (.reg 2688 2 r12)))
def r13:List Ent:=[
 qe 0 46 (qK .add 18 1),
 qm 1 18 46]
def b1:KC:=.seq (.reg 768 1 r4) (.seq (.cond (.t 19) (.skip) (.exit 0)) (.seq (.block 1 (.seq (.reg 832 2 r5) (.seq (.seq (.reg 960 3 r6) (.cond (.t 23) (.reg 1152 4 r7) (.skip))) (.seq (.reg 1408 5 r8) (.block 2 (.loop b0)))))) (.reg 2816 2 r13)))
def r14:List Ent:=[
 qm 0 47 7,
 qm 1 48 1,
 qe 2 49 (qI 1 47 48),
 qe 3 50 (qL 1 49),
 qm 4 6 50]
def fi:FI:={ res:=[.t 6],code:=.seq (.reg 64 1 r0) (.seq (.reg 128 4 r1) (.seq (.reg 384 3 r2) (.seq (.seq (.reg 576 3 r3) (.block 0 (.loop b1))) (.seq (.reg 2944 5 r14) (.ret))))) }
attribute [go_sem] r0 r1 r2 r3 r4 r5 r6 r7 r8 r9 r10 r11 r12 r13 r14
theorem ok:chkF prog F_impl_wayCount 3 fi=true:=by kernel_rfl
end impl_wayCount
namespace impl_WayCount
def r0:List Ent:=[
 qe 0 4 (.mv (xN 0)),
 qe 1 5 (.mv xF)]
def r1:List Ent:=[
 qm 0 6 0,
 qm 1 7 1,
 qc 2 8 (qC F_impl_isStep [.t 6,.t 7]),
 qe 3 9 (qN 8)]
def r2:List Ent:=[
 qe 0 4 (.mv (xN 0)),
 qe 1 5 (.mv xF)]
def r3:List Ent:=[
 qm 0 10 0,
 qm 1 11 1,
 qc 2 12 (qC F_impl_wayCount [.t 10,.t 11,xN (-1)]),
 qm 3 4 12,
 qe 4 5 (.mv xT)]
def fi:FI:={ res:=[.t 4,.t 5],code:=.seq (.reg 64 2 r0) (.seq (.seq (.reg 192 4 r1) (.cond (.t 9) (.seq (.reg 448 2 r2) (.ret)) (.skip))) (.seq (.reg 576 5 r3) (.ret))) }
attribute [go_sem] r0 r1 r2 r3
theorem ok:chkF prog F_impl_WayCount 2 fi=true:=by kernel_rfl
end impl_WayCount
namespace slices_Index__sint_int
def r0:List Ent:=[
 qe 0 4 (.mv (xN 0))]
def r1:List Ent:=[
 qm 0 6 0,
 qe 1 7 (qZ 6),
 qe 2 8 (.mv (xN 0))]
def r2:List Ent:=[
 qe 0 9 (qB .lss 8 7)]
def r3:List Ent:=[
 qm 0 10 8,
 qm 1 5 10]
def r4:List Ent:=[
 qm 0 11 1,
 qm 1 12 0,
 qm 2 13 5,
 qe 3 14 (qI 1 12 13),
 qe 4 15 (qL 1 14),
 qe 5 16 (qB .eql 11 15)]
def r5:List Ent:=[
 qm 0 17 5,
 qm 1 4 17]
def r6:List Ent:=[
 qe 0 18 (qK .add 8 1),
 qm 1 8 18]
def b0:KC:=.seq (.reg 320 1 r2) (.seq (.cond (.t 9) (.skip) (.exit 0)) (.seq (.block 1 (.seq (.reg 384 2 r3) (.seq (.reg 512 6 r4) (.cond (.t 16) (.seq (.reg 896 2 r5) (.ret)) (.skip))))) (.reg 1024 2 r6)))
def r7:List Ent:=[
 qe 0 4 (.mv (xN (-1)))]
def fi:FI:={ res:=[.t 4],code:=.seq (.reg 64 1 r0) (.seq (.seq (.reg 128 3 r1) (.block 0 (.loop b0))) (.seq (.reg 1152 1 r7) (.ret))) }
attribute [go_sem] r0 r1 r2 r3 r4 r5 r6 r7
theorem ok:chkF prog F_slices_Index__sint_int 2 fi=true:=by kernel_rfl
end slices_Index__sint_int
namespace slices_Contains__sint_int
def r0:List Ent:=[
 qe 0 4 (.mv xF)]
def r1:List Ent:=[
 qm 0 5 0,
 qm 1 6 1,
 qc 2 7 (qC F_slices_Index__sint_int [.t 5,.t 6]),
 qe 3 8 (qK .geq 7 0),
 qm 4 4 8]
def fi:FI:={ res:=[.t 4],code:=.seq (.reg 64 1 r0) (.seq (.reg 128 5 r1) (.ret)) }
attribute [go_sem] r0 r1
theorem ok:chkF prog F_slices_Contains__sint_int 2 fi=true:=by kernel_rfl
end slices_Contains__sint_int
namespace slices_Equal__sbool_bool
def r0:List Ent:=[
 qe 0 4 (.mv xF)]
def r1:List Ent:=[
 qm 0 6 0,
 qe 1 7 (qZ 6),
 qm 2 8 1,
 qe 3 9 (qZ 8),
 qe 4 10 (qB .neq 7 9)]
def r2:List Ent:=[
 qe 0 4 (.mv xF)]
def r3:List Ent:=[
 qm 0 11 0,
 qe 1 12 (qZ 11),
 qe 2 13 (.mv (xN 0))]
def r4:List Ent:=[
 qe 0 14 (qB .lss 13 12)]
def r5:List Ent:=[
 qm 0 15 13,
 qm 1 5 15]
def r6:List Ent:=[
 qm 0 16 0,
 qm 1 17 5,
 qr 2 18 (qI 1 16 17),
 qr 3 19 (qL 1 18),
 qm 4 20 1,
 qm 5 21 5,
 qr 6 22 (qI 1 20 21),
 qr 7 23 (qL 1 22),
 qe 8 24 (.eqb true (.t 19) (.t 23))]
def r7:List Ent:=[
 qe 0 4 (.mv xF)]
def r8:List Ent:=[
 qe 0 25 (qK .add 13 1),
 qm 1 13 25]
def b0:KC:=.seq (.reg 704 1 r4) (.seq (.cond (.t 14) (.skip) (.exit 0)) (.seq (.block 1 (.seq (.reg 768 2 r5) (.seq (.reg 896 9 r6) (.cond (.t 24) (.seq (.reg 1472 1 r7) (.ret)) (.skip))))) (.reg 1536 2 r8)))
def r9:List Ent:=[
 qe 0 4 (.mv xT)]
def fi:FI:={ res:=[.t 4],code:=.seq (.reg 64 1 r0) (.seq (.seq (.reg 128 5 r1) (.cond (.t 10) (.seq (.reg 448 1 r2) (.ret)) (.skip))) (.seq (.seq (.reg 512 3 r3) (.block 0 (.loop b0))) (.seq (.reg 1664 1 r9) (.ret)))) }
attribute [go_sem] r0 r1 r2 r3 r4 r5 r6 r7 r8 r9
theorem ok:chkF prog F_slices_Equal__sbool_bool 2 fi=true:=by kernel_rfl
end slices_Equal__sbool_bool
namespace impl_GoodWay
def r0:List Ent:=[
 qe 0 3 (.box (.t 1)),
 qe 1 4 (.mv xF)]
def r1:List Ent:=[
 qm 0 6 0,
 qc 1 7 (qV F_impl_GoodProgram 6),
 qe 2 8 (qN 7),
 qm 3 9 8,
 qf 4 10 9 (qD 0 3),
 qf 5 11 9 (qL 1 10),
 qf 6 12 9 (qZ 11),
 qf 7 13 9 (qK .eql 12 0),
 qe 8 14 (.pick (.t 9) xT (.t 13)),
 qm 9 15 14,
 qf 10 16 15 (qD 0 3),
 qf 11 17 15 (qL 1 16),
 qf 12 18 15 (.iad 1 (.t 17) (xN 0)),
 qf 13 19 15 (qL 1 18),
 qf 14 20 15 (qK .neq 19 0),
 qe 15 21 (.pick (.t 15) xT (.t 20))]
def r2:List Ent:=[
 qe 0 4 (.mv xF)]
def r3:List Ent:=[
 qe 0 5 (.mv (xN 1))]
def r4:List Ent:=[
 qm 0 22 5,
 qe 1 23 (qD 0 3),
 qe 2 24 (qL 1 23),
 qe 3 25 (qZ 24),
 qe 4 26 (qB .lss 22 25)]
def r5:List Ent:=[
 qm 0 29 0,
 qr 1 30 (qD 0 3),
 qr 2 31 (qL 1 30),
 qm 3 32 5,
 qe 4 33 (qK .sub 32 1),
 qr 5 34 (qI 1 31 33),
 qr 6 35 (qL 1 34),
 EP 7 (some 36) none (.call F_impl_nexts false (roA [.t 29,.t 35])) 1 false,
 qx 8 37 (qD 0 3) 2 [7] [] false,
 qx 9 38 (qL 1 37) 2 [7] [] false,
 qm 10 39 5,
 qx 11 40 (qI 1 38 39) 2 [7] [] false,
 qx 12 41 (qL 1 40) 2 [7] [] false,
 qc 13 42 (qC F_slices_Contains__sint_int [.t 36,.t 41]),
 qe 14 43 (qN 42)]
def r6:List Ent:=[
 qe 0 4 (.mv xF)]
def r7:List Ent:=[
 qm 0 27 5,
 qe 1 28 (qK .add 27 1),
 qm 2 5 28]
def b0:KC:=.seq (.seq (.reg 1344 5 r4) (.cond (.t 26) (.skip) (.exit 0))) (.seq (.block 1 (.seq (.reg 1664 15 r5) (.cond (.t 43) (.seq (.reg 2624 1 r6) (.ret)) (.skip)))) (.reg 2688 3 r7))
def r8:List Ent:=[
 qm 0 44 0,
 qr 1 45 (qD 0 3),
 qr 2 46 (qL 1 45),
 qr 3 47 (qD 0 3),
 qr 4 48 (qL 1 47),
 qr 5 49 (qZ 48),
 qe 6 50 (qK .sub 49 1),
 qe 7 51 (qI 1 46 50),
 qe 8 52 (qL 1 51),
 qe 9 53 (qI 6 44 52),
 qe 10 54 (qD 0 53),
 qe 11 55 (qL 1 54),
 qe 12 56 (qK .eql 55 11),
 qm 13 57 56,
 qt 14 58 57 (qM 0),
 ER 15 (some 59) (some (57,true)) (qD 0 3),
 ER 16 (some 60) (some (57,true)) (qL 1 59),
 EP 17 (some 61) (some (57,true)) (.call F_impl_turnsOf false (roA [.t 58,.t 60])) 1 false,
 EX 18 (some 62) (some (57,true)) (.i (qD 1 3)) 2 [17] [] false,
 EX 19 (some 63) (some (57,true)) (.i (qL 1 62)) 2 [17] [] false,
 qh 20 64 57 (qC F_slices_Equal__sbool_bool [.t 61,.t 63]),
 qe 21 65 (.pick (.t 57) (.t 64) xF),
 qm 22 4 65]
def fi:FI:={ res:=[.t 4],code:=.seq (.reg 64 2 r0) (.seq (.seq (.reg 192 16 r1) (.cond (.t 21) (.seq (.reg 1216 1 r2) (.ret)) (.skip))) (.seq (.seq (.reg 1280 1 r3) (.block 0 (.loop b0))) (.seq (.reg 2880 23 r8) (.ret)))) }
attribute [go_sem] r0 r1 r2 r3 r4 r5 r6 r7 r8
theorem ok:chkF prog F_impl_GoodWay 2 fi=true:=by kernel_rfl
end impl_GoodWay
namespace impl_FollowWay
def r0:List Ent:=[
 qe 0 5 (.box (.t 2)),
 qe 1 6 (.mv (xN 0)),
 qe 2 7 (.mv (xN 0)),
 qe 3 8 (.mv xF)]
def r1:List Ent:=[
 qm 0 14 0,
 qe 1 15 (qA 2 5),
 qc 2 16 (qC F_impl_GoodWay [.t 14,.t 15]),
 qe 3 17 (qN 16),
 qm 4 18 17,
 qf 5 19 18 (qM 1),
 qj 6 20 18 (qV F_impl_isContext 19),
 qf 7 21 18 (qN 20),
 qe 8 22 (.pick (.t 18) xT (.t 21))]
def r2:List Ent:=[
 qe 0 6 (.mv (xN 0)),
 qe 1 7 (.mv (xN 0)),
 qe 2 8 (.mv xF)]
def r3:List Ent:=[
 qc 0 23 (qC F_impl_NewMachine []),
 qe 1 9 (.box (.k (.agg [.dat none (.int .i64 0),.nil 1,.nil 1,.nil 1]))),
 qs 2 (qW 4 9 23)]
def r4:List Ent:=[
 qe 0 24 (qD 0 5),
 qe 1 25 (qL 1 24),
 qe 2 26 (qZ 25),
 qe 3 27 (.mv (xN 0))]
def r5:List Ent:=[
 qe 0 28 (qB .lss 27 26)]
def r6:List Ent:=[
 qm 0 29 27,
 qe 1 30 (qI 1 25 27),
 qe 2 31 (qL 1 30),
 qm 3 10 29,
 qm 4 11 31]
def r7:List Ent:=[
 qe 0 32 (qD 0 9),
 qe 1 33 (qL 1 32),
 qm 2 34 11,
 qe 3 35 (qB .neq 33 34)]
def r8:List Ent:=[
 qm 0 36 10,
 qm 1 6 36,
 qe 2 7 (.mv (xN 0)),
 qe 3 8 (.mv xT)]
def r9:List Ent:=[
 qm 0 38 0,
 qm 1 39 1,
 qc 2 40 (.call F_impl_pMachine_step false [(.io,.t 9),(.ro,.t 38),(.ro,.t 39)]),
 qm 3 37 40,
 qe 4 41 (qX 0 37),
 qe 5 42 (qX 1 37),
 qm 6 12 41,
 qm 7 13 42]
def r10:List Ent:=[
 qm 0 43 12,
 qe 1 44 (qK .neq 43 0)]
def r11:List Ent:=[
 qm 0 45 10,
 qm 1 46 12,
 qm 2 6 45,
 qm 3 7 46,
 qe 4 8 (.mv xT)]
def r12:List Ent:=[
 qe 0 47 (qK .add 27 1),
 qm 1 27 47]
def b0:KC:=.seq (.reg 1536 1 r5) (.seq (.cond (.t 28) (.skip) (.exit 0)) (.seq (.block 1 (.seq (.reg 1600 5 r6) (.seq (.seq (.reg 1920 4 r7) (.cond (.t 35) (.seq (.reg 2176 4 r8) (.ret)) (.skip))) (.seq (.reg 2432 8 r9) (.seq (.reg 2944 2 r10) (.cond (.t 44) (.seq (.reg 3072 5 r11) (.ret)) (.skip))))))) (.reg 3392 2 r12)))
def r13:List Ent:=[
 qe 0 48 (qD 0 5),
 qe 1 49 (qL 1 48),
 qe 2 50 (qZ 49),
 qm 3 6 50,
 qe 4 7 (.mv (xN 0)),
 qe 5 8 (.mv xT)]
def fi:FI:={ res:=[.t 6,.t 7,.t 8],code:=.seq (.reg 64 4 r0) (.seq (.seq (.reg 320 9 r1) (.cond (.t 22) (.seq (.reg 896 3 r2) (.ret)) (.skip))) (.seq (.reg 1088 3 r3) (.seq (.seq (.reg 1280 4 r4) (.block 0 (.loop b0))) (.seq (.reg 3520 6 r13) (.ret))))) }
attribute [go_sem] r0 r1 r2 r3 r4 r5 r6 r7 r8 r9 r10 r11 r12 r13
theorem ok:chkF prog F_impl_FollowWay 3 fi=true:=by kernel_rfl
end impl_FollowWay
namespace spec_DrawGoodProgram
def r0:List Ent:=[
 qe 0 2 (.mv (.k (.nil 6)))]
def r1:List Ent:=[
 qm 0 4 0,
 qe 1 5 (.bld [.t 4,.k (.dat none (.int .i64 0)),.k (.dat none (.int .u64 0))]),
 qe 2 6 (.box (.t 5)),
 qm 3 3 6]
def r2:List Ent:=[
 qm 0 7 3,
 qc 1 8 (.call F_spec_pl1Cur_program true [(.io,.t 7)]),
 qm 2 2 8]
def fi:FI:={ res:=[.t 2],code:=.seq (.reg 64 1 r0) (.seq (.reg 128 4 r1) (.seq (.reg 384 3 r2) (.ret))) }
attribute [go_sem] r0 r1 r2
theorem ok:chkF prog F_spec_DrawGoodProgram 1 fi=true:=by kernel_rfl
end spec_DrawGoodProgram
namespace spec_DrawWaysThrough
def r0:List Ent:=[
 qe 0 2 (.mv (.k (.nil 6)))]
def r1:List Ent:=[
 qm 0 3 0,
 qc 1 4 (qV F_spec_DrawGoodProgram 3),
 qm 2 2 4]
def fi:FI:={ res:=[.t 2],code:=.seq (.reg 64 1 r0) (.seq (.reg 128 3 r1) (.ret)) }
attribute [go_sem] r0 r1
theorem ok:chkF prog F_spec_DrawWaysThrough 1 fi=true:=by kernel_rfl
end spec_DrawWaysThrough
namespace spec_l14Own
def r0:List Ent:=[
 qe 0 1 (.box (.t 0)),
 qe 1 2 (.box (.k (.agg [.nil 1,.nil 1])))]
def r1:List Ent:=[
 qx 0 3 (.bsl false 1 []) 1 [4] [] false,
 qx 1 4 (qD 0 1) 2 [0,4] [] false,
 qx 2 5 (qL 1 4) 2 [0,4] [] false,
 qx 3 6 (.app 1 8 (.t 3) (.t 5)) 0 [4] [] true,
 qx 4 7 (.bsl false 1 []) 1 [0] [3] false,
 qx 5 8 (qD 1 1) 2 [0,4] [3] false,
 qx 6 9 (qL 1 8) 2 [0,4] [3] false,
 qe 7 10 (.app 1 1 (.t 7) (.t 9)),
 qe 8 11 (.bld [.t 6,.t 10]),
 qs 9 (qW 2 2 11)]
def fi:FI:={ res:=[.c 2 true 2],code:=.seq (.reg 64 2 r0) (.seq (.reg 192 10 r1) (.ret)) }
attribute [go_sem] r0 r1
theorem ok:chkF prog F_spec_l14Own 1 fi=true:=by kernel_rfl
end spec_l14Own
namespace spec_l2Nexts
def r0:List Ent:=[
 qe 0 4 (.mv (.k (.nil 1)))]
def r1:List Ent:=[
 qm 0 6 0,
 qm 1 7 1,
 qe 2 8 (qI 6 6 7),
 qe 3 9 (qA 6 8),
 qe 4 5 (.box (.k (.agg [.dat none (.int .i64 0),.dat none (.int .i64 0),.dat none (.int .i64 0),.dat none (.int .i64 0),.dat none (.int .i64 0),.dat none (.int .i64 0)]))),
 qs 5 (qW 6 5 9)]
def r2:List Ent:=[
 qe 0 10 (qD 0 5),
 qe 1 11 (qL 1 10)]
def r3:List Ent:=[
 qe 0 13 (qK .eql 11 11),
 qm 1 12 13]
def r4:List Ent:=[
 qe 0 4 (.mv (.k (.nil 1)))]
def r5:List Ent:=[
 qe 0 15 (qK .eql 11 8),
 qm 1 14 15]
def r6:List Ent:=[
 qm 0 16 1,
 qe 1 17 (qD 5 5),
 qe 2 18 (qL 1 17),
 qe 3 19 (qB .add 16 18),
 qe 4 20 (qK .add 19 1),
 qe 5 21 (.bsl false 1 [.t 20]),
 qm 6 4 21]
def r7:List Ent:=[
 qe 0 23 (qK .eql 11 9),
 qm 1 22 23]
def r8:List Ent:=[
 qe 0 24 (qK .eql 11 10),
 qm 1 22 24]
def r9:List Ent:=[
 qm 0 25 1,
 qe 1 26 (qK .add 25 1),
 qm 2 27 1,
 qe 3 28 (qD 5 5),
 qe 4 29 (qL 1 28),
 qe 5 30 (qB .add 27 29),
 qe 6 31 (qK .add 30 1),
 qe 7 32 (.bsl false 1 [.t 26,.t 31]),
 qm 8 4 32]
def r10:List Ent:=[
 qm 0 33 1,
 qe 1 34 (qK .add 33 1),
 qe 2 35 (.bsl false 1 [.t 34]),
 qm 3 4 35]
def fi:FI:={ res:=[.t 4],code:=.seq (.reg 64 1 r0) (.seq (.reg 128 6 r1) (.seq (.seq (.reg 512 2 r2) (.block 0 (.seq (.reg 640 2 r3) (.cond (.t 12) (.seq (.reg 768 1 r4) (.ret)) (.seq (.reg 832 2 r5) (.cond (.t 14) (.seq (.reg 960 7 r6) (.ret)) (.seq (.seq (.reg 1408 2 r7) (.cond (.t 22) (.skip) (.reg 1536 2 r8))) (.cond (.t 22) (.seq (.reg 1664 9 r9) (.ret)) (.skip))))))))) (.seq (.reg 2240 4 r10) (.ret)))) }
attribute [go_sem] r0 r1 r2 r3 r4 r5 r6 r7 r8 r9 r10
theorem ok:chkF prog F_spec_l2Nexts 2 fi=true:=by kernel_rfl
end spec_l2Nexts
namespace spec_l14All
def r0:List Ent:=[
 qe 0 4 (.box (.t 1)),
 qe 1 6 (.mv (.k (.nil 2)))]
def r1:List Ent:=[
 qm 0 11 2,
 qe 1 12 (qZ 11),
 qe 2 13 (qK .gtr 12 64)]
def r2:List Ent:=[
 qm 0 14 2,
 qm 1 6 14]
def r3:List Ent:=[
 qe 0 15 (qD 0 4),
 qe 1 16 (qL 1 15),
 qe 2 17 (qD 0 4),
 qe 3 18 (qL 1 17),
 qe 4 19 (qZ 18),
 qe 5 20 (qK .sub 19 1),
 qe 6 21 (qI 1 16 20),
 qe 7 22 (qL 1 21),
 qm 8 7 22]
def r4:List Ent:=[
 qm 0 23 0,
 qm 1 24 7,
 qe 2 25 (qI 6 23 24),
 qe 3 26 (qD 0 25),
 qe 4 27 (qL 1 26),
 qe 5 28 (qK .eql 27 11)]
def r5:List Ent:=[
 qm 0 29 2,
 qe 1 30 (qA 2 4),
 qc 2 31 (qV F_spec_l14Own 30),
 qe 3 32 (.bsl false 2 [.t 31]),
 qe 4 33 (.app 2 48 (.t 29) (.t 32)),
 qm 5 6 33]
def r6:List Ent:=[
 qm 0 34 0,
 qm 1 35 7,
 qc 2 36 (qC F_spec_l2Nexts [.t 34,.t 35]),
 qe 3 37 (qZ 36),
 qe 4 38 (.mv (xN 0))]
def r7:List Ent:=[
 qe 0 39 (qB .lss 38 37)]
def r8:List Ent:=[
 qm 0 40 38,
 qe 1 41 (qI 1 36 38),
 qe 2 42 (qL 1 41),
 qm 3 8 40,
 qm 4 9 42]
def r9:List Ent:=[
 qe 0 43 (qA 2 4),
 qc 1 44 (qV F_spec_l14Own 43),
 qe 2 10 (.box (.k (.agg [.nil 1,.nil 1]))),
 qs 3 (qW 2 10 44)]
def r10:List Ent:=[
 qe 0 45 (qD 0 10),
 qe 1 46 (qL 1 45),
 qm 2 47 9,
 qe 3 48 (.bsl true 1 [.t 47]),
 qe 4 49 (.app 1 8 (.t 46) (.t 48)),
 qe 5 50 (qD 0 10),
 qs 6 (qW 1 50 49)]
def r11:List Ent:=[
 qm 0 51 0,
 qm 1 52 7,
 qe 2 53 (qI 6 51 52),
 qe 3 54 (qA 6 53),
 qc 4 55 (qV F_spec_l14Branch 54)]
def r12:List Ent:=[
 qe 0 56 (qD 1 10),
 qe 1 57 (qL 1 56),
 qm 2 58 8,
 qe 3 59 (qK .eql 58 1),
 qe 4 60 (.bsl true 1 [.t 59]),
 qe 5 61 (.app 1 1 (.t 57) (.t 60)),
 qe 6 62 (qD 1 10),
 qs 7 (qW 1 62 61)]
def r13:List Ent:=[
 qm 0 63 0,
 qe 1 64 (qA 2 10),
 qm 2 65 2,
 qc 3 66 (.call F_spec_l14All false [(.ro,.t 63),(.ro,.t 64),(.co,.t 65)]),
 qm 4 2 66]
def r14:List Ent:=[
 qe 0 67 (qK .add 38 1),
 qm 1 38 67]
def b0:KC:=.seq (.reg 2176 1 r7) (.seq (.cond (.t 39) (.skip) (.exit 0)) (.seq (.block 1 (.seq (.reg 2240 5 r8) (.seq (.reg 2560 4 r9) (.seq (.reg 2816 7 r10) (.seq (.seq (.reg 3264 5 r11) (.cond (.t 55) (.reg 3584 8 r12) (.skip))) (.reg 4096 5 r13)))))) (.reg 4416 2 r14)))
def r15:List Ent:=[
 qm 0 68 2,
 qm 1 6 68]
def fi:FI:={ res:=[.t 6],code:=.seq (.reg 64 2 r0) (.seq (.seq (.reg 192 3 r1) (.cond (.t 13) (.seq (.reg 384 2 r2) (.ret)) (.skip))) (.seq (.reg 512 9 r3) (.seq (.seq (.reg 1088 6 r4) (.cond (.t 28) (.seq (.reg 1472 6 r5) (.ret)) (.skip))) (.seq (.seq (.reg 1856 5 r6) (.block 0 (.loop b0))) (.seq (.reg 4544 2 r15) (.ret)))))) }
attribute [go_sem] r0 r1 r2 r3 r4 r5 r6 r7 r8 r9 r10 r11 r12 r13 r14 r15
theorem ok:chkF prog F_spec_l14All 3 fi=true:=by kernel_rfl
end spec_l14All
namespace spec_WaysThrough
def r0:List Ent:=[
 qe 0 2 (.mv (.k (.nil 2))),
 qe 1 3 (.mv xF)]
def r1:List Ent:=[
 qm 0 5 0,
 qc 1 6 (qV F_spec_GoodProgram 5),
 qe 2 7 (qN 6)]
def r2:List Ent:=[
 qe 0 2 (.mv (.k (.nil 2))),
 qe 1 3 (.mv xF)]
def r3:List Ent:=[
 qm 0 8 0,
 qe 1 9 (.bsl false 1 [xN 0]),
 qe 2 10 (.bld [.t 9,.k (.nil 1)]),
 qc 3 11 (.call F_spec_l14All false [(.ro,.t 8),(.ro,.t 10),(.co,.k (.nil 2))]),
 qm 4 4 11]
def r4:List Ent:=[
 qm 0 12 4,
 qe 1 13 (qZ 12),
 qe 2 14 (qK .gtr 13 64)]
def r5:List Ent:=[
 qe 0 2 (.mv (.k (.nil 2))),
 qe 1 3 (.mv xF)]
def r6:List Ent:=[
 qm 0 15 4,
 qm 1 2 15,
 qe 2 3 (.mv xT)]
def fi:FI:={ res:=[.t 2,.t 3],code:=.seq (.reg 64 2 r0) (.seq (.seq (.reg 192 3 r1) (.cond (.t 7) (.seq (.reg 384 2 r2) (.ret)) (.skip))) (.seq (.reg 512 5 r3) (.seq (.seq (.reg 832 3 r4) (.cond (.t 14) (.seq (.reg 1024 2 r5) (.ret)) (.skip))) (.seq (.reg 1152 3 r6) (.ret))))) }
attribute [go_sem] r0 r1 r2 r3 r4 r5 r6
theorem ok:chkF prog F_spec_WaysThrough 1 fi=true:=by kernel_rfl
end spec_WaysThrough
namespace laws_FnWays
def r0:List Ent:=[
 qe 0 4 (.mv xF)]
def r1:List Ent:=[
 qm 0 30 0,
 qe 1 31 (qZ 30),
 qm 2 32 1,
 qe 3 33 (qZ 32),
 qe 4 34 (qB .add 31 33),
 qe 5 35 (qK .gtr 34 1048576)]
def r2:List Ent:=[
 qe 0 4 (.mv xT)]
def r3:List Ent:=[
 qm 0 37 0,
 qc 1 38 (qV F_spec_DrawWayOf 37),
 qm 2 36 38,
 qe 3 39 (qX 0 36),
 qe 4 40 (qX 1 36),
 qm 5 5 39,
 qm 6 6 40]
def r4:List Ent:=[
 qm 0 42 5,
 qm 1 43 6,
 qc 2 44 (qC F_impl_WayOf [.t 42,.t 43]),
 qm 3 41 44,
 qe 4 45 (qX 0 41),
 qe 5 46 (qX 1 41),
 qe 6 7 (.box (.k (.agg [.nil 1,.nil 1]))),
 qs 7 (qW 2 7 45),
 qm 8 8 46]
def r5:List Ent:=[
 qm 0 48 5,
 qm 1 49 6,
 qc 2 50 (qC F_spec_WayOf [.t 48,.t 49]),
 qm 3 47 50,
 qe 4 51 (qX 0 47),
 qe 5 52 (qX 1 47),
 qe 6 9 (.box (.k (.agg [.nil 1,.nil 1]))),
 qs 7 (qW 2 9 51),
 qm 8 10 52]
def r6:List Ent:=[
 qm 0 53 8,
 qm 1 54 10,
 qe 2 55 (.eqb true (.t 53) (.t 54)),
 qm 3 56 55,
 qf 4 57 56 (qA 2 7),
 qf 5 58 56 (qA 2 9),
 qj 6 59 56 (qC F_laws_sameWay [.t 57,.t 58]),
 qf 7 60 56 (qN 59),
 qe 8 61 (.pick (.t 56) xT (.t 60))]
def r7:List Ent:=[
 qe 0 4 (.mv xF)]
def r8:List Ent:=[
 qm 0 63 5,
 qc 1 64 (qV F_impl_WaysThrough 63),
 qm 2 62 64,
 qe 3 65 (qX 0 62),
 qe 4 66 (qX 1 62),
 qm 5 11 65,
 qm 6 12 66]
def r9:List Ent:=[
 qm 0 67 12]
def r10:List Ent:=[
 qm 0 68 5,
 qe 1 69 (qZ 68),
 qe 2 70 (qK .sub 69 1),
 qm 3 13 70]
def r11:List Ent:=[
 qe 0 14 (.mv (xN 0))]
def r12:List Ent:=[
 qe 0 15 (.mv (xN 0))]
def r13:List Ent:=[
 qm 0 71 15,
 qm 1 72 13,
 qe 2 73 (qB .leq 71 72)]
def r14:List Ent:=[
 qm 0 77 5,
 qm 1 78 15,
 qc 2 79 (qC F_impl_WayCount [.t 77,.t 78]),
 qm 3 76 79,
 qe 4 80 (qX 0 76),
 qe 5 81 (qX 1 76),
 qm 6 16 80,
 qm 7 17 81]
def r15:List Ent:=[
 qm 0 82 17,
 qe 1 83 (qN 82)]
def r16:List Ent:=[
 qe 0 4 (.mv xF)]
def r17:List Ent:=[
 qm 0 84 5,
 qm 1 85 15,
 qe 2 86 (qI 6 84 85),
 qe 3 87 (qD 0 86),
 qe 4 88 (qL 1 87),
 qe 5 89 (qK .eql 88 11)]
def r18:List Ent:=[
 qm 0 90 14,
 qm 1 91 16,
 qe 2 92 (qB .add 90 91),
 qm 3 14 92]
def r19:List Ent:=[
 qm 0 74 15,
 qe 1 75 (qK .add 74 1),
 qm 2 15 75]
def b0:KC:=.seq (.seq (.reg 3712 3 r13) (.cond (.t 73) (.skip) (.exit 0))) (.seq (.block 1 (.seq (.reg 3904 8 r14) (.seq (.seq (.reg 4416 2 r15) (.cond (.t 83) (.seq (.reg 4544 1 r16) (.ret)) (.skip))) (.seq (.reg 4608 6 r17) (.cond (.t 89) (.reg 4992 4 r18) (.skip)))))) (.reg 5248 3 r19))
def r20:List Ent:=[
 qm 0 93 11,
 qe 1 94 (qZ 93),
 qm 2 95 14,
 qe 3 96 (qB .neq 94 95)]
def r21:List Ent:=[
 qe 0 4 (.mv xF)]
def r22:List Ent:=[
 qe 0 18 (.mv (xN 0))]
def r23:List Ent:=[
 qm 0 97 11,
 qe 1 98 (qZ 97),
 qe 2 99 (.mv (xN 0))]
def r24:List Ent:=[
 qe 0 100 (qB .lss 99 98)]
def r25:List Ent:=[
 qe 0 101 (qI 2 97 99),
 qe 1 102 (qA 2 101),
 qe 2 20 (.box (.k (.agg [.nil 1,.nil 1]))),
 qs 3 (qW 2 20 102)]
def r26:List Ent:=[
 qm 0 104 5,
 qm 1 105 6,
 qe 2 106 (qA 2 20),
 qc 3 107 (qC F_impl_FollowWay [.t 104,.t 105,.t 106]),
 qm 4 103 107,
 qe 5 108 (qX 0 103),
 qe 6 109 (qX 1 103),
 qe 7 110 (qX 2 103),
 qm 8 21 108,
 qm 9 22 109,
 qm 10 23 110]
def r27:List Ent:=[
 qm 0 111 5,
 qe 1 112 (qA 2 20),
 qc 2 113 (qC F_impl_GoodWay [.t 111,.t 112]),
 qe 3 114 (qN 113)]
def r28:List Ent:=[
 qe 0 4 (.mv xF)]
def r29:List Ent:=[
 qm 0 115 23,
 qm 1 116 115,
 qt 2 117 116 (qM 22),
 qt 3 118 116 (qK .eql 117 0),
 qe 4 119 (.pick (.t 116) (.t 118) xF),
 qm 5 120 119,
 qt 6 121 120 (qM 21),
 qt 7 122 120 (qD 0 20),
 qt 8 123 120 (qL 1 122),
 qt 9 124 120 (qZ 123),
 qt 10 125 120 (qB .eql 121 124),
 qe 11 126 (.pick (.t 120) (.t 125) xF)]
def r30:List Ent:=[
 qm 0 127 18,
 qe 1 128 (qK .add 127 1),
 qm 2 18 128]
def r31:List Ent:=[
 qm 0 129 8,
 qe 1 130 (qN 129),
 qm 2 131 130,
 qf 3 132 131 (qA 2 20),
 qf 4 133 131 (qA 2 7),
 qj 5 134 131 (qC F_laws_sameWay [.t 132,.t 133]),
 qf 6 135 131 (qN 134),
 qe 7 136 (.pick (.t 131) xT (.t 135))]
def r32:List Ent:=[
 qe 0 4 (.mv xF)]
def r33:List Ent:=[
 qe 0 137 (qK .add 99 1),
 qm 1 99 137]
def b1:KC:=.seq (.reg 6016 1 r24) (.seq (.cond (.t 100) (.skip) (.exit 2)) (.seq (.block 3 (.seq (.reg 6080 4 r25) (.seq (.reg 6336 11 r26) (.seq (.seq (.reg 7040 4 r27) (.cond (.t 114) (.seq (.reg 7296 1 r28) (.ret)) (.skip))) (.seq (.reg 7360 12 r29) (.cond (.t 126) (.seq (.reg 8128 3 r30) (.seq (.reg 8320 8 r31) (.cond (.t 136) (.seq (.reg 8832 1 r32) (.ret)) (.skip)))) (.skip))))))) (.reg 8896 2 r33)))
def r34:List Ent:=[
 qm 0 138 8,
 qm 1 139 18,
 qe 2 140 (qK .eql 139 1),
 qe 3 141 (.eqb true (.t 138) (.t 140))]
def r35:List Ent:=[
 qe 0 4 (.mv xF)]
def r36:List Ent:=[
 qm 0 142 1,
 qc 1 143 (qV F_spec_DrawWaysThrough 142),
 qm 2 24 143]
def r37:List Ent:=[
 qm 0 145 24,
 qc 1 146 (qV F_impl_WaysThrough 145),
 qm 2 144 146,
 qe 3 147 (qX 0 144),
 qe 4 148 (qX 1 144),
 qm 5 25 147,
 qm 6 26 148]
def r38:List Ent:=[
 qm 0 150 24,
 qc 1 151 (qV F_spec_WaysThrough 150),
 qm 2 149 151,
 qe 3 152 (qX 0 149),
 qe 4 153 (qX 1 149),
 qm 5 27 152,
 qm 6 28 153]
def r39:List Ent:=[
 qm 0 154 26,
 qm 1 155 28,
 qe 2 156 (.eqb true (.t 154) (.t 155)),
 qm 3 157 156,
 qf 4 158 157 (qM 25),
 qf 5 159 157 (qZ 158),
 qf 6 160 157 (qM 27),
 qf 7 161 157 (qZ 160),
 qf 8 162 157 (qB .neq 159 161),
 qe 9 163 (.pick (.t 157) xT (.t 162))]
def r40:List Ent:=[
 qe 0 4 (.mv xF)]
def r41:List Ent:=[
 qm 0 164 25,
 qe 1 165 (qZ 164),
 qe 2 166 (.mv (xN 0))]
def r42:List Ent:=[
 qe 0 167 (qB .lss 166 165)]
def r43:List Ent:=[
 qm 0 168 166,
 qm 1 29 168]
def r44:List Ent:=[
 qm 0 169 25,
 qm 1 170 29,
 qr 2 171 (qI 2 169 170),
 qr 3 172 (qA 2 171),
 qm 4 173 27,
 qm 5 174 29,
 qr 6 175 (qI 2 173 174),
 qr 7 176 (qA 2 175),
 qc 8 177 (qC F_laws_sameWay [.t 172,.t 176]),
 qe 9 178 (qN 177)]
def r45:List Ent:=[
 qe 0 4 (.mv xF)]
def r46:List Ent:=[
 qe 0 179 (qK .add 166 1),
 qm 1 166 179]
def b2:KC:=.seq (.reg 11328 1 r42) (.seq (.cond (.t 167) (.skip) (.exit 4)) (.seq (.block 5 (.seq (.reg 11392 2 r43) (.seq (.reg 11520 10 r44) (.cond (.t 178) (.seq (.reg 12160 1 r45) (.ret)) (.skip))))) (.reg 12224 2 r46)))
def r47:List Ent:=[
 qe 0 4 (.mv xT)]
def fi:FI:={ res:=[.t 4],code:=.seq (.reg 64 1 r0) (.seq (.seq (.reg 128 6 r1) (.cond (.t 35) (.seq (.reg 512 1 r2) (.ret)) (.skip))) (.seq (.reg 576 7 r3) (.seq (.fz 6 (.fz 5 (.reg 1024 9 r4))) (.seq (.reg 1600 9 r5) (.seq (.seq (.reg 2176 9 r6) (.cond (.t 61) (.seq (.reg 2752 1 r7) (.ret)) (.skip))) (.seq (.reg 2816 7 r8) (.seq (.seq (.fz 11 (.reg 3264 1 r9)) (.cond (.t 67) (.seq (.reg 3328 4 r10) (.seq (.reg 3584 1 r11) (.seq (.seq (.reg 3648 1 r12) (.block 0 (.loop b0))) (.seq (.seq (.reg 5440 4 r20) (.cond (.t 96) (.seq (.reg 5696 1 r21) (.ret)) (.skip))) (.seq (.reg 5760 1 r22) (.seq (.seq (.reg 5824 3 r23) (.block 2 (.loop b1))) (.seq (.reg 9024 4 r34) (.cond (.t 141) (.seq (.reg 9280 1 r35) (.ret)) (.skip))))))))) (.skip))) (.seq (.reg 9344 3 r36) (.seq (.fz 24 (.reg 9536 7 r37)) (.seq (.reg 9984 7 r38) (.seq (.seq (.fz 27 (.fz 25 (.reg 10432 10 r39))) (.cond (.t 163) (.seq (.reg 11072 1 r40) (.ret)) (.skip))) (.seq (.seq (.reg 11136 3 r41) (.block 4 (.loop b2))) (.seq (.reg 12352 1 r47) (.ret)))))))))))))) }
attribute [go_sem] r0 r1 r2 r3 r4 r5 r6 r7 r8 r9 r10 r11 r12 r13 r14 r15 r16 r17 r18 r19 r20 r21 r22 r23 r24 r25 r26 r27 r28 r29 r30 r31 r32 r33 r34 r35 r36 r37 r38 r39 r40 r41 r42 r43 r44 r45 r46 r47
theorem ok:chkF prog F_laws_FnWays 2 fi=true:=by kernel_rfl
end laws_FnWays
end Go.Vm.Ytljjgfmappionaa
