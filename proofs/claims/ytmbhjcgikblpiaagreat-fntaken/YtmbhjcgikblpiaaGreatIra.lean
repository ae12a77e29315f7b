/- The functions that the law reaches, in the text of the interpreter, and that this text fits them: part 1 (no condition). -/
import Derived.Test.YtmbhjcgikblpiaaGreatVmd
import Derived.Test.YtmbhjcgikblpiaaGreatProg
import Derived.KernelRfl
namespace Go.Vm.YtmbhjcgikblpiaaGreat
open Go Go.Vm
set_option linter.unusedVariables false
set_option maxRecDepth 100000
noncomputable abbrev prog:Program:=Go.Proofs.Tryz.prog
abbrev xF:X:=.k (.dat none (.bool false))
abbrev xT:X:=.k (.dat none (.bool true))
abbrev xN (n:Int):X:=.k (I64 n)
abbrev qm (j d n:Nat):Ent:=E0 j (some d) none (.i (.mv (.t n)))
abbrev qe (j d:Nat) (x:I):Ent:=E0 j (some d) none (.i x)
abbrev qs (j:Nat) (x:I):Ent:=E0 j none none (.i x)
abbrev qc (j d:Nat) (x:KO):Ent:=E0 j (some d) none x
abbrev qt (j d g:Nat) (x:I):Ent:=E0 j (some d) (some (g,true)) (.i x)
abbrev qf (j d g:Nat) (x:I):Ent:=E0 j (some d) (some (g,false)) (.i x)
abbrev qh (j d g:Nat) (x:KO):Ent:=E0 j (some d) (some (g,true)) x
abbrev qj (j d g:Nat) (x:KO):Ent:=E0 j (some d) (some (g,false)) x
abbrev qM (n:Nat):I:=.mv (.t n)
abbrev qL (n a:Nat):I:=.load false false n (.t a)
abbrev qA (n a:Nat):I:=.load false true n (.t a)
abbrev qD (k a:Nat):I:=.fad k (.t a)
abbrev qN (a:Nat):I:=.un .not (.t a)
abbrev qI (z a b:Nat):I:=.iad z (.t a) (.t b)
abbrev qZ (a:Nat):I:=.len (.t a)
abbrev qB (o:BinOp) (a b:Nat):I:=.bin o (.t a) (.t b)
abbrev qK (o:BinOp) (a:Nat) (n:Int):I:=.bin o (.t a) (.k (I64 n))
abbrev qX (j a:Nat):I:=.ext j (.t a)
abbrev qW (k:Nat) (a b:Nat):I:=.store k (.t a) (.t b)
abbrev qr (j d:Nat) (x:I):Ent:=ER j (some d) none x
abbrev qx (j d:Nat) (x:I) (k:Nat) (a b:List Nat) (w:Bool):Ent:=EX j (some d) none (.i x) k a b w
abbrev qC (f:FuncId) (l:List X):KO:=.call f false (roA l)
abbrev qV (f:FuncId) (a:Nat):KO:=.call f false (roA [.t a])
abbrev Zft:FuncId:=3
abbrev Zgs:FuncId:=4
abbrev Zgq:FuncId:=5
abbrev ZgL:FuncId:=6
abbrev ZiE:FuncId:=7
abbrev ZoH:FuncId:=8
abbrev Zns:FuncId:=9
abbrev Zk3:FuncId:=10
abbrev Zd9:FuncId:=11
abbrev Zm5:FuncId:=12
abbrev Zin:FuncId:=13
abbrev Zna:FuncId:=14
abbrev Zbr:FuncId:=15
abbrev ZmV:FuncId:=16
abbrev Zm8:FuncId:=17
abbrev Zlo:FuncId:=18
abbrev ZkS:FuncId:=19
abbrev ZkU:FuncId:=20
abbrev ZiK:FuncId:=21
abbrev Zi5:FuncId:=22
abbrev Zll:FuncId:=23
abbrev Zkv:FuncId:=24
abbrev Zkx:FuncId:=25
abbrev Zlj:FuncId:=26
abbrev Zi9:FuncId:=27
abbrev Zln:FuncId:=28
abbrev ZiY:FuncId:=29
abbrev ZkH:FuncId:=30
abbrev ZkO:FuncId:=31
abbrev Znt:FuncId:=32
abbrev Zom:FuncId:=33
abbrev Zn0:FuncId:=34
abbrev Znk:FuncId:=35
abbrev ZjA:FuncId:=36
abbrev Zlh:FuncId:=37
abbrev ZcH:FuncId:=38
abbrev Znc:FuncId:=39
abbrev ZbZ:FuncId:=40
abbrev ZnS:FuncId:=41
abbrev ZoD:FuncId:=42
abbrev Zp4:FuncId:=43
abbrev Zko:FuncId:=44
abbrev Zm7:FuncId:=45
abbrev Zne:FuncId:=46
abbrev Zlm:FuncId:=47
abbrev ZoR:FuncId:=48
abbrev ZbP:FuncId:=49
abbrev ZcE:FuncId:=50
abbrev Zng:FuncId:=51
abbrev Znh:FuncId:=52
abbrev Zip:FuncId:=53
abbrev Zj8:FuncId:=54
abbrev Zj4:FuncId:=55
abbrev Zk1:FuncId:=56
abbrev Zk6:FuncId:=57
abbrev ZhM:FuncId:=58
abbrev ZhA:FuncId:=59
abbrev ZlL:FuncId:=60
abbrev Zms:FuncId:=61
abbrev Znq:FuncId:=62
abbrev Zn1:FuncId:=63
abbrev ZmT:FuncId:=64
abbrev ZbE:FuncId:=65
abbrev Zcp:FuncId:=66
abbrev Zct:FuncId:=67
abbrev Zcc:FuncId:=68
abbrev Zce:FuncId:=69
abbrev ZbC:FuncId:=70
abbrev ZbV:FuncId:=71
abbrev ZcY:FuncId:=72
abbrev ZcZ:FuncId:=73
abbrev Zb8:FuncId:=74
abbrev Za4:FuncId:=75
abbrev Za3:FuncId:=76
abbrev Zbn:FuncId:=77
abbrev ZkE:FuncId:=78
abbrev ZnW:FuncId:=79
abbrev Zbl:FuncId:=80
abbrev Zcg:FuncId:=81
abbrev ZcT:FuncId:=82
abbrev Zbh:FuncId:=83
abbrev ZaQ:FuncId:=84
abbrev ZbW:FuncId:=85
abbrev Zdm:FuncId:=86
abbrev Znd:FuncId:=87
abbrev Zoj:FuncId:=88
abbrev Zoh:FuncId:=89
abbrev Zld:FuncId:=90
abbrev ZlA:FuncId:=91
abbrev Zmh:FuncId:=92
abbrev Zlg:FuncId:=93
abbrev Zl2:FuncId:=94
abbrev ZlP:FuncId:=95
abbrev Zok:FuncId:=96
abbrev Zjy:FuncId:=97
abbrev Znb:FuncId:=98
abbrev ZaX:FuncId:=99
abbrev ZdH:FuncId:=100
abbrev ZoN:FuncId:=101
abbrev ZaD:FuncId:=102
abbrev Za9:FuncId:=103
abbrev Zcq:FuncId:=104
abbrev ZjV:FuncId:=105
abbrev Zjo:FuncId:=106
abbrev Za6:FuncId:=107
abbrev Zc8:FuncId:=108
abbrev ZbD:FuncId:=109
abbrev ZkN:FuncId:=110
abbrev Zm4:FuncId:=111
abbrev Zh6:FuncId:=112
abbrev Zbt:FuncId:=113
abbrev ZaV:FuncId:=114
abbrev ZjM:FuncId:=115
abbrev ZaO:FuncId:=116
abbrev Zdc:FuncId:=117
abbrev ZaE:FuncId:=118
abbrev Zbw:FuncId:=119
abbrev Zcn:FuncId:=120
abbrev ZkM:FuncId:=121
abbrev Zju:FuncId:=122
abbrev Zdt:FuncId:=123
abbrev Zem:FuncId:=124
abbrev ZkP:FuncId:=125
abbrev Zle:FuncId:=126
abbrev ZjB:FuncId:=127
abbrev Zlk:FuncId:=128
abbrev ZiP:FuncId:=129
abbrev ZgE:FuncId:=130
abbrev ZiF:FuncId:=131
abbrev Zb2:FuncId:=132
abbrev ZkC:FuncId:=133
abbrev ZjU:FuncId:=134
abbrev Zqa:FuncId:=135
abbrev Zan:FuncId:=136
abbrev Zot:FuncId:=137
abbrev Zlz:FuncId:=138
abbrev Za7:FuncId:=139
abbrev ZbY:FuncId:=140
abbrev Zdo:FuncId:=141
abbrev ZbS:FuncId:=142
abbrev ZaZ:FuncId:=143
abbrev ZbQ:FuncId:=144
abbrev Zc2:FuncId:=145
abbrev Zbf:FuncId:=146
abbrev ZcV:FuncId:=147
abbrev ZdP:FuncId:=148
abbrev Za0:FuncId:=149
abbrev ZcU:FuncId:=150
abbrev Zci:FuncId:=151
abbrev Zdn:FuncId:=152
abbrev ZnN:FuncId:=153
abbrev Zb0:FuncId:=154
abbrev Zbs:FuncId:=155
abbrev ZbJ:FuncId:=156
abbrev Zca:FuncId:=157
abbrev ZbM:FuncId:=158
abbrev ZbG:FuncId:=159
abbrev Zay:FuncId:=160
abbrev ZaR:FuncId:=161
abbrev ZaJ:FuncId:=162
abbrev ZbR:FuncId:=163
abbrev Zcv:FuncId:=164
abbrev Zcr:FuncId:=165
abbrev Zbm:FuncId:=166
abbrev Zcs:FuncId:=167
abbrev ZoB:FuncId:=168
abbrev ZiU:FuncId:=169
abbrev Zlc:FuncId:=170
abbrev Zi0:FuncId:=171
abbrev ZkV:FuncId:=172
abbrev Znf:FuncId:=173
abbrev ZoK:FuncId:=174
abbrev Zba:FuncId:=175
abbrev ZdC:FuncId:=176
abbrev ZaN:FuncId:=177
abbrev Zaz:FuncId:=178
abbrev ZaL:FuncId:=179
abbrev Zbe:FuncId:=180
abbrev ZmY:FuncId:=181
abbrev ZgR:FuncId:=182
abbrev Zco:FuncId:=183
abbrev ZjE:FuncId:=184
abbrev Zbd:FuncId:=185
abbrev ZhU:FuncId:=186
abbrev ZbO:FuncId:=187
abbrev ZnU:FuncId:=188
abbrev Zni:FuncId:=189
abbrev Zfd:FuncId:=190
abbrev ZnK:FuncId:=191
abbrev Zec:FuncId:=192
abbrev ZeX:FuncId:=193
abbrev Znl:FuncId:=194
abbrev ZcA:FuncId:=195
abbrev ZbT:FuncId:=196
abbrev ZbX:FuncId:=197
abbrev Zbo:FuncId:=198
abbrev ZoO:FuncId:=199
abbrev Zm9:FuncId:=200
abbrev ZbN:FuncId:=201
abbrev ZbK:FuncId:=202
abbrev Zfu:FuncId:=203
abbrev Zp6:FuncId:=204
abbrev Zdh:FuncId:=205
abbrev ZcN:FuncId:=206
abbrev Zdf:FuncId:=207
abbrev ZcW:FuncId:=208
abbrev Zdd:FuncId:=209
abbrev ZaT:FuncId:=210
abbrev ZaM:FuncId:=211
abbrev ZcM:FuncId:=212
abbrev ZaH:FuncId:=213
abbrev ZbA:FuncId:=214
abbrev Zb1:FuncId:=215
abbrev Zda:FuncId:=216
abbrev Zcd:FuncId:=217
abbrev ZaA:FuncId:=218
abbrev Zby:FuncId:=219
abbrev ZkQ:FuncId:=220
abbrev Zl4:FuncId:=221
abbrev ZaS:FuncId:=222
abbrev ZjJ:FuncId:=223
abbrev ZbH:FuncId:=224
abbrev Zix:FuncId:=225
abbrev ZhR:FuncId:=226
abbrev ZdM:FuncId:=227
abbrev Zgu:FuncId:=228
abbrev Zcx:FuncId:=229
abbrev Zax:FuncId:=230
abbrev Zeu:FuncId:=231
abbrev Zfn:FuncId:=232
abbrev Zet:FuncId:=233
abbrev ZeY:FuncId:=234
abbrev Zew:FuncId:=235
abbrev Zds:FuncId:=236
abbrev Zl0:FuncId:=237
abbrev Zeg:FuncId:=238
abbrev Zfl:FuncId:=239
abbrev Zov:FuncId:=240
abbrev Zoz:FuncId:=241
abbrev ZbB:FuncId:=242
abbrev ZdL:FuncId:=243
abbrev Zcy:FuncId:=244
abbrev Zc0:FuncId:=245
abbrev ZcX:FuncId:=246
abbrev ZbI:FuncId:=247
abbrev Zlf:FuncId:=248
abbrev Zm6:FuncId:=249
abbrev Zcw:FuncId:=250
abbrev Zfo:FuncId:=251
abbrev Zhy:FuncId:=252
abbrev ZhG:FuncId:=253
abbrev Zeo:FuncId:=254
abbrev ZfK:FuncId:=255
abbrev Zli:FuncId:=256
abbrev Zch:FuncId:=257
abbrev ZfT:FuncId:=258
abbrev Zgg:FuncId:=259
abbrev Zev:FuncId:=260
abbrev Zgj:FuncId:=261
abbrev Zes:FuncId:=262
abbrev Zgr:FuncId:=263
abbrev Zey:FuncId:=264
abbrev Zer:FuncId:=265
abbrev Zdr:FuncId:=266
abbrev Zen:FuncId:=267
abbrev Zdq:FuncId:=268
abbrev Zfk:FuncId:=269
abbrev Zd7:FuncId:=270
abbrev Zlb:FuncId:=271
abbrev ZeW:FuncId:=272
abbrev ZdN:FuncId:=273
abbrev ZkJ:FuncId:=274
namespace spec_l1In
def r0:List Ent:=[
 qe 0 6 (.mv xF)]
def r1:List Ent:=[
 qm 0 7 0,
 qm 1 8 1,
 qe 2 9 (qB .geq 7 8),
 qm 3 10 9,
 qt 4 11 10 (qM 0),
 qt 5 12 10 (qM 2),
 qt 6 13 10 (qB .leq 11 12),
 qe 7 14 (.pick (.t 10) (.t 13) xF),
 qm 8 6 14]
def fi:FI:={ res:=[.t 6],code:=.seq (.reg 64 1 r0) (.seq (.reg 128 9 r1) (.ret)) }
attribute [go_sem] r0 r1
theorem ok:chkF prog ZaO 3 fi=true:=by kernel_rfl
end spec_l1In
namespace spec_l2Reg
def r0:List Ent:=[
 qe 0 2 (.mv xF)]
def r1:List Ent:=[
 qm 0 3 0,
 qc 1 4 (qC ZaO [.t 3,xN 0,xN 5]),
 qm 2 2 4]
def fi:FI:={ res:=[.t 2],code:=.seq (.reg 64 1 r0) (.seq (.reg 128 3 r1) (.ret)) }
attribute [go_sem] r0 r1
theorem ok:chkF prog ZcM 1 fi=true:=by kernel_rfl
end spec_l2Reg
namespace spec_l2Zero
def r0:List Ent:=[
 qe 0 6 (.box (.t 0)),
 qe 1 12 (.mv xF)]
def r1:List Ent:=[
 qm 0 13 1,
 qm 1 14 13,
 qf 2 15 14 (qD 1 6),
 qf 3 16 14 (qL 1 15),
 qf 4 17 14 (qK .eql 16 0),
 qe 5 18 (.pick (.t 14) xT (.t 17)),
 qm 6 19 18,
 qt 7 20 19 (qM 2),
 qt 8 21 19 (qM 20),
 qf 9 22 21 (qD 2 6),
 qf 10 23 21 (qL 1 22),
 qf 11 24 21 (qK .eql 23 0),
 qt 12 25 19 (.pick (.t 21) xT (.t 24)),
 qe 13 26 (.pick (.t 19) (.t 25) xF),
 qm 14 27 26,
 qt 15 28 27 (qM 3),
 qt 16 29 27 (qM 28),
 qf 17 30 29 (qD 3 6),
 qf 18 31 29 (qL 1 30),
 qf 19 32 29 (qK .eql 31 0),
 qt 20 33 27 (.pick (.t 29) xT (.t 32)),
 qe 21 34 (.pick (.t 27) (.t 33) xF),
 qm 22 35 34,
 qt 23 36 35 (qM 4),
 qt 24 37 35 (qM 36),
 qf 25 38 37 (qD 4 6),
 qf 26 39 37 (qL 1 38),
 qf 27 40 37 (qK .eql 39 0),
 qt 28 41 35 (.pick (.t 37) xT (.t 40)),
 qe 29 42 (.pick (.t 35) (.t 41) xF),
 qm 30 43 42,
 qt 31 44 43 (qM 5),
 qt 32 45 43 (qM 44),
 qf 33 46 45 (qD 5 6),
 qf 34 47 45 (qL 1 46),
 qf 35 48 45 (qK .eql 47 0),
 qt 36 49 43 (.pick (.t 45) xT (.t 48)),
 qe 37 50 (.pick (.t 43) (.t 49) xF),
 qm 38 12 50]
def fi:FI:={ res:=[.t 12],code:=.seq (.reg 64 2 r0) (.seq (.reg 192 39 r1) (.ret)) }
attribute [go_sem] r0 r1
theorem ok:chkF prog ZaH 6 fi=true:=by kernel_rfl
end spec_l2Zero
namespace spec_l2Step
def r0:List Ent:=[
 qe 0 1 (.box (.t 0)),
 qe 1 2 (.mv xF)]
def r1:List Ent:=[
 qe 0 5 (qD 1 1),
 qe 1 6 (qL 1 5),
 qc 2 7 (qC ZaO [.t 6,xN 1,xN 10]),
 qm 3 3 7]
def r2:List Ent:=[
 qe 0 8 (qD 5 1),
 qe 1 9 (qL 1 8),
 qc 2 10 (qC ZaO [.t 9,xN 1,xN 19]),
 qm 3 4 10]
def r3:List Ent:=[
 qe 0 11 (qD 2 1),
 qe 1 12 (qL 1 11),
 qc 2 13 (qV ZcM 12),
 qe 3 14 (qN 13),
 qm 4 15 14,
 qf 5 16 15 (qD 3 1),
 qf 6 17 15 (qL 1 16),
 qj 7 18 15 (qV ZcM 17),
 qf 8 19 15 (qN 18),
 qe 9 20 (.pick (.t 15) xT (.t 19))]
def r4:List Ent:=[
 qe 0 2 (.mv xF)]
def r5:List Ent:=[
 qe 0 21 (qD 0 1),
 qe 1 22 (qL 1 21)]
def r6:List Ent:=[
 qe 0 24 (qK .eql 22 1),
 qm 1 23 24]
def r7:List Ent:=[
 qm 0 25 3,
 qm 1 26 25,
 qt 2 27 26 (qA 6 1),
 qh 3 28 26 (qC ZaH [.t 27,xT,xT,xT,xF,xF]),
 qe 4 29 (.pick (.t 26) (.t 28) xF),
 qm 5 2 29]
def r8:List Ent:=[
 qe 0 31 (qK .eql 22 2),
 qm 1 30 31]
def r9:List Ent:=[
 qm 0 32 3,
 qm 1 33 32,
 qt 2 34 33 (qD 4 1),
 qt 3 35 33 (qL 1 34),
 qh 4 36 33 (qC ZaO [.t 35,xN 0,xN 255]),
 qe 5 37 (.pick (.t 33) (.t 36) xF),
 qm 6 38 37,
 qt 7 39 38 (qA 6 1),
 qh 8 40 38 (qC ZaH [.t 39,xT,xT,xF,xT,xF]),
 qe 9 41 (.pick (.t 38) (.t 40) xF),
 qm 10 2 41]
def r10:List Ent:=[
 qe 0 43 (qK .eql 22 3),
 qm 1 42 43]
def r11:List Ent:=[
 qe 0 44 (qD 4 1),
 qe 1 45 (qL 1 44),
 qc 2 46 (qC ZaO [.t 45,xN 0,xN 255]),
 qm 3 47 46,
 qt 4 48 47 (qA 6 1),
 qh 5 49 47 (qC ZaH [.t 48,xF,xT,xF,xT,xF]),
 qe 6 50 (.pick (.t 47) (.t 49) xF),
 qm 7 2 50]
def r12:List Ent:=[
 qe 0 52 (qK .eql 22 4),
 qm 1 51 52]
def r13:List Ent:=[
 qe 0 53 (qD 4 1),
 qe 1 54 (qL 1 53),
 qc 2 55 (qC ZaO [.t 54,xN 256,xN 65535]),
 qm 3 56 55,
 qt 4 57 56 (qA 6 1),
 qh 5 58 56 (qC ZaH [.t 57,xF,xT,xF,xT,xF]),
 qe 6 59 (.pick (.t 56) (.t 58) xF),
 qm 7 2 59]
def r14:List Ent:=[
 qe 0 61 (qK .eql 22 5),
 qm 1 60 61]
def r15:List Ent:=[
 qe 0 62 (qD 4 1),
 qe 1 63 (qL 1 62),
 qc 2 64 (qC ZaO [.t 63,xN 0,xN 7]),
 qm 3 65 64,
 qt 4 66 65 (qA 6 1),
 qh 5 67 65 (qC ZaH [.t 66,xF,xT,xT,xT,xF]),
 qe 6 68 (.pick (.t 65) (.t 67) xF),
 qm 7 2 68]
def r16:List Ent:=[
 qe 0 70 (qK .eql 22 6),
 qm 1 69 70]
def r17:List Ent:=[
 qe 0 71 (qK .eql 22 7),
 qm 1 69 71]
def r18:List Ent:=[
 qe 0 72 (qD 4 1),
 qe 1 73 (qL 1 72),
 qc 2 74 (qC ZaO [.t 73,xN 0,xN 255]),
 qm 3 75 74,
 qt 4 76 75 (qA 6 1),
 qh 5 77 75 (qC ZaH [.t 76,xF,xT,xF,xT,xF]),
 qe 6 78 (.pick (.t 75) (.t 77) xF),
 qm 7 2 78]
def r19:List Ent:=[
 qe 0 80 (qK .eql 22 8),
 qm 1 79 80]
def r20:List Ent:=[
 qm 0 81 4,
 qm 1 82 81,
 qt 2 83 82 (qA 6 1),
 qh 3 84 82 (qC ZaH [.t 83,xF,xF,xF,xF,xT]),
 qe 4 85 (.pick (.t 82) (.t 84) xF),
 qm 5 2 85]
def r21:List Ent:=[
 qe 0 87 (qK .eql 22 9),
 qm 1 86 87]
def r22:List Ent:=[
 qe 0 88 (qK .eql 22 10),
 qm 1 86 88]
def r23:List Ent:=[
 qm 0 89 4,
 qm 1 90 89,
 qt 2 91 90 (qA 6 1),
 qh 3 92 90 (qC ZaH [.t 91,xF,xT,xT,xF,xT]),
 qe 4 93 (.pick (.t 90) (.t 92) xF),
 qm 5 2 93]
def r24:List Ent:=[
 qe 0 94 (qD 0 1),
 qe 1 95 (qL 1 94),
 qe 2 96 (qK .eql 95 11),
 qm 3 97 96,
 qt 4 98 97 (qA 6 1),
 qh 5 99 97 (qC ZaH [.t 98,xF,xF,xF,xF,xF]),
 qe 6 100 (.pick (.t 97) (.t 99) xF),
 qm 7 2 100]
def fi:FI:={ res:=[.t 2],code:=.seq (.reg 64 2 r0) (.seq (.reg 192 4 r1) (.seq (.reg 448 4 r2) (.seq (.seq (.reg 704 10 r3) (.cond (.t 20) (.seq (.reg 1344 1 r4) (.ret)) (.skip))) (.seq (.seq (.reg 1408 2 r5) (.block 0 (.seq (.reg 1536 2 r6) (.cond (.t 23) (.seq (.reg 1664 6 r7) (.ret)) (.seq (.reg 2048 2 r8) (.cond (.t 30) (.seq (.reg 2176 11 r9) (.ret)) (.seq (.reg 2880 2 r10) (.cond (.t 42) (.seq (.reg 3008 8 r11) (.ret)) (.seq (.reg 3520 2 r12) (.cond (.t 51) (.seq (.reg 3648 8 r13) (.ret)) (.seq (.reg 4160 2 r14) (.cond (.t 60) (.seq (.reg 4288 8 r15) (.ret)) (.seq (.seq (.reg 4800 2 r16) (.cond (.t 69) (.skip) (.reg 4928 2 r17))) (.cond (.t 69) (.seq (.reg 5056 8 r18) (.ret)) (.seq (.reg 5568 2 r19) (.cond (.t 79) (.seq (.reg 5696 6 r20) (.ret)) (.seq (.seq (.reg 6080 2 r21) (.cond (.t 86) (.skip) (.reg 6208 2 r22))) (.cond (.t 86) (.seq (.reg 6336 6 r23) (.ret)) (.skip))))))))))))))))))) (.seq (.reg 6720 8 r24) (.ret)))))) }
attribute [go_sem] r0 r1 r2 r3 r4 r5 r6 r7 r8 r9 r10 r11 r12 r13 r14 r15 r16 r17 r18 r19 r20 r21 r22 r23 r24
theorem ok:chkF prog Zdn 1 fi=true:=by kernel_rfl
end spec_l2Step
namespace spec_GoodProgram
def r0:List Ent:=[
 qe 0 2 (.mv xF)]
def r1:List Ent:=[
 qm 0 5 0,
 qe 1 6 (qZ 5),
 qe 2 7 (.mv (xN 0))]
def r2:List Ent:=[
 qe 0 8 (qB .lss 7 6)]
def r3:List Ent:=[
 qm 0 9 7,
 qe 1 10 (qI 6 5 7),
 qe 2 11 (qA 6 10),
 qe 3 4 (.box (.k (.agg [.dat none (.int .i64 0),.dat none (.int .i64 0),.dat none (.int .i64 0),.dat none (.int .i64 0),.dat none (.int .i64 0),.dat none (.int .i64 0)]))),
 qm 4 3 9,
 qs 5 (qW 6 4 11)]
def r4:List Ent:=[
 qe 0 12 (qA 6 4),
 qc 1 13 (qV Zdn 12),
 qe 2 14 (qN 13),
 qm 3 15 14,
 qf 4 16 15 (qD 5 4),
 qf 5 17 15 (qL 1 16),
 qf 6 18 15 (qK .gtr 17 0),
 qf 7 19 15 (qM 18),
 qt 8 20 19 (qM 3),
 qt 9 21 19 (qD 5 4),
 qt 10 22 19 (qL 1 21),
 qt 11 23 19 (qB .add 20 22),
 qt 12 24 19 (qK .add 23 1),
 qt 13 25 19 (qM 0),
 qt 14 26 19 (qZ 25),
 qt 15 27 19 (qB .geq 24 26),
 qf 16 28 15 (.pick (.t 19) (.t 27) xF),
 qe 17 29 (.pick (.t 15) xT (.t 28))]
def r5:List Ent:=[
 qe 0 2 (.mv xF)]
def r6:List Ent:=[
 qe 0 30 (qK .add 7 1),
 qm 1 7 30]
def b0:KC:=.seq (.reg 320 1 r2) (.seq (.cond (.t 8) (.skip) (.exit 0)) (.seq (.block 1 (.seq (.reg 384 6 r3) (.seq (.reg 768 18 r4) (.cond (.t 29) (.seq (.reg 1920 1 r5) (.ret)) (.skip))))) (.reg 1984 2 r6)))
def r7:List Ent:=[
 qm 0 31 0,
 qe 1 32 (qZ 31),
 qc 2 33 (qC ZaO [.t 32,xN 1,xN 20]),
 qm 3 34 33,
 qt 4 35 34 (qM 0),
 qt 5 36 34 (qM 0),
 qt 6 37 34 (qZ 36),
 qt 7 38 34 (qK .sub 37 1),
 qt 8 39 34 (qI 6 35 38),
 qt 9 40 34 (qD 0 39),
 qt 10 41 34 (qL 1 40),
 qt 11 42 34 (qK .eql 41 11),
 qe 12 43 (.pick (.t 34) (.t 42) xF),
 qm 13 2 43]
def fi:FI:={ res:=[.t 2],code:=.seq (.reg 64 1 r0) (.seq (.seq (.reg 128 3 r1) (.block 0 (.loop b0))) (.seq (.reg 2112 14 r7) (.ret))) }
attribute [go_sem] r0 r1 r2 r3 r4 r5 r6 r7
theorem ok:chkF prog Zbn 1 fi=true:=by kernel_rfl
end spec_GoodProgram
namespace spec_l13Const
def r0:List Ent:=[
 qe 0 2 (.box (.k (.agg [.dat none (.int .i64 0),.dat none (.int .i64 0)]))),
 qe 1 3 (.box (.k (.agg [.dat none (.int .i64 0),.dat none (.int .i64 0)])))]
def r1:List Ent:=[
 qm 0 4 0,
 qm 1 5 0,
 qe 2 6 (.bld [.t 4,.t 5]),
 qm 3 7 0,
 qe 4 8 (.bld [.t 7,.k (.dat none (.int .i64 0))]),
 qs 5 (qW 2 2 6),
 qs 6 (qW 2 3 8)]
def fi:FI:={ res:=[.c 2 true 2,.c 3 true 2],code:=.seq (.reg 64 2 r0) (.seq (.reg 192 7 r1) (.ret)) }
attribute [go_sem] r0 r1
theorem ok:chkF prog Zbt 1 fi=true:=by kernel_rfl
end spec_l13Const
namespace spec_l9All
def r0:List Ent:=[
 qe 0 0 (.box (.k (.agg [.dat none (.int .i64 0),.dat none (.int .i64 0)])))]
def r1:List Ent:=[
 qe 0 1 (.bld [.k (.dat none (.int .i64 0)),xN 65535]),
 qs 1 (qW 2 0 1)]
def fi:FI:={ res:=[.c 0 true 2],code:=.seq (.reg 64 1 r0) (.seq (.reg 128 2 r1) (.ret)) }
attribute [go_sem] r0 r1
theorem ok:chkF prog Zcn 0 fi=true:=by kernel_rfl
end spec_l9All
namespace spec_StartMay
def r0:List Ent:=[
 qe 0 0 (.box (.k (.agg [.nil 2,.nil 2,.nil 2,.nil 1])))]
def r1:List Ent:=[
 qe 0 1 (.box (.k (.agg [.nil 2,.nil 2,.nil 2,.nil 1])))]
def r2:List Ent:=[
 qe 0 2 (.mv (xN 0))]
def r3:List Ent:=[
 qm 0 6 2,
 qe 1 7 (qK .lss 6 6)]
def r4:List Ent:=[
 qc 0 11 (qC Zbt [xN 0]),
 qm 1 10 11,
 qe 2 12 (qX 0 10),
 qe 3 13 (qX 1 10),
 qe 4 3 (.box (.k (.agg [.dat none (.int .i64 0),.dat none (.int .i64 0)]))),
 qe 5 4 (.box (.k (.agg [.dat none (.int .i64 0),.dat none (.int .i64 0)]))),
 qs 6 (qW 2 3 12),
 qs 7 (qW 2 4 13)]
def r5:List Ent:=[
 qe 0 14 (qD 0 1),
 qe 1 15 (qL 1 14),
 qe 2 16 (qA 2 3),
 qe 3 17 (.bsl true 2 [.t 16]),
 qe 4 18 (.app 2 16 (.t 15) (.t 17)),
 qe 5 19 (qD 0 1),
 qs 6 (qW 1 19 18)]
def r6:List Ent:=[
 qe 0 20 (qD 1 1),
 qe 1 21 (qL 1 20),
 qe 2 22 (qA 2 4),
 qe 3 23 (.bsl true 2 [.t 22]),
 qe 4 24 (.app 2 16 (.t 21) (.t 23)),
 qe 5 25 (qD 1 1),
 qs 6 (qW 1 25 24)]
def r7:List Ent:=[
 qm 0 8 2,
 qe 1 9 (qK .add 8 1),
 qm 2 2 9]
def b0:KC:=.seq (.seq (.reg 256 2 r3) (.cond (.t 7) (.skip) (.exit 0))) (.seq (.block 1 (.seq (.reg 384 8 r4) (.seq (.reg 896 7 r5) (.reg 1344 7 r6)))) (.reg 1792 3 r7))
def r8:List Ent:=[
 qe 0 5 (.mv (xN 0))]
def r9:List Ent:=[
 qm 0 26 5,
 qe 1 27 (qK .lss 26 16)]
def r10:List Ent:=[
 qx 0 30 (qD 2 1) 2 [3] [] false,
 qx 1 31 (qL 1 30) 2 [3] [] false,
  E2 2 (some 32) none (.call Zcn false (roA [])),
 EP 3 (some 33) none (.i (.bsl true 2 [.t 32])) 1 false,
 qe 4 34 (.app 2 16 (.t 31) (.t 33)),
 qe 5 35 (qD 2 1),
 qs 6 (qW 1 35 34)]
def r11:List Ent:=[
 qe 0 36 (qD 3 1),
 qe 1 37 (qL 1 36),
 qe 2 38 (.bsl true 1 [xF]),
 qe 3 39 (.app 1 1 (.t 37) (.t 38)),
 qe 4 40 (qD 3 1),
 qs 5 (qW 1 40 39)]
def r12:List Ent:=[
 qm 0 28 5,
 qe 1 29 (qK .add 28 1),
 qm 2 5 29]
def b1:KC:=.seq (.seq (.reg 2048 2 r9) (.cond (.t 27) (.skip) (.exit 2))) (.seq (.block 3 (.seq (.reg 2176 7 r10) (.reg 2624 6 r11))) (.reg 3008 3 r12))
def r13:List Ent:=[
 qe 0 41 (qA 4 1),
 qs 1 (qW 4 0 41)]
def fi:FI:={ res:=[.c 0 true 4],code:=.seq (.reg 64 1 r0) (.seq (.reg 128 1 r1) (.seq (.seq (.reg 192 1 r2) (.block 0 (.loop b0))) (.seq (.seq (.reg 1984 1 r8) (.block 2 (.loop b1))) (.seq (.reg 3200 2 r13) (.ret))))) }
attribute [go_sem] r0 r1 r2 r3 r4 r5 r6 r7 r8 r9 r10 r11 r12 r13
theorem ok:chkF prog ZcE 0 fi=true:=by kernel_rfl
end spec_StartMay
namespace spec_l1Most
def r0:List Ent:=[
 qe 0 4 (.mv (xN 0))]
def r1:List Ent:=[
 qm 0 5 0,
 qm 1 6 1,
 qe 2 7 (qB .gtr 5 6)]
def r2:List Ent:=[
 qm 0 8 0,
 qm 1 4 8]
def r3:List Ent:=[
 qm 0 9 1,
 qm 1 4 9]
def fi:FI:={ res:=[.t 4],code:=.seq (.reg 64 1 r0) (.seq (.seq (.reg 128 3 r1) (.cond (.t 7) (.seq (.reg 320 2 r2) (.ret)) (.skip))) (.seq (.reg 448 2 r3) (.ret))) }
attribute [go_sem] r0 r1 r2 r3
theorem ok:chkF prog ZaT 2 fi=true:=by kernel_rfl
end spec_l1Most
namespace spec_l1Least
def r0:List Ent:=[
 qe 0 4 (.mv (xN 0))]
def r1:List Ent:=[
 qm 0 5 0,
 qm 1 6 1,
 qe 2 7 (qB .lss 5 6)]
def r2:List Ent:=[
 qm 0 8 0,
 qm 1 4 8]
def r3:List Ent:=[
 qm 0 9 1,
 qm 1 4 9]
def fi:FI:={ res:=[.t 4],code:=.seq (.reg 64 1 r0) (.seq (.seq (.reg 128 3 r1) (.cond (.t 7) (.seq (.reg 320 2 r2) (.ret)) (.skip))) (.seq (.reg 448 2 r3) (.ret))) }
attribute [go_sem] r0 r1 r2 r3
theorem ok:chkF prog ZaM 2 fi=true:=by kernel_rfl
end spec_l1Least
namespace spec_l10May
def r0:List Ent:=[
 qe 0 2 (.box (.t 0)),
 qe 1 4 (.mv xF)]
def r1:List Ent:=[
 qm 0 5 1,
 qe 1 6 (qD 1 2),
 qe 2 7 (qL 1 6),
 qe 3 8 (qB .andNot 5 7),
 qe 4 9 (qD 0 2),
 qe 5 10 (qL 1 9),
 qe 6 11 (qB .eql 8 10),
 qm 7 4 11]
def fi:FI:={ res:=[.t 4],code:=.seq (.reg 64 2 r0) (.seq (.reg 192 8 r1) (.ret)) }
attribute [go_sem] r0 r1
theorem ok:chkF prog Zdc 2 fi=true:=by kernel_rfl
end spec_l10May
namespace spec_l13Reduce
def r0:List Ent:=[
 qe 0 2 (.box (.t 0)),
 qe 1 3 (.box (.t 1)),
 qe 2 4 (.box (.k (.agg [.dat none (.int .i64 0),.dat none (.int .i64 0)]))),
 qe 3 5 (.box (.k (.agg [.dat none (.int .i64 0),.dat none (.int .i64 0)]))),
 qe 4 6 (.mv xF)]
def r1:List Ent:=[
 qx 0 8 (qD 0 2) 2 [14] [] false,
 qx 1 9 (qL 1 8) 2 [14] [] false,
 qx 2 10 (qD 0 3) 2 [14] [] false,
 qx 3 11 (qL 1 10) 2 [14] [] false,
 EX 4 (some 12) none (.call ZaT false (roA [.t 9,.t 11])) 2 [14] [] false,
 qx 5 13 (qD 1 2) 2 [14] [] false,
 qx 6 14 (qL 1 13) 2 [14] [] false,
 qx 7 15 (qD 0 3) 2 [14] [] false,
 qx 8 16 (qL 1 15) 2 [14] [] false,
 qx 9 17 (qD 1 3) 2 [14] [] false,
 qx 10 18 (qL 1 17) 2 [14] [] false,
 qe 11 19 (qB .add 16 18),
 EX 12 (some 20) none (.call ZaM false (roA [.t 14,.t 19])) 2 [14] [] false,
 qx 13 21 (.bld [.t 12,.t 20]) 2 [14] [] false,
 EP 14 (some 7) none (.i (.box (.k (.agg [.dat none (.int .i64 0),.dat none (.int .i64 0)])))) 1 false,
 qs 15 (qW 2 7 21)]
def r2:List Ent:=[
 qe 0 22 (qD 0 7),
 qe 1 23 (qL 1 22),
 qe 2 24 (qD 1 7),
 qe 3 25 (qL 1 24),
 qe 4 26 (qB .gtr 23 25),
 qm 5 27 26,
 qf 6 28 27 (qD 0 7),
 qf 7 29 27 (qL 1 28),
 qf 8 30 27 (qD 1 7),
 qf 9 31 27 (qL 1 30),
 qf 10 32 27 (qB .eql 29 31),
 qf 11 33 27 (qM 32),
 qt 12 34 33 (qA 2 3),
 qt 13 35 33 (qD 0 7),
 qt 14 36 33 (qL 1 35),
 qh 15 37 33 (qC Zdc [.t 34,.t 36]),
 qt 16 38 33 (qN 37),
 qf 17 39 27 (.pick (.t 33) (.t 38) xF),
 qe 18 40 (.pick (.t 27) xT (.t 39))]
def r3:List Ent:=[
 qe 0 41 (.bld [.k (.dat none (.int .i64 0)),.k (.dat none (.int .i64 0))]),
 qe 1 42 (.bld [.k (.dat none (.int .i64 0)),.k (.dat none (.int .i64 0))]),
 qs 2 (qW 2 4 41),
 qs 3 (qW 2 5 42),
 qe 4 6 (.mv xF)]
def r4:List Ent:=[
 qe 0 43 (qD 0 7),
 qe 1 44 (qL 1 43),
 qe 2 45 (qD 1 7),
 qe 3 46 (qL 1 45),
 qe 4 47 (qB .eql 44 46)]
def r5:List Ent:=[
 qe 0 48 (qD 0 7),
 qe 1 49 (qL 1 48),
 qe 2 50 (.bld [.t 49,.k (.dat none (.int .i64 0))]),
 qs 3 (qW 2 3 50)]
def r6:List Ent:=[
 qr 0 51 (qA 2 7),
 EP 2 none none (.i (qW 2 4 51)) 0 true,
 qx 1 52 (qA 2 3) 2 [] [2] false,
 qs 3 (qW 2 5 52),
 qe 4 6 (.mv xT)]
def fi:FI:={ res:=[.c 4 true 2,.c 5 true 2,.t 6],code:=.seq (.reg 64 5 r0) (.seq (.reg 384 16 r1) (.seq (.seq (.reg 1408 19 r2) (.cond (.t 40) (.seq (.reg 2624 5 r3) (.ret)) (.skip))) (.seq (.seq (.reg 2944 5 r4) (.cond (.t 47) (.reg 3264 4 r5) (.skip))) (.seq (.reg 3520 5 r6) (.ret))))) }
attribute [go_sem] r0 r1 r2 r3 r4 r5 r6
theorem ok:chkF prog ZbH 2 fi=true:=by kernel_rfl
end spec_l13Reduce
namespace spec_l13Set
def r0:List Ent:=[
 qe 0 4 (.box (.t 0)),
 qe 1 6 (.box (.t 2)),
 qe 2 7 (.box (.t 3)),
 qe 3 8 (.box (.k (.agg [.nil 2,.nil 2,.nil 2,.nil 1])))]
def r1:List Ent:=[
 qe 0 13 (qA 2 6),
 qe 1 14 (qA 2 7),
 qc 2 15 (qC ZbH [.t 13,.t 14]),
 qm 3 12 15,
 qe 4 16 (qX 0 12),
 qe 5 17 (qX 1 12),
 qe 6 18 (qX 2 12),
 qe 7 9 (.box (.k (.agg [.dat none (.int .i64 0),.dat none (.int .i64 0)]))),
 qe 8 10 (.box (.k (.agg [.dat none (.int .i64 0),.dat none (.int .i64 0)]))),
 qs 9 (qW 2 9 16),
 qs 10 (qW 2 10 17),
 qm 11 11 18]
def r2:List Ent:=[
 qm 0 19 11]
def r3:List Ent:=[
 qe 0 20 (qA 2 9),
 qs 1 (qW 2 6 20)]
def r4:List Ent:=[
 qe 0 21 (qA 2 10),
 qs 1 (qW 2 7 21)]
def r5:List Ent:=[
 qe 0 22 (qD 0 4),
 qe 1 23 (qL 1 22),
 qm 2 24 1,
 qe 3 25 (qA 2 6),
 qe 4 26 (qI 2 23 24),
 qs 5 (qW 2 26 25)]
def r6:List Ent:=[
 qe 0 27 (qD 1 4),
 qe 1 28 (qL 1 27),
 qm 2 29 1,
 qe 3 30 (qA 2 7),
 qe 4 31 (qI 2 28 29),
 qs 5 (qW 2 31 30)]
def r7:List Ent:=[
 qe 0 32 (qA 4 4),
 qs 1 (qW 4 8 32)]
def fi:FI:={ res:=[.c 8 true 4],code:=.seq (.reg 64 4 r0) (.seq (.seq (.reg 320 12 r1) (.seq (.reg 1088 1 r2) (.cond (.t 19) (.seq (.reg 1152 2 r3) (.reg 1280 2 r4)) (.skip)))) (.seq (.reg 1408 6 r5) (.seq (.reg 1792 6 r6) (.seq (.reg 2176 2 r7) (.ret))))) }
attribute [go_sem] r0 r1 r2 r3 r4 r5 r6 r7
theorem ok:chkF prog Zbd 4 fi=true:=by kernel_rfl
end spec_l13Set
namespace spec_l1Wrap
def r0:List Ent:=[
 qe 0 2 (.mv (xN 0))]
def r1:List Ent:=[
 qm 0 3 0,
 qe 1 4 (qK .rem 3 65536),
 qe 2 5 (qK .add 4 65536),
 qe 3 6 (qK .rem 5 65536),
 qm 4 2 6]
def fi:FI:={ res:=[.t 2],code:=.seq (.reg 64 1 r0) (.seq (.reg 128 5 r1) (.ret)) }
attribute [go_sem] r0 r1
theorem ok:chkF prog Zax 1 fi=true:=by kernel_rfl
end spec_l1Wrap
namespace spec_l9Floor
def r0:List Ent:=[
 qe 0 2 (.mv (xN 0))]
def r1:List Ent:=[
 qm 0 3 0,
 qm 1 4 0,
 qc 2 5 (qV Zax 4),
 qe 3 6 (qB .sub 3 5),
 qe 4 7 (qK .quo 6 65536),
 qm 5 2 7]
def fi:FI:={ res:=[.t 2],code:=.seq (.reg 64 1 r0) (.seq (.reg 128 6 r1) (.ret)) }
attribute [go_sem] r0 r1
theorem ok:chkF prog Zch 1 fi=true:=by kernel_rfl
end spec_l9Floor
namespace spec_l9Ends
def r0:List Ent:=[
 qe 0 4 (.box (.k (.agg [.dat none (.int .i64 0),.dat none (.int .i64 0)])))]
def r1:List Ent:=[
 qm 0 5 0,
 qc 1 6 (qV Zch 5),
 qm 2 7 1,
 qc 3 8 (qV Zch 7),
 qe 4 9 (qB .neq 6 8)]
def r2:List Ent:=[
 qc 0 10 (qC Zcn []),
 qs 1 (qW 2 4 10)]
def r3:List Ent:=[
 qm 0 11 0,
 qc 1 12 (qV Zax 11),
 qm 2 13 1,
 qc 3 14 (qV Zax 13),
 qe 4 15 (.bld [.t 12,.t 14]),
 qs 5 (qW 2 4 15)]
def fi:FI:={ res:=[.c 4 true 2],code:=.seq (.reg 64 1 r0) (.seq (.seq (.reg 128 5 r1) (.cond (.t 9) (.seq (.reg 448 2 r2) (.ret)) (.skip))) (.seq (.reg 576 6 r3) (.ret))) }
attribute [go_sem] r0 r1 r2 r3
theorem ok:chkF prog ZbB 2 fi=true:=by kernel_rfl
end spec_l9Ends
namespace spec_l9Mod
def r0:List Ent:=[
 qe 0 2 (.box (.t 0)),
 qe 1 3 (.box (.t 1)),
 qe 2 4 (.box (.k (.agg [.dat none (.int .i64 0),.dat none (.int .i64 0)])))]
def r1:List Ent:=[
 qe 0 6 (qD 1 2),
 qe 1 7 (qL 1 6),
 qe 2 8 (qD 0 3),
 qe 3 9 (qL 1 8),
 qe 4 10 (qB .lss 7 9)]
def r2:List Ent:=[
 qe 0 11 (qA 2 2),
 qs 1 (qW 2 4 11)]
def r3:List Ent:=[
 qe 0 12 (qD 1 2),
 qe 1 13 (qL 1 12),
 qm 2 5 13]
def r4:List Ent:=[
 qe 0 14 (qD 0 3),
 qe 1 15 (qL 1 14),
 qe 2 16 (qK .gtr 15 0)]
def r5:List Ent:=[
 qm 0 17 5,
 qe 1 18 (qD 1 3),
 qe 2 19 (qL 1 18),
 qe 3 20 (qK .sub 19 1),
 qc 4 21 (qC ZaM [.t 17,.t 20]),
 qm 5 5 21]
def r6:List Ent:=[
 qm 0 22 5,
 qe 1 23 (.bld [.k (.dat none (.int .i64 0)),.t 22]),
 qs 2 (qW 2 4 23)]
def fi:FI:={ res:=[.c 4 true 2],code:=.seq (.reg 64 3 r0) (.seq (.seq (.reg 256 5 r1) (.cond (.t 10) (.seq (.reg 576 2 r2) (.ret)) (.skip))) (.seq (.reg 704 3 r3) (.seq (.seq (.reg 896 3 r4) (.cond (.t 16) (.reg 1088 6 r5) (.skip))) (.seq (.reg 1472 3 r6) (.ret))))) }
attribute [go_sem] r0 r1 r2 r3 r4 r5 r6
theorem ok:chkF prog ZdL 2 fi=true:=by kernel_rfl
end spec_l9Mod
namespace spec_l9Ones
def r0:List Ent:=[
 qe 0 2 (.mv (xN 0))]
def r1:List Ent:=[
 qe 0 3 (.mv (xN 0))]
def r2:List Ent:=[
 qm 0 4 3,
 qm 1 5 0,
 qe 2 6 (qB .lss 4 5)]
def r3:List Ent:=[
 qm 0 7 3,
 qe 1 8 (.bin .mul (xN 2) (.t 7)),
 qe 2 9 (qK .add 8 1),
 qm 3 3 9]
def b0:KC:=.seq (.seq (.reg 192 3 r2) (.cond (.t 6) (.skip) (.exit 0))) (.block 1 (.reg 384 4 r3))
def r4:List Ent:=[
 qm 0 10 3,
 qm 1 2 10]
def fi:FI:={ res:=[.t 2],code:=.seq (.reg 64 1 r0) (.seq (.reg 128 1 r1) (.seq (.block 0 (.loop b0)) (.seq (.reg 640 2 r4) (.ret)))) }
attribute [go_sem] r0 r1 r2 r3 r4
theorem ok:chkF prog Zcy 1 fi=true:=by kernel_rfl
end spec_l9Ones
namespace spec_l9Shift
def r0:List Ent:=[
 qe 0 4 (.box (.t 1)),
 qe 1 5 (.box (.t 2)),
 qe 2 6 (.box (.k (.agg [.dat none (.int .i64 0),.dat none (.int .i64 0)])))]
def r1:List Ent:=[
 qm 0 7 0,
 qe 1 8 (qK .eql 7 9)]
def r2:List Ent:=[
 qe 0 9 (qD 0 5),
 qe 1 10 (qL 1 9),
 qe 2 11 (qD 1 5),
 qe 3 12 (qL 1 11),
 qe 4 13 (qB .neq 10 12)]
def r3:List Ent:=[
 qc 0 14 (qC Zcn []),
 qs 1 (qW 2 6 14)]
def r4:List Ent:=[
 qe 0 15 (qD 0 4),
 qe 1 16 (qL 1 15),
 qe 2 17 (qD 0 5),
 qe 3 18 (qL 1 17),
 qe 4 19 (qK .rem 18 16),
 qe 5 20 (.cnv .u64 (.t 19)),
 qe 6 21 (qB .shl 16 20),
 qe 7 22 (qD 1 4),
 qe 8 23 (qL 1 22),
 qe 9 24 (qD 0 5),
 qe 10 25 (qL 1 24),
 qe 11 26 (qK .rem 25 16),
 qe 12 27 (.cnv .u64 (.t 26)),
 qe 13 28 (qB .shl 23 27),
 qc 14 29 (qC ZbB [.t 21,.t 28]),
 qs 15 (qW 2 6 29)]
def r5:List Ent:=[
 qe 0 30 (qD 0 5),
 qe 1 31 (qL 1 30),
 qe 2 32 (qD 1 5),
 qe 3 33 (qL 1 32),
 qe 4 34 (qB .neq 31 33)]
def r6:List Ent:=[
 qe 0 35 (qD 1 4),
 qe 1 36 (qL 1 35),
 qe 2 37 (.bld [.k (.dat none (.int .i64 0)),.t 36]),
 qs 3 (qW 2 6 37)]
def r7:List Ent:=[
 qe 0 38 (qD 0 4),
 qe 1 39 (qL 1 38),
 qe 2 40 (qD 0 5),
 qe 3 41 (qL 1 40),
 qe 4 42 (qK .rem 41 16),
 qe 5 43 (.cnv .u64 (.t 42)),
 qe 6 44 (qB .shr 39 43),
 qe 7 45 (qD 1 4),
 qe 8 46 (qL 1 45),
 qe 9 47 (qD 0 5),
 qe 10 48 (qL 1 47),
 qe 11 49 (qK .rem 48 16),
 qe 12 50 (.cnv .u64 (.t 49)),
 qe 13 51 (qB .shr 46 50),
 qe 14 52 (.bld [.t 44,.t 51]),
 qs 15 (qW 2 6 52)]
def fi:FI:={ res:=[.c 6 true 2],code:=.seq (.reg 64 3 r0) (.seq (.seq (.reg 256 2 r1) (.cond (.t 8) (.seq (.seq (.reg 384 5 r2) (.cond (.t 13) (.seq (.reg 704 2 r3) (.ret)) (.skip))) (.seq (.reg 832 16 r4) (.ret))) (.skip))) (.seq (.seq (.reg 1856 5 r5) (.cond (.t 34) (.seq (.reg 2176 4 r6) (.ret)) (.skip))) (.seq (.reg 2432 16 r7) (.ret)))) }
attribute [go_sem] r0 r1 r2 r3 r4 r5 r6 r7
theorem ok:chkF prog Zc0 3 fi=true:=by kernel_rfl
end spec_l9Shift
namespace spec_l9Do
def r0:List Ent:=[
 qe 0 4 (.box (.t 1)),
 qe 1 5 (.box (.t 2)),
 qe 2 6 (.box (.k (.agg [.dat none (.int .i64 0),.dat none (.int .i64 0)])))]
def r1:List Ent:=[
 qm 0 7 0]
def r2:List Ent:=[
 qe 0 9 (qK .eql 7 1),
 qm 1 8 9]
def r3:List Ent:=[
 qe 0 10 (qD 0 4),
 qe 1 11 (qL 1 10),
 qe 2 12 (qD 0 5),
 qe 3 13 (qL 1 12),
 qe 4 14 (qB .add 11 13),
 qe 5 15 (qD 1 4),
 qe 6 16 (qL 1 15),
 qe 7 17 (qD 1 5),
 qe 8 18 (qL 1 17),
 qe 9 19 (qB .add 16 18),
 qc 10 20 (qC ZbB [.t 14,.t 19]),
 qs 11 (qW 2 6 20)]
def r4:List Ent:=[
 qe 0 22 (qK .eql 7 2),
 qm 1 21 22]
def r5:List Ent:=[
 qe 0 23 (qD 0 4),
 qe 1 24 (qL 1 23),
 qe 2 25 (qD 1 5),
 qe 3 26 (qL 1 25),
 qe 4 27 (qB .sub 24 26),
 qe 5 28 (qD 1 4),
 qe 6 29 (qL 1 28),
 qe 7 30 (qD 0 5),
 qe 8 31 (qL 1 30),
 qe 9 32 (qB .sub 29 31),
 qc 10 33 (qC ZbB [.t 27,.t 32]),
 qs 11 (qW 2 6 33)]
def r6:List Ent:=[
 qe 0 35 (qK .eql 7 3),
 qm 1 34 35]
def r7:List Ent:=[
 qe 0 36 (qD 0 4),
 qe 1 37 (qL 1 36),
 qe 2 38 (qD 0 5),
 qe 3 39 (qL 1 38),
 qe 4 40 (qB .mul 37 39),
 qe 5 41 (qD 1 4),
 qe 6 42 (qL 1 41),
 qe 7 43 (qD 1 5),
 qe 8 44 (qL 1 43),
 qe 9 45 (qB .mul 42 44),
 qc 10 46 (qC ZbB [.t 40,.t 45]),
 qs 11 (qW 2 6 46)]
def r8:List Ent:=[
 qe 0 48 (qK .eql 7 4),
 qm 1 47 48]
def r9:List Ent:=[
 qe 0 49 (qD 0 5),
 qe 1 50 (qL 1 49),
 qe 2 51 (qK .eql 50 0)]
def r10:List Ent:=[
 qe 0 52 (qD 1 4),
 qe 1 53 (qL 1 52),
 qe 2 54 (.bld [.k (.dat none (.int .i64 0)),.t 53]),
 qs 3 (qW 2 6 54)]
def r11:List Ent:=[
 qr 0 55 (qD 0 4),
 qr 1 56 (qL 1 55),
 qr 2 57 (qD 1 5),
 qr 3 58 (qL 1 57),
 qe 4 59 (qB .quo 56 58),
 qr 5 60 (qD 1 4),
 qr 6 61 (qL 1 60),
 qr 7 62 (qD 0 5),
 qr 8 63 (qL 1 62),
 qe 9 64 (qB .quo 61 63),
 qe 10 65 (.bld [.t 59,.t 64]),
 qs 11 (qW 2 6 65)]
def r12:List Ent:=[
 qe 0 67 (qK .eql 7 5),
 qm 1 66 67]
def r13:List Ent:=[
 qe 0 68 (qA 2 4),
 qe 1 69 (qA 2 5),
 qc 2 70 (qC ZdL [.t 68,.t 69]),
 qs 3 (qW 2 6 70)]
def r14:List Ent:=[
 qe 0 72 (qK .eql 7 6),
 qm 1 71 72]
def r15:List Ent:=[
 qe 0 73 (qD 1 4),
 qe 1 74 (qL 1 73),
 qe 2 75 (qD 1 5),
 qe 3 76 (qL 1 75),
 qc 4 77 (qC ZaM [.t 74,.t 76]),
 qe 5 78 (.bld [.k (.dat none (.int .i64 0)),.t 77]),
 qs 6 (qW 2 6 78)]
def r16:List Ent:=[
 qe 0 80 (qK .eql 7 7),
 qm 1 79 80]
def r17:List Ent:=[
 qr 0 81 (qD 0 4),
 qr 1 82 (qL 1 81),
 qr 2 83 (qD 0 5),
 qr 3 84 (qL 1 83),
  E2 4 (some 85) none (.call ZaT false (roA [.t 82,.t 84])),
 qr 5 86 (qD 1 4),
 qr 6 87 (qL 1 86),
 qr 7 88 (qD 1 5),
 qr 8 89 (qL 1 88),
 qc 9 90 (qC ZaT [.t 87,.t 89]),
 qc 10 91 (qV Zcy 90),
 qe 11 92 (.bld [.t 85,.t 91]),
 qs 12 (qW 2 6 92)]
def r18:List Ent:=[
 qe 0 94 (qK .eql 7 8),
 qm 1 93 94]
def r19:List Ent:=[
 qe 0 95 (qD 1 4),
 qe 1 96 (qL 1 95),
 qe 2 97 (qD 1 5),
 qe 3 98 (qL 1 97),
 qc 4 99 (qC ZaT [.t 96,.t 98]),
 qc 5 100 (qV Zcy 99),
 qe 6 101 (.bld [.k (.dat none (.int .i64 0)),.t 100]),
 qs 7 (qW 2 6 101)]
def r20:List Ent:=[
 qm 0 102 0,
 qe 1 103 (qA 2 4),
 qe 2 104 (qA 2 5),
 qc 3 105 (qC Zc0 [.t 102,.t 103,.t 104]),
 qs 4 (qW 2 6 105)]
def fi:FI:={ res:=[.c 6 true 2],code:=.seq (.reg 64 3 r0) (.seq (.seq (.reg 256 1 r1) (.block 0 (.seq (.reg 320 2 r2) (.cond (.t 8) (.seq (.reg 448 12 r3) (.ret)) (.seq (.reg 1216 2 r4) (.cond (.t 21) (.seq (.reg 1344 12 r5) (.ret)) (.seq (.reg 2112 2 r6) (.cond (.t 34) (.seq (.reg 2240 12 r7) (.ret)) (.seq (.reg 3008 2 r8) (.cond (.t 47) (.seq (.seq (.reg 3136 3 r9) (.cond (.t 51) (.seq (.reg 3328 4 r10) (.ret)) (.skip))) (.seq (.reg 3584 12 r11) (.ret))) (.seq (.reg 4352 2 r12) (.cond (.t 66) (.seq (.reg 4480 4 r13) (.ret)) (.seq (.reg 4736 2 r14) (.cond (.t 71) (.seq (.reg 4864 7 r15) (.ret)) (.seq (.reg 5312 2 r16) (.cond (.t 79) (.seq (.reg 5440 13 r17) (.ret)) (.seq (.reg 6272 2 r18) (.cond (.t 93) (.seq (.reg 6400 8 r19) (.ret)) (.skip))))))))))))))))))) (.seq (.reg 6912 5 r20) (.ret))) }
attribute [go_sem] r0 r1 r2 r3 r4 r5 r6 r7 r8 r9 r10 r11 r12 r13 r14 r15 r16 r17 r18 r19 r20
theorem ok:chkF prog Zdh 3 fi=true:=by kernel_rfl
end spec_l9Do
namespace spec_l10Not
def r0:List Ent:=[
 qe 0 4 (.box (.k (.agg [.dat none (.int .i64 0),.dat none (.int .i64 0)])))]
def r1:List Ent:=[
 qm 0 5 0,
 qm 1 6 1,
 qe 2 7 (qB .andNot 5 6),
 qm 3 8 1,
 qe 4 9 (.bld [.t 7,.t 8]),
 qs 5 (qW 2 4 9)]
def fi:FI:={ res:=[.c 4 true 2],code:=.seq (.reg 64 1 r0) (.seq (.reg 128 6 r1) (.ret)) }
attribute [go_sem] r0 r1
theorem ok:chkF prog ZbO 2 fi=true:=by kernel_rfl
end spec_l10Not
namespace spec_l1Do
def r0:List Ent:=[
 qe 0 6 (.mv (xN 0))]
def r1:List Ent:=[
 qm 0 7 0]
def r2:List Ent:=[
 qe 0 9 (qK .eql 7 1),
 qm 1 8 9]
def r3:List Ent:=[
 qm 0 10 1,
 qm 1 11 2,
 qe 2 12 (qB .add 10 11),
 qc 3 13 (qV Zax 12),
 qm 4 6 13]
def r4:List Ent:=[
 qe 0 15 (qK .eql 7 2),
 qm 1 14 15]
def r5:List Ent:=[
 qm 0 16 1,
 qm 1 17 2,
 qe 2 18 (qB .sub 16 17),
 qc 3 19 (qV Zax 18),
 qm 4 6 19]
def r6:List Ent:=[
 qe 0 21 (qK .eql 7 3),
 qm 1 20 21]
def r7:List Ent:=[
 qm 0 22 1,
 qm 1 23 2,
 qe 2 24 (qB .mul 22 23),
 qc 3 25 (qV Zax 24),
 qm 4 6 25]
def r8:List Ent:=[
 qe 0 27 (qK .eql 7 4),
 qm 1 26 27]
def r9:List Ent:=[
 qm 0 28 2,
 qe 1 29 (qK .eql 28 0)]
def r10:List Ent:=[
 qe 0 6 (.mv (xN 0))]
def r11:List Ent:=[
 qm 0 30 1,
 qm 1 31 2,
 qe 2 32 (qB .quo 30 31),
 qm 3 6 32]
def r12:List Ent:=[
 qe 0 34 (qK .eql 7 5),
 qm 1 33 34]
def r13:List Ent:=[
 qm 0 35 2,
 qe 1 36 (qK .eql 35 0)]
def r14:List Ent:=[
 qm 0 37 1,
 qm 1 6 37]
def r15:List Ent:=[
 qm 0 38 1,
 qm 1 39 2,
 qe 2 40 (qB .rem 38 39),
 qm 3 6 40]
def r16:List Ent:=[
 qe 0 42 (qK .eql 7 6),
 qm 1 41 42]
def r17:List Ent:=[
 qm 0 43 1,
 qm 1 44 2,
 qe 2 45 (qB .and 43 44),
 qm 3 6 45]
def r18:List Ent:=[
 qe 0 47 (qK .eql 7 7),
 qm 1 46 47]
def r19:List Ent:=[
 qm 0 48 1,
 qm 1 49 2,
 qe 2 50 (qB .or 48 49),
 qm 3 6 50]
def r20:List Ent:=[
 qe 0 52 (qK .eql 7 8),
 qm 1 51 52]
def r21:List Ent:=[
 qm 0 53 1,
 qm 1 54 2,
 qe 2 55 (qB .xor 53 54),
 qm 3 6 55]
def r22:List Ent:=[
 qe 0 57 (qK .eql 7 9),
 qm 1 56 57]
def r23:List Ent:=[
 qm 0 58 1,
 qm 1 59 2,
 qe 2 60 (qK .rem 59 16),
 qe 3 61 (.cnv .u64 (.t 60)),
 qe 4 62 (qB .shl 58 61),
 qc 5 63 (qV Zax 62),
 qm 6 6 63]
def r24:List Ent:=[
 qm 0 64 1,
 qm 1 65 2,
 qe 2 66 (qK .rem 65 16),
 qe 3 67 (.cnv .u64 (.t 66)),
 qe 4 68 (qB .shr 64 67),
 qm 5 6 68]
def fi:FI:={ res:=[.t 6],code:=.seq (.reg 64 1 r0) (.seq (.seq (.reg 128 1 r1) (.block 0 (.seq (.reg 192 2 r2) (.cond (.t 8) (.seq (.reg 320 5 r3) (.ret)) (.seq (.reg 640 2 r4) (.cond (.t 14) (.seq (.reg 768 5 r5) (.ret)) (.seq (.reg 1088 2 r6) (.cond (.t 20) (.seq (.reg 1216 5 r7) (.ret)) (.seq (.reg 1536 2 r8) (.cond (.t 26) (.seq (.seq (.reg 1664 2 r9) (.cond (.t 29) (.seq (.reg 1792 1 r10) (.ret)) (.skip))) (.seq (.reg 1856 4 r11) (.ret))) (.seq (.reg 2112 2 r12) (.cond (.t 33) (.seq (.seq (.reg 2240 2 r13) (.cond (.t 36) (.seq (.reg 2368 2 r14) (.ret)) (.skip))) (.seq (.reg 2496 4 r15) (.ret))) (.seq (.reg 2752 2 r16) (.cond (.t 41) (.seq (.reg 2880 4 r17) (.ret)) (.seq (.reg 3136 2 r18) (.cond (.t 46) (.seq (.reg 3264 4 r19) (.ret)) (.seq (.reg 3520 2 r20) (.cond (.t 51) (.seq (.reg 3648 4 r21) (.ret)) (.seq (.reg 3904 2 r22) (.cond (.t 56) (.seq (.reg 4032 7 r23) (.ret)) (.skip))))))))))))))))))))) (.seq (.reg 4480 6 r24) (.ret))) }
attribute [go_sem] r0 r1 r2 r3 r4 r5 r6 r7 r8 r9 r10 r11 r12 r13 r14 r15 r16 r17 r18 r19 r20 r21 r22 r23 r24
theorem ok:chkF prog ZbK 3 fi=true:=by kernel_rfl
end spec_l1Do
namespace spec_l10Bits
def r0:List Ent:=[
 qe 0 4 (.box (.t 1)),
 qe 1 5 (.box (.t 2)),
 qe 2 6 (.box (.k (.agg [.dat none (.int .i64 0),.dat none (.int .i64 0)])))]
def r1:List Ent:=[
 qm 0 9 0]
def r2:List Ent:=[
 qe 0 11 (qK .eql 9 6),
 qm 1 10 11]
def r3:List Ent:=[
 qe 0 12 (qD 0 4),
 qe 1 13 (qL 1 12),
 qe 2 14 (qD 0 5),
 qe 3 15 (qL 1 14),
 qe 4 16 (qB .and 13 15),
 qm 5 7 16]
def r4:List Ent:=[
 qm 0 17 7,
 qe 1 18 (qD 0 4),
 qe 2 19 (qL 1 18),
 qe 3 20 (qD 1 4),
 qe 4 21 (qL 1 20),
 qe 5 22 (qB .or 19 21),
 qe 6 23 (qD 0 5),
 qe 7 24 (qL 1 23),
 qe 8 25 (qD 1 5),
 qe 9 26 (qL 1 25),
 qe 10 27 (qB .or 24 26),
 qe 11 28 (qB .and 22 27),
 qm 12 29 7,
 qe 13 30 (qB .andNot 28 29),
 qe 14 31 (.bld [.t 17,.t 30]),
 qs 15 (qW 2 6 31)]
def r5:List Ent:=[
 qe 0 33 (qK .eql 9 7),
 qm 1 32 33]
def r6:List Ent:=[
 qe 0 34 (qD 0 4),
 qe 1 35 (qL 1 34),
 qe 2 36 (qD 0 5),
 qe 3 37 (qL 1 36),
 qe 4 38 (qB .or 35 37),
 qm 5 8 38]
def r7:List Ent:=[
 qm 0 39 8,
 qe 1 40 (qD 1 4),
 qe 2 41 (qL 1 40),
 qe 3 42 (qD 1 5),
 qe 4 43 (qL 1 42),
 qe 5 44 (qB .or 41 43),
 qm 6 45 8,
 qe 7 46 (qB .andNot 44 45),
 qe 8 47 (.bld [.t 39,.t 46]),
 qs 9 (qW 2 6 47)]
def r8:List Ent:=[
 qe 0 48 (qD 0 4),
 qe 1 49 (qL 1 48),
 qe 2 50 (qD 0 5),
 qe 3 51 (qL 1 50),
 qe 4 52 (qB .xor 49 51),
 qe 5 53 (qD 1 4),
 qe 6 54 (qL 1 53),
 qe 7 55 (qD 1 5),
 qe 8 56 (qL 1 55),
 qe 9 57 (qB .or 54 56),
 qc 10 58 (qC ZbO [.t 52,.t 57]),
 qs 11 (qW 2 6 58)]
def fi:FI:={ res:=[.c 6 true 2],code:=.seq (.reg 64 3 r0) (.seq (.seq (.reg 256 1 r1) (.block 0 (.seq (.reg 320 2 r2) (.cond (.t 10) (.seq (.reg 448 6 r3) (.seq (.reg 832 16 r4) (.ret))) (.seq (.reg 1856 2 r5) (.cond (.t 32) (.seq (.reg 1984 6 r6) (.seq (.reg 2368 10 r7) (.ret))) (.skip))))))) (.seq (.reg 3008 12 r8) (.ret))) }
attribute [go_sem] r0 r1 r2 r3 r4 r5 r6 r7 r8
theorem ok:chkF prog ZcX 3 fi=true:=by kernel_rfl
end spec_l10Bits
namespace spec_l10Do
def r0:List Ent:=[
 qe 0 4 (.box (.t 1)),
 qe 1 5 (.box (.t 2)),
 qe 2 6 (.box (.k (.agg [.dat none (.int .i64 0),.dat none (.int .i64 0)])))]
def r1:List Ent:=[
 qm 0 12 0]
def r2:List Ent:=[
 qe 0 14 (qK .eql 12 6),
 qm 1 13 14]
def r3:List Ent:=[
 qe 0 15 (qK .eql 12 7),
 qm 1 13 15]
def r4:List Ent:=[
 qe 0 16 (qK .eql 12 8),
 qm 1 13 16]
def r5:List Ent:=[
 qm 0 17 0,
 qe 1 18 (qA 2 4),
 qe 2 19 (qA 2 5),
 qc 3 20 (qC ZcX [.t 17,.t 18,.t 19]),
 qs 4 (qW 2 6 20)]
def r6:List Ent:=[
 qe 0 22 (qK .eql 12 1),
 qm 1 21 22]
def r7:List Ent:=[
 qe 0 23 (qD 0 4),
 qe 1 24 (qL 1 23),
 qe 2 25 (qD 0 5),
 qe 3 26 (qL 1 25),
 qe 4 27 (qB .add 24 26),
 qc 5 28 (qV Zax 27),
 qm 6 7 28]
def r8:List Ent:=[
 qe 0 29 (qD 0 4),
 qe 1 30 (qL 1 29),
 qe 2 31 (qD 1 4),
 qe 3 32 (qL 1 31),
 qe 4 33 (qB .add 30 32),
 qe 5 34 (qD 0 5),
 qe 6 35 (qL 1 34),
 qe 7 36 (qB .add 33 35),
 qe 8 37 (qD 1 5),
 qe 9 38 (qL 1 37),
 qe 10 39 (qB .add 36 38),
 qc 11 40 (qV Zax 39),
 qm 12 8 40]
def r9:List Ent:=[
 qm 0 41 7,
 qe 1 42 (qD 1 4),
 qe 2 43 (qL 1 42),
 qe 3 44 (qD 1 5),
 qe 4 45 (qL 1 44),
 qe 5 46 (qB .or 43 45),
 qm 6 47 7,
 qm 7 48 8,
 qe 8 49 (qB .xor 47 48),
 qe 9 50 (qB .or 46 49),
 qc 10 51 (qC ZbO [.t 41,.t 50]),
 qs 11 (qW 2 6 51)]
def r10:List Ent:=[
 qe 0 53 (qK .eql 12 2),
 qm 1 52 53]
def r11:List Ent:=[
 qe 0 54 (qD 0 4),
 qe 1 55 (qL 1 54),
 qe 2 56 (qD 0 5),
 qe 3 57 (qL 1 56),
 qe 4 58 (qB .sub 55 57),
 qc 5 59 (qV Zax 58),
 qm 6 9 59]
def r12:List Ent:=[
 qm 0 60 9,
 qe 1 61 (qD 1 4),
 qe 2 62 (qL 1 61),
 qe 3 63 (qB .add 60 62),
 qc 4 64 (qV Zax 63),
 qm 5 10 64]
def r13:List Ent:=[
 qm 0 65 9,
 qe 1 66 (qD 1 5),
 qe 2 67 (qL 1 66),
 qe 3 68 (qB .sub 65 67),
 qc 4 69 (qV Zax 68),
 qm 5 11 69]
def r14:List Ent:=[
 qm 0 70 9,
 qe 1 71 (qD 1 4),
 qe 2 72 (qL 1 71),
 qe 3 73 (qD 1 5),
 qe 4 74 (qL 1 73),
 qe 5 75 (qB .or 72 74),
 qm 6 76 10,
 qm 7 77 11,
 qe 8 78 (qB .xor 76 77),
 qe 9 79 (qB .or 75 78),
 qc 10 80 (qC ZbO [.t 70,.t 79]),
 qs 11 (qW 2 6 80)]
def r15:List Ent:=[
 qe 0 82 (qK .eql 12 9),
 qm 1 81 82]
def r16:List Ent:=[
 qe 0 83 (qK .eql 12 10),
 qm 1 81 83]
def r17:List Ent:=[
 qe 0 84 (qD 1 5),
 qe 1 85 (qL 1 84),
 qe 2 86 (qK .eql 85 0)]
def r18:List Ent:=[
 qm 0 87 0,
 qr 1 88 (qD 0 4),
 qr 2 89 (qL 1 88),
 qr 3 90 (qD 0 5),
 qr 4 91 (qL 1 90),
  E2 5 (some 92) none (.call ZbK false (roA [.t 87,.t 89,.t 91])),
 qm 6 93 0,
 qr 7 94 (qD 1 4),
 qr 8 95 (qL 1 94),
 qr 9 96 (qD 0 5),
 qr 10 97 (qL 1 96),
 qc 11 98 (qC ZbK [.t 93,.t 95,.t 97]),
 qe 12 99 (.bld [.t 92,.t 98]),
 qs 13 (qW 2 6 99)]
def r19:List Ent:=[
 qe 0 100 (qD 1 4),
 qe 1 101 (qL 1 100),
 qe 2 102 (qK .eql 101 0),
 qm 3 103 102,
 qt 4 104 103 (qD 1 5),
 qt 5 105 103 (qL 1 104),
 qt 6 106 103 (qK .eql 105 0),
 qe 7 107 (.pick (.t 103) (.t 106) xF)]
def r20:List Ent:=[
 qm 0 108 0,
 qe 1 109 (qD 0 4),
 qe 2 110 (qL 1 109),
 qe 3 111 (qD 0 5),
 qe 4 112 (qL 1 111),
 qc 5 113 (qC ZbK [.t 108,.t 110,.t 112]),
 qe 6 114 (.bld [.t 113,.k (.dat none (.int .i64 0))]),
 qs 7 (qW 2 6 114)]
def r21:List Ent:=[
 qe 0 115 (.bld [.k (.dat none (.int .i64 0)),xN 65535]),
 qs 1 (qW 2 6 115)]
def fi:FI:={ res:=[.c 6 true 2],code:=.seq (.reg 64 3 r0) (.seq (.seq (.reg 256 1 r1) (.block 0 (.seq (.seq (.reg 320 2 r2) (.cond (.t 13) (.skip) (.seq (.reg 448 2 r3) (.cond (.t 13) (.skip) (.reg 576 2 r4))))) (.cond (.t 13) (.seq (.reg 704 5 r5) (.ret)) (.seq (.reg 1024 2 r6) (.cond (.t 21) (.seq (.reg 1152 7 r7) (.seq (.reg 1600 13 r8) (.seq (.reg 2432 12 r9) (.ret)))) (.seq (.reg 3200 2 r10) (.cond (.t 52) (.seq (.reg 3328 7 r11) (.seq (.reg 3776 6 r12) (.seq (.reg 4160 6 r13) (.seq (.reg 4544 12 r14) (.ret))))) (.seq (.seq (.reg 5312 2 r15) (.cond (.t 81) (.skip) (.reg 5440 2 r16))) (.cond (.t 81) (.seq (.reg 5568 3 r17) (.cond (.t 86) (.seq (.reg 5760 14 r18) (.ret)) (.skip))) (.skip))))))))))) (.seq (.seq (.reg 6656 8 r19) (.cond (.t 107) (.seq (.reg 7168 8 r20) (.ret)) (.skip))) (.seq (.reg 7680 2 r21) (.ret)))) }
attribute [go_sem] r0 r1 r2 r3 r4 r5 r6 r7 r8 r9 r10 r11 r12 r13 r14 r15 r16 r17 r18 r19 r20 r21
theorem ok:chkF prog ZcN 3 fi=true:=by kernel_rfl
end spec_l10Do
namespace spec_l13Step
def r0:List Ent:=[
 qe 0 2 (.box (.t 0)),
 qe 1 3 (.box (.t 1)),
 qe 2 4 (.box (.k (.agg [.nil 2,.nil 2,.nil 2,.nil 1]))),
 qe 3 5 (.mv (xN 0))]
def r1:List Ent:=[
 qe 0 10 (qD 0 2),
 qe 1 11 (qL 1 10)]
def r2:List Ent:=[
 qe 0 13 (qK .eql 11 1),
 qm 1 12 13]
def r3:List Ent:=[
 qr 0 14 (qA 4 3),
 qr 1 15 (qD 2 2),
 qr 2 16 (qL 1 15),
 qr 3 17 (qD 1 2),
 qr 4 18 (qL 1 17),
 qr 5 19 (qD 0 3),
 qr 6 20 (qL 1 19),
 qr 7 21 (qD 2 2),
 qr 8 22 (qL 1 21),
 qr 9 23 (qI 2 20 22),
 qr 10 24 (qA 2 23),
 qr 11 25 (qD 0 3),
 qr 12 26 (qL 1 25),
 qr 13 27 (qD 3 2),
 qr 14 28 (qL 1 27),
 qr 15 29 (qI 2 26 28),
 qr 16 30 (qA 2 29),
  E2 17 (some 31) none (.call Zdh false (roA [.t 18,.t 24,.t 30])),
 qr 18 32 (qD 1 2),
 qr 19 33 (qL 1 32),
 qr 20 34 (qD 1 3),
 qr 21 35 (qL 1 34),
 qr 22 36 (qD 2 2),
 qr 23 37 (qL 1 36),
 qr 24 38 (qI 2 35 37),
 qr 25 39 (qA 2 38),
 qr 26 40 (qD 1 3),
 qr 27 41 (qL 1 40),
 qr 28 42 (qD 3 2),
 qr 29 43 (qL 1 42),
 qr 30 44 (qI 2 41 43),
 qr 31 45 (qA 2 44),
  E2 32 (some 46) none (.call ZcN false (roA [.t 33,.t 39,.t 45])),
 qc 33 47 (.call Zbd false [(.co,.t 14),(.ro,.t 16),(.ro,.t 31),(.ro,.t 46)]),
 qs 34 (qW 4 4 47),
 qe 35 5 (.mv (xN 0))]
def r4:List Ent:=[
 qe 0 49 (qK .eql 11 2),
 qm 1 48 49]
def r5:List Ent:=[
 qe 0 51 (qD 4 2),
 qe 1 52 (qL 1 51),
 qc 2 53 (qV Zbt 52),
 qm 3 50 53,
 qe 4 54 (qX 0 50),
 qe 5 55 (qX 1 50),
 qe 6 6 (.box (.k (.agg [.dat none (.int .i64 0),.dat none (.int .i64 0)]))),
 qe 7 7 (.box (.k (.agg [.dat none (.int .i64 0),.dat none (.int .i64 0)]))),
 qs 8 (qW 2 6 54),
 qs 9 (qW 2 7 55)]
def r6:List Ent:=[
 qr 0 56 (qA 4 3),
 qr 1 57 (qD 2 2),
 qr 2 58 (qL 1 57),
 qr 3 59 (qD 1 2),
 qr 4 60 (qL 1 59),
 qr 5 61 (qD 0 3),
 qr 6 62 (qL 1 61),
 qr 7 63 (qD 2 2),
 qr 8 64 (qL 1 63),
 qr 9 65 (qI 2 62 64),
 qr 10 66 (qA 2 65),
 qr 11 67 (qA 2 6),
  E2 12 (some 68) none (.call Zdh false (roA [.t 60,.t 66,.t 67])),
 qr 13 69 (qD 1 2),
 qr 14 70 (qL 1 69),
 qr 15 71 (qD 1 3),
 qr 16 72 (qL 1 71),
 qr 17 73 (qD 2 2),
 qr 18 74 (qL 1 73),
 qr 19 75 (qI 2 72 74),
 qr 20 76 (qA 2 75),
 qr 21 77 (qA 2 7),
  E2 22 (some 78) none (.call ZcN false (roA [.t 70,.t 76,.t 77])),
 qc 23 79 (.call Zbd false [(.co,.t 56),(.ro,.t 58),(.ro,.t 68),(.ro,.t 78)]),
 qs 24 (qW 4 4 79),
 qe 25 5 (.mv (xN 0))]
def r7:List Ent:=[
 qe 0 81 (qK .eql 11 3),
 qm 1 80 81]
def r8:List Ent:=[
 qe 0 82 (qK .eql 11 4),
 qm 1 80 82]
def r9:List Ent:=[
 qe 0 84 (qD 4 2),
 qe 1 85 (qL 1 84),
 qc 2 86 (qV Zbt 85),
 qm 3 83 86,
 qe 4 87 (qX 0 83),
 qe 5 88 (qX 1 83),
 qe 6 8 (.box (.k (.agg [.dat none (.int .i64 0),.dat none (.int .i64 0)]))),
 qe 7 9 (.box (.k (.agg [.dat none (.int .i64 0),.dat none (.int .i64 0)]))),
 qs 8 (qW 2 8 87),
 qs 9 (qW 2 9 88)]
def r10:List Ent:=[
 qe 0 89 (qA 4 3),
 qe 1 90 (qD 2 2),
 qe 2 91 (qL 1 90),
 qe 3 92 (qA 2 8),
 qe 4 93 (qA 2 9),
 qc 5 94 (.call Zbd false [(.co,.t 89),(.ro,.t 91),(.ro,.t 92),(.ro,.t 93)]),
 qs 6 (qW 4 4 94),
 qe 7 5 (.mv (xN 0))]
def r11:List Ent:=[
 qe 0 96 (qK .eql 11 5),
 qm 1 95 96]
def r12:List Ent:=[
 qr 0 97 (qD 0 3),
 qr 1 98 (qL 1 97),
 qr 2 99 (qD 3 2),
 qr 3 100 (qL 1 99),
 qr 4 101 (qI 2 98 100),
 qr 5 102 (qD 1 101),
 qr 6 103 (qL 1 102),
 qr 7 104 (qD 4 2),
 qr 8 105 (qL 1 104),
 qe 9 106 (qB .add 103 105),
 qe 10 107 (qK .geq 106 8)]
def r13:List Ent:=[
 qe 0 108 (qA 4 3),
 qs 1 (qW 4 4 108),
 qe 2 5 (.mv (xN 1))]
def r14:List Ent:=[
 qe 0 109 (qA 4 3),
 qe 1 110 (qD 2 2),
 qe 2 111 (qL 1 110),
 qe 3 112 (.bld [.k (.dat none (.int .i64 0)),xN 255]),
 qe 4 113 (.bld [.k (.dat none (.int .i64 0)),xN 255]),
 qc 5 114 (.call Zbd false [(.co,.t 109),(.ro,.t 111),(.ro,.t 112),(.ro,.t 113)]),
 qs 6 (qW 4 4 114),
 qe 7 5 (.mv (xN 0))]
def r15:List Ent:=[
 qe 0 116 (qK .eql 11 7),
 qm 1 115 116]
def r16:List Ent:=[
 qe 0 117 (qK .eql 11 6),
 qm 1 115 117]
def r17:List Ent:=[
 qe 0 118 (qD 4 2),
 qe 1 119 (qL 1 118),
 qe 2 120 (qK .geq 119 16)]
def r18:List Ent:=[
 qe 0 121 (qA 4 3),
 qs 1 (qW 4 4 121),
 qe 2 5 (.mv (xN 2))]
def r19:List Ent:=[
 qe 0 122 (qD 0 2),
 qe 1 123 (qL 1 122),
 qe 2 124 (qK .eql 123 7)]
def r20:List Ent:=[
 qr 0 125 (qD 2 3),
 qr 1 126 (qL 1 125),
 qr 2 127 (qD 4 2),
 qr 3 128 (qL 1 127),
 qr 4 129 (qD 0 3),
 qr 5 130 (qL 1 129),
 qr 6 131 (qD 2 2),
 qr 7 132 (qL 1 131),
 qr 8 133 (qI 2 130 132),
 qr 9 134 (qA 2 133),
 qe 10 135 (qI 2 126 128),
 qs 11 (qW 2 135 134)]
def r21:List Ent:=[
 qe 0 136 (qD 3 3),
 qe 1 137 (qL 1 136),
 qe 2 138 (qD 4 2),
 qe 3 139 (qL 1 138),
 qe 4 140 (qI 1 137 139),
 qs 5 (.store 1 (.t 140) xT)]
def r22:List Ent:=[
 qe 0 141 (qA 4 3),
 qs 1 (qW 4 4 141),
 qe 2 5 (.mv (xN 0))]
def r23:List Ent:=[
 qe 0 142 (qD 3 3),
 qe 1 143 (qL 1 142),
 qe 2 144 (qD 4 2),
 qe 3 145 (qL 1 144),
 qe 4 146 (qI 1 143 145),
 qe 5 147 (qL 1 146),
 qe 6 148 (qN 147)]
def r24:List Ent:=[
 qe 0 149 (qA 4 3),
 qs 1 (qW 4 4 149),
 qe 2 5 (.mv (xN 3))]
def r25:List Ent:=[
 qr 0 150 (qA 4 3),
 qr 1 151 (qD 2 2),
 qr 2 152 (qL 1 151),
 qr 3 153 (qD 2 3),
 qr 4 154 (qL 1 153),
 qr 5 155 (qD 4 2),
 qr 6 156 (qL 1 155),
 qr 7 157 (qI 2 154 156),
 qr 8 158 (qA 2 157),
 qr 9 159 (.bld [.k (.dat none (.int .i64 0)),xN 65535]),
 qc 10 160 (.call Zbd false [(.co,.t 150),(.ro,.t 152),(.ro,.t 158),(.ro,.t 159)]),
 qs 11 (qW 4 4 160),
 qe 12 5 (.mv (xN 0))]
def r26:List Ent:=[
 qe 0 161 (qA 4 3),
 qs 1 (qW 4 4 161),
 qe 2 5 (.mv (xN 0))]
def fi:FI:={ res:=[.c 4 true 4,.t 5],code:=.seq (.reg 64 4 r0) (.seq (.seq (.reg 320 2 r1) (.block 0 (.seq (.reg 448 2 r2) (.cond (.t 12) (.seq (.reg 576 36 r3) (.ret)) (.seq (.reg 2880 2 r4) (.cond (.t 48) (.seq (.reg 3008 10 r5) (.seq (.reg 3648 26 r6) (.ret))) (.seq (.seq (.reg 5312 2 r7) (.cond (.t 80) (.skip) (.reg 5440 2 r8))) (.cond (.t 80) (.seq (.reg 5568 10 r9) (.seq (.reg 6208 8 r10) (.ret))) (.seq (.reg 6720 2 r11) (.cond (.t 95) (.seq (.seq (.reg 6848 11 r12) (.cond (.t 107) (.seq (.reg 7552 3 r13) (.ret)) (.skip))) (.seq (.reg 7744 8 r14) (.ret))) (.seq (.seq (.reg 8256 2 r15) (.cond (.t 115) (.skip) (.reg 8384 2 r16))) (.cond (.t 115) (.seq (.seq (.reg 8512 3 r17) (.cond (.t 120) (.seq (.reg 8704 3 r18) (.ret)) (.skip))) (.seq (.seq (.reg 8896 3 r19) (.cond (.t 124) (.seq (.reg 9088 12 r20) (.seq (.reg 9856 6 r21) (.seq (.reg 10240 3 r22) (.ret)))) (.skip))) (.seq (.seq (.reg 10432 7 r23) (.cond (.t 148) (.seq (.reg 10880 3 r24) (.ret)) (.skip))) (.seq (.reg 11072 13 r25) (.ret))))) (.skip))))))))))))) (.seq (.reg 11904 3 r26) (.ret))) }
attribute [go_sem] r0 r1 r2 r3 r4 r5 r6 r7 r8 r9 r10 r11 r12 r13 r14 r15 r16 r17 r18 r19 r20 r21 r22 r23 r24 r25 r26
theorem ok:chkF prog Zc2 2 fi=true:=by kernel_rfl
end spec_l13Step
namespace spec_l9Meet
def r0:List Ent:=[
 qe 0 2 (.box (.t 0)),
 qe 1 3 (.box (.t 1)),
 qe 2 4 (.box (.k (.agg [.dat none (.int .i64 0),.dat none (.int .i64 0)]))),
 qe 3 5 (.mv xF)]
def r1:List Ent:=[
 qx 0 7 (qD 0 2) 2 [11] [] false,
 qx 1 8 (qL 1 7) 2 [11] [] false,
 qx 2 9 (qD 0 3) 2 [11] [] false,
 qx 3 10 (qL 1 9) 2 [11] [] false,
 EX 4 (some 11) none (.call ZaT false (roA [.t 8,.t 10])) 2 [11] [] false,
 qx 5 12 (qD 1 2) 2 [11] [] false,
 qx 6 13 (qL 1 12) 2 [11] [] false,
 qx 7 14 (qD 1 3) 2 [11] [] false,
 qx 8 15 (qL 1 14) 2 [11] [] false,
 EX 9 (some 16) none (.call ZaM false (roA [.t 13,.t 15])) 2 [11] [] false,
 qx 10 17 (.bld [.t 11,.t 16]) 2 [11] [] false,
 EP 11 (some 6) none (.i (.box (.k (.agg [.dat none (.int .i64 0),.dat none (.int .i64 0)])))) 1 false,
 qs 12 (qW 2 6 17)]
def r2:List Ent:=[
 qe 0 18 (qD 0 6),
 qe 1 19 (qL 1 18),
 qe 2 20 (qD 1 6),
 qe 3 21 (qL 1 20),
 qe 4 22 (qB .gtr 19 21)]
def r3:List Ent:=[
 qe 0 23 (.bld [.k (.dat none (.int .i64 0)),.k (.dat none (.int .i64 0))]),
 qs 1 (qW 2 4 23),
 qe 2 5 (.mv xF)]
def r4:List Ent:=[
 qe 0 24 (qA 2 6),
 qs 1 (qW 2 4 24),
 qe 2 5 (.mv xT)]
def fi:FI:={ res:=[.c 4 true 2,.t 5],code:=.seq (.reg 64 4 r0) (.seq (.reg 320 13 r1) (.seq (.seq (.reg 1152 5 r2) (.cond (.t 22) (.seq (.reg 1472 3 r3) (.ret)) (.skip))) (.seq (.reg 1664 3 r4) (.ret)))) }
attribute [go_sem] r0 r1 r2 r3 r4
theorem ok:chkF prog Zdf 2 fi=true:=by kernel_rfl
end spec_l9Meet
namespace spec_l10Meet
def r0:List Ent:=[
 qe 0 2 (.box (.t 0)),
 qe 1 3 (.box (.t 1)),
 qe 2 4 (.box (.k (.agg [.dat none (.int .i64 0),.dat none (.int .i64 0)]))),
 qe 3 5 (.mv xF)]
def r1:List Ent:=[
 qe 0 6 (qD 0 2),
 qe 1 7 (qL 1 6),
 qe 2 8 (qD 0 3),
 qe 3 9 (qL 1 8),
 qe 4 10 (qB .xor 7 9),
 qe 5 11 (qD 1 2),
 qe 6 12 (qL 1 11),
 qe 7 13 (qD 1 3),
 qe 8 14 (qL 1 13),
 qe 9 15 (qB .or 12 14),
 qe 10 16 (qB .andNot 10 15),
 qe 11 17 (qK .neq 16 0)]
def r2:List Ent:=[
 qe 0 18 (.bld [.k (.dat none (.int .i64 0)),.k (.dat none (.int .i64 0))]),
 qs 1 (qW 2 4 18),
 qe 2 5 (.mv xF)]
def r3:List Ent:=[
 qe 0 19 (qD 0 2),
 qe 1 20 (qL 1 19),
 qe 2 21 (qD 0 3),
 qe 3 22 (qL 1 21),
 qe 4 23 (qB .or 20 22),
 qe 5 24 (qD 1 2),
 qe 6 25 (qL 1 24),
 qe 7 26 (qD 1 3),
 qe 8 27 (qL 1 26),
 qe 9 28 (qB .and 25 27),
 qe 10 29 (.bld [.t 23,.t 28]),
 qs 11 (qW 2 4 29),
 qe 12 5 (.mv xT)]
def fi:FI:={ res:=[.c 4 true 2,.t 5],code:=.seq (.reg 64 4 r0) (.seq (.seq (.reg 320 12 r1) (.cond (.t 17) (.seq (.reg 1088 3 r2) (.ret)) (.skip))) (.seq (.reg 1280 13 r3) (.ret))) }
attribute [go_sem] r0 r1 r2 r3
theorem ok:chkF prog ZcW 2 fi=true:=by kernel_rfl
end spec_l10Meet
namespace spec_l9Less
def r0:List Ent:=[
 qe 0 2 (.box (.t 0)),
 qe 1 3 (.box (.t 1)),
 qe 2 4 (.box (.k (.agg [.dat none (.int .i64 0),.dat none (.int .i64 0)]))),
 qe 3 5 (.box (.k (.agg [.dat none (.int .i64 0),.dat none (.int .i64 0)]))),
 qe 4 6 (.mv xF)]
def r1:List Ent:=[
 qe 0 7 (qD 0 2),
 qe 1 8 (qL 1 7),
 qe 2 9 (qD 1 3),
 qe 3 10 (qL 1 9),
 qe 4 11 (qB .geq 8 10)]
def r2:List Ent:=[
 qe 0 12 (.bld [.k (.dat none (.int .i64 0)),.k (.dat none (.int .i64 0))]),
 qe 1 13 (.bld [.k (.dat none (.int .i64 0)),.k (.dat none (.int .i64 0))]),
 qs 2 (qW 2 4 12),
 qs 3 (qW 2 5 13),
 qe 4 6 (.mv xF)]
def r3:List Ent:=[
 qr 0 14 (qD 0 2),
 qr 1 15 (qL 1 14),
 qr 2 16 (qD 1 2),
 qr 3 17 (qL 1 16),
 qr 4 18 (qD 1 3),
 qr 5 19 (qL 1 18),
 qe 6 20 (qK .sub 19 1),
  E2 7 (some 21) none (.call ZaM false (roA [.t 17,.t 20])),
 qr 8 22 (.bld [.t 15,.t 21]),
 qr 9 23 (qD 0 3),
 qr 10 24 (qL 1 23),
 qr 11 25 (qD 0 2),
 qr 12 26 (qL 1 25),
 qe 13 27 (qK .add 26 1),
  E2 14 (some 28) none (.call ZaT false (roA [.t 24,.t 27])),
 EP 18 none none (.i (qW 2 4 22)) 0 true,
 qx 15 29 (qD 1 3) 2 [] [18] false,
 qx 16 30 (qL 1 29) 2 [] [18] false,
 qx 17 31 (.bld [.t 28,.t 30]) 2 [] [18] false,
 qs 19 (qW 2 5 31),
 qe 20 6 (.mv xT)]
def fi:FI:={ res:=[.c 4 true 2,.c 5 true 2,.t 6],code:=.seq (.reg 64 5 r0) (.seq (.seq (.reg 384 5 r1) (.cond (.t 11) (.seq (.reg 704 5 r2) (.ret)) (.skip))) (.seq (.reg 1024 21 r3) (.ret))) }
attribute [go_sem] r0 r1 r2 r3
theorem ok:chkF prog Zdd 2 fi=true:=by kernel_rfl
end spec_l9Less
namespace spec_l13Heed
def r0:List Ent:=[
 qe 0 3 (.box (.t 0)),
 qe 1 4 (.box (.t 1)),
 qe 2 6 (.box (.k (.agg [.nil 2,.nil 2,.nil 2,.nil 1]))),
 qe 3 7 (.mv xF)]
def r1:List Ent:=[
 qe 0 17 (qD 0 4),
 qe 1 18 (qL 1 17),
 qe 2 19 (qD 2 3),
 qe 3 20 (qL 1 19),
 qe 4 21 (qI 2 18 20),
 qe 5 22 (qA 2 21),
 qe 6 8 (.box (.k (.agg [.dat none (.int .i64 0),.dat none (.int .i64 0)]))),
 qs 7 (qW 2 8 22)]
def r2:List Ent:=[
 qe 0 23 (qD 0 4),
 qe 1 24 (qL 1 23),
 qe 2 25 (qD 3 3),
 qe 3 26 (qL 1 25),
 qe 4 27 (qI 2 24 26),
 qe 5 28 (qA 2 27),
 qe 6 9 (.box (.k (.agg [.dat none (.int .i64 0),.dat none (.int .i64 0)]))),
 qs 7 (qW 2 9 28)]
def r3:List Ent:=[
 qe 0 29 (qA 2 8),
 qe 1 10 (.box (.k (.agg [.dat none (.int .i64 0),.dat none (.int .i64 0)]))),
 qs 2 (qW 2 10 29)]
def r4:List Ent:=[
 qe 0 30 (qA 2 9),
 qe 1 11 (.box (.k (.agg [.dat none (.int .i64 0),.dat none (.int .i64 0)]))),
 qs 2 (qW 2 11 30)]
def r5:List Ent:=[
 qe 0 12 (.mv xT)]
def r6:List Ent:=[
 qe 0 32 (qD 0 3),
 qe 1 33 (qL 1 32),
 qe 2 34 (qK .eql 33 9),
 qm 3 35 34,
 qt 4 36 35 (qM 2),
 qe 5 37 (.pick (.t 35) (.t 36) xF),
 qm 6 31 37]
def r7:List Ent:=[
 qe 0 39 (qA 2 8),
 qe 1 40 (qA 2 9),
 qc 2 41 (qC Zdf [.t 39,.t 40]),
 qm 3 38 41,
 qe 4 42 (qX 0 38),
 qe 5 43 (qX 1 38),
 qe 6 13 (.box (.k (.agg [.dat none (.int .i64 0),.dat none (.int .i64 0)]))),
 qs 7 (qW 2 13 42),
 qm 8 14 43]
def r8:List Ent:=[
 qx 0 45 (qD 1 4) 2 [16] [] false,
 qx 1 46 (qL 1 45) 2 [16] [] false,
 qx 2 47 (qD 2 3) 2 [16] [] false,
 qx 3 48 (qL 1 47) 2 [16] [] false,
 qx 4 49 (qI 2 46 48) 2 [16] [] false,
 qx 5 50 (qA 2 49) 2 [16] [] false,
 qx 6 51 (qD 1 4) 2 [16] [] false,
 qx 7 52 (qL 1 51) 2 [16] [] false,
 qx 8 53 (qD 3 3) 2 [16] [] false,
 qx 9 54 (qL 1 53) 2 [16] [] false,
 qx 10 55 (qI 2 52 54) 2 [16] [] false,
 qx 11 56 (qA 2 55) 2 [16] [] false,
 EX 12 (some 57) none (.call ZcW false (roA [.t 50,.t 56])) 2 [16] [] false,
 qm 13 44 57,
 qx 14 58 (qX 0 44) 2 [16] [] false,
 EP 16 (some 15) none (.i (.box (.k (.agg [.dat none (.int .i64 0),.dat none (.int .i64 0)])))) 1 false,
 EP 17 none none (.i (qW 2 15 58)) 0 true,
 qx 15 59 (qX 1 44) 2 [16] [17] false,
 qm 18 16 59]
def r9:List Ent:=[
 qm 0 60 14,
 qe 1 61 (qN 60),
 qm 2 62 61,
 qf 3 63 62 (qM 16),
 qf 4 64 62 (qN 63),
 qe 5 65 (.pick (.t 62) xT (.t 64))]
def r10:List Ent:=[
 qe 0 66 (.bld [.k (.nil 2),.k (.nil 2),.k (.nil 2),.k (.nil 1)]),
 qs 1 (qW 4 6 66),
 qe 2 7 (.mv xF)]
def r11:List Ent:=[
 qe 0 67 (qD 1 4),
 qe 1 68 (qL 1 67),
 qe 2 69 (qD 2 3),
 qe 3 70 (qL 1 69),
 qe 4 71 (qA 2 15),
 qe 5 72 (qI 2 68 70),
 qs 6 (qW 2 72 71)]
def r12:List Ent:=[
 qe 0 73 (qD 1 4),
 qe 1 74 (qL 1 73),
 qe 2 75 (qD 3 3),
 qe 3 76 (qL 1 75),
 qe 4 77 (qA 2 15),
 qe 5 78 (qI 2 74 76),
 qs 6 (qW 2 78 77)]
def r13:List Ent:=[
 qe 0 79 (qA 2 13),
 qs 1 (qW 2 10 79)]
def r14:List Ent:=[
 qe 0 80 (qA 2 13),
 qs 1 (qW 2 11 80)]
def r15:List Ent:=[
 qe 0 82 (qD 0 3),
 qe 1 83 (qL 1 82),
 qe 2 84 (qK .eql 83 10),
 qm 3 85 84,
 qt 4 86 85 (qM 2),
 qe 5 87 (.pick (.t 85) (.t 86) xF),
 qm 6 81 87]
def r16:List Ent:=[
 qe 0 89 (qA 2 8),
 qe 1 90 (qA 2 9),
 qc 2 91 (qC Zdd [.t 89,.t 90]),
 qm 3 88 91,
 qe 4 92 (qX 0 88),
 qe 5 93 (qX 1 88),
 qe 6 94 (qX 2 88),
 qs 7 (qW 2 10 92),
 qs 8 (qW 2 11 93),
 qm 9 12 94]
def r17:List Ent:=[
 qe 0 96 (qD 0 3),
 qe 1 97 (qL 1 96),
 qe 2 98 (qK .eql 97 10),
 qm 3 95 98]
def r18:List Ent:=[
 qe 0 99 (qD 1 8),
 qe 1 100 (qL 1 99),
 qe 2 101 (qD 0 9),
 qe 3 102 (qL 1 101),
 qe 4 103 (qB .geq 100 102),
 qm 5 12 103]
def r19:List Ent:=[
 qr 0 104 (qD 0 8),
 qr 1 105 (qL 1 104),
 qr 2 106 (qD 0 9),
 qr 3 107 (qL 1 106),
  E2 4 (some 108) none (.call ZaT false (roA [.t 105,.t 107])),
 qr 5 109 (qD 1 8),
 qr 6 110 (qL 1 109),
 qe 7 111 (.bld [.t 108,.t 110]),
 qs 8 (qW 2 10 111)]
def r20:List Ent:=[
 qr 0 112 (qD 0 9),
 qr 1 113 (qL 1 112),
 qr 2 114 (qD 1 8),
 qr 3 115 (qL 1 114),
 qr 4 116 (qD 1 9),
 qr 5 117 (qL 1 116),
  E2 6 (some 118) none (.call ZaM false (roA [.t 115,.t 117])),
 qe 7 119 (.bld [.t 113,.t 118]),
 qs 8 (qW 2 11 119)]
def r21:List Ent:=[
 qm 0 120 12,
 qe 1 121 (qN 120),
 qm 2 122 121,
 qf 3 123 122 (qD 2 3),
 qf 4 124 122 (qL 1 123),
 qf 5 125 122 (qD 3 3),
 qf 6 126 122 (qL 1 125),
 qf 7 127 122 (qB .eql 124 126),
 qf 8 128 122 (qM 127),
 qt 9 129 128 (qD 0 3),
 qt 10 130 128 (qL 1 129),
 qt 11 131 128 (qK .eql 130 10),
 qf 12 132 122 (.pick (.t 128) (.t 131) xF),
 qf 13 133 122 (qM 132),
 qt 14 134 133 (qM 2),
 qf 15 135 122 (.pick (.t 133) (.t 134) xF),
 qe 16 136 (.pick (.t 122) xT (.t 135))]
def r22:List Ent:=[
 qe 0 137 (.bld [.k (.nil 2),.k (.nil 2),.k (.nil 2),.k (.nil 1)]),
 qs 1 (qW 4 6 137),
 qe 2 7 (.mv xF)]
def r23:List Ent:=[
 qe 0 138 (qD 2 3),
 qe 1 139 (qL 1 138),
 qe 2 140 (qD 3 3),
 qe 3 141 (qL 1 140),
 qe 4 142 (qB .neq 139 141)]
def r24:List Ent:=[
 qe 0 143 (qD 0 4),
 qe 1 144 (qL 1 143),
 qe 2 145 (qD 2 3),
 qe 3 146 (qL 1 145),
 qe 4 147 (qA 2 10),
 qe 5 148 (qI 2 144 146),
 qs 6 (qW 2 148 147)]
def r25:List Ent:=[
 qe 0 149 (qD 0 4),
 qe 1 150 (qL 1 149),
 qe 2 151 (qD 3 3),
 qe 3 152 (qL 1 151),
 qe 4 153 (qA 2 11),
 qe 5 154 (qI 2 150 152),
 qs 6 (qW 2 154 153)]
def r26:List Ent:=[
 qe 0 155 (qA 4 4),
 qs 1 (qW 4 6 155),
 qe 2 7 (.mv xT)]
def fi:FI:={ res:=[.c 6 true 4,.t 7],code:=.seq (.reg 64 4 r0) (.seq (.reg 320 8 r1) (.seq (.reg 832 8 r2) (.seq (.reg 1344 3 r3) (.seq (.reg 1536 3 r4) (.seq (.reg 1728 1 r5) (.seq (.block 0 (.seq (.reg 1792 7 r6) (.cond (.t 31) (.seq (.reg 2240 9 r7) (.seq (.reg 2816 19 r8) (.seq (.seq (.reg 4032 6 r9) (.cond (.t 65) (.seq (.reg 4416 3 r10) (.ret)) (.skip))) (.seq (.reg 4608 7 r11) (.seq (.reg 5056 7 r12) (.seq (.reg 5504 2 r13) (.reg 5632 2 r14))))))) (.seq (.reg 5760 7 r15) (.cond (.t 81) (.reg 6208 10 r16) (.seq (.reg 6848 4 r17) (.cond (.t 95) (.seq (.reg 7104 6 r18) (.seq (.reg 7488 9 r19) (.reg 8064 9 r20))) (.skip)))))))) (.seq (.seq (.reg 8640 17 r21) (.cond (.t 136) (.seq (.reg 9728 3 r22) (.ret)) (.skip))) (.seq (.seq (.reg 9920 5 r23) (.cond (.t 142) (.seq (.reg 10240 7 r24) (.reg 10688 7 r25)) (.skip))) (.seq (.reg 11136 3 r26) (.ret)))))))))) }
attribute [go_sem] r0 r1 r2 r3 r4 r5 r6 r7 r8 r9 r10 r11 r12 r13 r14 r15 r16 r17 r18 r19 r20 r21 r22 r23 r24 r25 r26
theorem ok:chkF prog ZcV 3 fi=true:=by kernel_rfl
end spec_l13Heed
namespace spec_l2Nexts
def r0:List Ent:=[
 qe 0 4 (.mv (.k (.nil 1)))]
def r1:List Ent:=[
 qm 0 6 0,
 qm 1 7 1,
 qe 2 8 (qI 6 6 7),
 qe 3 9 (qA 6 8),
 qe 4 5 (.box (.k (.agg [.dat none (.int .i64 0),.dat none (.int .i64 0),.dat none (.int .i64 0),.dat none (.int .i64 0),.dat none (.int .i64 0),.dat none (.int .i64 0)]))),
 qs 5 (qW 6 5 9)]
def r2:List Ent:=[
 qe 0 10 (qD 0 5),
 qe 1 11 (qL 1 10)]
def r3:List Ent:=[
 qe 0 13 (qK .eql 11 11),
 qm 1 12 13]
def r4:List Ent:=[
 qe 0 4 (.mv (.k (.nil 1)))]
def r5:List Ent:=[
 qe 0 15 (qK .eql 11 8),
 qm 1 14 15]
def r6:List Ent:=[
 qm 0 16 1,
 qe 1 17 (qD 5 5),
 qe 2 18 (qL 1 17),
 qe 3 19 (qB .add 16 18),
 qe 4 20 (qK .add 19 1),
 qe 5 21 (.bsl false 1 [.t 20]),
 qm 6 4 21]
def r7:List Ent:=[
 qe 0 23 (qK .eql 11 9),
 qm 1 22 23]
def r8:List Ent:=[
 qe 0 24 (qK .eql 11 10),
 qm 1 22 24]
def r9:List Ent:=[
 qm 0 25 1,
 qe 1 26 (qK .add 25 1),
 qm 2 27 1,
 qe 3 28 (qD 5 5),
 qe 4 29 (qL 1 28),
 qe 5 30 (qB .add 27 29),
 qe 6 31 (qK .add 30 1),
 qe 7 32 (.bsl false 1 [.t 26,.t 31]),
 qm 8 4 32]
def r10:List Ent:=[
 qm 0 33 1,
 qe 1 34 (qK .add 33 1),
 qe 2 35 (.bsl false 1 [.t 34]),
 qm 3 4 35]
def fi:FI:={ res:=[.t 4],code:=.seq (.reg 64 1 r0) (.seq (.reg 128 6 r1) (.seq (.seq (.reg 512 2 r2) (.block 0 (.seq (.reg 640 2 r3) (.cond (.t 12) (.seq (.reg 768 1 r4) (.ret)) (.seq (.reg 832 2 r5) (.cond (.t 14) (.seq (.reg 960 7 r6) (.ret)) (.seq (.seq (.reg 1408 2 r7) (.cond (.t 22) (.skip) (.reg 1536 2 r8))) (.cond (.t 22) (.seq (.reg 1664 9 r9) (.ret)) (.skip))))))))) (.seq (.reg 2240 4 r10) (.ret)))) }
attribute [go_sem] r0 r1 r2 r3 r4 r5 r6 r7 r8 r9 r10
theorem ok:chkF prog Zci 2 fi=true:=by kernel_rfl
end spec_l2Nexts
namespace bits_Mul64
def r0:List Ent:=[
 qe 0 4 (.mv (.k (.dat none (.int .u64 0)))),
 qe 1 5 (.mv (.k (.dat none (.int .u64 0))))]
def r1:List Ent:=[
 qm 0 14 0,
 qe 1 15 (.bin .and (.t 14) (.k (.dat none (.int .u64 4294967295)))),
 qm 2 6 15]
def r2:List Ent:=[
 qm 0 16 0,
 qe 1 17 (.bin .shr (.t 16) (.k (.dat none (.int .u64 32)))),
 qm 2 7 17]
def r3:List Ent:=[
 qm 0 18 1,
 qe 1 19 (.bin .and (.t 18) (.k (.dat none (.int .u64 4294967295)))),
 qm 2 8 19]
def r4:List Ent:=[
 qm 0 20 1,
 qe 1 21 (.bin .shr (.t 20) (.k (.dat none (.int .u64 32)))),
 qm 2 9 21]
def r5:List Ent:=[
 qm 0 22 6,
 qm 1 23 8,
 qe 2 24 (qB .mul 22 23),
 qm 3 10 24]
def r6:List Ent:=[
 qm 0 25 7,
 qm 1 26 8,
 qe 2 27 (qB .mul 25 26),
 qm 3 28 10,
 qe 4 29 (.bin .shr (.t 28) (.k (.dat none (.int .u64 32)))),
 qe 5 30 (qB .add 27 29),
 qm 6 11 30]
def r7:List Ent:=[
 qm 0 31 11,
 qe 1 32 (.bin .and (.t 31) (.k (.dat none (.int .u64 4294967295)))),
 qm 2 12 32]
def r8:List Ent:=[
 qm 0 33 11,
 qe 1 34 (.bin .shr (.t 33) (.k (.dat none (.int .u64 32)))),
 qm 2 13 34]
def r9:List Ent:=[
 qm 0 35 12,
 qm 1 36 6,
 qm 2 37 9,
 qe 3 38 (qB .mul 36 37),
 qe 4 39 (qB .add 35 38),
 qm 5 12 39]
def r10:List Ent:=[
 qm 0 40 7,
 qm 1 41 9,
 qe 2 42 (qB .mul 40 41),
 qm 3 43 13,
 qe 4 44 (qB .add 42 43),
 qm 5 45 12,
 qe 6 46 (.bin .shr (.t 45) (.k (.dat none (.int .u64 32)))),
 qe 7 47 (qB .add 44 46),
 qm 8 4 47]
def r11:List Ent:=[
 qm 0 48 0,
 qm 1 49 1,
 qe 2 50 (qB .mul 48 49),
 qm 3 5 50]
def fi:FI:={ res:=[.t 4,.t 5],code:=.seq (.reg 64 2 r0) (.seq (.reg 192 3 r1) (.seq (.reg 384 3 r2) (.seq (.reg 576 3 r3) (.seq (.reg 768 3 r4) (.seq (.reg 960 4 r5) (.seq (.reg 1216 7 r6) (.seq (.reg 1664 3 r7) (.seq (.reg 1856 3 r8) (.seq (.reg 2048 6 r9) (.seq (.reg 2432 9 r10) (.seq (.reg 3008 4 r11) (.ret)))))))))))) }
attribute [go_sem] r0 r1 r2 r3 r4 r5 r6 r7 r8 r9 r10 r11
theorem ok:chkF prog ZdM 2 fi=true:=by kernel_rfl
end bits_Mul64
namespace bits_Mul
def r0:List Ent:=[
 qe 0 4 (.mv (.k (.dat none (.int .u64 0)))),
 qe 1 5 (.mv (.k (.dat none (.int .u64 0))))]
def r1:List Ent:=[
 qm 0 11 0,
 qe 1 12 (.cnv .u32 (.t 11)),
 qm 2 13 1,
 qe 3 14 (.cnv .u32 (.t 13)),
 qc 4 15 (qC ZhR [.t 12,.t 14]),
 qm 5 10 15,
 qe 6 16 (qX 0 10),
 qe 7 17 (qX 1 10),
 qm 8 6 16,
 qm 9 7 17]
def r2:List Ent:=[
 qm 0 18 6,
 qe 1 19 (.cnv .u64 (.t 18)),
 qm 2 20 7,
 qe 3 21 (.cnv .u64 (.t 20)),
 qm 4 4 19,
 qm 5 5 21]
def r3:List Ent:=[
 qm 0 23 0,
 qm 1 24 1,
 qc 2 25 (qC ZdM [.t 23,.t 24]),
 qm 3 22 25,
 qe 4 26 (qX 0 22),
 qe 5 27 (qX 1 22),
 qm 6 8 26,
 qm 7 9 27]
def r4:List Ent:=[
 qm 0 28 8,
 qm 1 29 9,
 qm 2 4 28,
 qm 3 5 29]
def fi:FI:={ res:=[.t 4,.t 5],code:=.seq (.reg 64 2 r0) (.seq (.cond xF (.seq (.reg 192 10 r1) (.seq (.reg 832 6 r2) (.ret))) (.skip)) (.seq (.reg 1216 8 r3) (.seq (.reg 1728 4 r4) (.ret)))) }
attribute [go_sem] r0 r1 r2 r3 r4
theorem ok:chkF prog Zfd 2 fi=true:=by kernel_rfl
end bits_Mul
namespace slices_Repeat__sStretch_Stretch
def r0:List Ent:=[
 qe 0 4 (.mv (.k (.nil 2)))]
def r1:List Ent:=[
 qm 0 9 1,
 qe 1 10 (qK .lss 9 0)]
def r2:List Ent:=[
 qe 0 11 (.no),
 qs 1 (.no)]
def r3:List Ent:=[
 qm 0 13 0,
 qe 1 14 (qZ 13),
 qe 2 15 (.cnv .u64 (.t 14)),
 qm 3 16 1,
 qe 4 17 (.cnv .u64 (.t 16)),
 qc 5 18 (qC Zfd [.t 15,.t 17]),
 qm 6 12 18,
 qe 7 19 (qX 0 12),
 qe 8 20 (qX 1 12),
 qm 9 5 19,
 qm 10 6 20]
def r4:List Ent:=[
 qm 0 21 5,
 qe 1 22 (.bin .gtr (.t 21) (.k (.dat none (.int .u64 0)))),
 qm 2 23 22,
 qf 3 24 23 (qM 6),
 qf 4 25 23 (.bin .gtr (.t 24) (.k (.dat none (.int .u64 9223372036854775807)))),
 qe 5 26 (.pick (.t 23) xT (.t 25))]
def r5:List Ent:=[
 qe 0 27 (.no),
 qs 1 (.no)]
def r6:List Ent:=[
 qm 0 28 6,
 qe 1 29 (.cnv .i64 (.t 28)),
 qe 2 30 (.mks 2 16 (.agg [.int .i64 0,.int .i64 0]) (.t 29) (.t 29)),
 qm 3 7 30]
def r7:List Ent:=[
 qm 0 31 7,
 qm 1 32 0,
 qe 2 33 (.cpy 2 (.t 31) (.t 32)),
 qm 3 8 33]
def r8:List Ent:=[
 qm 0 34 8,
 qm 1 35 7,
 qe 2 36 (qZ 35),
 qe 3 37 (qB .lss 34 36)]
def r9:List Ent:=[
 qm 0 38 8,
 qm 1 39 7,
 qm 2 40 8,
 qr 3 41 (.slc 2 (.t 39) (some (.t 40)) (none)),
 qm 4 42 7,
 qm 5 43 8,
 qr 6 44 (.slc 2 (.t 42) (none) (some (.t 43))),
 qe 7 45 (.cpy 2 (.t 41) (.t 44)),
 qe 8 46 (qB .add 38 45),
 qm 9 8 46]
def b0:KC:=.seq (.seq (.reg 2112 4 r8) (.cond (.t 37) (.skip) (.exit 0))) (.block 1 (.reg 2368 10 r9))
def r10:List Ent:=[
 qm 0 47 7,
 qm 1 4 47]
def fi:FI:={ res:=[.t 4],code:=.seq (.reg 64 1 r0) (.seq (.seq (.reg 128 2 r1) (.cond (.t 10) (.reg 256 2 r2) (.skip))) (.seq (.reg 384 11 r3) (.seq (.seq (.reg 1088 6 r4) (.cond (.t 26) (.reg 1472 2 r5) (.skip))) (.seq (.reg 1600 4 r6) (.seq (.reg 1856 4 r7) (.seq (.block 0 (.loop b0)) (.seq (.reg 3008 2 r10) (.ret)))))))) }
attribute [go_sem] r0 r1 r2 r3 r4 r5 r6 r7 r8 r9 r10
theorem ok:chkF prog ZaE 2 fi=true:=by kernel_rfl
end slices_Repeat__sStretch_Stretch
namespace impl_allWords
def r0:List Ent:=[
 qe 0 0 (.box (.k (.agg [.dat none (.int .i64 0),.dat none (.int .i64 0)])))]
def r1:List Ent:=[
 qe 0 1 (.bld [xN 0,xN 65535]),
 qs 1 (qW 2 0 1)]
def fi:FI:={ res:=[.c 0 true 2],code:=.seq (.reg 64 1 r0) (.seq (.reg 128 2 r1) (.ret)) }
attribute [go_sem] r0 r1
theorem ok:chkF prog Zbw 0 fi=true:=by kernel_rfl
end impl_allWords
namespace impl_StartMay
def r0:List Ent:=[
 qe 0 0 (.box (.k (.agg [.nil 2,.nil 2,.nil 2,.nil 1])))]
def r1:List Ent:=[
 qx 0 1 (.mks 2 16 (.agg [.int .i64 0,.int .i64 0]) (xN 6) (xN 6)) 1 [1,3,4,5] [] false,
 qx 1 2 (.mks 2 16 (.agg [.int .i64 0,.int .i64 0]) (xN 6) (xN 6)) 1 [0,3,4,5] [] false,
 EX 2 (some 3) none (.call Zbw false (roA [])) 2 [0,1,5] [] false,
 qx 3 4 (.bsl false 2 [.t 3]) 1 [0,1,5] [] false,
 EX 4 (some 5) none (.call ZaE false (roA [.t 4,xN 16])) 1 [0,1,5] [] false,
 qx 5 6 (.mks 1 1 (.bool false) (xN 16) (xN 16)) 1 [0,1,3,4] [] false,
 qe 6 7 (.bld [.t 1,.t 2,.t 5,.t 6]),
 qs 7 (qW 4 0 7)]
def fi:FI:={ res:=[.c 0 true 4],code:=.seq (.reg 64 1 r0) (.seq (.reg 128 8 r1) (.ret)) }
attribute [go_sem] r0 r1
theorem ok:chkF prog ZbP 0 fi=true:=by kernel_rfl
end impl_StartMay
namespace impl_in
def r0:List Ent:=[
 qe 0 6 (.mv xF)]
def r1:List Ent:=[
 qm 0 7 0,
 qm 1 8 1,
 qe 2 9 (qB .geq 7 8),
 qm 3 10 9,
 qt 4 11 10 (qM 0),
 qt 5 12 10 (qM 2),
 qt 6 13 10 (qB .leq 11 12),
 qe 7 14 (.pick (.t 10) (.t 13) xF),
 qm 8 6 14]
def fi:FI:={ res:=[.t 6],code:=.seq (.reg 64 1 r0) (.seq (.reg 128 9 r1) (.ret)) }
attribute [go_sem] r0 r1
theorem ok:chkF prog Zc8 3 fi=true:=by kernel_rfl
end impl_in
namespace impl_fields
def r0:List Ent:=[
 qe 0 2 (.mv (.k (.dat none (.str ⟨#[]⟩))))]
def r1:List Ent:=[
 qm 0 3 0]
def r2:List Ent:=[
 qe 0 5 (qK .eql 3 1),
 qm 1 4 5]
def r3:List Ent:=[
 qe 0 2 (.mv (.k (.dat none (.str ⟨#[111,100,115]⟩))))]
def r4:List Ent:=[
 qe 0 7 (qK .eql 3 2),
 qm 1 6 7]
def r5:List Ent:=[
 qe 0 2 (.mv (.k (.dat none (.str ⟨#[111,100,105]⟩))))]
def r6:List Ent:=[
 qe 0 9 (qK .eql 3 3),
 qm 1 8 9]
def r7:List Ent:=[
 qe 0 10 (qK .eql 3 4),
 qm 1 8 10]
def r8:List Ent:=[
 qe 0 11 (qK .eql 3 6),
 qm 1 8 11]
def r9:List Ent:=[
 qe 0 12 (qK .eql 3 7),
 qm 1 8 12]
def r10:List Ent:=[
 qe 0 2 (.mv (.k (.dat none (.str ⟨#[100,105]⟩))))]
def r11:List Ent:=[
 qe 0 14 (qK .eql 3 5),
 qm 1 13 14]
def r12:List Ent:=[
 qe 0 2 (.mv (.k (.dat none (.str ⟨#[100,115,105]⟩))))]
def r13:List Ent:=[
 qe 0 16 (qK .eql 3 8),
 qm 1 15 16]
def r14:List Ent:=[
 qe 0 2 (.mv (.k (.dat none (.str ⟨#[116]⟩))))]
def r15:List Ent:=[
 qe 0 18 (qK .eql 3 9),
 qm 1 17 18]
def r16:List Ent:=[
 qe 0 19 (qK .eql 3 10),
 qm 1 17 19]
def r17:List Ent:=[
 qe 0 2 (.mv (.k (.dat none (.str ⟨#[100,115,116]⟩))))]
def r18:List Ent:=[
 qe 0 2 (.mv (.k (.dat none (.str ⟨#[]⟩))))]
def fi:FI:={ res:=[.t 2],code:=.seq (.reg 64 1 r0) (.seq (.seq (.reg 128 1 r1) (.block 0 (.seq (.reg 192 2 r2) (.cond (.t 4) (.seq (.reg 320 1 r3) (.ret)) (.seq (.reg 384 2 r4) (.cond (.t 6) (.seq (.reg 512 1 r5) (.ret)) (.seq (.seq (.reg 576 2 r6) (.cond (.t 8) (.skip) (.seq (.reg 704 2 r7) (.cond (.t 8) (.skip) (.seq (.reg 832 2 r8) (.cond (.t 8) (.skip) (.reg 960 2 r9))))))) (.cond (.t 8) (.seq (.reg 1088 1 r10) (.ret)) (.seq (.reg 1152 2 r11) (.cond (.t 13) (.seq (.reg 1280 1 r12) (.ret)) (.seq (.reg 1344 2 r13) (.cond (.t 15) (.seq (.reg 1472 1 r14) (.ret)) (.seq (.seq (.reg 1536 2 r15) (.cond (.t 17) (.skip) (.reg 1664 2 r16))) (.cond (.t 17) (.seq (.reg 1792 1 r17) (.ret)) (.skip))))))))))))))) (.seq (.reg 1856 1 r18) (.ret))) }
attribute [go_sem] r0 r1 r2 r3 r4 r5 r6 r7 r8 r9 r10 r11 r12 r13 r14 r15 r16 r17 r18
theorem ok:chkF prog ZcA 1 fi=true:=by kernel_rfl
end impl_fields
namespace impl_Step_ranges
def r0:List Ent:=[
 qe 0 2 (.box (.t 0)),
 qe 1 4 (.mv (xN 0)),
 qe 2 5 (.mv (xN 0))]
def r1:List Ent:=[
 qm 0 7 1,
 qe 1 8 (.bin .eql (.t 7) (.k (.dat none (.int .u8 111)))),
 qm 2 6 8]
def r2:List Ent:=[
 qe 0 4 (.mv (xN 1)),
 qe 1 5 (.mv (xN 10))]
def r3:List Ent:=[
 qm 0 10 1,
 qe 1 11 (.bin .eql (.t 10) (.k (.dat none (.int .u8 100)))),
 qm 2 12 11,
 qf 3 13 12 (qM 1),
 qf 4 14 12 (.bin .eql (.t 13) (.k (.dat none (.int .u8 115)))),
 qe 5 15 (.pick (.t 12) xT (.t 14)),
 qm 6 9 15]
def r4:List Ent:=[
 qe 0 4 (.mv (xN 0)),
 qe 1 5 (.mv (xN 5))]
def r5:List Ent:=[
 qm 0 17 1,
 qe 1 18 (.bin .eql (.t 17) (.k (.dat none (.int .u8 116)))),
 qm 2 16 18]
def r6:List Ent:=[
 qe 0 4 (.mv (xN 1)),
 qe 1 5 (.mv (xN 19))]
def r7:List Ent:=[
 qe 0 20 (qD 0 2),
 qe 1 21 (qL 1 20),
 qe 2 22 (qK .eql 21 4),
 qm 3 19 22]
def r8:List Ent:=[
 qe 0 4 (.mv (xN 256)),
 qe 1 5 (.mv (xN 65535))]
def r9:List Ent:=[
 qe 0 24 (qD 0 2),
 qe 1 25 (qL 1 24),
 qe 2 26 (qK .eql 25 5),
 qm 3 23 26]
def r10:List Ent:=[
 qe 0 4 (.mv (xN 0)),
 qe 1 5 (.mv (xN 7))]
def r11:List Ent:=[
 qe 0 4 (.mv (xN 0)),
 qe 1 5 (.mv (xN 255))]
def fi:FI:={ res:=[.t 4,.t 5],code:=.seq (.reg 64 3 r0) (.seq (.block 0 (.seq (.reg 256 3 r1) (.cond (.t 6) (.seq (.reg 448 2 r2) (.ret)) (.seq (.reg 576 7 r3) (.cond (.t 9) (.seq (.reg 1024 2 r4) (.ret)) (.seq (.reg 1152 3 r5) (.cond (.t 16) (.seq (.reg 1344 2 r6) (.ret)) (.seq (.reg 1472 4 r7) (.cond (.t 19) (.seq (.reg 1728 2 r8) (.ret)) (.seq (.reg 1856 4 r9) (.cond (.t 23) (.seq (.reg 2112 2 r10) (.ret)) (.skip)))))))))))) (.seq (.reg 2240 2 r11) (.ret))) }
attribute [go_sem] r0 r1 r2 r3 r4 r5 r6 r7 r8 r9 r10 r11
theorem ok:chkF prog ZbT 2 fi=true:=by kernel_rfl
end impl_Step_ranges
namespace impl_Step_valid
def r0:List Ent:=[
 qe 0 1 (.box (.t 0)),
 qe 1 2 (.mv xF)]
def r1:List Ent:=[
 qe 0 8 (qA 6 1),
 qe 1 3 (.box (.k (.agg [.dat none (.int .i64 0),.dat none (.int .i64 0),.dat none (.int .i64 0),.dat none (.int .i64 0),.dat none (.int .i64 0),.dat none (.int .i64 0)]))),
 qs 2 (qW 6 3 8)]
def r2:List Ent:=[
 qe 0 9 (qD 0 3),
 qs 1 (.store 1 (.t 9) (xN 0))]
def r3:List Ent:=[
 qe 0 10 (qD 0 1),
 qe 1 11 (qL 1 10),
 qc 2 12 (qV ZcA 11),
 qe 3 13 (.lens (.t 12)),
 qe 4 14 (.mv (xN 0))]
def r4:List Ent:=[
 qe 0 15 (qB .lss 14 13)]
def r5:List Ent:=[
 qm 0 16 14,
 qm 1 4 16]
def r6:List Ent:=[
 qe 0 17 (qD 0 1),
 qe 1 18 (qL 1 17),
 qc 2 19 (qV ZcA 18),
 qm 3 20 4,
 qe 4 21 (.ids (.t 19) (.t 20)),
 qm 5 5 21]
def r7:List Ent:=[
 qe 0 23 (qA 6 1),
 qm 1 24 5,
 qc 2 25 (qC ZbT [.t 23,.t 24]),
 qm 3 22 25,
 qe 4 26 (qX 0 22),
 qe 5 27 (qX 1 22),
 qm 6 6 26,
 qm 7 7 27]
def r8:List Ent:=[
 qm 0 28 5,
 qc 1 29 (.fcl ZbX (.t 1) (.t 28)),
 qe 2 30 (.nck (.t 29)),
 qe 3 31 (qL 1 30),
 qm 4 32 6,
 qm 5 33 7,
 qc 6 34 (qC Zc8 [.t 31,.t 32,.t 33]),
 qe 7 35 (qN 34)]
def r9:List Ent:=[
 qe 0 2 (.mv xF)]
def r10:List Ent:=[
 qm 0 36 5,
 qc 1 37 (.fcl ZbX (.t 3) (.t 36)),
 qe 2 38 (.nck (.t 37)),
 qs 3 (.store 1 (.t 38) (xN 0))]
def r11:List Ent:=[
 qe 0 39 (qK .add 14 1),
 qm 1 14 39]
def b0:KC:=.seq (.reg 832 1 r4) (.seq (.cond (.t 15) (.skip) (.exit 0)) (.seq (.block 1 (.seq (.reg 896 2 r5) (.seq (.reg 1024 6 r6) (.seq (.reg 1408 8 r7) (.seq (.seq (.reg 1920 8 r8) (.cond (.t 35) (.seq (.reg 2432 1 r9) (.ret)) (.skip))) (.reg 2496 4 r10)))))) (.reg 2752 2 r11)))
def r12:List Ent:=[
 qe 0 40 (qD 0 1),
 qe 1 41 (qL 1 40),
 qc 2 42 (qC Zc8 [.t 41,xN 1,xN 11]),
 qm 3 43 42,
 qt 4 44 43 (qA 6 3),
 qt 5 45 43 (.bld [.k (.dat none (.int .i64 0)),.k (.dat none (.int .i64 0)),.k (.dat none (.int .i64 0)),.k (.dat none (.int .i64 0)),.k (.dat none (.int .i64 0)),.k (.dat none (.int .i64 0))]),
 qt 6 46 43 (.eqag 6 false (.t 44) (.t 45)),
 qe 7 47 (.pick (.t 43) (.t 46) xF),
 qm 8 2 47]
def fi:FI:={ res:=[.t 2],code:=.seq (.reg 64 2 r0) (.seq (.reg 192 3 r1) (.seq (.reg 384 2 r2) (.seq (.seq (.reg 512 5 r3) (.block 0 (.loop b0))) (.seq (.reg 2880 9 r12) (.ret))))) }
attribute [go_sem] r0 r1 r2 r3 r4 r5 r6 r7 r8 r9 r10 r11 r12
theorem ok:chkF prog Zb2 1 fi=true:=by kernel_rfl
end impl_Step_valid
namespace impl_Step_jumps
def r0:List Ent:=[
 qe 0 1 (.box (.t 0)),
 qe 1 2 (.mv xF)]
def r1:List Ent:=[
 qe 0 3 (qD 0 1),
 qe 1 4 (qL 1 3),
 qe 2 5 (qK .eql 4 8),
 qm 3 6 5,
 qf 4 7 6 (qD 0 1),
 qf 5 8 6 (qL 1 7),
 qf 6 9 6 (qK .eql 8 9),
 qe 7 10 (.pick (.t 6) xT (.t 9)),
 qm 8 11 10,
 qf 9 12 11 (qD 0 1),
 qf 10 13 11 (qL 1 12),
 qf 11 14 11 (qK .eql 13 10),
 qe 12 15 (.pick (.t 11) xT (.t 14)),
 qm 13 2 15]
def fi:FI:={ res:=[.t 2],code:=.seq (.reg 64 2 r0) (.seq (.reg 192 14 r1) (.ret)) }
attribute [go_sem] r0 r1
theorem ok:chkF prog Zb0 1 fi=true:=by kernel_rfl
end impl_Step_jumps
namespace impl_GoodProgram
def r0:List Ent:=[
 qe 0 2 (.mv xF)]
def r1:List Ent:=[
 qm 0 5 0,
 qe 1 6 (qZ 5),
 qc 2 7 (qC Zc8 [.t 6,xN 1,xN 20]),
 qe 3 8 (qN 7),
 qm 4 9 8,
 qf 5 10 9 (qM 0),
 qf 6 11 9 (qM 0),
 qf 7 12 9 (qZ 11),
 qf 8 13 9 (qK .sub 12 1),
 qf 9 14 9 (qI 6 10 13),
 qf 10 15 9 (qD 0 14),
 qf 11 16 9 (qL 1 15),
 qf 12 17 9 (qK .neq 16 11),
 qe 13 18 (.pick (.t 9) xT (.t 17))]
def r2:List Ent:=[
 qe 0 2 (.mv xF)]
def r3:List Ent:=[
 qm 0 19 0,
 qe 1 20 (qZ 19),
 qe 2 21 (.mv (xN 0))]
def r4:List Ent:=[
 qe 0 22 (qB .lss 21 20)]
def r5:List Ent:=[
 qm 0 23 21,
 qe 1 24 (qI 6 19 21),
 qe 2 25 (qA 6 24),
 qe 3 4 (.box (.k (.agg [.dat none (.int .i64 0),.dat none (.int .i64 0),.dat none (.int .i64 0),.dat none (.int .i64 0),.dat none (.int .i64 0),.dat none (.int .i64 0)]))),
 qm 4 3 23,
 qs 5 (qW 6 4 25)]
def r6:List Ent:=[
 qe 0 26 (qA 6 4),
 qc 1 27 (qV Zb2 26),
 qe 2 28 (qN 27),
 qm 3 29 28,
 qf 4 30 29 (qA 6 4),
 qj 5 31 29 (qV Zb0 30),
 qf 6 32 29 (qM 31),
 qt 7 33 32 (qM 3),
 qt 8 34 32 (qD 5 4),
 qt 9 35 32 (qL 1 34),
 qt 10 36 32 (qB .add 33 35),
 qt 11 37 32 (qK .add 36 1),
 qt 12 38 32 (qM 0),
 qt 13 39 32 (qZ 38),
 qt 14 40 32 (qB .geq 37 39),
 qf 15 41 29 (.pick (.t 32) (.t 40) xF),
 qe 16 42 (.pick (.t 29) xT (.t 41))]
def r7:List Ent:=[
 qe 0 2 (.mv xF)]
def r8:List Ent:=[
 qe 0 43 (qK .add 21 1),
 qm 1 21 43]
def b0:KC:=.seq (.reg 1280 1 r4) (.seq (.cond (.t 22) (.skip) (.exit 0)) (.seq (.block 1 (.seq (.reg 1344 6 r5) (.seq (.reg 1728 17 r6) (.cond (.t 42) (.seq (.reg 2816 1 r7) (.ret)) (.skip))))) (.reg 2880 2 r8)))
def r9:List Ent:=[
 qe 0 2 (.mv xT)]
def fi:FI:={ res:=[.t 2],code:=.seq (.reg 64 1 r0) (.seq (.seq (.reg 128 14 r1) (.cond (.t 18) (.seq (.reg 1024 1 r2) (.ret)) (.skip))) (.seq (.seq (.reg 1088 3 r3) (.block 0 (.loop b0))) (.seq (.reg 3008 1 r9) (.ret)))) }
attribute [go_sem] r0 r1 r2 r3 r4 r5 r6 r7 r8 r9
theorem ok:chkF prog Zbl 1 fi=true:=by kernel_rfl
end impl_GoodProgram
namespace slices_Clone__sStretch_Stretch
def r0:List Ent:=[
 qe 0 2 (.mv (.k (.nil 2)))]
def r1:List Ent:=[
 qm 0 3 0,
 qe 1 4 (.eqnil false (.t 3))]
def r2:List Ent:=[
 qe 0 2 (.mv (.k (.nil 2)))]
def r3:List Ent:=[
 qe 0 5 (.bsl false 2 []),
 qm 1 6 0,
 qe 2 7 (.app 2 16 (.t 5) (.t 6)),
 qm 3 2 7]
def fi:FI:={ res:=[.t 2],code:=.seq (.reg 64 1 r0) (.seq (.seq (.reg 128 2 r1) (.condu (.t 4) (.seq (.reg 256 1 r2) (.ret)) (.skip))) (.seq (.reg 320 4 r3) (.ret))) }
attribute [go_sem] r0 r1 r2 r3
theorem ok:chkF prog Zay 1 fi=true:=by kernel_rfl
end slices_Clone__sStretch_Stretch
namespace slices_Clone__sKnown_Known
def r0:List Ent:=[
 qe 0 2 (.mv (.k (.nil 2)))]
def r1:List Ent:=[
 qm 0 3 0,
 qe 1 4 (.eqnil false (.t 3))]
def r2:List Ent:=[
 qe 0 2 (.mv (.k (.nil 2)))]
def r3:List Ent:=[
 qe 0 5 (.bsl false 2 []),
 qm 1 6 0,
 qe 2 7 (.app 2 16 (.t 5) (.t 6)),
 qm 3 2 7]
def fi:FI:={ res:=[.t 2],code:=.seq (.reg 64 1 r0) (.seq (.seq (.reg 128 2 r1) (.condu (.t 4) (.seq (.reg 256 1 r2) (.ret)) (.skip))) (.seq (.reg 320 4 r3) (.ret))) }
attribute [go_sem] r0 r1 r2 r3
theorem ok:chkF prog ZaR 1 fi=true:=by kernel_rfl
end slices_Clone__sKnown_Known
namespace slices_Clone__sbool_bool
def r0:List Ent:=[
 qe 0 2 (.mv (.k (.nil 1)))]
def r1:List Ent:=[
 qm 0 3 0,
 qe 1 4 (.eqnil false (.t 3))]
def r2:List Ent:=[
 qe 0 2 (.mv (.k (.nil 1)))]
def r3:List Ent:=[
 qe 0 5 (.bsl false 1 []),
 qm 1 6 0,
 qe 2 7 (.app 1 1 (.t 5) (.t 6)),
 qm 3 2 7]
def fi:FI:={ res:=[.t 2],code:=.seq (.reg 64 1 r0) (.seq (.seq (.reg 128 2 r1) (.condu (.t 4) (.seq (.reg 256 1 r2) (.ret)) (.skip))) (.seq (.reg 320 4 r3) (.ret))) }
attribute [go_sem] r0 r1 r2 r3
theorem ok:chkF prog ZaJ 1 fi=true:=by kernel_rfl
end slices_Clone__sbool_bool
namespace impl_May_own
def r0:List Ent:=[
 qe 0 1 (.box (.t 0)),
 qe 1 2 (.box (.k (.agg [.nil 2,.nil 2,.nil 2,.nil 1])))]
def r1:List Ent:=[
 qr 0 3 (qD 0 1),
 qr 1 4 (qL 1 3),
 EP 2 (some 5) none (.call Zay false (roA [.t 4])) 1 false,
 qx 3 6 (qD 1 1) 2 [2] [] false,
 qx 4 7 (qL 1 6) 2 [2] [] false,
 EP 5 (some 8) none (.call ZaR false (roA [.t 7])) 1 false,
 qx 6 9 (qD 2 1) 2 [2,5] [] false,
 qx 7 10 (qL 1 9) 2 [2,5] [] false,
 EP 8 (some 11) none (.call Zay false (roA [.t 10])) 1 false,
 qx 9 12 (qD 3 1) 2 [2,5,8] [] false,
 qx 10 13 (qL 1 12) 2 [2,5,8] [] false,
 qc 11 14 (qV ZaJ 13),
 qe 12 15 (.bld [.t 5,.t 8,.t 11,.t 14]),
 qs 13 (qW 4 2 15)]
def fi:FI:={ res:=[.c 2 true 4],code:=.seq (.reg 64 2 r0) (.seq (.reg 192 14 r1) (.ret)) }
attribute [go_sem] r0 r1
theorem ok:chkF prog Zbh 1 fi=true:=by kernel_rfl
end impl_May_own
namespace impl_Known_matches
def r0:List Ent:=[
 qe 0 2 (.box (.t 0)),
 qe 1 4 (.mv xF)]
def r1:List Ent:=[
 qm 0 5 1,
 qe 1 6 (qD 1 2),
 qe 2 7 (qL 1 6),
 qe 3 8 (qB .andNot 5 7),
 qe 4 9 (qD 0 2),
 qe 5 10 (qL 1 9),
 qe 6 11 (qB .eql 8 10),
 qm 7 4 11]
def fi:FI:={ res:=[.t 4],code:=.seq (.reg 64 2 r0) (.seq (.reg 192 8 r1) (.ret)) }
attribute [go_sem] r0 r1
theorem ok:chkF prog ZbD 2 fi=true:=by kernel_rfl
end impl_Known_matches
namespace impl_exact
def r0:List Ent:=[
 qe 0 2 (.box (.k (.agg [.dat none (.int .i64 0),.dat none (.int .i64 0)])))]
def r1:List Ent:=[
 qm 0 3 0,
 qe 1 4 (.bld [.t 3,.k (.dat none (.int .i64 0))]),
 qs 2 (qW 2 2 4)]
def fi:FI:={ res:=[.c 2 true 2],code:=.seq (.reg 64 1 r0) (.seq (.reg 128 3 r1) (.ret)) }
attribute [go_sem] r0 r1
theorem ok:chkF prog ZbM 1 fi=true:=by kernel_rfl
end impl_exact
namespace impl_reduceBoth
def r0:List Ent:=[
 qe 0 2 (.box (.t 0)),
 qe 1 3 (.box (.t 1)),
 qe 2 4 (.box (.k (.agg [.dat none (.int .i64 0),.dat none (.int .i64 0)]))),
 qe 3 5 (.box (.k (.agg [.dat none (.int .i64 0),.dat none (.int .i64 0)]))),
 qe 4 6 (.mv xF)]
def r1:List Ent:=[
 qe 0 8 (qD 0 2),
 qe 1 9 (qL 1 8),
 qe 2 10 (qD 0 3),
 qe 3 11 (qL 1 10),
 qe 4 12 (.mnx true (.t 9) (.t 11)),
 qe 5 13 (qD 1 2),
 qe 6 14 (qL 1 13),
 qe 7 15 (qD 0 3),
 qe 8 16 (qL 1 15),
 qe 9 17 (qD 1 3),
 qe 10 18 (qL 1 17),
 qe 11 19 (qB .add 16 18),
 qe 12 20 (.mnx false (.t 14) (.t 19)),
 qe 13 21 (.bld [.t 12,.t 20]),
 qe 14 7 (.box (.k (.agg [.dat none (.int .i64 0),.dat none (.int .i64 0)]))),
 qs 15 (qW 2 7 21)]
def r2:List Ent:=[
 qe 0 22 (qD 0 7),
 qe 1 23 (qL 1 22),
 qe 2 24 (qD 1 7),
 qe 3 25 (qL 1 24),
 qe 4 26 (qB .gtr 23 25)]
def r3:List Ent:=[
 qe 0 27 (.bld [.k (.dat none (.int .i64 0)),.k (.dat none (.int .i64 0))]),
 qe 1 28 (.bld [.k (.dat none (.int .i64 0)),.k (.dat none (.int .i64 0))]),
 qs 2 (qW 2 4 27),
 qs 3 (qW 2 5 28),
 qe 4 6 (.mv xF)]
def r4:List Ent:=[
 qe 0 29 (qD 0 7),
 qe 1 30 (qL 1 29),
 qe 2 31 (qD 1 7),
 qe 3 32 (qL 1 31),
 qe 4 33 (qB .lss 30 32)]
def r5:List Ent:=[
 qr 0 34 (qA 2 7),
 EP 2 none none (.i (qW 2 4 34)) 0 true,
 qx 1 35 (qA 2 3) 2 [] [2] false,
 qs 3 (qW 2 5 35),
 qe 4 6 (.mv xT)]
def r6:List Ent:=[
 qe 0 36 (qA 2 3),
 qe 1 37 (qD 0 7),
 qe 2 38 (qL 1 37),
 qc 3 39 (qC ZbD [.t 36,.t 38]),
 qe 4 40 (qN 39)]
def r7:List Ent:=[
 qe 0 41 (.bld [.k (.dat none (.int .i64 0)),.k (.dat none (.int .i64 0))]),
 qe 1 42 (.bld [.k (.dat none (.int .i64 0)),.k (.dat none (.int .i64 0))]),
 qs 2 (qW 2 4 41),
 qs 3 (qW 2 5 42),
 qe 4 6 (.mv xF)]
def r8:List Ent:=[
 qr 0 43 (qA 2 7),
 qr 1 44 (qD 0 7),
 qr 2 45 (qL 1 44),
  E2 3 (some 46) none (.call ZbM false (roA [.t 45])),
 qs 4 (qW 2 4 43),
 qs 5 (qW 2 5 46),
 qe 6 6 (.mv xT)]
def fi:FI:={ res:=[.c 4 true 2,.c 5 true 2,.t 6],code:=.seq (.reg 64 5 r0) (.seq (.reg 384 16 r1) (.seq (.seq (.reg 1408 5 r2) (.cond (.t 26) (.seq (.reg 1728 5 r3) (.ret)) (.skip))) (.seq (.seq (.reg 2048 5 r4) (.cond (.t 33) (.seq (.reg 2368 5 r5) (.ret)) (.skip))) (.seq (.seq (.reg 2688 5 r6) (.cond (.t 40) (.seq (.reg 3008 5 r7) (.ret)) (.skip))) (.seq (.reg 3328 7 r8) (.ret)))))) }
attribute [go_sem] r0 r1 r2 r3 r4 r5 r6 r7 r8
theorem ok:chkF prog ZbA 2 fi=true:=by kernel_rfl
end impl_reduceBoth
namespace impl_pMay_put
def r0:List Ent:=[
 qe 0 6 (.box (.t 2)),
 qe 1 7 (.box (.t 3))]
def r1:List Ent:=[
 qe 0 12 (qA 2 6),
 qe 1 13 (qA 2 7),
 qc 2 14 (qC ZbA [.t 12,.t 13]),
 qm 3 11 14,
 qe 4 15 (qX 0 11),
 qe 5 16 (qX 1 11),
 qe 6 17 (qX 2 11),
 qe 7 8 (.box (.k (.agg [.dat none (.int .i64 0),.dat none (.int .i64 0)]))),
 qe 8 9 (.box (.k (.agg [.dat none (.int .i64 0),.dat none (.int .i64 0)]))),
 qs 9 (qW 2 8 15),
 qs 10 (qW 2 9 16),
 qm 11 10 17]
def r2:List Ent:=[
 qm 0 18 10]
def r3:List Ent:=[
 qr 0 19 (qA 2 8),
 EP 2 none none (.i (qW 2 6 19)) 0 true,
 qx 1 20 (qA 2 9) 2 [] [2] false,
 qs 3 (qW 2 7 20)]
def r4:List Ent:=[
 qm 0 21 0,
 qe 1 22 (.nck (.t 21)),
 qr 2 23 (qD 0 22),
 qr 3 24 (qL 1 23),
 qm 4 25 1,
 qm 5 26 0,
 qe 6 27 (.nck (.t 26)),
 qr 7 28 (qD 1 27),
 qr 8 29 (qL 1 28),
 qm 9 30 1,
 qr 10 31 (qA 2 6),
 qr 12 33 (qI 2 24 25),
 EP 13 none none (.i (qW 2 33 31)) 0 true,
 qx 11 32 (qA 2 7) 2 [] [13] false,
 qe 14 34 (qI 2 29 30),
 qs 15 (qW 2 34 32)]
def fi:FI:={ res:=[],code:=.seq (.reg 64 2 r0) (.seq (.seq (.reg 192 12 r1) (.seq (.reg 960 1 r2) (.cond (.t 18) (.reg 1024 4 r3) (.skip)))) (.reg 1280 16 r4)) }
attribute [go_sem] r0 r1 r2 r3 r4
theorem ok:chkF prog Zbs 4 fi=true:=by kernel_rfl
end impl_pMay_put
namespace impl_WordOf
def r0:List Ent:=[
 qe 0 2 (.mv (xN 0))]
def r1:List Ent:=[
 qm 0 3 0,
 qe 1 4 (qK .and 3 65535),
 qm 2 2 4]
def fi:FI:={ res:=[.t 2],code:=.seq (.reg 64 1 r0) (.seq (.reg 128 3 r1) (.ret)) }
attribute [go_sem] r0 r1
theorem ok:chkF prog ZaA 1 fi=true:=by kernel_rfl
end impl_WordOf
namespace impl_wrap
def r0:List Ent:=[
 qe 0 4 (.box (.k (.agg [.dat none (.int .i64 0),.dat none (.int .i64 0)])))]
def r1:List Ent:=[
 qm 0 5 0,
 qe 1 6 (.bin .shr (.t 5) (.k (.dat none (.int .u64 16)))),
 qm 2 7 1,
 qe 3 8 (.bin .shr (.t 7) (.k (.dat none (.int .u64 16)))),
 qe 4 9 (qB .neq 6 8)]
def r2:List Ent:=[
 qc 0 10 (qC Zbw []),
 qs 1 (qW 2 4 10)]
def r3:List Ent:=[
 qm 0 11 0,
 qc 1 12 (qV ZaA 11),
 qm 2 13 1,
 qc 3 14 (qV ZaA 13),
 qe 4 15 (.bld [.t 12,.t 14]),
 qs 5 (qW 2 4 15)]
def fi:FI:={ res:=[.c 4 true 2],code:=.seq (.reg 64 1 r0) (.seq (.seq (.reg 128 5 r1) (.cond (.t 9) (.seq (.reg 448 2 r2) (.ret)) (.skip))) (.seq (.reg 576 6 r3) (.ret))) }
attribute [go_sem] r0 r1 r2 r3
theorem ok:chkF prog Zb1 2 fi=true:=by kernel_rfl
end impl_wrap
namespace impl_ones
def r0:List Ent:=[
 qe 0 2 (.mv (xN 0))]
def r1:List Ent:=[
 qe 0 3 (.mv (xN 0))]
def r2:List Ent:=[
 qm 0 4 3,
 qm 1 5 0,
 qe 2 6 (qB .lss 4 5)]
def r3:List Ent:=[
 qm 0 7 3,
 qe 1 8 (.bin .mul (xN 2) (.t 7)),
 qe 2 9 (qK .add 8 1),
 qm 3 3 9]
def b0:KC:=.seq (.seq (.reg 192 3 r2) (.cond (.t 6) (.skip) (.exit 0))) (.block 1 (.reg 384 4 r3))
def r4:List Ent:=[
 qm 0 10 3,
 qm 1 2 10]
def fi:FI:={ res:=[.t 2],code:=.seq (.reg 64 1 r0) (.seq (.reg 128 1 r1) (.seq (.block 0 (.loop b0)) (.seq (.reg 640 2 r4) (.ret)))) }
attribute [go_sem] r0 r1 r2 r3 r4
theorem ok:chkF prog Zda 1 fi=true:=by kernel_rfl
end impl_ones
namespace impl_stretched
def r0:List Ent:=[
 qe 0 4 (.box (.t 1)),
 qe 1 5 (.box (.t 2)),
 qe 2 6 (.box (.k (.agg [.dat none (.int .i64 0),.dat none (.int .i64 0)])))]
def r1:List Ent:=[
 qe 0 9 (qD 0 5),
 qe 1 10 (qL 1 9),
 qe 2 11 (qK .rem 10 16),
 qe 3 12 (.bin .shl (xN 1) (.t 11)),
 qm 4 7 12]
def r2:List Ent:=[
 qe 0 13 (qD 0 5),
 qe 1 14 (qL 1 13),
 qe 2 15 (qD 1 5),
 qe 3 16 (qL 1 15),
 qe 4 17 (qB .eql 14 16),
 qm 5 8 17]
def r3:List Ent:=[
 qm 0 18 0]
def r4:List Ent:=[
 qe 0 20 (qK .eql 18 1),
 qm 1 19 20]
def r5:List Ent:=[
 qe 0 21 (qD 0 4),
 qe 1 22 (qL 1 21),
 qe 2 23 (qD 0 5),
 qe 3 24 (qL 1 23),
 qe 4 25 (qB .add 22 24),
 qe 5 26 (qD 1 4),
 qe 6 27 (qL 1 26),
 qe 7 28 (qD 1 5),
 qe 8 29 (qL 1 28),
 qe 9 30 (qB .add 27 29),
 qc 10 31 (qC Zb1 [.t 25,.t 30]),
 qs 11 (qW 2 6 31)]
def r6:List Ent:=[
 qe 0 33 (qK .eql 18 2),
 qm 1 32 33]
def r7:List Ent:=[
 qe 0 34 (qD 0 4),
 qe 1 35 (qL 1 34),
 qe 2 36 (qD 1 5),
 qe 3 37 (qL 1 36),
 qe 4 38 (qB .sub 35 37),
 qe 5 39 (qD 1 4),
 qe 6 40 (qL 1 39),
 qe 7 41 (qD 0 5),
 qe 8 42 (qL 1 41),
 qe 9 43 (qB .sub 40 42),
 qc 10 44 (qC Zb1 [.t 38,.t 43]),
 qs 11 (qW 2 6 44)]
def r8:List Ent:=[
 qe 0 46 (qK .eql 18 3),
 qm 1 45 46]
def r9:List Ent:=[
 qe 0 47 (qD 0 4),
 qe 1 48 (qL 1 47),
 qe 2 49 (qD 0 5),
 qe 3 50 (qL 1 49),
 qe 4 51 (qB .mul 48 50),
 qe 5 52 (qD 1 4),
 qe 6 53 (qL 1 52),
 qe 7 54 (qD 1 5),
 qe 8 55 (qL 1 54),
 qe 9 56 (qB .mul 53 55),
 qc 10 57 (qC Zb1 [.t 51,.t 56]),
 qs 11 (qW 2 6 57)]
def r10:List Ent:=[
 qe 0 59 (qK .eql 18 4),
 qm 1 58 59]
def r11:List Ent:=[
 qe 0 60 (qD 0 5),
 qe 1 61 (qL 1 60),
 qe 2 62 (qK .eql 61 0)]
def r12:List Ent:=[
 qe 0 63 (qD 1 4),
 qe 1 64 (qL 1 63),
 qe 2 65 (.bld [.k (.dat none (.int .i64 0)),.t 64]),
 qs 3 (qW 2 6 65)]
def r13:List Ent:=[
 qr 0 66 (qD 0 4),
 qr 1 67 (qL 1 66),
 qr 2 68 (qD 1 5),
 qr 3 69 (qL 1 68),
 qe 4 70 (qB .quo 67 69),
 qr 5 71 (qD 1 4),
 qr 6 72 (qL 1 71),
 qr 7 73 (qD 0 5),
 qr 8 74 (qL 1 73),
 qe 9 75 (qB .quo 72 74),
 qe 10 76 (.bld [.t 70,.t 75]),
 qs 11 (qW 2 6 76)]
def r14:List Ent:=[
 qe 0 78 (qK .eql 18 5),
 qm 1 77 78]
def r15:List Ent:=[
 qe 0 80 (qD 1 4),
 qe 1 81 (qL 1 80),
 qe 2 82 (qD 0 5),
 qe 3 83 (qL 1 82),
 qe 4 84 (qB .lss 81 83),
 qm 5 79 84]
def r16:List Ent:=[
 qe 0 85 (qA 2 4),
 qs 1 (qW 2 6 85)]
def r17:List Ent:=[
 qe 0 87 (qD 0 5),
 qe 1 88 (qL 1 87),
 qe 2 89 (qK .eql 88 0),
 qm 3 86 89]
def r18:List Ent:=[
 qe 0 90 (qD 1 4),
 qe 1 91 (qL 1 90),
 qe 2 92 (.bld [.k (.dat none (.int .i64 0)),.t 91]),
 qs 3 (qW 2 6 92)]
def r19:List Ent:=[
 qe 0 93 (qD 1 4),
 qe 1 94 (qL 1 93),
 qe 2 95 (qD 1 5),
 qe 3 96 (qL 1 95),
 qe 4 97 (qK .sub 96 1),
 qe 5 98 (.mnx false (.t 94) (.t 97)),
 qe 6 99 (.bld [.k (.dat none (.int .i64 0)),.t 98]),
 qs 7 (qW 2 6 99)]
def r20:List Ent:=[
 qe 0 101 (qK .eql 18 6),
 qm 1 100 101]
def r21:List Ent:=[
 qe 0 102 (qD 1 4),
 qe 1 103 (qL 1 102),
 qe 2 104 (qD 1 5),
 qe 3 105 (qL 1 104),
 qe 4 106 (.mnx false (.t 103) (.t 105)),
 qe 5 107 (.bld [.k (.dat none (.int .i64 0)),.t 106]),
 qs 6 (qW 2 6 107)]
def r22:List Ent:=[
 qe 0 109 (qK .eql 18 7),
 qm 1 108 109]
def r23:List Ent:=[
 qr 0 110 (qD 0 4),
 qr 1 111 (qL 1 110),
 qr 2 112 (qD 0 5),
 qr 3 113 (qL 1 112),
 qe 4 114 (.mnx true (.t 111) (.t 113)),
 qr 5 115 (qD 1 4),
 qr 6 116 (qL 1 115),
 qr 7 117 (qD 1 5),
 qr 8 118 (qL 1 117),
 qe 9 119 (.mnx true (.t 116) (.t 118)),
  E2 10 (some 120) none (.call Zda false (roA [.t 119])),
 qe 11 121 (.bld [.t 114,.t 120]),
 qs 12 (qW 2 6 121)]
def r24:List Ent:=[
 qe 0 123 (qK .eql 18 8),
 qm 1 122 123]
def r25:List Ent:=[
 qe 0 124 (qD 1 4),
 qe 1 125 (qL 1 124),
 qe 2 126 (qD 1 5),
 qe 3 127 (qL 1 126),
 qe 4 128 (.mnx true (.t 125) (.t 127)),
 qc 5 129 (qV Zda 128),
 qe 6 130 (.bld [.k (.dat none (.int .i64 0)),.t 129]),
 qs 7 (qW 2 6 130)]
def r26:List Ent:=[
 qe 0 132 (qK .eql 18 9),
 qm 1 131 132]
def r27:List Ent:=[
 qm 0 133 8,
 qe 1 134 (qN 133)]
def r28:List Ent:=[
 qc 0 135 (qC Zbw []),
 qs 1 (qW 2 6 135)]
def r29:List Ent:=[
 qe 0 136 (qD 0 4),
 qe 1 137 (qL 1 136),
 qm 2 138 7,
 qe 3 139 (qB .mul 137 138),
 qe 4 140 (qD 1 4),
 qe 5 141 (qL 1 140),
 qm 6 142 7,
 qe 7 143 (qB .mul 141 142),
 qc 8 144 (qC Zb1 [.t 139,.t 143]),
 qs 9 (qW 2 6 144)]
def r30:List Ent:=[
 qm 0 145 8,
 qe 1 146 (qN 145)]
def r31:List Ent:=[
 qe 0 147 (qD 1 4),
 qe 1 148 (qL 1 147),
 qe 2 149 (.bld [.k (.dat none (.int .i64 0)),.t 148]),
 qs 3 (qW 2 6 149)]
def r32:List Ent:=[
 qr 0 150 (qD 0 4),
 qr 1 151 (qL 1 150),
 qm 2 152 7,
 qe 3 153 (qB .quo 151 152),
 qr 4 154 (qD 1 4),
 qr 5 155 (qL 1 154),
 qm 6 156 7,
 qe 7 157 (qB .quo 155 156),
 qe 8 158 (.bld [.t 153,.t 157]),
 qs 9 (qW 2 6 158)]
def fi:FI:={ res:=[.c 6 true 2],code:=.seq (.reg 64 3 r0) (.seq (.reg 256 5 r1) (.seq (.reg 576 6 r2) (.seq (.seq (.reg 960 1 r3) (.block 0 (.seq (.reg 1024 2 r4) (.cond (.t 19) (.seq (.reg 1152 12 r5) (.ret)) (.seq (.reg 1920 2 r6) (.cond (.t 32) (.seq (.reg 2048 12 r7) (.ret)) (.seq (.reg 2816 2 r8) (.cond (.t 45) (.seq (.reg 2944 12 r9) (.ret)) (.seq (.reg 3712 2 r10) (.cond (.t 58) (.seq (.seq (.reg 3840 3 r11) (.cond (.t 62) (.seq (.reg 4032 4 r12) (.ret)) (.skip))) (.seq (.reg 4288 12 r13) (.ret))) (.seq (.reg 5056 2 r14) (.cond (.t 77) (.seq (.block 1 (.seq (.reg 5184 6 r15) (.cond (.t 79) (.seq (.reg 5568 2 r16) (.ret)) (.seq (.reg 5696 4 r17) (.cond (.t 86) (.seq (.reg 5952 4 r18) (.ret)) (.skip)))))) (.seq (.reg 6208 8 r19) (.ret))) (.seq (.reg 6720 2 r20) (.cond (.t 100) (.seq (.reg 6848 7 r21) (.ret)) (.seq (.reg 7296 2 r22) (.cond (.t 108) (.seq (.reg 7424 13 r23) (.ret)) (.seq (.reg 8256 2 r24) (.cond (.t 122) (.seq (.reg 8384 8 r25) (.ret)) (.seq (.reg 8896 2 r26) (.cond (.t 131) (.seq (.seq (.reg 9024 2 r27) (.cond (.t 134) (.seq (.reg 9152 2 r28) (.ret)) (.skip))) (.seq (.reg 9280 10 r29) (.ret))) (.skip))))))))))))))))))))) (.seq (.seq (.reg 9920 2 r30) (.cond (.t 146) (.seq (.reg 10048 4 r31) (.ret)) (.skip))) (.seq (.reg 10304 10 r32) (.ret)))))) }
attribute [go_sem] r0 r1 r2 r3 r4 r5 r6 r7 r8 r9 r10 r11 r12 r13 r14 r15 r16 r17 r18 r19 r20 r21 r22 r23 r24 r25 r26 r27 r28 r29 r30 r31 r32
theorem ok:chkF prog ZbJ 3 fi=true:=by kernel_rfl
end impl_stretched
namespace impl_unknown
def r0:List Ent:=[
 qe 0 0 (.box (.k (.agg [.dat none (.int .i64 0),.dat none (.int .i64 0)])))]
def r1:List Ent:=[
 qe 0 1 (.bld [.k (.dat none (.int .i64 0)),xN 65535]),
 qs 1 (qW 2 0 1)]
def fi:FI:={ res:=[.c 0 true 2],code:=.seq (.reg 64 1 r0) (.seq (.reg 128 2 r1) (.ret)) }
attribute [go_sem] r0 r1
theorem ok:chkF prog ZbG 0 fi=true:=by kernel_rfl
end impl_unknown
namespace impl_do
def r0:List Ent:=[
 qe 0 6 (.mv (xN 0))]
def r1:List Ent:=[
 qm 0 7 0]
def r2:List Ent:=[
 qe 0 9 (qK .eql 7 1),
 qm 1 8 9]
def r3:List Ent:=[
 qm 0 10 1,
 qm 1 11 2,
 qe 2 12 (qB .add 10 11),
 qc 3 13 (qV ZaA 12),
 qm 4 6 13]
def r4:List Ent:=[
 qe 0 15 (qK .eql 7 2),
 qm 1 14 15]
def r5:List Ent:=[
 qm 0 16 1,
 qm 1 17 2,
 qe 2 18 (qB .sub 16 17),
 qc 3 19 (qV ZaA 18),
 qm 4 6 19]
def r6:List Ent:=[
 qe 0 21 (qK .eql 7 3),
 qm 1 20 21]
def r7:List Ent:=[
 qm 0 22 1,
 qm 1 23 2,
 qe 2 24 (qB .mul 22 23),
 qc 3 25 (qV ZaA 24),
 qm 4 6 25]
def r8:List Ent:=[
 qe 0 27 (qK .eql 7 4),
 qm 1 26 27]
def r9:List Ent:=[
 qm 0 28 2,
 qe 1 29 (qK .eql 28 0)]
def r10:List Ent:=[
 qe 0 6 (.mv (xN 0))]
def r11:List Ent:=[
 qm 0 30 1,
 qm 1 31 2,
 qe 2 32 (qB .quo 30 31),
 qm 3 6 32]
def r12:List Ent:=[
 qe 0 34 (qK .eql 7 5),
 qm 1 33 34]
def r13:List Ent:=[
 qm 0 35 2,
 qe 1 36 (qK .eql 35 0)]
def r14:List Ent:=[
 qm 0 37 1,
 qm 1 6 37]
def r15:List Ent:=[
 qm 0 38 1,
 qm 1 39 2,
 qe 2 40 (qB .rem 38 39),
 qm 3 6 40]
def r16:List Ent:=[
 qe 0 42 (qK .eql 7 6),
 qm 1 41 42]
def r17:List Ent:=[
 qm 0 43 1,
 qm 1 44 2,
 qe 2 45 (qB .and 43 44),
 qm 3 6 45]
def r18:List Ent:=[
 qe 0 47 (qK .eql 7 7),
 qm 1 46 47]
def r19:List Ent:=[
 qm 0 48 1,
 qm 1 49 2,
 qe 2 50 (qB .or 48 49),
 qm 3 6 50]
def r20:List Ent:=[
 qe 0 52 (qK .eql 7 8),
 qm 1 51 52]
def r21:List Ent:=[
 qm 0 53 1,
 qm 1 54 2,
 qe 2 55 (qB .xor 53 54),
 qm 3 6 55]
def r22:List Ent:=[
 qe 0 57 (qK .eql 7 9),
 qm 1 56 57]
def r23:List Ent:=[
 qm 0 58 1,
 qm 1 59 2,
 qe 2 60 (qK .rem 59 16),
 qe 3 61 (qB .shl 58 60),
 qc 4 62 (qV ZaA 61),
 qm 5 6 62]
def r24:List Ent:=[
 qm 0 63 1,
 qm 1 64 2,
 qe 2 65 (qK .rem 64 16),
 qe 3 66 (qB .shr 63 65),
 qm 4 6 66]
def fi:FI:={ res:=[.t 6],code:=.seq (.reg 64 1 r0) (.seq (.seq (.reg 128 1 r1) (.block 0 (.seq (.reg 192 2 r2) (.cond (.t 8) (.seq (.reg 320 5 r3) (.ret)) (.seq (.reg 640 2 r4) (.cond (.t 14) (.seq (.reg 768 5 r5) (.ret)) (.seq (.reg 1088 2 r6) (.cond (.t 20) (.seq (.reg 1216 5 r7) (.ret)) (.seq (.reg 1536 2 r8) (.cond (.t 26) (.seq (.seq (.reg 1664 2 r9) (.cond (.t 29) (.seq (.reg 1792 1 r10) (.ret)) (.skip))) (.seq (.reg 1856 4 r11) (.ret))) (.seq (.reg 2112 2 r12) (.cond (.t 33) (.seq (.seq (.reg 2240 2 r13) (.cond (.t 36) (.seq (.reg 2368 2 r14) (.ret)) (.skip))) (.seq (.reg 2496 4 r15) (.ret))) (.seq (.reg 2752 2 r16) (.cond (.t 41) (.seq (.reg 2880 4 r17) (.ret)) (.seq (.reg 3136 2 r18) (.cond (.t 46) (.seq (.reg 3264 4 r19) (.ret)) (.seq (.reg 3520 2 r20) (.cond (.t 51) (.seq (.reg 3648 4 r21) (.ret)) (.seq (.reg 3904 2 r22) (.cond (.t 56) (.seq (.reg 4032 6 r23) (.ret)) (.skip))))))))))))))))))))) (.seq (.reg 4416 5 r24) (.ret))) }
attribute [go_sem] r0 r1 r2 r3 r4 r5 r6 r7 r8 r9 r10 r11 r12 r13 r14 r15 r16 r17 r18 r19 r20 r21 r22 r23 r24
theorem ok:chkF prog Zco 3 fi=true:=by kernel_rfl
end impl_do
namespace impl_known
def r0:List Ent:=[
 qe 0 4 (.box (.k (.agg [.dat none (.int .i64 0),.dat none (.int .i64 0)])))]
def r1:List Ent:=[
 qm 0 5 0,
 qm 1 6 1,
 qe 2 7 (qB .andNot 5 6),
 qm 3 8 1,
 qe 4 9 (.bld [.t 7,.t 8]),
 qs 5 (qW 2 4 9)]
def fi:FI:={ res:=[.c 4 true 2],code:=.seq (.reg 64 1 r0) (.seq (.reg 128 6 r1) (.ret)) }
attribute [go_sem] r0 r1
theorem ok:chkF prog Zby 2 fi=true:=by kernel_rfl
end impl_known
namespace impl_Known_may
def r0:List Ent:=[
 qe 0 2 (.box (.t 0)),
 qe 1 4 (.mv (xN 0))]
def r1:List Ent:=[
 qm 0 5 1,
 qe 1 6 (qK .eql 5 1)]
def r2:List Ent:=[
 qe 0 7 (qD 0 2),
 qe 1 8 (qL 1 7),
 qe 2 9 (qD 1 2),
 qe 3 10 (qL 1 9),
 qe 4 11 (qB .or 8 10),
 qm 5 4 11]
def r3:List Ent:=[
 qe 0 12 (qD 0 2),
 qe 1 13 (qL 1 12),
 qe 2 14 (.bin .andNot (xN 65535) (.t 13)),
 qm 3 4 14]
def fi:FI:={ res:=[.t 4],code:=.seq (.reg 64 2 r0) (.seq (.seq (.reg 192 2 r1) (.cond (.t 6) (.seq (.reg 320 6 r2) (.ret)) (.skip))) (.seq (.reg 704 4 r3) (.ret))) }
attribute [go_sem] r0 r1 r2 r3
theorem ok:chkF prog ZbI 2 fi=true:=by kernel_rfl
end impl_Known_may
namespace impl_bitwise
def r0:List Ent:=[
 qe 0 4 (.box (.t 1)),
 qe 1 5 (.box (.t 2)),
 qe 2 6 (.box (.k (.agg [.dat none (.int .i64 0),.dat none (.int .i64 0)])))]
def r1:List Ent:=[
 qe 0 7 (.mv (xN 0)),
 qe 1 8 (.mv (xN 0))]
def r2:List Ent:=[
 qe 0 12 (.mv (xN 0))]
def r3:List Ent:=[
 qe 0 13 (qK .lss 12 2)]
def r4:List Ent:=[
 qm 0 14 12,
 qm 1 9 14]
def r5:List Ent:=[
 qe 0 15 (.mv (xN 0))]
def r6:List Ent:=[
 qe 0 16 (qK .lss 15 2)]
def r7:List Ent:=[
 qm 0 17 15,
 qm 1 10 17]
def r8:List Ent:=[
 qr 0 18 (qA 2 4),
 qm 1 19 9,
  E2 2 (some 20) none (.call ZbI false (roA [.t 18,.t 19])),
 qr 3 21 (qA 2 5),
 qm 4 22 10,
 qc 5 23 (qC ZbI [.t 21,.t 22]),
 qe 6 24 (qB .and 20 23),
 qm 7 11 24]
def r9:List Ent:=[
 qm 0 25 0,
 qm 1 26 9,
 qm 2 27 10,
 qc 3 28 (qC Zco [.t 25,.t 26,.t 27]),
 qe 4 29 (qK .eql 28 1)]
def r10:List Ent:=[
 qm 0 30 8,
 qm 1 31 11,
 qe 2 32 (qB .or 30 31),
 qm 3 8 32]
def r11:List Ent:=[
 qm 0 33 7,
 qm 1 34 11,
 qe 2 35 (qB .or 33 34),
 qm 3 7 35]
def r12:List Ent:=[
 qe 0 36 (qK .add 15 1),
 qm 1 15 36]
def b0:KC:=.seq (.reg 704 1 r6) (.seq (.cond (.t 16) (.skip) (.exit 2)) (.seq (.block 3 (.seq (.reg 768 2 r7) (.seq (.reg 896 8 r8) (.seq (.reg 1408 5 r9) (.cond (.t 29) (.reg 1728 4 r10) (.reg 1984 4 r11)))))) (.reg 2240 2 r12)))
def r13:List Ent:=[
 qe 0 37 (qK .add 12 1),
 qm 1 12 37]
def b1:KC:=.seq (.reg 448 1 r3) (.seq (.cond (.t 13) (.skip) (.exit 0)) (.seq (.block 1 (.seq (.reg 512 2 r4) (.seq (.reg 640 1 r5) (.block 2 (.loop b0))))) (.reg 2368 2 r13)))
def r14:List Ent:=[
 qm 0 38 8,
 qm 1 39 7,
 qm 2 40 8,
 qe 3 41 (qB .and 39 40),
 qc 4 42 (qC Zby [.t 38,.t 41]),
 qs 5 (qW 2 6 42)]
def fi:FI:={ res:=[.c 6 true 2],code:=.seq (.reg 64 3 r0) (.seq (.reg 256 2 r1) (.seq (.seq (.reg 384 1 r2) (.block 0 (.loop b1))) (.seq (.reg 2496 6 r14) (.ret)))) }
attribute [go_sem] r0 r1 r2 r3 r4 r5 r6 r7 r8 r9 r10 r11 r12 r13 r14
theorem ok:chkF prog Zcd 3 fi=true:=by kernel_rfl
end impl_bitwise
namespace impl_doKnown
def r0:List Ent:=[
 qe 0 4 (.box (.t 1)),
 qe 1 5 (.box (.t 2)),
 qe 2 6 (.box (.k (.agg [.dat none (.int .i64 0),.dat none (.int .i64 0)])))]
def r1:List Ent:=[
 qm 0 10 0]
def r2:List Ent:=[
 qe 0 12 (qK .eql 10 6),
 qm 1 11 12]
def r3:List Ent:=[
 qe 0 13 (qK .eql 10 7),
 qm 1 11 13]
def r4:List Ent:=[
 qe 0 14 (qK .eql 10 8),
 qm 1 11 14]
def r5:List Ent:=[
 qm 0 15 0,
 qe 1 16 (qA 2 4),
 qe 2 17 (qA 2 5),
 qc 3 18 (qC Zcd [.t 15,.t 16,.t 17]),
 qs 4 (qW 2 6 18)]
def r6:List Ent:=[
 qe 0 20 (qK .eql 10 1),
 qm 1 19 20]
def r7:List Ent:=[
 qe 0 21 (qD 0 4),
 qe 1 22 (qL 1 21),
 qe 2 23 (qD 0 5),
 qe 3 24 (qL 1 23),
 qe 4 25 (qB .add 22 24),
 qc 5 26 (qV ZaA 25),
 qm 6 7 26]
def r8:List Ent:=[
 qe 0 27 (qD 0 4),
 qe 1 28 (qL 1 27),
 qe 2 29 (qD 1 4),
 qe 3 30 (qL 1 29),
 qe 4 31 (qB .add 28 30),
 qe 5 32 (qD 0 5),
 qe 6 33 (qL 1 32),
 qe 7 34 (qB .add 31 33),
 qe 8 35 (qD 1 5),
 qe 9 36 (qL 1 35),
 qe 10 37 (qB .add 34 36),
 qc 11 38 (qV ZaA 37),
 qm 12 8 38]
def r9:List Ent:=[
 qm 0 39 7,
 qe 1 40 (qD 1 4),
 qe 2 41 (qL 1 40),
 qe 3 42 (qD 1 5),
 qe 4 43 (qL 1 42),
 qe 5 44 (qB .or 41 43),
 qm 6 45 7,
 qm 7 46 8,
 qe 8 47 (qB .xor 45 46),
 qe 9 48 (qB .or 44 47),
 qc 10 49 (qC Zby [.t 39,.t 48]),
 qs 11 (qW 2 6 49)]
def r10:List Ent:=[
 qe 0 51 (qK .eql 10 2),
 qm 1 50 51]
def r11:List Ent:=[
 qe 0 52 (qD 0 4),
 qe 1 53 (qL 1 52),
 qe 2 54 (qD 0 5),
 qe 3 55 (qL 1 54),
 qe 4 56 (qB .sub 53 55),
 qc 5 57 (qV ZaA 56),
 qm 6 9 57]
def r12:List Ent:=[
 qm 0 58 9,
 qr 1 59 (qD 1 4),
 qr 2 60 (qL 1 59),
 qr 3 61 (qD 1 5),
 qr 4 62 (qL 1 61),
 qe 5 63 (qB .or 60 62),
 qm 6 64 9,
 qr 7 65 (qD 1 4),
 qr 8 66 (qL 1 65),
 qe 9 67 (qB .add 64 66),
  E2 10 (some 68) none (.call ZaA false (roA [.t 67])),
 qm 11 69 9,
 qr 12 70 (qD 1 5),
 qr 13 71 (qL 1 70),
 qe 14 72 (qB .sub 69 71),
  E2 15 (some 73) none (.call ZaA false (roA [.t 72])),
 qe 16 74 (qB .xor 68 73),
 qe 17 75 (qB .or 63 74),
 qc 18 76 (qC Zby [.t 58,.t 75]),
 qs 19 (qW 2 6 76)]
def r13:List Ent:=[
 qe 0 78 (qK .eql 10 9),
 qm 1 77 78]
def r14:List Ent:=[
 qe 0 79 (qK .eql 10 10),
 qm 1 77 79]
def r15:List Ent:=[
 qe 0 80 (qD 1 5),
 qe 1 81 (qL 1 80),
 qe 2 82 (qK .eql 81 0)]
def r16:List Ent:=[
 qm 0 83 0,
 qr 1 84 (qD 0 4),
 qr 2 85 (qL 1 84),
 qr 3 86 (qD 0 5),
 qr 4 87 (qL 1 86),
  E2 5 (some 88) none (.call Zco false (roA [.t 83,.t 85,.t 87])),
 qm 6 89 0,
 qr 7 90 (qD 1 4),
 qr 8 91 (qL 1 90),
 qr 9 92 (qD 0 5),
 qr 10 93 (qL 1 92),
 qc 11 94 (qC Zco [.t 89,.t 91,.t 93]),
 qe 12 95 (.bld [.t 88,.t 94]),
 qs 13 (qW 2 6 95)]
def r17:List Ent:=[
 qc 0 96 (qC ZbG []),
 qs 1 (qW 2 6 96)]
def r18:List Ent:=[
 qe 0 97 (qD 1 4),
 qe 1 98 (qL 1 97),
 qe 2 99 (qK .eql 98 0),
 qm 3 100 99,
 qt 4 101 100 (qD 1 5),
 qt 5 102 100 (qL 1 101),
 qt 6 103 100 (qK .eql 102 0),
 qe 7 104 (.pick (.t 100) (.t 103) xF)]
def r19:List Ent:=[
 qm 0 105 0,
 qe 1 106 (qD 0 4),
 qe 2 107 (qL 1 106),
 qe 3 108 (qD 0 5),
 qe 4 109 (qL 1 108),
 qc 5 110 (qC Zco [.t 105,.t 107,.t 109]),
 qc 6 111 (qV ZbM 110),
 qs 7 (qW 2 6 111)]
def r20:List Ent:=[
 qc 0 112 (qC ZbG []),
 qs 1 (qW 2 6 112)]
def fi:FI:={ res:=[.c 6 true 2],code:=.seq (.reg 64 3 r0) (.seq (.seq (.reg 256 1 r1) (.block 0 (.seq (.seq (.reg 320 2 r2) (.cond (.t 11) (.skip) (.seq (.reg 448 2 r3) (.cond (.t 11) (.skip) (.reg 576 2 r4))))) (.cond (.t 11) (.seq (.reg 704 5 r5) (.ret)) (.seq (.reg 1024 2 r6) (.cond (.t 19) (.seq (.reg 1152 7 r7) (.seq (.reg 1600 13 r8) (.seq (.reg 2432 12 r9) (.ret)))) (.seq (.reg 3200 2 r10) (.cond (.t 50) (.seq (.reg 3328 7 r11) (.seq (.reg 3776 20 r12) (.ret))) (.seq (.seq (.reg 5056 2 r13) (.cond (.t 77) (.skip) (.reg 5184 2 r14))) (.cond (.t 77) (.seq (.seq (.reg 5312 3 r15) (.cond (.t 82) (.seq (.reg 5504 14 r16) (.ret)) (.skip))) (.seq (.reg 6400 2 r17) (.ret))) (.skip))))))))))) (.seq (.seq (.reg 6528 8 r18) (.cond (.t 104) (.seq (.reg 7040 8 r19) (.ret)) (.skip))) (.seq (.reg 7552 2 r20) (.ret)))) }
attribute [go_sem] r0 r1 r2 r3 r4 r5 r6 r7 r8 r9 r10 r11 r12 r13 r14 r15 r16 r17 r18 r19 r20
theorem ok:chkF prog Zca 3 fi=true:=by kernel_rfl
end impl_doKnown
namespace impl_stepMay
def r0:List Ent:=[
 qe 0 2 (.box (.t 0)),
 qe 1 3 (.box (.t 1)),
 qe 2 4 (.box (.k (.agg [.nil 2,.nil 2,.nil 2,.nil 1]))),
 qe 3 5 (.mv (xN 0))]
def r1:List Ent:=[
 qe 0 8 (qA 4 3),
 qc 1 9 (qV Zbh 8),
 qe 2 6 (.box (.k (.agg [.nil 2,.nil 2,.nil 2,.nil 1]))),
 qs 3 (qW 4 6 9)]
def r2:List Ent:=[
 qe 0 10 (qD 4 2),
 qe 1 11 (qL 1 10),
 qe 2 12 (qD 4 2),
 qe 3 13 (qL 1 12),
 qe 4 14 (.bld [.t 11,.t 13]),
 qe 5 7 (.box (.k (.agg [.dat none (.int .i64 0),.dat none (.int .i64 0)]))),
 qs 6 (qW 2 7 14)]
def r3:List Ent:=[
 qe 0 15 (qD 0 2),
 qe 1 16 (qL 1 15)]
def r4:List Ent:=[
 qe 0 18 (qK .eql 16 1),
 qm 1 17 18]
def r5:List Ent:=[
 qr 0 19 (qD 2 2),
 qr 1 20 (qL 1 19),
 qr 2 21 (qD 1 2),
 qr 3 22 (qL 1 21),
 qr 4 23 (qD 0 3),
 qr 5 24 (qL 1 23),
 qr 6 25 (qD 2 2),
 qr 7 26 (qL 1 25),
 qr 8 27 (qI 2 24 26),
 qr 9 28 (qA 2 27),
 qr 10 29 (qD 0 3),
 qr 11 30 (qL 1 29),
 qr 12 31 (qD 3 2),
 qr 13 32 (qL 1 31),
 qr 14 33 (qI 2 30 32),
 qr 15 34 (qA 2 33),
  E2 16 (some 35) none (.call ZbJ false (roA [.t 22,.t 28,.t 34])),
 qr 17 36 (qD 1 2),
 qr 18 37 (qL 1 36),
 qr 19 38 (qD 1 3),
 qr 20 39 (qL 1 38),
 qr 21 40 (qD 2 2),
 qr 22 41 (qL 1 40),
 qr 23 42 (qI 2 39 41),
 qr 24 43 (qA 2 42),
 qr 25 44 (qD 1 3),
 qr 26 45 (qL 1 44),
 qr 27 46 (qD 3 2),
 qr 28 47 (qL 1 46),
 qr 29 48 (qI 2 45 47),
 qr 30 49 (qA 2 48),
  E2 31 (some 50) none (.call Zca false (roA [.t 37,.t 43,.t 49])),
 qc 32 51 (.call Zbs false [(.io,.t 6),(.ro,.t 20),(.ro,.t 35),(.ro,.t 50)])]
def r6:List Ent:=[
 qe 0 53 (qK .eql 16 2),
 qm 1 52 53]
def r7:List Ent:=[
 qr 0 54 (qD 2 2),
 qr 1 55 (qL 1 54),
 qr 2 56 (qD 1 2),
 qr 3 57 (qL 1 56),
 qr 4 58 (qD 0 3),
 qr 5 59 (qL 1 58),
 qr 6 60 (qD 2 2),
 qr 7 61 (qL 1 60),
 qr 8 62 (qI 2 59 61),
 qr 9 63 (qA 2 62),
 qr 10 64 (qA 2 7),
  E2 11 (some 65) none (.call ZbJ false (roA [.t 57,.t 63,.t 64])),
 qr 12 66 (qD 1 2),
 qr 13 67 (qL 1 66),
 qr 14 68 (qD 1 3),
 qr 15 69 (qL 1 68),
 qr 16 70 (qD 2 2),
 qr 17 71 (qL 1 70),
 qr 18 72 (qI 2 69 71),
 qr 19 73 (qA 2 72),
 qr 20 74 (qD 4 2),
 qr 21 75 (qL 1 74),
  E2 22 (some 76) none (.call ZbM false (roA [.t 75])),
  E2 23 (some 77) none (.call Zca false (roA [.t 67,.t 73,.t 76])),
 qc 24 78 (.call Zbs false [(.io,.t 6),(.ro,.t 55),(.ro,.t 65),(.ro,.t 77)])]
def r8:List Ent:=[
 qe 0 80 (qK .eql 16 3),
 qm 1 79 80]
def r9:List Ent:=[
 qe 0 81 (qK .eql 16 4),
 qm 1 79 81]
def r10:List Ent:=[
 qr 0 82 (qD 0 6),
 qr 1 83 (qL 1 82),
 qr 2 84 (qD 2 2),
 qr 3 85 (qL 1 84),
 qr 4 86 (qD 1 6),
 qr 5 87 (qL 1 86),
 qr 8 90 (qA 2 7),
 qr 9 91 (qD 4 2),
 qr 10 92 (qL 1 91),
  E2 11 (some 93) none (.call ZbM false (roA [.t 92])),
 qr 12 94 (qI 2 83 85),
 EP 13 none none (.i (qW 2 94 90)) 0 true,
 qx 6 88 (qD 2 2) 2 [] [13] false,
 qx 7 89 (qL 1 88) 2 [] [13] false,
 qe 14 95 (qI 2 87 89),
 qs 15 (qW 2 95 93)]
def r11:List Ent:=[
 qe 0 97 (qK .eql 16 5),
 qm 1 96 97]
def r12:List Ent:=[
 qr 0 98 (qD 0 3),
 qr 1 99 (qL 1 98),
 qr 2 100 (qD 3 2),
 qr 3 101 (qL 1 100),
 qr 4 102 (qI 2 99 101),
 qr 5 103 (qD 1 102),
 qr 6 104 (qL 1 103),
 qr 7 105 (qD 4 2),
 qr 8 106 (qL 1 105),
 qe 9 107 (qB .add 104 106),
 qe 10 108 (qK .geq 107 8)]
def r13:List Ent:=[
 qe 0 109 (.bld [.k (.nil 2),.k (.nil 2),.k (.nil 2),.k (.nil 1)]),
 qs 1 (qW 4 4 109),
 qe 2 5 (.mv (xN 1))]
def r14:List Ent:=[
 qr 0 110 (qD 0 6),
 qr 1 111 (qL 1 110),
 qr 2 112 (qD 2 2),
 qr 3 113 (qL 1 112),
 qr 4 114 (qD 1 6),
 qr 5 115 (qL 1 114),
 qr 8 118 (.bld [.k (.dat none (.int .i64 0)),xN 255]),
 qr 10 120 (qI 2 111 113),
 EP 11 none none (.i (qW 2 120 118)) 0 true,
 qx 6 116 (qD 2 2) 2 [] [11] false,
 qx 7 117 (qL 1 116) 2 [] [11] false,
 qx 9 119 (.bld [.k (.dat none (.int .i64 0)),xN 255]) 2 [] [11] false,
 qe 12 121 (qI 2 115 117),
 qs 13 (qW 2 121 119)]
def r15:List Ent:=[
 qe 0 123 (qK .eql 16 7),
 qm 1 122 123]
def r16:List Ent:=[
 qe 0 124 (qK .eql 16 6),
 qm 1 122 124]
def r17:List Ent:=[
 qe 0 125 (qD 4 2),
 qe 1 126 (qL 1 125),
 qe 2 127 (qK .geq 126 16)]
def r18:List Ent:=[
 qe 0 128 (.bld [.k (.nil 2),.k (.nil 2),.k (.nil 2),.k (.nil 1)]),
 qs 1 (qW 4 4 128),
 qe 2 5 (.mv (xN 2))]
def r19:List Ent:=[
 qe 0 129 (qD 0 2),
 qe 1 130 (qL 1 129),
 qe 2 131 (qK .eql 130 7)]
def r20:List Ent:=[
 qr 0 132 (qD 2 6),
 qr 1 133 (qL 1 132),
 qr 2 134 (qD 4 2),
 qr 3 135 (qL 1 134),
 qr 4 136 (qD 3 6),
 qr 5 137 (qL 1 136),
 qr 8 140 (qD 0 3),
 qr 9 141 (qL 1 140),
 qr 10 142 (qD 2 2),
 qr 11 143 (qL 1 142),
 qr 12 144 (qI 2 141 143),
 qr 13 145 (qA 2 144),
 qr 14 146 (qI 2 133 135),
 EP 15 none none (.i (qW 2 146 145)) 0 true,
 qx 6 138 (qD 4 2) 2 [] [15] false,
 qx 7 139 (qL 1 138) 2 [] [15] false,
 qe 16 147 (qI 1 137 139),
 qs 17 (.store 1 (.t 147) xT)]
def r21:List Ent:=[
 qe 0 148 (qD 3 3),
 qe 1 149 (qL 1 148),
 qe 2 150 (qD 4 2),
 qe 3 151 (qL 1 150),
 qe 4 152 (qI 1 149 151),
 qe 5 153 (qL 1 152),
 qe 6 154 (qN 153)]
def r22:List Ent:=[
 qe 0 155 (.bld [.k (.nil 2),.k (.nil 2),.k (.nil 2),.k (.nil 1)]),
 qs 1 (qW 4 4 155),
 qe 2 5 (.mv (xN 3))]
def r23:List Ent:=[
 qr 0 156 (qD 2 2),
 qr 1 157 (qL 1 156),
 qr 2 158 (qD 2 3),
 qr 3 159 (qL 1 158),
 qr 4 160 (qD 4 2),
 qr 5 161 (qL 1 160),
 qr 6 162 (qI 2 159 161),
 qr 7 163 (qA 2 162),
  E2 8 (some 164) none (.call ZbG false (roA [])),
 qc 9 165 (.call Zbs false [(.io,.t 6),(.ro,.t 157),(.ro,.t 163),(.ro,.t 164)])]
def r24:List Ent:=[
 qe 0 166 (qA 4 6),
 qs 1 (qW 4 4 166),
 qe 2 5 (.mv (xN 0))]
def fi:FI:={ res:=[.c 4 true 4,.t 5],code:=.seq (.reg 64 4 r0) (.seq (.reg 320 4 r1) (.seq (.reg 576 7 r2) (.seq (.seq (.reg 1024 2 r3) (.block 0 (.seq (.reg 1152 2 r4) (.cond (.t 17) (.reg 1280 33 r5) (.seq (.reg 3392 2 r6) (.cond (.t 52) (.reg 3520 25 r7) (.seq (.seq (.reg 5120 2 r8) (.cond (.t 79) (.skip) (.reg 5248 2 r9))) (.cond (.t 79) (.reg 5376 16 r10) (.seq (.reg 6400 2 r11) (.cond (.t 96) (.seq (.seq (.reg 6528 11 r12) (.cond (.t 108) (.seq (.reg 7232 3 r13) (.ret)) (.skip))) (.reg 7424 14 r14)) (.seq (.seq (.reg 8320 2 r15) (.cond (.t 122) (.skip) (.reg 8448 2 r16))) (.cond (.t 122) (.seq (.seq (.reg 8576 3 r17) (.cond (.t 127) (.seq (.reg 8768 3 r18) (.ret)) (.skip))) (.seq (.seq (.reg 8960 3 r19) (.cond (.t 131) (.seq (.reg 9152 18 r20) (.exit 0)) (.skip))) (.seq (.seq (.reg 10304 7 r21) (.cond (.t 154) (.seq (.reg 10752 3 r22) (.ret)) (.skip))) (.reg 10944 10 r23)))) (.skip))))))))))))) (.seq (.reg 11584 3 r24) (.ret))))) }
attribute [go_sem] r0 r1 r2 r3 r4 r5 r6 r7 r8 r9 r10 r11 r12 r13 r14 r15 r16 r17 r18 r19 r20 r21 r22 r23 r24
theorem ok:chkF prog Zcg 2 fi=true:=by kernel_rfl
end impl_stepMay
namespace impl_nexts
def r0:List Ent:=[
 qe 0 4 (.mv (.k (.nil 1)))]
def r1:List Ent:=[
 qm 0 6 0,
 qm 1 7 1,
 qe 2 8 (qI 6 6 7),
 qe 3 9 (qA 6 8),
 qe 4 5 (.box (.k (.agg [.dat none (.int .i64 0),.dat none (.int .i64 0),.dat none (.int .i64 0),.dat none (.int .i64 0),.dat none (.int .i64 0),.dat none (.int .i64 0)]))),
 qs 5 (qW 6 5 9)]
def r2:List Ent:=[
 qe 0 10 (qD 0 5),
 qe 1 11 (qL 1 10)]
def r3:List Ent:=[
 qe 0 13 (qK .eql 11 11),
 qm 1 12 13]
def r4:List Ent:=[
 qe 0 4 (.mv (.k (.nil 1)))]
def r5:List Ent:=[
 qe 0 15 (qK .eql 11 8),
 qm 1 14 15]
def r6:List Ent:=[
 qm 0 16 1,
 qe 1 17 (qD 5 5),
 qe 2 18 (qL 1 17),
 qe 3 19 (qB .add 16 18),
 qe 4 20 (qK .add 19 1),
 qe 5 21 (.bsl false 1 [.t 20]),
 qm 6 4 21]
def r7:List Ent:=[
 qe 0 23 (qK .eql 11 9),
 qm 1 22 23]
def r8:List Ent:=[
 qe 0 24 (qK .eql 11 10),
 qm 1 22 24]
def r9:List Ent:=[
 qm 0 25 1,
 qe 1 26 (qK .add 25 1),
 qm 2 27 1,
 qe 3 28 (qD 5 5),
 qe 4 29 (qL 1 28),
 qe 5 30 (qB .add 27 29),
 qe 6 31 (qK .add 30 1),
 qe 7 32 (.bsl false 1 [.t 26,.t 31]),
 qm 8 4 32]
def r10:List Ent:=[
 qm 0 33 1,
 qe 1 34 (qK .add 33 1),
 qe 2 35 (.bsl false 1 [.t 34]),
 qm 3 4 35]
def fi:FI:={ res:=[.t 4],code:=.seq (.reg 64 1 r0) (.seq (.reg 128 6 r1) (.seq (.seq (.reg 512 2 r2) (.block 0 (.seq (.reg 640 2 r3) (.cond (.t 12) (.seq (.reg 768 1 r4) (.ret)) (.seq (.reg 832 2 r5) (.cond (.t 14) (.seq (.reg 960 7 r6) (.ret)) (.seq (.seq (.reg 1408 2 r7) (.cond (.t 22) (.skip) (.reg 1536 2 r8))) (.cond (.t 22) (.seq (.reg 1664 9 r9) (.ret)) (.skip))))))))) (.seq (.reg 2240 4 r10) (.ret)))) }
attribute [go_sem] r0 r1 r2 r3 r4 r5 r6 r7 r8 r9 r10
theorem ok:chkF prog ZcT 2 fi=true:=by kernel_rfl
end impl_nexts
namespace impl_Step_branches
def r0:List Ent:=[
 qe 0 1 (.box (.t 0)),
 qe 1 2 (.mv xF)]
def r1:List Ent:=[
 qe 0 3 (qD 0 1),
 qe 1 4 (qL 1 3),
 qe 2 5 (qK .eql 4 9),
 qm 3 6 5,
 qf 4 7 6 (qD 0 1),
 qf 5 8 6 (qL 1 7),
 qf 6 9 6 (qK .eql 8 10),
 qe 7 10 (.pick (.t 6) xT (.t 9)),
 qm 8 2 10]
def fi:FI:={ res:=[.t 2],code:=.seq (.reg 64 2 r0) (.seq (.reg 192 9 r1) (.ret)) }
attribute [go_sem] r0 r1
theorem ok:chkF prog ZaQ 1 fi=true:=by kernel_rfl
end impl_Step_branches
namespace impl_meetStretch
def r0:List Ent:=[
 qe 0 2 (.box (.t 0)),
 qe 1 3 (.box (.t 1)),
 qe 2 4 (.box (.k (.agg [.dat none (.int .i64 0),.dat none (.int .i64 0)]))),
 qe 3 5 (.mv xF)]
def r1:List Ent:=[
 qe 0 7 (qD 0 2),
 qe 1 8 (qL 1 7),
 qe 2 9 (qD 0 3),
 qe 3 10 (qL 1 9),
 qe 4 11 (.mnx true (.t 8) (.t 10)),
 qe 5 12 (qD 1 2),
 qe 6 13 (qL 1 12),
 qe 7 14 (qD 1 3),
 qe 8 15 (qL 1 14),
 qe 9 16 (.mnx false (.t 13) (.t 15)),
 qe 10 17 (.bld [.t 11,.t 16]),
 qe 11 6 (.box (.k (.agg [.dat none (.int .i64 0),.dat none (.int .i64 0)]))),
 qs 12 (qW 2 6 17)]
def r2:List Ent:=[
 qe 0 18 (qD 0 6),
 qe 1 19 (qL 1 18),
 qe 2 20 (qD 1 6),
 qe 3 21 (qL 1 20),
 qe 4 22 (qB .gtr 19 21)]
def r3:List Ent:=[
 qe 0 23 (.bld [.k (.dat none (.int .i64 0)),.k (.dat none (.int .i64 0))]),
 qs 1 (qW 2 4 23),
 qe 2 5 (.mv xF)]
def r4:List Ent:=[
 qe 0 24 (qA 2 6),
 qs 1 (qW 2 4 24),
 qe 2 5 (.mv xT)]
def fi:FI:={ res:=[.c 4 true 2,.t 5],code:=.seq (.reg 64 4 r0) (.seq (.reg 320 13 r1) (.seq (.seq (.reg 1152 5 r2) (.cond (.t 22) (.seq (.reg 1472 3 r3) (.ret)) (.skip))) (.seq (.reg 1664 3 r4) (.ret)))) }
attribute [go_sem] r0 r1 r2 r3 r4
theorem ok:chkF prog ZbR 2 fi=true:=by kernel_rfl
end impl_meetStretch
namespace impl_meetKnown
def r0:List Ent:=[
 qe 0 2 (.box (.t 0)),
 qe 1 3 (.box (.t 1)),
 qe 2 4 (.box (.k (.agg [.dat none (.int .i64 0),.dat none (.int .i64 0)]))),
 qe 3 5 (.mv xF)]
def r1:List Ent:=[
 qe 0 6 (qD 0 2),
 qe 1 7 (qL 1 6),
 qe 2 8 (qD 0 3),
 qe 3 9 (qL 1 8),
 qe 4 10 (qB .xor 7 9),
 qe 5 11 (qD 1 2),
 qe 6 12 (qL 1 11),
 qe 7 13 (qB .andNot 10 12),
 qe 8 14 (qD 1 3),
 qe 9 15 (qL 1 14),
 qe 10 16 (qB .andNot 13 15),
 qe 11 17 (qK .neq 16 0)]
def r2:List Ent:=[
 qe 0 18 (.bld [.k (.dat none (.int .i64 0)),.k (.dat none (.int .i64 0))]),
 qs 1 (qW 2 4 18),
 qe 2 5 (.mv xF)]
def r3:List Ent:=[
 qe 0 19 (qD 0 2),
 qe 1 20 (qL 1 19),
 qe 2 21 (qD 0 3),
 qe 3 22 (qL 1 21),
 qe 4 23 (qB .or 20 22),
 qe 5 24 (qD 1 2),
 qe 6 25 (qL 1 24),
 qe 7 26 (qD 1 3),
 qe 8 27 (qL 1 26),
 qe 9 28 (qB .and 25 27),
 qc 10 29 (qC Zby [.t 23,.t 28]),
 qs 11 (qW 2 4 29),
 qe 12 5 (.mv xT)]
def fi:FI:={ res:=[.c 4 true 2,.t 5],code:=.seq (.reg 64 4 r0) (.seq (.seq (.reg 320 12 r1) (.cond (.t 17) (.seq (.reg 1088 3 r2) (.ret)) (.skip))) (.seq (.reg 1280 13 r3) (.ret))) }
attribute [go_sem] r0 r1 r2 r3
theorem ok:chkF prog Zcv 2 fi=true:=by kernel_rfl
end impl_meetKnown
namespace impl_splitLess
def r0:List Ent:=[
 qe 0 2 (.box (.t 0)),
 qe 1 3 (.box (.t 1)),
 qe 2 4 (.box (.k (.agg [.dat none (.int .i64 0),.dat none (.int .i64 0)]))),
 qe 3 5 (.box (.k (.agg [.dat none (.int .i64 0),.dat none (.int .i64 0)]))),
 qe 4 6 (.mv xF)]
def r1:List Ent:=[
 qe 0 7 (qD 0 2),
 qe 1 8 (qL 1 7),
 qe 2 9 (qD 1 3),
 qe 3 10 (qL 1 9),
 qe 4 11 (qB .geq 8 10)]
def r2:List Ent:=[
 qe 0 12 (.bld [.k (.dat none (.int .i64 0)),.k (.dat none (.int .i64 0))]),
 qe 1 13 (.bld [.k (.dat none (.int .i64 0)),.k (.dat none (.int .i64 0))]),
 qs 2 (qW 2 4 12),
 qs 3 (qW 2 5 13),
 qe 4 6 (.mv xF)]
def r3:List Ent:=[
 qr 0 14 (qD 0 2),
 qr 1 15 (qL 1 14),
 qr 2 16 (qD 1 2),
 qr 3 17 (qL 1 16),
 qr 4 18 (qD 1 3),
 qr 5 19 (qL 1 18),
 qe 6 20 (qK .sub 19 1),
 qe 7 21 (.mnx false (.t 17) (.t 20)),
 qr 8 22 (.bld [.t 15,.t 21]),
 EP 18 none none (.i (qW 2 4 22)) 0 true,
 qx 9 23 (qD 0 3) 2 [] [18] false,
 qx 10 24 (qL 1 23) 2 [] [18] false,
 qx 11 25 (qD 0 2) 2 [] [18] false,
 qx 12 26 (qL 1 25) 2 [] [18] false,
 qe 13 27 (qK .add 26 1),
 qe 14 28 (.mnx true (.t 24) (.t 27)),
 qx 15 29 (qD 1 3) 2 [] [18] false,
 qx 16 30 (qL 1 29) 2 [] [18] false,
 qx 17 31 (.bld [.t 28,.t 30]) 2 [] [18] false,
 qs 19 (qW 2 5 31),
 qe 20 6 (.mv xT)]
def fi:FI:={ res:=[.c 4 true 2,.c 5 true 2,.t 6],code:=.seq (.reg 64 5 r0) (.seq (.seq (.reg 384 5 r1) (.cond (.t 11) (.seq (.reg 704 5 r2) (.ret)) (.skip))) (.seq (.reg 1024 21 r3) (.ret))) }
attribute [go_sem] r0 r1 r2 r3
theorem ok:chkF prog Zcr 2 fi=true:=by kernel_rfl
end impl_splitLess
namespace impl_heedJump
def r0:List Ent:=[
 qe 0 3 (.box (.t 0)),
 qe 1 4 (.box (.t 1)),
 qe 2 6 (.box (.k (.agg [.nil 2,.nil 2,.nil 2,.nil 1]))),
 qe 3 7 (.mv xF)]
def r1:List Ent:=[
 qe 0 19 (qA 4 4),
 qc 1 20 (qV Zbh 19),
 qe 2 8 (.box (.k (.agg [.nil 2,.nil 2,.nil 2,.nil 1]))),
 qs 3 (qW 4 8 20)]
def r2:List Ent:=[
 qx 0 21 (qD 0 4) 2 [12,13] [] false,
 qx 1 22 (qL 1 21) 2 [12,13] [] false,
 qx 2 23 (qD 2 3) 2 [12,13] [] false,
 qx 3 24 (qL 1 23) 2 [12,13] [] false,
 qx 4 25 (qI 2 22 24) 2 [12,13] [] false,
 qx 5 26 (qA 2 25) 2 [12,13] [] false,
 qx 12 9 (.box (.k (.agg [.dat none (.int .i64 0),.dat none (.int .i64 0)]))) 1 [13] [] false,
 qx 13 10 (.box (.k (.agg [.dat none (.int .i64 0),.dat none (.int .i64 0)]))) 1 [12] [] false,
 EP 14 none none (.i (qW 2 9 26)) 0 true,
 qx 6 27 (qD 0 4) 2 [12,13] [14] false,
 qx 7 28 (qL 1 27) 2 [12,13] [14] false,
 qx 8 29 (qD 3 3) 2 [12,13] [14] false,
 qx 9 30 (qL 1 29) 2 [12,13] [14] false,
 qx 10 31 (qI 2 28 30) 2 [12,13] [14] false,
 qx 11 32 (qA 2 31) 2 [12,13] [14] false,
 qs 15 (qW 2 10 32)]
def r3:List Ent:=[
 qe 0 11 (.mv xT)]
def r4:List Ent:=[
 qe 0 34 (qD 0 3),
 qe 1 35 (qL 1 34),
 qe 2 36 (qK .eql 35 9),
 qm 3 37 36,
 qt 4 38 37 (qM 2),
 qe 5 39 (.pick (.t 37) (.t 38) xF),
 qm 6 33 39]
def r5:List Ent:=[
 qe 0 41 (qA 2 9),
 qe 1 42 (qA 2 10),
 qc 2 43 (qC ZbR [.t 41,.t 42]),
 qm 3 40 43,
 qe 4 44 (qX 0 40),
 qe 5 45 (qX 1 40),
 qe 6 12 (.box (.k (.agg [.dat none (.int .i64 0),.dat none (.int .i64 0)]))),
 qs 7 (qW 2 12 44),
 qm 8 13 45]
def r6:List Ent:=[
 qx 0 47 (qD 1 4) 2 [16] [] false,
 qx 1 48 (qL 1 47) 2 [16] [] false,
 qx 2 49 (qD 2 3) 2 [16] [] false,
 qx 3 50 (qL 1 49) 2 [16] [] false,
 qx 4 51 (qI 2 48 50) 2 [16] [] false,
 qx 5 52 (qA 2 51) 2 [16] [] false,
 qx 6 53 (qD 1 4) 2 [16] [] false,
 qx 7 54 (qL 1 53) 2 [16] [] false,
 qx 8 55 (qD 3 3) 2 [16] [] false,
 qx 9 56 (qL 1 55) 2 [16] [] false,
 qx 10 57 (qI 2 54 56) 2 [16] [] false,
 qx 11 58 (qA 2 57) 2 [16] [] false,
 EX 12 (some 59) none (.call Zcv false (roA [.t 52,.t 58])) 2 [16] [] false,
 qm 13 46 59,
 qx 14 60 (qX 0 46) 2 [16] [] false,
 EP 16 (some 14) none (.i (.box (.k (.agg [.dat none (.int .i64 0),.dat none (.int .i64 0)])))) 1 false,
 EP 17 none none (.i (qW 2 14 60)) 0 true,
 qx 15 61 (qX 1 46) 2 [16] [17] false,
 qm 18 15 61]
def r7:List Ent:=[
 qm 0 62 13,
 qm 1 63 62,
 qt 2 64 63 (qM 15),
 qe 3 65 (.pick (.t 63) (.t 64) xF),
 qm 4 11 65]
def r8:List Ent:=[
 qr 0 66 (qD 0 8),
 qr 1 67 (qL 1 66),
 qr 2 68 (qD 2 3),
 qr 3 69 (qL 1 68),
 qr 8 74 (qA 2 12),
 qr 10 76 (qI 2 67 69),
 EP 11 none none (.i (qW 2 76 74)) 0 true,
 qx 4 70 (qD 0 8) 2 [] [11] false,
 qx 5 71 (qL 1 70) 2 [] [11] false,
 qx 6 72 (qD 3 3) 2 [] [11] false,
 qx 7 73 (qL 1 72) 2 [] [11] false,
 qx 9 75 (qA 2 12) 2 [] [11] false,
 qe 12 77 (qI 2 71 73),
 qs 13 (qW 2 77 75)]
def r9:List Ent:=[
 qr 0 78 (qD 1 8),
 qr 1 79 (qL 1 78),
 qr 2 80 (qD 2 3),
 qr 3 81 (qL 1 80),
 qr 8 86 (qA 2 14),
 qr 10 88 (qI 2 79 81),
 EP 11 none none (.i (qW 2 88 86)) 0 true,
 qx 4 82 (qD 1 8) 2 [] [11] false,
 qx 5 83 (qL 1 82) 2 [] [11] false,
 qx 6 84 (qD 3 3) 2 [] [11] false,
 qx 7 85 (qL 1 84) 2 [] [11] false,
 qx 9 87 (qA 2 14) 2 [] [11] false,
 qe 12 89 (qI 2 83 85),
 qs 13 (qW 2 89 87)]
def r10:List Ent:=[
 qe 0 91 (qD 0 3),
 qe 1 92 (qL 1 91),
 qe 2 93 (qK .eql 92 10),
 qm 3 94 93,
 qt 4 95 94 (qM 2),
 qe 5 96 (.pick (.t 94) (.t 95) xF),
 qm 6 90 96]
def r11:List Ent:=[
 qe 0 98 (qA 2 9),
 qe 1 99 (qA 2 10),
 qc 2 100 (qC Zcr [.t 98,.t 99]),
 qm 3 97 100,
 qe 4 101 (qX 0 97),
 qe 5 102 (qX 1 97),
 qe 6 103 (qX 2 97),
 qe 7 16 (.box (.k (.agg [.dat none (.int .i64 0),.dat none (.int .i64 0)]))),
 qe 8 17 (.box (.k (.agg [.dat none (.int .i64 0),.dat none (.int .i64 0)]))),
 qs 9 (qW 2 16 101),
 qs 10 (qW 2 17 102),
 qm 11 18 103]
def r12:List Ent:=[
 qm 0 104 18,
 qm 1 105 104,
 qt 2 106 105 (qD 2 3),
 qt 3 107 105 (qL 1 106),
 qt 4 108 105 (qD 3 3),
 qt 5 109 105 (qL 1 108),
 qt 6 110 105 (qB .neq 107 109),
 qe 7 111 (.pick (.t 105) (.t 110) xF),
 qm 8 11 111]
def r13:List Ent:=[
 qr 0 112 (qD 0 8),
 qr 1 113 (qL 1 112),
 qr 2 114 (qD 2 3),
 qr 3 115 (qL 1 114),
 qr 8 120 (qA 2 16),
 qr 10 122 (qI 2 113 115),
 EP 11 none none (.i (qW 2 122 120)) 0 true,
 qx 4 116 (qD 0 8) 2 [] [11] false,
 qx 5 117 (qL 1 116) 2 [] [11] false,
 qx 6 118 (qD 3 3) 2 [] [11] false,
 qx 7 119 (qL 1 118) 2 [] [11] false,
 qx 9 121 (qA 2 17) 2 [] [11] false,
 qe 12 123 (qI 2 117 119),
 qs 13 (qW 2 123 121)]
def r14:List Ent:=[
 qe 0 125 (qD 0 3),
 qe 1 126 (qL 1 125),
 qe 2 127 (qK .eql 126 10),
 qm 3 128 127,
 qt 4 129 128 (qD 2 3),
 qt 5 130 128 (qL 1 129),
 qt 6 131 128 (qD 3 3),
 qt 7 132 128 (qL 1 131),
 qt 8 133 128 (qB .neq 130 132),
 qe 9 134 (.pick (.t 128) (.t 133) xF),
 qm 10 124 134]
def r15:List Ent:=[
 qe 0 135 (qD 1 9),
 qe 1 136 (qL 1 135),
 qe 2 137 (qD 0 10),
 qe 3 138 (qL 1 137),
 qe 4 139 (qB .geq 136 138),
 qm 5 11 139]
def r16:List Ent:=[
 qe 0 140 (qD 0 8),
 qe 1 141 (qL 1 140),
 qe 2 142 (qD 2 3),
 qe 3 143 (qL 1 142),
 qe 4 144 (qD 0 9),
 qe 5 145 (qL 1 144),
 qe 6 146 (qD 0 10),
 qe 7 147 (qL 1 146),
 qe 8 148 (.mnx true (.t 145) (.t 147)),
 qe 9 149 (qD 1 9),
 qe 10 150 (qL 1 149),
 qe 11 151 (.bld [.t 148,.t 150]),
 qe 12 152 (qI 2 141 143),
 qs 13 (qW 2 152 151)]
def r17:List Ent:=[
 qe 0 153 (qD 0 8),
 qe 1 154 (qL 1 153),
 qe 2 155 (qD 3 3),
 qe 3 156 (qL 1 155),
 qe 4 157 (qD 0 10),
 qe 5 158 (qL 1 157),
 qe 6 159 (qD 1 10),
 qe 7 160 (qL 1 159),
 qe 8 161 (qD 1 9),
 qe 9 162 (qL 1 161),
 qe 10 163 (.mnx false (.t 160) (.t 162)),
 qe 11 164 (.bld [.t 158,.t 163]),
 qe 12 165 (qI 2 154 156),
 qs 13 (qW 2 165 164)]
def r18:List Ent:=[
 qm 0 166 11,
 qe 1 167 (qN 166)]
def r19:List Ent:=[
 qe 0 168 (.bld [.k (.nil 2),.k (.nil 2),.k (.nil 2),.k (.nil 1)]),
 qs 1 (qW 4 6 168),
 qe 2 7 (.mv xF)]
def r20:List Ent:=[
 qe 0 169 (qA 4 8),
 qs 1 (qW 4 6 169),
 qe 2 7 (.mv xT)]
def fi:FI:={ res:=[.c 6 true 4,.t 7],code:=.seq (.reg 64 4 r0) (.seq (.reg 320 4 r1) (.seq (.reg 576 16 r2) (.seq (.reg 1600 1 r3) (.seq (.block 0 (.seq (.reg 1664 7 r4) (.cond (.t 33) (.seq (.reg 2112 9 r5) (.seq (.reg 2688 19 r6) (.seq (.reg 3904 5 r7) (.seq (.reg 4224 14 r8) (.reg 5120 14 r9))))) (.seq (.reg 6016 7 r10) (.cond (.t 90) (.seq (.reg 6464 12 r11) (.seq (.reg 7232 9 r12) (.reg 7808 14 r13))) (.seq (.reg 8704 11 r14) (.cond (.t 124) (.seq (.reg 9408 6 r15) (.seq (.reg 9792 14 r16) (.reg 10688 14 r17))) (.skip)))))))) (.seq (.seq (.reg 11584 2 r18) (.cond (.t 167) (.seq (.reg 11712 3 r19) (.ret)) (.skip))) (.seq (.reg 11904 3 r20) (.ret))))))) }
attribute [go_sem] r0 r1 r2 r3 r4 r5 r6 r7 r8 r9 r10 r11 r12 r13 r14 r15 r16 r17 r18 r19 r20
theorem ok:chkF prog ZbW 3 fi=true:=by kernel_rfl
end impl_heedJump
namespace impl_joinStretch
def r0:List Ent:=[
 qe 0 2 (.box (.t 0)),
 qe 1 3 (.box (.t 1)),
 qe 2 4 (.box (.k (.agg [.dat none (.int .i64 0),.dat none (.int .i64 0)])))]
def r1:List Ent:=[
 qe 0 5 (qD 0 2),
 qe 1 6 (qL 1 5),
 qe 2 7 (qD 0 3),
 qe 3 8 (qL 1 7),
 qe 4 9 (.mnx false (.t 6) (.t 8)),
 qe 5 10 (qD 1 2),
 qe 6 11 (qL 1 10),
 qe 7 12 (qD 1 3),
 qe 8 13 (qL 1 12),
 qe 9 14 (.mnx true (.t 11) (.t 13)),
 qe 10 15 (.bld [.t 9,.t 14]),
 qs 11 (qW 2 4 15)]
def fi:FI:={ res:=[.c 4 true 2],code:=.seq (.reg 64 3 r0) (.seq (.reg 256 12 r1) (.ret)) }
attribute [go_sem] r0 r1
theorem ok:chkF prog Zbm 2 fi=true:=by kernel_rfl
end impl_joinStretch
namespace impl_joinKnown
def r0:List Ent:=[
 qe 0 2 (.box (.t 0)),
 qe 1 3 (.box (.t 1)),
 qe 2 4 (.box (.k (.agg [.dat none (.int .i64 0),.dat none (.int .i64 0)])))]
def r1:List Ent:=[
 qe 0 5 (qD 0 2),
 qe 1 6 (qL 1 5),
 qe 2 7 (qD 1 2),
 qe 3 8 (qL 1 7),
 qe 4 9 (qD 1 3),
 qe 5 10 (qL 1 9),
 qe 6 11 (qB .or 8 10),
 qe 7 12 (qD 0 2),
 qe 8 13 (qL 1 12),
 qe 9 14 (qD 0 3),
 qe 10 15 (qL 1 14),
 qe 11 16 (qB .xor 13 15),
 qe 12 17 (qB .or 11 16),
 qc 13 18 (qC Zby [.t 6,.t 17]),
 qs 14 (qW 2 4 18)]
def fi:FI:={ res:=[.c 4 true 2],code:=.seq (.reg 64 3 r0) (.seq (.reg 256 15 r1) (.ret)) }
attribute [go_sem] r0 r1
theorem ok:chkF prog Zcs 2 fi=true:=by kernel_rfl
end impl_joinKnown
namespace impl_joined
def r0:List Ent:=[
 qe 0 2 (.box (.t 0)),
 qe 1 3 (.box (.t 1)),
 qe 2 4 (.box (.k (.agg [.nil 2,.nil 2,.nil 2,.nil 1])))]
def r1:List Ent:=[
 qe 0 8 (qA 4 2),
 qc 1 9 (qV Zbh 8),
 qe 2 5 (.box (.k (.agg [.nil 2,.nil 2,.nil 2,.nil 1]))),
 qs 3 (qW 4 5 9)]
def r2:List Ent:=[
 qe 0 10 (qD 0 5),
 qe 1 11 (qL 1 10),
 qe 2 12 (qZ 11),
 qe 3 13 (.mv (xN 0))]
def r3:List Ent:=[
 qe 0 14 (qB .lss 13 12)]
def r4:List Ent:=[
 qm 0 15 13,
 qm 1 6 15]
def r5:List Ent:=[
 qr 0 16 (qD 0 5),
 qr 1 17 (qL 1 16),
 qm 2 18 6,
 qm 5 21 6,
 qr 6 22 (qD 0 2),
 qr 7 23 (qL 1 22),
 qm 8 24 6,
 qr 9 25 (qI 2 23 24),
 qr 10 26 (qA 2 25),
 qr 11 27 (qD 0 3),
 qr 12 28 (qL 1 27),
 qm 13 29 6,
 qr 14 30 (qI 2 28 29),
 qr 15 31 (qA 2 30),
  E2 16 (some 32) none (.call Zbm false (roA [.t 26,.t 31])),
 qr 17 33 (qD 1 2),
 qr 18 34 (qL 1 33),
 qm 19 35 6,
 qr 20 36 (qI 2 34 35),
 qr 21 37 (qA 2 36),
 qr 22 38 (qD 1 3),
 qr 23 39 (qL 1 38),
 qm 24 40 6,
 qr 25 41 (qI 2 39 40),
 qr 26 42 (qA 2 41),
  E2 27 (some 43) none (.call Zcs false (roA [.t 37,.t 42])),
 qr 28 44 (qI 2 17 18),
 EP 29 none none (.i (qW 2 44 32)) 0 true,
 qx 3 19 (qD 1 5) 2 [] [29] false,
 qx 4 20 (qL 1 19) 2 [] [29] false,
 qe 30 45 (qI 2 20 21),
 qs 31 (qW 2 45 43)]
def r6:List Ent:=[
 qe 0 46 (qK .add 13 1),
 qm 1 13 46]
def b0:KC:=.seq (.reg 768 1 r3) (.seq (.cond (.t 14) (.skip) (.exit 0)) (.seq (.block 1 (.seq (.reg 832 2 r4) (.reg 960 32 r5))) (.reg 3008 2 r6)))
def r7:List Ent:=[
 qe 0 47 (qD 2 5),
 qe 1 48 (qL 1 47),
 qe 2 49 (qZ 48),
 qe 3 50 (.mv (xN 0))]
def r8:List Ent:=[
 qe 0 51 (qB .lss 50 49)]
def r9:List Ent:=[
 qm 0 52 50,
 qm 1 7 52]
def r10:List Ent:=[
 qr 0 53 (qD 2 5),
 qr 1 54 (qL 1 53),
 qm 2 55 7,
 qm 5 58 7,
 qr 6 59 (qD 2 2),
 qr 7 60 (qL 1 59),
 qm 8 61 7,
 qr 9 62 (qI 2 60 61),
 qr 10 63 (qA 2 62),
 qr 11 64 (qD 2 3),
 qr 12 65 (qL 1 64),
 qm 13 66 7,
 qr 14 67 (qI 2 65 66),
 qr 15 68 (qA 2 67),
  E2 16 (some 69) none (.call Zbm false (roA [.t 63,.t 68])),
 qr 17 70 (qD 3 2),
 qr 18 71 (qL 1 70),
 qm 19 72 7,
 qr 20 73 (qI 1 71 72),
 qr 21 74 (qL 1 73),
 qm 22 75 74,
 ER 23 (some 76) (some (75,true)) (qD 3 3),
 ER 24 (some 77) (some (75,true)) (qL 1 76),
 qt 25 78 75 (qM 7),
 ER 26 (some 79) (some (75,true)) (qI 1 77 78),
 ER 27 (some 80) (some (75,true)) (qL 1 79),
 qe 28 81 (.pick (.t 75) (.t 80) xF),
 qr 29 82 (qI 2 54 55),
 EP 30 none none (.i (qW 2 82 69)) 0 true,
 qx 3 56 (qD 3 5) 2 [] [30] false,
 qx 4 57 (qL 1 56) 2 [] [30] false,
 qe 31 83 (qI 1 57 58),
 qs 32 (qW 1 83 81)]
def r11:List Ent:=[
 qe 0 84 (qK .add 50 1),
 qm 1 50 84]
def b1:KC:=.seq (.reg 3392 1 r8) (.seq (.cond (.t 51) (.skip) (.exit 2)) (.seq (.block 3 (.seq (.reg 3456 2 r9) (.reg 3584 33 r10))) (.reg 5696 2 r11)))
def r12:List Ent:=[
 qe 0 85 (qA 4 5),
 qs 1 (qW 4 4 85)]
def fi:FI:={ res:=[.c 4 true 4],code:=.seq (.reg 64 3 r0) (.seq (.reg 256 4 r1) (.seq (.seq (.reg 512 4 r2) (.block 0 (.loop b0))) (.seq (.seq (.reg 3136 4 r7) (.block 2 (.loop b1))) (.seq (.reg 5824 2 r12) (.ret))))) }
attribute [go_sem] r0 r1 r2 r3 r4 r5 r6 r7 r8 r9 r10 r11 r12
theorem ok:chkF prog Zdm 2 fi=true:=by kernel_rfl
end impl_joined
namespace impl_AnalyseProgram
def r0:List Ent:=[
 qe 0 2 (.box (.k (.agg [.nil 1,.nil 4,.nil 1]))),
 qe 1 3 (.mv xF)]
def r1:List Ent:=[
 qm 0 13 0,
 qc 1 14 (qV Zbl 13),
 qe 2 15 (qN 14)]
def r2:List Ent:=[
 qe 0 16 (.bld [.k (.nil 1),.k (.nil 4),.k (.nil 1)]),
 qs 1 (qW 3 2 16),
 qe 2 3 (.mv xF)]
def r3:List Ent:=[
 qm 0 17 0,
 qx 1 18 (qZ 17) 2 [5,7] [] false,
 qx 2 19 (.mks 1 1 (.bool false) (.t 18) (.t 18)) 1 [5,7] [] false,
 qm 3 20 0,
 qx 4 21 (qZ 20) 2 [2,7] [] false,
 qx 5 22 (.mks 4 96 (.agg [.sl 2 [],.sl 2 [],.sl 2 [],.sl 1 []]) (.t 21) (.t 21)) 1 [2,7] [] false,
 qx 6 23 (.bld [.t 19,.t 22,.k (.nil 1)]) 2 [7] [] false,
 qx 7 4 (.box (.k (.agg [.nil 1,.nil 4,.nil 1]))) 1 [2,5] [] false,
 qs 8 (qW 3 4 23)]
def r4:List Ent:=[
 qx 0 24 (qD 0 4) 2 [4] [] false,
 qx 1 25 (qL 1 24) 2 [4] [] false,
 EP 4 (some 28) none (.call ZbP false (roA [])) 1 false,
 qr 5 29 (.iad 1 (.t 25) (xN 0)),
 EP 6 none none (.i (.store 1 (.t 29) xT)) 0 true,
 qx 2 26 (qD 1 4) 2 [4] [6] false,
 qx 3 27 (qL 1 26) 2 [4] [6] false,
 qe 7 30 (.iad 4 (.t 27) (xN 0)),
 qs 8 (qW 4 30 28)]
def r5:List Ent:=[
 qm 0 31 0,
 qe 1 32 (qZ 31),
 qe 2 33 (.mv (xN 0))]
def r6:List Ent:=[
 qe 0 34 (qB .lss 33 32)]
def r7:List Ent:=[
 qm 0 35 33,
 qe 1 36 (qI 6 31 33),
 qe 2 37 (qA 6 36),
 qe 3 6 (.box (.k (.agg [.dat none (.int .i64 0),.dat none (.int .i64 0),.dat none (.int .i64 0),.dat none (.int .i64 0),.dat none (.int .i64 0),.dat none (.int .i64 0)]))),
 qm 4 5 35,
 qs 5 (qW 6 6 37)]
def r8:List Ent:=[
 qe 0 38 (qD 0 4),
 qe 1 39 (qL 1 38),
 qm 2 40 5,
 qe 3 41 (qI 1 39 40),
 qe 4 42 (qL 1 41),
 qe 5 43 (qN 42)]
def r9:List Ent:=[
 qx 0 45 (qA 6 6) 2 [10] [] false,
 qx 1 46 (qD 1 4) 2 [10] [] false,
 qx 2 47 (qL 1 46) 2 [10] [] false,
 qm 3 48 5,
 qx 4 49 (qI 4 47 48) 2 [10] [] false,
 qx 5 50 (qA 4 49) 2 [10] [] false,
 EX 6 (some 51) none (.call Zcg false (roA [.t 45,.t 50])) 1 [10] [] false,
 qm 7 44 51,
 qx 8 52 (qX 0 44) 2 [10] [] false,
 qx 10 7 (.box (.k (.agg [.nil 2,.nil 2,.nil 2,.nil 1]))) 1 [6] [] false,
 EP 11 none none (.i (qW 4 7 52)) 0 true,
 qx 9 53 (qX 1 44) 2 [10] [11] false,
 qm 12 8 53]
def r10:List Ent:=[
 qm 0 54 8,
 qe 1 55 (qK .neq 54 0)]
def r11:List Ent:=[
 qe 0 56 (qD 2 4),
 qe 1 57 (qL 1 56),
 qm 2 58 5,
 qe 3 59 (.bsl true 1 [.t 58]),
 qe 4 60 (.app 1 8 (.t 57) (.t 59)),
 qe 5 61 (qD 2 4),
 qs 6 (qW 1 61 60)]
def r12:List Ent:=[
 qm 0 62 0,
 qm 1 63 5,
 qc 2 64 (qC ZcT [.t 62,.t 63]),
 qe 3 65 (qZ 64),
 qe 4 66 (.mv (xN 0))]
def r13:List Ent:=[
 qe 0 67 (qB .lss 66 65)]
def r14:List Ent:=[
 qm 0 68 66,
 qe 1 69 (qI 1 64 66),
 qe 2 70 (qL 1 69),
 qm 3 9 68,
 qm 4 10 70]
def r15:List Ent:=[
 qe 0 71 (qA 4 7),
 qc 1 72 (qV Zbh 71),
 qe 2 11 (.box (.k (.agg [.nil 2,.nil 2,.nil 2,.nil 1]))),
 qs 3 (qW 4 11 72),
 qe 4 12 (.mv xT)]
def r16:List Ent:=[
 qe 0 73 (qA 6 6),
 qc 1 74 (qV ZaQ 73)]
def r17:List Ent:=[
 qe 0 76 (qA 6 6),
 qe 1 77 (qA 4 7),
 qm 2 78 9,
 qe 3 79 (qK .eql 78 1),
 qc 4 80 (qC ZbW [.t 76,.t 77,.t 79]),
 qm 5 75 80,
 qe 6 81 (qX 0 75),
 qe 7 82 (qX 1 75),
 qs 8 (qW 4 11 81),
 qm 9 12 82]
def r18:List Ent:=[
 qm 0 93 12,
 qe 1 94 (qN 93),
 qm 2 92 94]
def r19:List Ent:=[
 qe 0 96 (qD 0 4),
 qe 1 97 (qL 1 96),
 qm 2 98 10,
 qe 3 99 (qI 1 97 98),
 qe 4 100 (qL 1 99),
 qm 5 95 100]
def r20:List Ent:=[
 qx 0 101 (qD 1 4) 2 [9] [] false,
 qx 1 102 (qL 1 101) 2 [9] [] false,
 qm 2 103 10,
 qr 3 104 (qD 1 4),
 qr 4 105 (qL 1 104),
 qm 5 106 10,
 qr 6 107 (qI 4 105 106),
 qr 7 108 (qA 4 107),
 qr 8 109 (qA 4 11),
 EP 9 (some 110) none (.call Zdm false (roA [.t 108,.t 109])) 1 false,
 qe 10 111 (qI 4 102 103),
 qs 11 (qW 4 111 110)]
def r21:List Ent:=[
 qr 0 83 (qD 0 4),
 qr 1 84 (qL 1 83),
 qm 2 85 10,
 qm 5 88 10,
 qr 7 90 (qI 1 84 85),
 EP 8 none none (.i (.store 1 (.t 90) xT)) 0 true,
 qx 3 86 (qD 1 4) 2 [] [8] false,
 qx 4 87 (qL 1 86) 2 [] [8] false,
 qx 6 89 (qA 4 11) 2 [] [8] false,
 qe 9 91 (qI 4 87 88),
 qs 10 (qW 4 91 89)]
def r22:List Ent:=[
 qe 0 112 (qK .add 66 1),
 qm 1 66 112]
def b0:KC:=.seq (.reg 4480 1 r13) (.seq (.cond (.t 67) (.skip) (.exit 2)) (.seq (.block 3 (.seq (.reg 4544 5 r14) (.seq (.reg 4864 5 r15) (.seq (.seq (.reg 5184 2 r16) (.cond (.t 74) (.reg 5312 10 r17) (.skip))) (.block 4 (.seq (.reg 5952 3 r18) (.cond (.t 92) (.skip) (.seq (.reg 6144 6 r19) (.cond (.t 95) (.reg 6528 12 r20) (.reg 7296 11 r21)))))))))) (.reg 8000 2 r22)))
def r23:List Ent:=[
 qe 0 113 (qK .add 33 1),
 qm 1 33 113]
def b1:KC:=.seq (.reg 1920 1 r6) (.seq (.cond (.t 34) (.skip) (.exit 0)) (.seq (.block 1 (.seq (.reg 1984 6 r7) (.seq (.seq (.reg 2368 6 r8) (.cond (.t 43) (.exit 1) (.skip))) (.seq (.reg 2752 13 r9) (.seq (.seq (.reg 3584 2 r10) (.cond (.t 55) (.seq (.reg 3712 7 r11) (.exit 1)) (.skip))) (.seq (.reg 4160 5 r12) (.block 2 (.loop b0)))))))) (.reg 8128 2 r23)))
def r24:List Ent:=[
 qe 0 114 (qA 3 4),
 qs 1 (qW 3 2 114),
 qe 2 3 (.mv xT)]
def fi:FI:={ res:=[.c 2 true 3,.t 3],code:=.seq (.reg 64 2 r0) (.seq (.seq (.reg 192 3 r1) (.cond (.t 15) (.seq (.reg 384 3 r2) (.ret)) (.skip))) (.seq (.reg 576 9 r3) (.seq (.reg 1152 9 r4) (.seq (.seq (.reg 1728 3 r5) (.block 0 (.loop b1))) (.seq (.reg 8256 3 r24) (.ret)))))) }
attribute [go_sem] r0 r1 r2 r3 r4 r5 r6 r7 r8 r9 r10 r11 r12 r13 r14 r15 r16 r17 r18 r19 r20 r21 r22 r23 r24
theorem ok:chkF prog Zbr 1 fi=true:=by kernel_rfl
end impl_AnalyseProgram
namespace spec_NewMachine
def r0:List Ent:=[
 qe 0 0 (.box (.k (.agg [.dat none (.int .i64 0),.nil 1,.nil 1,.nil 1])))]
def r1:List Ent:=[
 qx 0 1 (.mks 1 8 (.int .i64 0) (xN 6) (xN 6)) 1 [1,2] [] false,
 qx 1 2 (.mks 1 8 (.int .i64 0) (xN 16) (xN 16)) 1 [0,2] [] false,
 qx 2 3 (.mks 1 1 (.bool false) (xN 16) (xN 16)) 1 [0,1] [] false,
 qe 3 4 (.bld [.k (.dat none (.int .i64 0)),.t 1,.t 2,.t 3]),
 qs 4 (qW 4 0 4)]
def fi:FI:={ res:=[.c 0 true 4],code:=.seq (.reg 64 1 r0) (.seq (.reg 128 5 r1) (.ret)) }
attribute [go_sem] r0 r1
theorem ok:chkF prog ZbY 0 fi=true:=by kernel_rfl
end spec_NewMachine
namespace spec_l3Do
def r0:List Ent:=[
 qe 0 5 (.box (.t 2)),
 qe 1 6 (.box (.k (.agg [.dat none (.int .i64 0),.nil 1,.nil 1,.nil 1]))),
 qe 2 7 (.mv (xN 0)),
 qe 3 8 (.mv xF)]
def r1:List Ent:=[
 qm 0 13 0,
 qe 1 14 (qD 0 5),
 qe 2 15 (qL 1 14),
 qe 3 16 (qI 6 13 15),
 qe 4 17 (qA 6 16),
 qe 5 9 (.box (.k (.agg [.dat none (.int .i64 0),.dat none (.int .i64 0),.dat none (.int .i64 0),.dat none (.int .i64 0),.dat none (.int .i64 0),.dat none (.int .i64 0)]))),
 qs 6 (qW 6 9 17)]
def r2:List Ent:=[
 qe 0 18 (qD 0 5),
 qe 1 19 (qL 1 18),
 qe 2 20 (qK .add 19 1),
 qm 3 10 20]
def r3:List Ent:=[
 qe 0 21 (qD 1 5),
 qe 1 22 (qL 1 21),
 qe 2 23 (qD 2 9),
 qe 3 24 (qL 1 23),
 qe 4 25 (qI 1 22 24),
 qe 5 26 (qL 1 25),
 qm 6 11 26]
def r4:List Ent:=[
 qe 0 27 (qD 1 5),
 qe 1 28 (qL 1 27),
 qe 2 29 (qD 3 9),
 qe 3 30 (qL 1 29),
 qe 4 31 (qI 1 28 30),
 qe 5 32 (qL 1 31),
 qm 6 12 32]
def r5:List Ent:=[
 qe 0 33 (qD 0 9),
 qe 1 34 (qL 1 33)]
def r6:List Ent:=[
 qe 0 36 (qK .eql 34 11),
 qm 1 35 36]
def r7:List Ent:=[
 qe 0 37 (qA 4 5),
 qs 1 (qW 4 6 37),
 qe 2 7 (.mv (xN 0)),
 qe 3 8 (.mv xT)]
def r8:List Ent:=[
 qe 0 39 (qK .eql 34 1),
 qm 1 38 39]
def r9:List Ent:=[
 qr 0 40 (qD 1 5),
 qr 1 41 (qL 1 40),
 qr 2 42 (qD 2 9),
 qr 3 43 (qL 1 42),
 qr 4 44 (qD 1 9),
 qr 5 45 (qL 1 44),
 qm 6 46 11,
 qm 7 47 12,
  E2 8 (some 48) none (.call ZbK false (roA [.t 45,.t 46,.t 47])),
 qe 9 49 (qI 1 41 43),
 qs 10 (qW 1 49 48)]
def r10:List Ent:=[
 qe 0 51 (qK .eql 34 2),
 qm 1 50 51]
def r11:List Ent:=[
 qr 0 52 (qD 1 5),
 qr 1 53 (qL 1 52),
 qr 2 54 (qD 2 9),
 qr 3 55 (qL 1 54),
 qr 4 56 (qD 1 9),
 qr 5 57 (qL 1 56),
 qm 6 58 11,
 qr 7 59 (qD 4 9),
 qr 8 60 (qL 1 59),
  E2 9 (some 61) none (.call ZbK false (roA [.t 57,.t 58,.t 60])),
 qe 10 62 (qI 1 53 55),
 qs 11 (qW 1 62 61)]
def r12:List Ent:=[
 qe 0 64 (qK .eql 34 3),
 qm 1 63 64]
def r13:List Ent:=[
 qe 0 65 (qK .eql 34 4),
 qm 1 63 65]
def r14:List Ent:=[
 qe 0 66 (qD 1 5),
 qe 1 67 (qL 1 66),
 qe 2 68 (qD 2 9),
 qe 3 69 (qL 1 68),
 qe 4 70 (qD 4 9),
 qe 5 71 (qL 1 70),
 qe 6 72 (qI 1 67 69),
 qs 7 (qW 1 72 71)]
def r15:List Ent:=[
 qe 0 74 (qK .eql 34 5),
 qm 1 73 74]
def r16:List Ent:=[
 qm 0 75 12,
 qe 1 76 (qD 4 9),
 qe 2 77 (qL 1 76),
 qe 3 78 (qB .add 75 77),
 qe 4 79 (qK .geq 78 8)]
def r17:List Ent:=[
 qe 0 80 (qA 4 5),
 qs 1 (qW 4 6 80),
 qe 2 7 (.mv (xN 1)),
 qe 3 8 (.mv xF)]
def r18:List Ent:=[
 qr 0 81 (qD 1 5),
 qr 1 82 (qL 1 81),
 qr 2 83 (qD 2 9),
 qr 3 84 (qL 1 83),
 qm 4 85 1,
 qm 5 86 12,
 qr 6 87 (qD 4 9),
 qr 7 88 (qL 1 87),
 qe 8 89 (qB .add 86 88),
 qr 9 90 (qI 1 85 89),
 qr 10 91 (qL 1 90),
 qe 11 92 (qI 1 82 84),
 qs 12 (qW 1 92 91)]
def r19:List Ent:=[
 qe 0 94 (qK .eql 34 7),
 qm 1 93 94]
def r20:List Ent:=[
 qe 0 95 (qK .eql 34 6),
 qm 1 93 95]
def r21:List Ent:=[
 qe 0 96 (qD 4 9),
 qe 1 97 (qL 1 96),
 qe 2 98 (qK .geq 97 16)]
def r22:List Ent:=[
 qe 0 99 (qA 4 5),
 qs 1 (qW 4 6 99),
 qe 2 7 (.mv (xN 2)),
 qe 3 8 (.mv xF)]
def r23:List Ent:=[
 qe 0 100 (qD 0 9),
 qe 1 101 (qL 1 100),
 qe 2 102 (qK .eql 101 7)]
def r24:List Ent:=[
 qe 0 103 (qD 2 5),
 qe 1 104 (qL 1 103),
 qe 2 105 (qD 4 9),
 qe 3 106 (qL 1 105),
 qm 4 107 11,
 qe 5 108 (qI 1 104 106),
 qs 6 (qW 1 108 107)]
def r25:List Ent:=[
 qe 0 109 (qD 3 5),
 qe 1 110 (qL 1 109),
 qe 2 111 (qD 4 9),
 qe 3 112 (qL 1 111),
 qe 4 113 (qI 1 110 112),
 qs 5 (.store 1 (.t 113) xT)]
def r26:List Ent:=[
 qe 0 114 (qD 3 5),
 qe 1 115 (qL 1 114),
 qe 2 116 (qD 4 9),
 qe 3 117 (qL 1 116),
 qe 4 118 (qI 1 115 117),
 qe 5 119 (qL 1 118),
 qe 6 120 (qN 119)]
def r27:List Ent:=[
 qe 0 121 (qA 4 5),
 qs 1 (qW 4 6 121),
 qe 2 7 (.mv (xN 3)),
 qe 3 8 (.mv xF)]
def r28:List Ent:=[
 qr 0 122 (qD 1 5),
 qr 1 123 (qL 1 122),
 qr 2 124 (qD 2 9),
 qr 3 125 (qL 1 124),
 qr 4 126 (qD 2 5),
 qr 5 127 (qL 1 126),
 qr 6 128 (qD 4 9),
 qr 7 129 (qL 1 128),
 qr 8 130 (qI 1 127 129),
 qr 9 131 (qL 1 130),
 qe 10 132 (qI 1 123 125),
 qs 11 (qW 1 132 131)]
def r29:List Ent:=[
 qe 0 133 (qD 0 9),
 qe 1 134 (qL 1 133),
 qe 2 135 (qK .eql 134 8),
 qm 3 136 135,
 qf 4 137 136 (qD 0 9),
 qf 5 138 136 (qL 1 137),
 qf 6 139 136 (qK .eql 138 9),
 qf 7 140 136 (qM 139),
 qt 8 141 140 (qM 11),
 qt 9 142 140 (qM 12),
 qt 10 143 140 (qB .eql 141 142),
 qf 11 144 136 (.pick (.t 140) (.t 143) xF),
 qe 12 145 (.pick (.t 136) xT (.t 144)),
 qm 13 146 145,
 qf 14 147 146 (qD 0 9),
 qf 15 148 146 (qL 1 147),
 qf 16 149 146 (qK .eql 148 10),
 qf 17 150 146 (qM 149),
 qt 18 151 150 (qM 11),
 qt 19 152 150 (qM 12),
 qt 20 153 150 (qB .lss 151 152),
 qf 21 154 146 (.pick (.t 150) (.t 153) xF),
 qe 22 155 (.pick (.t 146) xT (.t 154))]
def r30:List Ent:=[
 qe 0 156 (qD 0 5),
 qe 1 157 (qL 1 156),
 qe 2 158 (qD 5 9),
 qe 3 159 (qL 1 158),
 qe 4 160 (qB .add 157 159),
 qe 5 161 (qK .add 160 1),
 qm 6 10 161]
def r31:List Ent:=[
 qm 0 162 10,
 qe 1 163 (qD 0 5),
 qs 2 (qW 1 163 162)]
def r32:List Ent:=[
 qe 0 164 (qA 4 5),
 qs 1 (qW 4 6 164),
 qe 2 7 (.mv (xN 0)),
 qe 3 8 (.mv xF)]
def fi:FI:={ res:=[.c 6 true 4,.t 7,.t 8],code:=.seq (.reg 64 4 r0) (.seq (.reg 320 7 r1) (.seq (.reg 768 4 r2) (.seq (.reg 1024 7 r3) (.seq (.reg 1472 7 r4) (.seq (.seq (.reg 1920 2 r5) (.block 0 (.seq (.reg 2048 2 r6) (.cond (.t 35) (.seq (.reg 2176 4 r7) (.ret)) (.seq (.reg 2432 2 r8) (.cond (.t 38) (.reg 2560 11 r9) (.seq (.reg 3264 2 r10) (.cond (.t 50) (.reg 3392 12 r11) (.seq (.seq (.reg 4160 2 r12) (.cond (.t 63) (.skip) (.reg 4288 2 r13))) (.cond (.t 63) (.reg 4416 8 r14) (.seq (.reg 4928 2 r15) (.cond (.t 73) (.seq (.seq (.reg 5056 5 r16) (.cond (.t 79) (.seq (.reg 5376 4 r17) (.ret)) (.skip))) (.reg 5632 13 r18)) (.seq (.seq (.reg 6464 2 r19) (.cond (.t 93) (.skip) (.reg 6592 2 r20))) (.cond (.t 93) (.seq (.seq (.reg 6720 3 r21) (.cond (.t 98) (.seq (.reg 6912 4 r22) (.ret)) (.skip))) (.seq (.seq (.reg 7168 3 r23) (.cond (.t 102) (.seq (.reg 7360 7 r24) (.seq (.reg 7808 6 r25) (.exit 0))) (.skip))) (.seq (.seq (.reg 8192 7 r26) (.cond (.t 120) (.seq (.reg 8640 4 r27) (.ret)) (.skip))) (.reg 8896 12 r28)))) (.skip))))))))))))))) (.seq (.seq (.reg 9664 23 r29) (.cond (.t 155) (.reg 11136 7 r30) (.skip))) (.seq (.reg 11584 3 r31) (.seq (.reg 11776 4 r32) (.ret))))))))) }
attribute [go_sem] r0 r1 r2 r3 r4 r5 r6 r7 r8 r9 r10 r11 r12 r13 r14 r15 r16 r17 r18 r19 r20 r21 r22 r23 r24 r25 r26 r27 r28 r29 r30 r31 r32
theorem ok:chkF prog Zdo 3 fi=true:=by kernel_rfl
end spec_l3Do
namespace impl_NewMachine
def r0:List Ent:=[
 qe 0 0 (.box (.k (.agg [.dat none (.int .i64 0),.nil 1,.nil 1,.nil 1])))]
def r1:List Ent:=[
 qx 0 1 (.mks 1 8 (.int .i64 0) (xN 6) (xN 6)) 1 [1,2] [] false,
 qx 1 2 (.mks 1 8 (.int .i64 0) (xN 16) (xN 16)) 1 [0,2] [] false,
 qx 2 3 (.mks 1 1 (.bool false) (xN 16) (xN 16)) 1 [0,1] [] false,
 qe 3 4 (.bld [.k (.dat none (.int .i64 0)),.t 1,.t 2,.t 3]),
 qs 4 (qW 4 0 4)]
def fi:FI:={ res:=[.c 0 true 4],code:=.seq (.reg 64 1 r0) (.seq (.reg 128 5 r1) (.ret)) }
attribute [go_sem] r0 r1
theorem ok:chkF prog ZbZ 0 fi=true:=by kernel_rfl
end impl_NewMachine
end Go.Vm.YtmbhjcgikblpiaaGreat
