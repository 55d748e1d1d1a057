/- A part. -/
import Derived.Test.YteplichagkpciaaGreatDoorD2
import Derived.Test.YteplichagkpciaaGreatDoorProg
import Derived.KernelRfl
set_option linter.all false
set_option maxRecDepth 10000
set_option maxHeartbeats 1000000
namespace Go.Proofs.YteplichagkpciaaGreatDoor
open Go Go.Den
def PA:Nat:=5
def PB:Nat:=10
def PD:Nat:=11
def PE:Nat:=13
def PG:Nat:=14
def Is:Nat:=17
def j5:Nat:=19
def PH:Nat:=21
def AT:Nat:=22
def PI:Nat:=23
def yz:Nat:=25
def pn:Nat:=27
def yA:Nat:=30
def DQ:Nat:=31
def DR:Nat:=33
def PJ:Nat:=43
def uJ:Nat:=44
def AU:Nat:=45
def PK:Nat:=46
def PM:Nat:=47
def It:Nat:=48
def lM:Nat:=50
def PN:Nat:=52
def DS:Nat:=53
def AW:Nat:=54
def PO:Nat:=55
def iG:Nat:=56
def Iu:Nat:=57
def PQ:Nat:=59
def AX:Nat:=60
def PR:Nat:=61
def PT:Nat:=62
def Iv:Nat:=63
def Iw:Nat:=64
def PU:Nat:=65
def PV:Nat:=66
def PW:Nat:=67
def PX:Nat:=68
def Ix:Nat:=74
def Iy:Nat:=76
def DT:Nat:=78
def PY:Nat:=79
def Iz:Nat:=80
def IA:Nat:=81
def lO:Nat:=82
def IB:Nat:=83
def IC:Nat:=84
def PZ:Nat:=85
def P0:Nat:=86
def wB:Nat:=91
def P2:Nat:=92
def P3:Nat:=93
def DU:Nat:=94
def ID:Nat:=95
def P4:Nat:=96
def IE:Nat:=97
def IF:Nat:=98
def DV:Nat:=99
def P5:Nat:=100
def P6:Nat:=101
def IG:Nat:=102
def P7:Nat:=103
def P8:Nat:=104
def P9:Nat:=108
def IH:Nat:=110
def II:Nat:=112
def nX:Nat:=113
def DW:Nat:=114
def AY:Nat:=115
def cQ:Nat:=116
def IJ:Nat:=117
def DX:Nat:=118
def IK:Nat:=119
def AZ:Nat:=120
def DY:Nat:=121
def uK:Nat:=122
def Qa:Nat:=123
def Qb:Nat:=124
def D0:Nat:=125
def A0:Nat:=126
def A1:Nat:=127
def A2:Nat:=128
def A3:Nat:=129
def A4:Nat:=130
def A5:Nat:=131
def D1:Nat:=132
def Qc:Nat:=133
def Qd:Nat:=134
def Qe:Nat:=135
def D2:Nat:=136
def Qf:Nat:=137
def qK:Nat:=138
def D3:Nat:=139
def A6:Nat:=140
def A7:Nat:=141
def A8:Nat:=142
def A9:Nat:=143
def uL:Nat:=144
def IM:Nat:=145
def Qg:Nat:=146
def IN:Nat:=147
def Qh:Nat:=148
def Qi:Nat:=149
def Qj:Nat:=150
def yB:Nat:=151
def IP:Nat:=152
def Qk:Nat:=153
def Qm:Nat:=154
def IQ:Nat:=155
def IS:Nat:=156
def IT:Nat:=157
def IU:Nat:=158
def Qn:Nat:=159
def IV:Nat:=160
def Qo:Nat:=161
def IW:Nat:=162
def Qp:Nat:=163
def D4:Nat:=164
def IX:Nat:=165
def po:Nat:=166
def pq:Nat:=167
def D5:Nat:=168
def Qq:Nat:=169
def D6:Nat:=170
def wC:Nat:=171
def D7:Nat:=172
def Qr:Nat:=173
def Qs:Nat:=174
def IY:Nat:=175
def Qt:Nat:=176
def IZ:Nat:=177
def I0:Nat:=178
def Qu:Nat:=179
def Qv:Nat:=180
def D8:Nat:=181
def sh:Nat:=182
def D9:Nat:=183
def Qw:Nat:=184
def I1:Nat:=185
def Qx:Nat:=186
def Qy:Nat:=187
def qL:Nat:=188
def yC:Nat:=189
def m4:Nat:=190
def Qz:Nat:=191
def qM:Nat:=192
def mv:Nat:=193
def Ea:Nat:=194
def I2:Nat:=195
def I3:Nat:=212
def QA:Nat:=213
def QB:Nat:=214
def QC:Nat:=215
def I4:Nat:=218
def Eb:Nat:=220
def I5:Nat:=221
def Ec:Nat:=222
def QD:Nat:=223
def Ed:Nat:=224
def I6:Nat:=225
def I7:Nat:=226
def I8:Nat:=227
def I9:Nat:=228
def Ja:Nat:=229
def Jb:Nat:=230
def Jc:Nat:=231
def Jd:Nat:=232
def Je:Nat:=233
def Jf:Nat:=234
def Jg:Nat:=235
def Jh:Nat:=236
def Ji:Nat:=237
def Jj:Nat:=238
def Ba:Nat:=239
def Jl:Nat:=240
def Jm:Nat:=241
def Jn:Nat:=242
def Jo:Nat:=243
def Jp:Nat:=244
def Jq:Nat:=245
def jw:Nat:=246
def QE:Nat:=247
def gU:Nat:=248
def Bb:Nat:=249
def QF:Nat:=250
def Bc:Nat:=251
def Jr:Nat:=252
def QG:Nat:=253
def QH:Nat:=254
def Js:Nat:=255
def Jt:Nat:=256
def Ee:Nat:=257
def wD:Nat:=258
def uM:Nat:=259
def Ef:Nat:=260
def QI:Nat:=261
def QJ:Nat:=262
def Bd:Nat:=263
def Eg:Nat:=264
def Ju:Nat:=265
def Jv:Nat:=266
def wE:Nat:=267
def QK:Nat:=268
def Eh:Nat:=269
def QL:Nat:=270
def QM:Nat:=271
def QN:Nat:=272
def QO:Nat:=273
def QP:Nat:=274
def yD:Nat:=275
def QQ:Nat:=276
def QR:Nat:=277
def Ei:Nat:=278
def Jw:Nat:=279
def Be:Nat:=280
def yE:Nat:=281
def Jx:Nat:=282
def QS:Nat:=283
def QT:Nat:=284
def Bf:Nat:=285
def QU:Nat:=286
def Jy:Nat:=287
def QV:Nat:=288
def QW:Nat:=289
def Ej:Nat:=290
def QX:Nat:=291
def Jz:Nat:=292
def Ek:Nat:=293
def QY:Nat:=294
def El:Nat:=295
def QZ:Nat:=296
def Bg:Nat:=297
def wF:Nat:=298
def JA:Nat:=299
def Q0:Nat:=300
def Q2:Nat:=301
def JB:Nat:=302
def Bh:Nat:=303
def JC:Nat:=304
def JD:Nat:=305
def Bi:Nat:=306
def yF:Nat:=307
def yG:Nat:=308
def Bj:Nat:=309
def kY:Nat:=310
def JE:Nat:=311
def JF:Nat:=312
def Q3:Nat:=313
def wG:Nat:=314
def Em:Nat:=315
def wH:Nat:=316
def En:Nat:=317
def yH:Nat:=318
def JG:Nat:=319
def JH:Nat:=320
def Eo:Nat:=321
def JI:Nat:=322
def Q4:Nat:=323
def Q5:Nat:=324
def Ep:Nat:=325
def Er:Nat:=326
def Q6:Nat:=327
def Es:Nat:=328
def Et:Nat:=329
def JJ:Nat:=330
def Q7:Nat:=331
def JK:Nat:=332
def JL:Nat:=333
def JM:Nat:=334
def Q8:Nat:=335
def JN:Nat:=336
def Bk:Nat:=337
def mw:Nat:=3
def afM:Nat:=5
def ar1:Nat:=9
def si:Nat:=29
def bZ:Nat:=46
def Eu:Nat:=72
def fe:Nat:=100
def pt:Nat:=104
def afN:Nat:=202
def afO:Nat:=237
def uN:Nat:=0
def uO:Nat:=1
def JO:List UInt8:=[0,1,1,2,1,2,2,3,1,2,2,3,2,3,3,4,1,2,2,3,2,3,3,4,2,3,3,4,3,4,4,5,1,2,2,3,2,3,3,4,2,3,3,4,3,4,4,5,2,3,3,4,3,4,4,5,3,4,4,5,4,5,5,6,1,2,2,3,2,3,3,4,2,3,3,4,3,4,4,5,2,3,3,4,3,4,4,5,3,4,4,5,4,5,5,6,2,3,3,4,3,4,4,5,3,4,4,5,4,5,5,6,3,4,4,5,4,5,5,6,4,5,5,6,5,6,6,7,1,2,2,3,2,3,3,4,2,3,3,4,3,4,4,5,2,3,3,4,3,4,4,5,3,4,4,5,4,5,5,6,2,3,3,4,3,4,4,5,3,4,4,5,4,5,5,6,3,4,4,5,4,5,5,6,4,5,5,6,5,6,6,7,2,3,3,4,3,4,4,5,3,4,4,5,4,5,5,6,3,4,4,5,4,5,5,6,4,5,5,6,5,6,6,7,3,4,4,5,4,5,5,6,4,5,5,6,5,6,6,7,4,5,5,6,5,6,6,7,5,6,6,7,6,7,7,8]
def br(n:Nat)(l:List AV):List AV:=(List.replicate n l).flatten
def my:List AV:=br 32 [(.int .u32 0),(.bool false),(.bool false)]++br 32 [(.int .u32 0),(.int .i64 0),.ai,(.int .i64 0),(.int .u32 0),(.int .u32 0),(.int .u32 0),(.int .u32 0),(.int .u32 0),(.int .u32 0),(.int .u32 0),(.int .u32 0)]++br 32 [(.int .u32 0),(.int .u8 0),(.int .u8 0),(.int .u8 0)]++br 32 [(.int .u32 0),(.bool false),(.bool false)]++br 16 [(.int .u32 0),(.int .u8 0),(.int .u8 0),(.bool false),(.int .u32 0)]++br 4 [(.int .u8 0),(.int .u64 0),(.int .u32 0),(.bool false)]++[(.int .i64 0),(.int .i64 0)]++br 4 [(.bool false),(.int .u8 0),(.int .u64 0),(.int .u32 0)]++[(.bool false),(.int .i64 0),(.int .i64 0)]++br 4 [(.bool false),(.int .u8 0),(.int .u64 0),(.int .u32 0)]++[(.bool false),(.int .i64 0),(.int .i64 0)]++br 4 [(.bool false),(.int .u8 0),(.int .u64 0),(.int .u32 0)]++[(.bool false),(.int .i64 0),(.int .i64 0)]++br 4 [(.bool false),(.int .u8 0),(.int .u64 0),(.int .u32 0)]++[(.bool false),(.int .i64 0),(.int .i64 0)]++br 4 [(.bool false),(.int .u8 0),(.int .u64 0),(.int .u32 0)]++[(.bool false),(.int .i64 0),(.int .i64 0)]++br 4 [(.bool false),(.int .u8 0),(.int .u64 0),(.int .u32 0)]++[(.bool false),(.int .i64 0),(.int .i64 0)]++br 4 [(.bool false),(.int .u8 0),(.int .u64 0),(.int .u32 0)]++[(.bool false),(.int .i64 0),(.int .i64 0)]++br 17 [(.bool false)]++[.dY]++br 32 [(.int .u8 0),(.int .i64 0),(.int .u8 0),(.int .u8 0),(.int .u8 0),(.int .u8 0),(.int .u8 0),(.int .u8 0),(.int .u8 0),(.int .u8 0)]++[.ai]
def wI:List AV:=br 32 [(.int .u32 0),(.int .u8 0),(.int .u8 0),(.int .u8 0)]
def uP:List AV:=br 32 [(.int .u32 0),(.bool false),(.bool false)]++br 16 [(.int .u32 0),(.int .u8 0),(.int .u8 0),(.bool false),(.int .u32 0)]
def JP:List AV:=[.dY,.ai,(.int .i64 0)]++br 8 [(.int .u64 0)]++[(.int .i64 0),(.int .u8 0)]++br 4 [(.int .u32 0)]++[(.int .u64 0),(.bool false),.ai]++br 3 [(.int .i64 0)]++[(.bool false),(.int .i64 0),.ai,(.int .i64 0)]++br 8 [(.int .u64 0)]++[(.int .i64 0),(.int .u8 0)]++br 4 [(.int .u32 0)]++[(.int .u64 0),(.bool false),.ai]++br 3 [(.int .i64 0)]++[(.bool false),(.int .i64 0),.ai,(.int .i64 0)]++br 8 [(.int .u64 0)]++[(.int .i64 0),(.int .u8 0)]++br 4 [(.int .u32 0)]++[(.int .u64 0),(.bool false),.ai]++br 3 [(.int .i64 0)]++[(.bool false),(.int .i64 0),.ai,(.int .i64 0)]++br 8 [(.int .u64 0)]++[(.int .i64 0),(.int .u8 0)]++br 4 [(.int .u32 0)]++[(.int .u64 0),(.bool false),.ai]++br 3 [(.int .i64 0)]++[(.bool false),(.int .i64 0),.ai,(.int .i64 0)]++br 8 [(.int .u64 0)]++[(.int .i64 0),(.int .u8 0)]++br 4 [(.int .u32 0)]++[(.int .u64 0),(.bool false),.ai]++br 3 [(.int .i64 0)]++[(.bool false),(.int .i64 0),.ai,(.int .i64 0)]++br 8 [(.int .u64 0)]++[(.int .i64 0),(.int .u8 0)]++br 4 [(.int .u32 0)]++[(.int .u64 0),(.bool false),.ai]++br 3 [(.int .i64 0)]++[(.bool false),(.int .i64 0),.ai,(.int .i64 0)]++br 8 [(.int .u64 0)]++[(.int .i64 0),(.int .u8 0)]++br 4 [(.int .u32 0)]++[(.int .u64 0),(.bool false),.ai]++br 3 [(.int .i64 0)]++[(.bool false),(.int .i64 0),.ai,(.int .i64 0)]++br 8 [(.int .u64 0)]++[(.int .i64 0),(.int .u8 0)]++br 4 [(.int .u32 0)]++[(.int .u64 0),(.bool false),.ai]++br 3 [(.int .i64 0)]++[(.bool false),(.int .i64 0),(.int .i64 0),.ai]
def afP:List AV:=[(.int .i64 0),.ai]++br 2048 [(.int .u8 0)]
def qN:List AV:=br 32 [(.int .u8 0),(.int .i64 0),(.int .u8 0),(.int .u8 0),(.int .u8 0),(.int .u8 0),(.int .u8 0),(.int .u8 0),(.int .u8 0),(.int .u8 0)]
def jx:List AV:=br 32 [(.int .u32 0),(.bool false),(.bool false)]++br 32 [(.int .u32 0),(.int .i64 0),.ai,(.int .i64 0),(.int .u32 0),(.int .u32 0),(.int .u32 0),(.int .u32 0),(.int .u32 0),(.int .u32 0),(.int .u32 0),(.int .u32 0)]
def py:List AV:=br 32 [(.int .u32 0),(.bool false),(.bool false)]++br 32 [(.int .u32 0),(.int .i64 0),.ai,(.int .i64 0),(.int .u32 0),(.int .u32 0),(.int .u32 0),(.int .u32 0),(.int .u32 0),(.int .u32 0),(.int .u32 0),(.int .u32 0)]++br 32 [(.int .u32 0),(.int .u8 0),(.int .u8 0),(.int .u8 0)]++br 32 [(.int .u32 0),(.bool false),(.bool false)]++br 16 [(.int .u32 0),(.int .u8 0),(.int .u8 0),(.bool false),(.int .u32 0)]++br 4 [(.int .u8 0),(.int .u64 0),(.int .u32 0),(.bool false)]++[(.int .i64 0),(.int .i64 0)]++br 4 [(.bool false),(.int .u8 0),(.int .u64 0),(.int .u32 0)]++[(.bool false),(.int .i64 0),(.int .i64 0)]++br 4 [(.bool false),(.int .u8 0),(.int .u64 0),(.int .u32 0)]++[(.bool false),(.int .i64 0),(.int .i64 0)]++br 4 [(.bool false),(.int .u8 0),(.int .u64 0),(.int .u32 0)]++[(.bool false),(.int .i64 0),(.int .i64 0)]++br 4 [(.bool false),(.int .u8 0),(.int .u64 0),(.int .u32 0)]++[(.bool false),(.int .i64 0),(.int .i64 0)]++br 4 [(.bool false),(.int .u8 0),(.int .u64 0),(.int .u32 0)]++[(.bool false),(.int .i64 0),(.int .i64 0)]++br 4 [(.bool false),(.int .u8 0),(.int .u64 0),(.int .u32 0)]++[(.bool false),(.int .i64 0),(.int .i64 0)]++br 4 [(.bool false),(.int .u8 0),(.int .u64 0),(.int .u32 0)]++[(.bool false),(.int .i64 0),(.int .i64 0)]++br 17 [(.bool false)]
def JQ:List AV:=br 32 [(.int .u32 0),(.bool false),(.bool false)]++br 32 [(.int .u32 0),(.int .i64 0),.ai,(.int .i64 0),(.int .u32 0),(.int .u32 0),(.int .u32 0),(.int .u32 0),(.int .u32 0),(.int .u32 0),(.int .u32 0),(.int .u32 0)]++br 32 [(.int .u32 0),(.int .u8 0),(.int .u8 0),(.int .u8 0)]++br 32 [(.int .u32 0),(.bool false),(.bool false)]++br 16 [(.int .u32 0),(.int .u8 0),(.int .u8 0),(.bool false),(.int .u32 0)]++br 4 [(.int .u8 0),(.int .u64 0),(.int .u32 0),(.bool false)]++[(.int .i64 0),(.int .i64 0)]++br 4 [(.bool false),(.int .u8 0),(.int .u64 0),(.int .u32 0)]++[(.bool false),(.int .i64 0),(.int .i64 0)]++br 4 [(.bool false),(.int .u8 0),(.int .u64 0),(.int .u32 0)]++[(.bool false),(.int .i64 0),(.int .i64 0)]++br 4 [(.bool false),(.int .u8 0),(.int .u64 0),(.int .u32 0)]++[(.bool false),(.int .i64 0),(.int .i64 0)]++br 4 [(.bool false),(.int .u8 0),(.int .u64 0),(.int .u32 0)]++[(.bool false),(.int .i64 0),(.int .i64 0)]++br 4 [(.bool false),(.int .u8 0),(.int .u64 0),(.int .u32 0)]++[(.bool false),(.int .i64 0),(.int .i64 0)]++br 4 [(.bool false),(.int .u8 0),(.int .u64 0),(.int .u32 0)]++[(.bool false),(.int .i64 0),(.int .i64 0)]++br 4 [(.bool false),(.int .u8 0),(.int .u64 0),(.int .u32 0)]++[(.bool false),(.int .i64 0),(.int .i64 0)]++br 17 [(.bool false)]++[(.int .i64 0),(.int .u8 0)]++br 4 [(.int .u32 0)]++[(.int .u64 0)]++br 3 [(.int .i64 0)]++[(.bool false),.ai]
def Bl:List AV:=br 32 [(.int .u32 0),(.bool false),(.bool false)]
section
variable(p q r t v w x y z a c d e f n0 n1 n2 n3 n4 n5 n6 n7 n8 n9 n10 n11 n12 n13 n14 n15 n16 n17 n18 n19:Nat)(i j k m n i0 i1 i2 i3 i4 i5 i6 i7 i8 i9 i10 i11 i12 i13 i14 i15 i16 i17 i18 i19:Int)(l:Nat->List aO)(h:Nat->List (aO×List Nat))(b:Nat)
def Z:=o b (.mov (.t p))::l (b+1)
def Y:=o p (.mov (.t (b-1)))::l b
def U:=o b (.mov (.t p))::o (b+1) (.mov (.t q))::l (b+2)
def V:=o b (.mov (.c (.bool false)))::l (b+1)
def J:=o b (.mov (ci 0))::l (b+1)
def F:=(o b (.mov (.t p)),[])::h (b+1)
def C:=o b (.load true p (.t q))::l (b+1)
def A:=o b (.load false 1 (.t p))::l (b+1)
def B:=o b (.mov (.t p))::o (b+1) (.call (cf q) [(.t (b-1)),(.t b)])::l (b+2)
def L:=(o b (.mov (.t p)),[]):: (o (b+1) (.nilck (.t b)),[]):: (o (b+2) (.faddr q (.t (b+1))),[])::h (b+3)
def ta:=o p (.mov (.t (b-1)))::o b (.ext (.t q) 0)::o (b+1) (.ext (.t r) 1)::l (b+2)
def tb:=o b (.box (.t (b-2)) none)::l (b+1)
def tc:=o b (.faddr p (.t q))::l (b+1)
def td:=u (.store p (.t q) (.t (b-1)))::l b
def te:=o b (.box (.t p) none)::l (b+1)
def tf:=(o b (.load false 1 (.t (b-1))),[])::h (b+1)
def tg:=o b (.pick (.t p) (.c (.bool true)) (.t (b-1)))::l (b+1)
def th:=(o b (.mov (.t p)),[]):: (o (b+1) (.nilck (.t b)),[]):: (o (b+2) (.faddr q (.t (b+1))),[]):: (o (b+3) (.faddr r (.t (b+2))),[])::h (b+4)
def ti:=o b (.mov (.c .ai))::l (b+1)
def tj:=o b (.load true p (.t (b-1)))::l (b+1)
def tk:=(o b (.faddr p (.t q)),[])::h (b+1)
def tl:=u (.store p (.t (b-1)) (.t q))::l b
def tm:=o p (.mov (.t (b-2)))::o q (.mov (.t (b-1)))::l b
def tn:=o b (.call (cf p) [(.t (b-1))])::l (b+1)
def to:=(o p (.mov (.t (b-1))),[])::h b
def tp:=o b (.load true 480 (.t p))::l (b+1)
def tq:=o b (.faddr p (.t (b-1)))::l (b+1)
def tr:=o b (.un .not (.t (b-1)))::l (b+1)
def ts:=o b (.load true p (.t q))::u (.store r (.t t) (.t b))::l (b+1)
def tt:=o b (.faddr 0 (.t p))::o (b+1) (.load false 1 (.t b))::l (b+2)
def tu:=o b (.mov (.t p))::o (b+1) (.call (cf q) [(.t b)])::l (b+2)
def tv:=o b (.load false 1 (.t (b-1)))::l (b+1)
def tw:=o b (.pick (.t p) (.t (b-1)) (.c (.bool false)))::l (b+1)
def tx:=o b (.bin .add (.t p) (ci 1))::o q (.mov (.t b))::l (b+1)
def ty:=o b (.faddr 0 (.t (b-1)))::l (b+1)
def tz:=o b (.mov (.t (b-1)))::gt b (some (b+1)) (.mov (.t p))::l (b+2)
def tA:=u (.store p (.t q) (.t (b-2)))::o r (.mov (.t (b-1)))::l b
def tB:=o b (.faddr 1 (.t p))::o (b+1) (.load false 1 (.t b))::l (b+2)
def tC:=o b (.faddr p (.t q))::o (b+1) (.load false r (.t b))::l (b+2)
def tD:=o b (.box (.t (b-1)) none)::l (b+1)
def tE:=o b (.bin .lss (.t (b-1)) (.t (b-2)))::l (b+1)
def tF:=o b (.call (cf p) [(.t q),(.t (b-1))])::l (b+1)
def tG:=o b (.mov (.t (b-1)))::gf b (some (b+1)) (.mov (.t p))::l (b+2)
def tH:=o b (.mov (.t p))::o q (.mov (.t b))::l (b+1)
def tI:=o b (.pick (.t p) (.t (b-1)) (.c (.bool false)))::o q (.mov (.t b))::l (b+1)
def tJ:=u (.store p (.t q) (.t (b-1)))::o r (.mov (ci i))::l b
def tK:=o b (.len .sl (.t (b-1)))::o (b+1) (.mov (ci 0))::l (b+2)
def tL:=(u (.store p (.t (b-1)) (.t q)),[])::h b
def tM:=(o b (.load false p (.t (b-1))),[q,r])::h (b+1)
def tN:=o b (.mov (.t p))::o (b+1) (.load true q (.t r))::l (b+2)
def tO:=o p (.mov (ci i))::l b
def tP:=o b (.mov (.t (b-1)))::gf b (some (b+1)) (.faddr p (.t q))::gf b (some (b+2)) (.load false r (.t (b+1)))::l (b+3)
def tQ:=(o p (.mov (.t (b-1))),[]):: (o b (.ext (.t q) 0),[]):: (o (b+1) (.ext (.t r) 1),[])::h (b+2)
def tR:=o b (.call (cf p) [(.t q),(.t (b-2)),(.t (b-1))])::l (b+1)
def tS:=o b (.bin .add (.t (b-1)) (ci i))::l (b+1)
def tT:=o b (.nilck (.t p))::l (b+1)
def tU:=o b (.nilck (.t (b-2)))::l (b+1)
def tV:=o b (.faddr p (.t (b-1)))::o (b+1) (.faddr q (.t b))::l (b+2)
def tW:=(o b (.load true p (.t q)),[r])::h (b+1)
def tX:=o b (.mov (.t (b-1)))::l (b+1)
def tY:=o b (.load false 1 (.t (b-1)))::o p (.mov (.t b))::l (b+1)
def tZ:=o b (.alloc [(.int .i64 0),(.int .u64 0),(.int .u32 0)] none)::l (b+1)
def gr:=o b (.nilck (.t (b-1)))::o (b+1) (.faddr 953 (.t b))::o (b+2) (.faddr 1 (.t (b+1)))::o (b+3) (.load false 1 (.t (b+2)))::l (b+4)
def gI:=o b (.mov (.t (b-2)))::l (b+1)
def gJ:=o b (.mov (ci i))::l (b+1)
def gL:=o b (.mov (.t p))::o (b+1) (.nilck (.t b))::o (b+2) (.faddr q (.t (b+1)))::o (b+3) (.load false r (.t (b+2)))::l (b+4)
def gV:=o b (.mov (.t (b-1)))::gt b (some (b+1)) (.faddr p (.t q))::gt b (some (b+2)) (.load false r (.t (b+1)))::l (b+3)
def gW:=u (.oV .int (.t p) (.c (.int .u8 i)) (.t (b-1)))::l b
def gX:=(gt p (some b) (.faddr q (.t (b-1))),[])::h (b+1)
def ij:=o b (.bin .lss (.t (b-1)) (ci i))::l (b+1)
def ik:=o b (.call (cf p) [(.t (b-2)),(.t (b-1))])::l (b+1)
def il:=o b (.iaddrs p (.t q) (.t (b-2)))::l (b+1)
def iH:=(o b (.nilck (.t (b-1))),[]):: (o (b+1) (.faddr p (.t b)),[])::h (b+2)
def iI:=o b (.ext (.t p) q)::l (b+1)
def iJ:=(o b (.load false p (.t (b-1))),[q])::h (b+1)
def jf:=o b (.ne .int (.t (b-1)) (ci i))::l (b+1)
def jy:=(u (.store p (.t q) (.t (b-2))),[])::h b
def jz:=(o b (.load true p (.t (b-1))),[])::h (b+1)
def jA:=(o b (.call (cf p) [(.t q),(.t (b-1))]),[])::h (b+1)
def jB:=o b (.mov (.t p))::o (b+1) (.len .sl (.t b))::l (b+2)
def jC:=(o b (.load true p (.t q)),[])::h (b+1)
def jD:=u (.store p (.t (b-1)) (.t (b-2)))::l b
def jE:=o b (.conv .i64 (.t (b-1)))::l (b+1)
def j6:=o b (.mov (.t p))::o (b+1) (.nilck (.t b))::o (b+2) (.faddr q (.t (b+1)))::o (b+3) (.faddr r (.t (b+2)))::o (b+4) (.load false t (.t (b+3)))::l (b+5)
def j7:=(o b (.nilck (.t p)),[])::h (b+1)
def j8:=o b (.build [(.int .i64 0),(.int .u64 0),(.int .u32 0)] [])::u (.store 3 (.t p) (.t b))::l (b+1)
def j9:=(o b (.faddr p (.t (b-1))),[]):: (o (b+1) (.load false q (.t b)),[r])::h (b+2)
def ka:=o b (.iaddra p q (.t (b-1)) (.t (b-2)))::l (b+1)
def kb:=(o b (.load true p (.t (b-1))),[q])::h (b+1)
def kZ:=o b (.bin .geq (.t (b-1)) (ci i))::l (b+1)
def k0:=o b (.iaddra p q (.t (b-1)) (.t r))::l (b+1)
def k5:=o b (.call (cf lM) [(.t (b-2)),(.t (b-1))])::o (b+1) (.un .not (.t b))::l (b+2)
def k6:=o b (.faddr 0 (.t p))::o (b+1) (.faddr 0 (.t b))::o (b+2) (.load true 96 (.t (b+1)))::l (b+3)
def k7:=(o b (.faddr p (.t (b-1))),[]):: (o (b+1) (.faddr q (.t b)),[])::h (b+2)
def k9:=(o b (.nilck (.t p)),[]):: (o (b+1) (.faddr q (.t b)),[])::h (b+2)
def lP:=o b (.call (cf p) [(.t (b-1)),(ci i)])::l (b+1)
def lQ:=(o b (.mov (.t (b-1))),[])::h (b+1)
def lR:=(o b (.faddr 0 (.t (b-1))),[])::h (b+1)
def lS:=(o b (.conv .i64 (.t (b-1))),[])::h (b+1)
def lT:=u (.store p (.t q) (.t r))::l b
def lU:=o b (.eq .int (.t (b-1)) (ci i))::l (b+1)
def mz:=gf p (some b) (.bin .gtr (.t (b-1)) (ci i))::l (b+1)
def mA:=o b (.call (cf p) [(.t q),(.t (b-1)),(.c (.int .u8 i))])::l (b+1)
def mB:=(o b (.call (cf p) [(.t q),(.t r),(.t (b-1))]),[])::h (b+1)
def mC:=o b (.mkf (.func p) [] [(.t q),(.t r)])::l (b+1)
def mD:=(o b (.iaddra p q (.t (b-1)) (.t r)),[])::h (b+1)
def mE:=o b (.mov (.c (.bool true)))::l (b+1)
def mF:=o b (.faddr p (.t (b-2)))::l (b+1)
def mG:=(o b (.pick (.t p) (.t (b-1)) (.c (.bool false))),[])::h (b+1)
def m5:=o b (.iaddrs p (.t (b-2)) (.t (b-1)))::l (b+1)
def m6:=o b (.load true 96 (.t (b-1)))::l (b+1)
def m7:=o b (.mov (.t p))::o (b+1) (.nilck (.t b))::l (b+2)
def nY:=(o b (.load false p (.t (b-1))),[q,r,t])::h (b+1)
def nZ:=o p (.mov (.c (.bool false)))::l b
def eA:=o b (.eq .int (.t (b-2)) (.t (b-1)))::l (b+1)
def oc:=o b (.len .sl (.t (b-1)))::l (b+1)
def od:=o p (.mov (.c (.bool true)))::l b
def og:=gt (b-2) (some b) (.mov (.t p))::l (b+1)
def oh:=o b (.bin .gtr (.t (b-1)) (ci i))::l (b+1)
def pA:=o b (.mkf (.func p) [] [(.t q)])::l (b+1)
def pC:=(o b (.call (cf p) [(.t q),(.t (b-1))]),[r])::h (b+1)
def pD:=gf p (some b) (.mov (.t q))::l (b+1)
def pE:=o b (.nilck (.t (b-1)))::o (b+1) (.faddr p (.t b))::o (b+2) (.faddr q (.t (b+1)))::l (b+3)
def pF:=gf p (some b) (.load false q (.t (b-1)))::l (b+1)
def pG:=o p (.alloc [(.int .u32 i),(.int .i64 j),.ai,(.int .i64 k),(.int .u32 m),(.int .u32 n),(.int .u32 i0),(.int .u32 i1),(.int .u32 i2),(.int .u32 i3),(.int .u32 i4),(.int .u32 i5)] none)::l b
def pJ:=(o b (.call (cf p) [(.t (b-1))]),[])::h (b+1)
def pK:=o b (.mov (.c (.int .u32 i)))::l (b+1)
def pL:=gt p (some b) (.mov (.t q))::l (b+1)
def pM:=gt p (some b) (.load false q (.t (b-1)))::l (b+1)
def pN:=(o b (.faddr p (.t (b-1))),[]):: (o (b+1) (.faddr q (.t b)),[]):: (o (b+2) (.load true r (.t (b+1))),[])::h (b+3)
def qO:=o p (.mov (.t q))::l b
def qP:=(o b (.call (cf p) [(.t (b-1)),(ci i)]),[])::h (b+1)
def qQ:=(o b (.faddr 480 (.t (b-1))),[]):: (o (b+1) (.load true 128 (.t b)),[])::h (b+2)
def qR:=gt p (some b) (.call (cf q) [(.t (b-2)),(.t (b-1))])::l (b+1)
def qS:=gf p (some b) (.un .not (.t (b-1)))::l (b+1)
def qT:=o b (.alloc jx none)::l (b+1)
def qU:=o p (.alloc [(.int .i64 i),(.int .i64 j)] none)::l b
def qV:=gf p (some b) (.faddr q (.t (b-1)))::l (b+1)
def qW:=(o b (.load false p (.t q)),[])::h (b+1)
def qX:=(u (.store p (.t q) (.t (b-1))),[])::h b
def sj:=o b (.load true 128 (.t p))::o (b+1) (.load true 480 (.t q))::l (b+2)
def sk:=gf p (some b) (.mov (.t (b-1)))::l (b+1)
def sq:=gt (b-1) (some b) (.faddr p (.t q))::l (b+1)
def sr:=gt p (some b) (.un .not (.t (b-1)))::l (b+1)
def ss:=(o b (.call (cf p) [(.t (b-1))]),[q])::h (b+1)
def su:=(u (.store p (.t q) (.t r)),[])::h b
def sv:=o p (.mov (.c (.int .u8 i)))::l b
def sw:=(o p (.mov (.t (b-2))),[])::h b
def sx:=(o b (.load true p (.t q)),[r,t])::h (b+1)
def sy:=gf p (some b) (.pick (.t q) (.t (b-1)) (.c (.bool false)))::l (b+1)
def uQ:=u (.store p (.t q) (.t (b-2)))::l b
def uR:=gf (b-2) (some b) (.mov (.t p))::l (b+1)
def uS:=(gt p (some b) (.nilck (.t (b-1))),[])::h (b+1)
def uT:=o b (.mov (ci (-p)))::l (b+1)
def uU:=o b (.mkf (.func p) [] [(.t q),(.t r),(.t t)])::l (b+1)
def uV:=o b (.call (.t p) [(.t (b-1))])::l (b+1)
def uW:=(o b (.ext (.t p) q),[])::h (b+1)
def uX:=gf (b-1) (some b) (.faddr p (.t q))::l (b+1)
def uY:=o b (.ne .int (.t (b-1)) (.c (.int .u32 i)))::l (b+1)
def uZ:=o b (.nilck (.t (b-1)))::l (b+1)
def u9:=o b (.bin .sub (.t (b-1)) (ci i))::l (b+1)
def wJ:=o b (.build [(.int .i64 i),(.int .u64 j),(.int .u32 k)] [(p,q,(.t (b-1)))])::l (b+1)
def wK:=gf p (some b) (.call (cf q) [(.t (b-2)),(.t (b-1))])::l (b+1)
def wL:=o p (.mov (.c (.int .u32 i)))::l b
def wN:=o b (.call (.t (b-2)) [(.t (b-1))])::l (b+1)
def wO:=gt p (some b) (.pick (.t q) (.c (.bool true)) (.t (b-1)))::l (b+1)
def wP:=gt p (some b) (.mov (.t (b-1)))::l (b+1)
def wQ:=o b (.eq .int (.t (b-1)) (.c (.int .u32 i)))::l (b+1)
def wR:=(gt p (some b) (.load false q (.t (b-1))),[])::h (b+1)
def wS:=gt p (some b) (.faddr q (.t (b-1)))::l (b+1)
def wT:=o b (.mov (.c (.int .u8 i)))::l (b+1)
def wU:=gt (b-2) (some b) (.bin .lss (.t (b-1)) (ci i))::l (b+1)
def wV:=o b (.alloc [(.int .i64 i)] none)::l (b+1)
def wW:=o b (.bslice [(.int .u32 i)] p [(q,r,(.t (b-1)))])::l (b+1)
def wX:=o b (.alloc wI none)::l (b+1)
def yI:=o b (.call (.t (b-1)) [])::l (b+1)
def yK:=o b (.eq .ptr (.t (b-1)) (.c .dY))::l (b+1)
def yL:=o b (.bin .add (.t p) (.t (b-1)))::l (b+1)
def yM:=(u (.store p (.t (b-1)) (.t (b-2))),[])::h b
def yN:=gt p (some b) (.call (cf q) [(.t r),(.t (b-2)),(.t (b-1))])::l (b+1)
def yO:=gt p (some b) (.load false q (.t r))::l (b+1)
def yP:=(o b (.idxs (.t (b-1)) (ci i)),[])::h (b+1)
def yQ:=o b (.mov (.c .dY))::l (b+1)
def yR:=gt p (some b) (.faddr q (.t r))::l (b+1)
def yS:=(gt (b-1) (some b) (.mov (.t p)),[])::h (b+1)
def yT:=o b (.len .str (.t (b-1)))::l (b+1)
def yY:=gf (b-2) (some b) (.faddr p (.t (b-1)))::l (b+1)
def yZ:=o b (.bin .lss (.t p) (.t (b-1)))::l (b+1)
def y0:=o b (.bslice [(.int .i64 i),(.int .i64 j)] p [(q,r,(.t (b-1)))])::l (b+1)
def y3:=o b (.iaddra p q (.t r) (ci i))::l (b+1)
def y4:=o b (.bin .add (.t (b-2)) (.t (b-1)))::l (b+1)
def y5:=o b (.append bZ p q (.t r) (.t (b-1)))::l (b+1)
def y6:=o b (.alloc [.ai] none)::l (b+1)
def y7:=u (.store p (.t (b-1)) (.c (.bool true)))::l b
def y8:=o b (.eq .int (.t (b-1)) (.c (.int .u8 i)))::l (b+1)
def y9:=u (.store p (.t (b-1)) (.c (.bool false)))::l b
def za:=o b (.mov (.c .cJ))::l (b+1)
def Bm:=o b (.ext (.t (b-1)) p)::l (b+1)
def Bn:=gf p (some b) (.len .sl (.t (b-1)))::l (b+1)
def Bo:=(gt (b-1) (some b) (.faddr p (.t q)),[])::h (b+1)
def Bp:=o b (.mkf (.func p) [(.t (b-1))] [])::l (b+1)
def Bq:=o p (.alloc [(.int .u8 i),(.int .u32 j),(.int .u32 k),(.int .u32 m),(.int .u32 n),(.int .u64 i0)] none)::l b
def Br:=(o b (.call (cf p) [(.t q),(.t (b-2)),(.t (b-1))]),[])::h (b+1)
def Bt:=u (.panic (.t (b-1)))::l b
def Bu:=gt (b-2) (some b) (.eq .int (.t (b-1)) (ci i))::l (b+1)
def Bv:=o b (.conv .u64 (.t (b-1)))::l (b+1)
def Bw:=(gt (b-2) (some b) (.load false p (.t (b-1))),[])::h (b+1)
def Bx:=gt (b-1) (some b) (.load true p (.t q))::l (b+1)
def By:=(o b (.load true p (.t q)),[r,t,v])::h (b+1)
def Bz:=gf p (some b) (.load true q (.t (b-1)))::l (b+1)
def BA:=gf (b-1) (some b) (.load true p (.t q))::l (b+1)
def BB:=u (.store p (.t (b-1)) (ci i))::l b
def BC:=(o b (.conv .u8 (.t (b-1))),[])::h (b+1)
def BD:=(o b (.call (cf p) [(.t (b-2)),(.t (b-1))]),[])::h (b+1)
def BE:=o b (.append fe p q (.t r) (.t (b-1)))::l (b+1)
def BF:=(o b (.load true p (.t q)),[r,t,v,w])::h (b+1)
def BG:=(o b (.min [(.t (b-1)),(.c (.int .u32 i))]),[])::h (b+1)
def BH:=o b (.alloc [(.int .i64 i),(.int .i64 j)] none)::l (b+1)
def BI:=o b (.ext (.t (b-2)) p)::l (b+1)
def BJ:=o b (.alloc [(.bool false)] none)::l (b+1)
def BK:=(o b (.load false p (.t (b-1))),[q,r,t,v,w])::h (b+1)
def Ev:=o b (.build [(.int .i64 i),(.int .i64 j)] [])::l (b+1)
def Ew:=(gt (b-2) (some b) (.nilck (.t (b-1))),[])::h (b+1)
def Ey:=gf (b-2) (some b) (.call (cf p) [(.t (b-1))])::l (b+1)
def Ez:=(o b (.eq .int (.t p) (.t (b-1))),[])::h (b+1)
def EA:=(u (.store p (.t (b-1)) (.c (.bool true))),[])::h b
def tid:=gt (b-2) (some b) (.un .not (.t (b-1)))::l (b+1)
def EB:=o p (.mov (.c .ai))::l b
def EC:=o b (.iaddra p q (.t (b-1)) (ci i))::l (b+1)
def ED:=gt (b-1) (some b) (.load false p (.t q))::l (b+1)
def EE:=o b (.alloc uP none)::l (b+1)
def EF:=o b (.ne .int (.t (b-2)) (.t (b-1)))::l (b+1)
def EG:=gf p (some b) (.faddr q (.t r))::l (b+1)
def EH:=o b (.bin .rem (.t (b-1)) (.c (.int .u8 i)))::l (b+1)
def EI:=gt (b-2) (some b) (.load false p (.t (b-1)))::l (b+1)
def EJ:=(o b (.conv .u32 (.t (b-1))),[])::h (b+1)
def EL:=o b (.ne .int (.t (b-1)) (.c (.int .u8 i)))::l (b+1)
def EM:=u (.store p (.t q) (.c (.bool true)))::l b
def EN:=o b (.eq .int (.t p) (.t (b-1)))::l (b+1)
def EO:=o p (.alloc [(.int .u32 i),(.int .u8 j),(.int .u8 k),(.bool false),(.int .u32 m)] none)::l b
def ER:=(o b (.eq .int (.t (b-1)) (.c (.int .u8 i))),[])::h (b+1)
def ES:=gt (b-2) (some b) (.eq .int (.t (b-1)) (.c (.int .u8 i)))::l (b+1)
def ET:=(o b (.load false p (.t (b-1))),[q,r,t,v])::h (b+1)
def EU:=o p (.alloc [(.int .u8 i),.ai,(.int .u64 j),(.int .i64 k),(.int .u8 m),(.int .i64 n)] none)::l b
def EV:=(o b (.call (cf p) [(.t q),(.t r),(.t (b-2)),(.t (b-1))]),[])::h (b+1)
def EW:=o b (.load true p (.t (b-2)))::l (b+1)
def EX:=(o b (.call (cf p) [(.t (b-2)),(.t (b-1))]),[q])::h (b+1)
def EY:=(o b (.append fe p q (.t r) (.t (b-1))),[])::h (b+1)
def E0:=(o b (.bin .add (.t p) (.t (b-1))),[])::h (b+1)
def E2:=u (.store p (.t q) (.c (.bool false)))::l b
def E3:=gf (b-1) (some b) (.faddr p (.t q))::gf (b-1) (some (b+1)) (.load false r (.t b))::l (b+2)
def E4:=o b (.iaddrs p (.t q) (.t (b-1)))::l (b+1)
def E5:=o b (.call (cf p) [(.t q),(.t r),(.t (b-1))])::l (b+1)
def E6:=(o b (.load true p (.t (b-1))),[q,r])::h (b+1)
def E7:=o b (.alloc [(.int .u8 i),(.int .u64 j),(.int .u32 k),(.bool false),(.int .u8 m),(.int .u64 n),(.int .u32 i0),(.bool false),(.int .u8 i1),(.int .u64 i2),(.int .u32 i3),(.bool false),(.int .u8 i4),(.int .u64 i5),(.int .u32 i6),(.bool false),(.int .i64 i7),(.int .i64 i8),(.bool false)] none)::l (b+1)
def E8:=(o b (.call (cf p) [(.t q),(.t r),(.t t),(.t (b-1))]),[])::h (b+1)
def E9:=o p (.alloc jx none)::l b
def JR:=o b (.alloc [.ai,(.int .i64 i),(.int .u64 j),(.int .u64 k),(.int .u64 m),(.int .u64 n),(.int .u64 i0),(.int .u64 i1),(.int .u64 i2),(.int .u64 i3)] none)::l (b+1)
def JS:=u (.oV .int (.t (b-2)) (.c (.int .u8 i)) (.t (b-1)))::l b
def JT:=o b (.bin .rem (.t (b-1)) (ci i))::l (b+1)
def JU:=o b (.iaddrs p (.t q) (.t r))::l (b+1)
def JV:=o b (.call (.t p) [(.t (b-2)),(.t (b-1))])::l (b+1)
def JW:=(o b (.nilck (.t (b-1))),[]):: (o (b+1) (.faddr p (.t b)),[]):: (o (b+2) (.faddr q (.t (b+1))),[])::h (b+3)
def JX:=o p (.alloc [.cJ] none)::l b
def JY:=gt p (some b) (.bin .geq (.t (b-1)) (ci i))::l (b+1)
def JZ:=gt (b-2) (some b) (.bin .geq (.t (b-1)) (ci i))::l (b+1)
def J0:=(gt p (some b) (.mov (.t q)),[])::h (b+1)
def J1:=o b (.bin .gtr (.t p) (.t (b-1)))::l (b+1)
def J2:=o p (.alloc wI none)::l b
def J3:=gt (b-2) (some b) (.bin .lss (.t (b-1)) (.c (.int .u8 i)))::l (b+1)
def J4:=o b (.slsl p (.t q) none (some (.t r)) (some (.t (b-1))))::l (b+1)
def J5:=o b (.alloc py none)::l (b+1)
def J6:=o p (.alloc [(.int .u8 i),(.int .u8 j),(.int .u8 k),(.int .u8 m),(.int .u16 n)] none)::l b
def J7:=(u (.store p (.t q) (.t r)),[t])::h b
def J8:=gf (b-2) (some b) (.bin .geq (.t (b-1)) (ci i))::l (b+1)
def J9:=gf (b-2) (some b) (.faddr p (.t q))::l (b+1)
def Ka:=(o b (.bin .mul (ci i) (.t (b-1))),[])::h (b+1)
def Kb:=o b (.bin .gtr (.t (b-1)) (.c (.int .u8 i)))::l (b+1)
def tiQ:=o b (.lookup .int .cJ (.t p) (.t (b-1)) true)::l (b+1)
def Kc:=(o b (.load false p (.t q)),[r])::h (b+1)
def Kd:=o b (.call (cf p) [(.t (b-2)),(.t (b-1)),(.c (.int .u32 i))])::l (b+1)
def Ke:=gf p (some b) (.len .str (.t (b-1)))::l (b+1)
def Kf:=(o b (.load true p (.t (b-1))),[q,r,t])::h (b+1)
def Kg:=o b (.bin .sub (.t p) (.t (b-1)))::l (b+1)
def Kh:=(o b (.build [(.int .i64 i),(.int .i64 j)] []),[])::h (b+1)
def Ki:=o b (.pick (.t (b-2)) (.t (b-1)) (.c (.bool false)))::l (b+1)
def Kj:=o b (.build [(.int .i64 i),(.int .i64 j)] [(p,q,(.t (b-2))),(r,t,(.t (b-1)))])::l (b+1)
def Kk:=o b (.alloc qN none)::l (b+1)
def Kl:=(o p (.alloc wI none),[q,r,t,v,w])::h b
def Km:=o b (.call (cf p) [])::l (b+1)
def Kn:=gt (b-2) (some b) (.load true p (.t (b-1)))::l (b+1)
def Ko:=gt p (some b) (.eq .int (.t (b-1)) (ci i))::l (b+1)
def Kq:=u (.store p (.t q) (ci i))::l b
def Kr:=(gt (b-2) (some b) (.mov (.t p)),[])::h (b+1)
def Ks:=(gt (b-1) (some b) (.load false p (.t q)),[])::h (b+1)
def Kt:=(o b (.bin .add (.t (b-1)) (ci i)),[])::h (b+1)
def Ku:=o b (.conv .u8 (.t (b-1)))::l (b+1)
def Kv:=(o b (.bin .add (.t (b-2)) (.t (b-1))),[])::h (b+1)
def Kw:=o b (.build [(.int .i64 i),(.int .u8 j),(.int .u32 k),(.int .u32 m),(.int .u32 n),(.int .u32 i0),(.int .u64 i1),(.bool false),.ai,(.int .i64 i2),(.int .i64 i3),(.int .i64 i4)] [])::l (b+1)
def Kx:=(o b (.bin .sub (.t p) (.t (b-1))),[])::h (b+1)
def Ky:=gf p (some b) (.eq .int (.t (b-1)) (ci i))::l (b+1)
def Kz:=o b (.bin .mul (.t (b-1)) (ci i))::l (b+1)
def KA:=o b (.alloc [(.int .u32 i),(.int .i64 j),.ai,(.int .i64 k),(.int .u32 m),(.int .u32 n),(.int .u32 i0),(.int .u32 i1),(.int .u32 i2),(.int .u32 i3),(.int .u32 i4),(.int .u32 i5)] none)::l (b+1)
def KB:=o p (.alloc Bl none)::l b
def KC:=(o p (.mov (.c (.bool true))),[])::h b
def KD:=gt p (some b) (.conv .i64 (.t (b-1)))::l (b+1)
def KE:=(o b (.len .sl (.t (b-1))),[])::h (b+1)
def KF:=o b (.call (cf p) [(.t q),(.t r),(.t t),(.t (b-2)),(.t (b-1))])::l (b+1)
def KG:=o b (.mkf (.func p) [] [(.t (b-2))])::l (b+1)
def KH:=u (.store p (.t (b-1)) (.c (.int .u8 i)))::l b
def Q9:=gt (b-1) (some b) (.mov (.t p))::l (b+1)
def Ra:=gf (b-1) (some b) (.mov (.t p))::l (b+1)
end
def yJ{α:Type}(k:Nat)(l:Nat->List α)(_:Nat):List α:=l k
def E{α:Type}(_:Nat):List α:=[]
def yX{α:Type}(a:α)(l:Nat->List α)(b:Nat):List α:=a::l b
def N{α:Type}(a:α)(l:Nat->List α)(b:Nat):List α:=a::l (b+1)
def H(l:Nat->List aO)(b:Nat)(p:PC):PC:=.seq (.aL (l b)) p
def yU(l:Nat->List (aO×List Nat))(b:Nat)(p:PC):PC:=.seq (.ui (l b)) p
def G(l:Nat->List aO)(b:Nat):PC:=.aL (l b)
def yW(l:Nat->List (aO×List Nat))(b:Nat):PC:=.ui (l b)
attribute [go_sem] Z Y U V J F C A B L ta tb tc td te tf tg th ti tj tk tl tm tn to tp tq tr ts tt tu tv tw tx ty tz tA tB tC tD tE tF tG tH tI tJ tK tL tM tN tO tP tQ tR tS tT tU tV tW tX tY tZ gr gI gJ gL gV gW gX ij ik il iH iI iJ jf jy jz jA jB jC jD jE j6 j7 j8 j9 ka kb kZ k0 k5 k6 k7 k9 lP lQ lR lS lT lU mz mA mB mC mD mE mF mG m5 m6 m7 nY nZ eA oc od og oh pA pC pD pE pF pG pJ pK pL pM pN qO qP qQ qR qS qT qU qV qW qX sj sk sq sr ss su sv sw sx sy uQ uR uS uT uU uV uW uX uY uZ u9 wJ wK wL wN wO wP wQ wR wS wT wU wV wW wX yI yK yL yM yN yO yP yQ yR yS yT yY yZ y0 y3 y4 y5 y6 y7 y8 y9 za Bm Bn Bo Bp Bq Br Bt Bu Bv Bw Bx By Bz BA BB BC BD BE BF BG BH BI BJ BK Ev Ew Ey Ez EA tid EB EC ED EE EF EG EH EI EJ EL EM EN EO ER ES ET EU EV EW EX EY E0 E2 E3 E4 E5 E6 E7 E8 E9 JR JS JT JU JV JW JX JY JZ J0 J1 J2 J3 J4 J5 J6 J7 J8 J9 Ka Kb tiQ Kc Kd Ke Kf Kg Kh Ki Kj Kk Kl Km Kn Ko Kq Kr Ks Kt Ku Kv Kw Kx Ky Kz KA KB KC KD KE KF KG KH Q9 Ra yJ E yX N H yU G yW
def afQ:PC:=
 (.seq (H (Z 16<|ij 8<|E) 66
 (.cond (.t 67) .skip (.exit 2)))
 (.seq (.block 3 (G (Z 15<|tG 7<|uR 16<|wK 71 DQ<|tg 71<|Y 15<|E) 70))
 (G (Z 16<|tS 1<|Y 16<|E) 68)))
def afR:PC:=
 (.seq (H (U 10 2<|jE<|JT 400<|yZ 46<|E) 46
 (.cond (.t 50) .skip (.exit 0)))
 (.seq (.block 1 (H (C 6 4<|B 7 pn<|ta 53 53 53<|iI 53 2<|iI 53 3<|EU 11 0 0 0 0 0<|lT 6 11 57<|qO 12 58<|tm 13 14<|E) 54
   (H (tu 7 Is<|N (o 63 (.fld false 1 1273 (.t 62)))<|oc<|oh 0<|Y 15<|E) 61
   (.seq (H (J<|E) 16
   (.block 2 (.loop afQ)))
   (.seq (H (Z 14<|jf 0<|tG 13<|uR 15<|N (gf 78 (some 81) (.ne .bool (.t 79) (.t 80)))<|tg 78<|E) 76
   (.cond (.t 82) (H (V<|E) 6
     .ret) .skip))
   (.seq (H (Z 13<|tr<|E) 83
   (.cond (.t 84) (.exit 0) .skip))
   (.seq (H (Z 12<|EL 8<|tz 7<|og 12<|KD 87<|N (gt 87 (some 91) (.call (cf DQ) [(.t 88),(.t 90)]))<|sr 87<|tw 87<|tG 7<|uR 12<|wK 94 yA<|N (gf 94 (some 98) (.ne .int (.t 97) (ci 0)))<|tg 94<|E) 85
   (.cond (.t 99) (H (V<|E) 6
     .ret) .skip))
   (G (ts 6 11 6 4<|E) 100))))))))
 (G (Z 10<|tS 1<|Y 10<|E) 51)))
def BL:PF:=⟨102,[.t 6],
 (H (te 0<|te 1<|yJ 6<|V<|E) 3
 (.seq (H (C 3 3<|C 6 4<|ik PH<|tX<|BA 3 3<|Ey PD<|qS 20<|tg 20<|tX<|BA 6 4<|Ey yz<|qS 25<|tg 25<|E) 17
 (.cond (.t 29) (H (Km AT<|Y 6<|E) 30
   .ret) .skip))
 (H (C 3 3<|tn PG<|tn PE<|ta 31 31 31<|iI 31 2<|qO 7 35<|tm 8 9<|E) 32
 (.seq (H (Z 7<|yK<|tG 9<|N (gf 40 (some 42) (.ne .int (.t 41) (ci 0)))<|tg 40<|E) 38
 (.cond (.t 43) (H (V<|E) 6
   .ret) .skip))
 (H (C 6 4<|tn PI<|td 6 4<|E) 44
 (.seq (H (J<|E) 10
 (.block 0 (.loop afR)))
 (H (Km AT<|Y 6<|E) 101
 .ret)))))))⟩
def KI:PF:=⟨11,[.t 2],
 (H (tD<|V<|E) 1
 (H (EW 3<|tn PM<|tP 2 1 1<|Ke 5<|mz 5 1500<|tg 5<|Y 2<|E) 3
 .ret))⟩
def afS:PC:=
 (.seq (H (Z 6<|tC 2 1 1<|yT<|yZ 52<|E) 52
 (.cond (.t 56) .skip (.exit 2)))
 (.seq (.block 3 (H (tC 2 1 1<|Z 6<|N (o 62 (.idxs (.t 60) (.t 61)))<|Y 7<|E) 59
   (H (Z 7<|Kb 8<|tz 7<|J3 16<|tw 65<|tG 7<|N (gf 69 (some 71) (.bin .gtr (.t 70) (.c (.int .u8 23))))<|tg 69<|E) 63
   (.cond (.t 72) (H (V<|E) 2
     .ret) .skip))))
 (G (Z 6<|tS 1<|Y 6<|E) 57)))
def afT:PC:=
 (.seq (H (Z 3<|tB 1<|oc<|yZ 34<|E) 34
 (.cond (.t 38) .skip (.exit 0)))
 (.seq (.block 1 (H (tB 1<|Z 3<|m5 1<|tv<|tn It<|ta 41 41 41<|tm 4 5<|E) 42
   (H (Z 5<|tr<|E) 50
   (.cond (.t 51) (H (V<|E) 2
     .ret) .skip))))
 (G (Z 3<|tS 1<|Y 3<|E) 39)))
def Rb:PF:=⟨73,[.t 2],
 (H (tD<|V<|E) 1
 (.seq (H (tt 1<|ij 1<|tP 0 1 1<|mz 11 64<|tg 11<|tP 1 1 1<|Bn 16<|N (gf 16 (some 20) (.bin .lss (.t 19) (ci 1)))<|tg 16<|tP 1 1 1<|Bn 22<|mz 22 8<|tg 22<|tP 2 1 1<|Ke 28<|mz 28 4000<|tg 28<|E) 8
 (.cond (.t 33) (H (V<|E) 2
   .ret) .skip))
 (.seq (H (J<|E) 3
 (.block 0 (.loop afT)))
 (.seq (H (J<|E) 6
 (.block 2 (.loop afS)))
 (H (mE<|E) 2
 .ret)))))⟩
def afU:PC:=
 (H (tE<|E) 22
 (.seq (.cond (.t 22) .skip (.exit 0))
 (.seq (.block 1 (H (il 1 19<|tY 9<|E) 23
   (G (U 7 5<|B 9 yA<|N (o 29 (.bslice [(.int .i64 0)] 1 [(0,1,(.t 28))]))<|N (o 30 (.append si 1 8 (.t 25) (.t 29)))<|Y 7<|E) 25)))
 (G (tx 21 21<|E) 31))))
def Rc:PF:=⟨34,[.t 2,.t 3,.t 4],
 (H (tD<|yQ<|ti<|J<|E) 1
 (H (C 3 1<|tn DR<|ta 10 10 10<|tm 5 6<|E) 11
 (.seq (H (Z 6<|jf 0<|E) 15
 (.cond (.t 16) (H (Z 6<|yX (o 2 (.mov (.c .dY)))<|EB 3<|Y 4<|E) 17
   .ret) .skip))
 (H (ti<|E) 7
 (.seq (H (tC 2 1 1<|tK<|E) 18
 (.block 0 (.loop afU)))
 (H (U 5 7<|tm 2 3<|tO 4 0<|E) 32
 .ret))))))⟩
def Re:PF:=⟨11,[.cell 2 true 3],
 (H (tD<|N (o 2 (.alloc [(.int .i64 0),.ai,.ai] none))<|E) 1
 (H (mF 0<|tv<|tB 1<|tC 2 1 1<|N (o 9 (.s2b (.t 8)))<|N (o 10 (.build [(.int .i64 0),.ai,.ai] [(0,1,(.t 4)),(1,1,(.t 6)),(2,1,(.t 9))]))<|td 3 2<|E) 3
 .ret))⟩
def Rf:PF:=⟨18,[.cell 2 true 1274],
 (H (N (o 2 (.alloc my none))<|E) 2
 (.seq (H (Z 0<|yK<|E) 4
 (.cond (.t 5) (H (N (o 6 (.build my []))<|td 1274 2<|E) 6
   .ret) .skip))
 (H (gL 0 0 1<|uZ<|tj 1274<|yX (o 3 (.alloc my none))<|td 1274 3<|E) 7
 (H (tC 1273 3 1<|tn PO<|tc 1273 3<|jD 1<|E) 13
 (H (ts 1274 3 1274 2<|E) 17
 .ret)))))⟩
def KJ:PF:=⟨6,[.t 2],
 (H (tD<|ti<|E) 1
 (H (mF 0<|m6<|tn iG<|Y 2<|E) 3
 .ret))⟩
def KK:PF:=⟨13,[.t 4],
 (H (tb<|tb<|V<|E) 2
 (H (C 3 2<|tn PB<|tP 1 3 1<|Bn 7<|mz 7 100<|tg 7<|Y 4<|E) 5
 .ret))⟩
def afV:PC:=
 (.seq (H (Z 3<|ij 3<|E) 31
 (.cond (.t 32) .skip (.exit 0)))
 (.seq (.block 1 (H (Z 1<|N (o 36 (.call (cf yA) [(.t 35),(.c (.int .u8 0))]))<|jf 0<|E) 35
   (.cond (.t 37) (H (V<|E) 0
     .ret) .skip)))
 (G (Z 3<|tS 1<|Y 3<|E) 33)))
def Rg:PF:=⟨115,[.t 0],
 (H (V<|E) 0
 (H (N (o 20 (.bslice [(S [])] 1 [(0,1,(.c (S [1,6,0,0,2,0,38,0,0,0,0,0])))]))<|N (o 21 (.build [(.int .i64 0),.ai,.ai] [(0,1,(ci 2)),(1,1,(.t 20))]))<|tn DR<|ta 19 19 19<|tm 1 2<|E) 20
 (.seq (H (Z 2<|jf 0<|tG 1<|N (gf 27 (some 29) (.eq .ptr (.t 28) (.c .dY)))<|tg 27<|E) 25
 (.cond (.t 30) (H (V<|E) 0
   .ret) .skip))
 (.seq (H (J<|E) 3
 (.block 0 (.loop afV)))
 (H (N (o 38 (.build [(.int .u8 0),.ai,(.int .u64 0),(.int .i64 0),(.int .u8 0),(.int .i64 0)] []))<|EU 4 0 0 0 0 0<|td 6 4<|E) 38
 (H (C 6 4<|B 1 pn<|ta 39 39 39<|iI 39 2<|iI 39 3<|lT 6 4 43<|qO 5 44<|tm 6 7<|E) 40
 (H (C 6 4<|B 1 pn<|ta 47 47 47<|iI 47 2<|iI 47 3<|lT 6 4 51<|qO 8 52<|tm 9 10<|E) 48
 (H (C 6 4<|B 1 pn<|ta 55 55 55<|iI 55 2<|iI 55 3<|EU 11 0 0 0 0 0<|lT 6 11 59<|qO 12 60<|tm 13 14<|E) 56
 (H (N (o 64 (.build [(.int .u8 0),.ai,(.int .u64 0),(.int .i64 0),(.int .u8 0),(.int .i64 0)] [(0,1,(.c (.int .u8 3)))]))<|B 1 pn<|ta 63 63 63<|iI 63 2<|iI 63 3<|EU 15 0 0 0 0 0<|lT 6 15 67<|qO 16 68<|tm 17 18<|E) 64
 (H (Z 6<|tz 7<|Bu 0<|tw 72<|tz 5<|ES 0<|tw 76<|tz 9<|Ki<|tz 10<|Bu 0<|tw 83<|tz 8<|ES 2<|tw 87<|tz 13<|Ki<|tz 14<|Bu 0<|tw 94<|tz 12<|ES 0<|tw 98<|tz 17<|tid<|tw 102<|tz 18<|Bu 2<|tw 106<|tX<|N (gt 110 (some 111) (.bslice [(.int .u8 0)] 5 [(0,1,(.c (.int .u8 1))),(1,1,(.c (.int .u8 0))),(2,1,(.c (.int .u8 1))),(3,1,(.c (.int .u8 1))),(4,1,(.c (.int .u8 0)))]))<|N (gt 110 (some 112) (.call (cf Iu) [(.t 111),(.c (.int .u8 0))]))<|Ko 110 2<|tI 110 0<|E) 71
 .ret))))))))))⟩
def Rh:PF:=⟨6,[.cell 2 true 6],
 (H (tD<|N (o 2 (.alloc [(.int .u8 0),.ai,(.int .u64 0),(.int .i64 0),(.int .u8 0),(.int .i64 0)] none))<|E) 1
 (H (mF 4<|KH 1 0<|E) 3
 (H (tc 5 1<|BB 1 0<|E) 4
 (H (ts 6 1 6 2<|E) 5
 .ret))))⟩
def wY:PF:=⟨29,[.t 2],
 (H (tD<|V<|E) 1
 (H (N (o 6 (.load false 1 (.c (.df uN))))<|tt 1<|tiQ 6<|ta 5 5 5<|tm 3 4<|E) 6
 (H (Z 4<|gV 1 1 1<|N (gt 13 (some 16) (.len .sl (.t 15)))<|N (gt 13 (some 17) (.bin .leq (.t 16) (ci 16)))<|tw 13<|gV 3 1 1<|JY 19 0<|tw 19<|gV 3 1 1<|N (gt 24 (some 27) (.bin .leq (.t 26) (ci 100)))<|tI 24 2<|E) 12
 .ret)))⟩
def afW:PC:=
 (H (N (o 23 (.bin .lss (.t 22) (.c (.int .u8 8))))<|E) 23
 (.seq (.cond (.t 23) .skip (.exit 1))
 (.seq (.block 2 (H (gI<|Y 9<|E) 24
   (H (U 1 9<|jE<|tF DQ 25<|E) 25
   (.cond (.t 28) (G (U 8 9<|N (o 31 (.bslice [(.int .u8 0)] 1 [(0,1,(.t 30))]))<|N (o 32 (.append afM 1 1 (.t 29) (.t 31)))<|Y 8<|E) 29) .skip))))
 (G (N (o 33 (.bin .add (.t 22) (.c (.int .u8 1))))<|Y 22<|E) 33))))
def Fa:PF:=⟨82,[.cell 4 true 6,.t 5,.t 6,.t 7],
 (H (tb<|yJ 4<|N (o 4 (.alloc [(.int .u8 0),.ai,(.int .u64 0),(.int .i64 0),(.int .u8 0),(.int .i64 0)] none))<|wT 0<|V<|J<|E) 2
 (.seq (.block 0 (H (Z 1<|yK<|Y 13<|E) 14
   (.cond (.t 13) (H (ts 6 2 6 4<|sv 5 0<|nZ 6<|tO 7 1<|E) 16
     .ret) (H (C 6 2<|tn yz<|tr<|Y 17<|E) 18
     (.cond (.t 17) (H (ts 6 2 6 4<|sv 5 0<|nZ 6<|tO 7 2<|E) 21
       .ret) .skip)))))
 (H (ti<|E) 8
 (.seq (H (wT 0<|E) 22
 (.block 1 (.loop afW)))
 (H (tu 1 Is<|N (o 36 (.fld false 1 1273 (.t 35)))<|oc<|oh 0<|Y 10<|E) 34
 (H (tC 3 2 1<|oh 0<|gV 5 2 1<|yR 42 3 2<|pM 42 1<|N (gt 42 (some 47) (.bin .geq (.t 44) (.t 46)))<|tI 42 11<|E) 39
 (.seq (.block 3 (H (Z 10<|tz 11<|N (gt 51 (some 53) (.mov (.t 52)))<|Ra 8<|N (gf 53 (some 55) (.len .sl (.t 54)))<|Ky 53 0<|wO 51 53<|tI 51 49<|E) 50
   (.cond (.t 49) (H (tc 5 2<|BB 1 0<|E) 59
     (H (ts 6 2 6 4<|sv 5 8<|od 6<|tO 7 0<|E) 60
     .ret)) (H (jB 8<|lU 0<|Y 61<|E) 62
     (.cond (.t 61) (H (ts 6 2 6 4<|sv 5 0<|nZ 6<|tO 7 0<|E) 65
       .ret) .skip)))))
 (H (N (o 66 (.load false 1 (.c (.df uN))))<|tt 2<|N (o 69 (.lookup .int .cJ (.t 66) (.t 68) false))<|Z 8<|N (o 71 (.call (.t 69) [(.t 2),(.t 70)]))<|Y 12<|E) 66
 (H (Z 12<|N (o 73 (.bin .add (.t 72) (.c (.int .u8 1))))<|tc 4 2<|jD 1<|E) 72
 (H (tC 5 2 1<|tS 1<|N (o 78 (.min [(.t 77),(ci 100)]))<|tc 5 2<|jD 1<|E) 75
 (H (C 6 2<|Z 12<|tA 6 4 5<|od 6<|tO 7 0<|E) 80
 .ret)))))))))))⟩
def sA:PF:=⟨69,[.t 4],
 (H (J<|E) 4
 (.seq (H (Z 1<|EH 8<|jE<|Y 5<|E) 6
 (.block 0 (H (Z 0<|yK<|Y 19<|E) 20
   (.cond (.t 19) (H (gJ 1<|E) 4
     .ret) (H (Z 1<|Kb 8<|tz 1<|J3 16<|tw 25<|tG 1<|N (gf 29 (some 31) (.bin .geq (.t 30) (.c (.int .u8 24))))<|tg 29<|Y 22<|E) 23
     (.cond (.t 22) (H (gJ 2<|E) 4
       .ret) (H (Z 1<|y8 8<|Y 33<|E) 34
       (.cond (.t 33) (.seq (H (gL 0 0 1<|tn PQ<|tr<|E) 36
         (.cond (.t 41) (H (gJ 10<|E) 4
           .ret) .skip))
         (G (gL 0 193 1<|tS 1<|tT 42<|tq 193<|tl 1 46<|E) 42)) (H (Z 0<|B 5 AX<|tr<|Y 49<|E) 50
         (.cond (.t 49) (H (gJ 12<|E) 4
           .ret) (H (Z 1<|N (o 56 (.bin .geq (.t 55) (.c (.int .u8 16))))<|Y 54<|E) 55
           (.cond (.t 54) (H (gL 0 193 1<|tS 1<|tT 57<|tq 193<|tl 1 61<|E) 57
             (G (Z 0<|B 5 PR<|E) 64)) (H (gL 0 193 1<|tS 1<|tT 9<|tq 193<|tl 1 13<|E) 9
             (G (Z 0<|B 5 PT<|E) 16))))))))))))))
 (H (tu 0 Iv<|E) 67
 (H (J<|E) 4
 .ret))))⟩
def Fb:PF:=⟨19,[.t 4],
 (H (V<|E) 4
 (H (Z 0<|B 1 Iw<|tz 0<|og 1<|qR 8 AX<|tw 8<|tz 0<|og 1<|qR 13 PU<|sr 13<|tI 13 4<|E) 5
 .ret))⟩
def afX:PC:=
 (H (tE<|E) 25
 (.seq (.cond (.t 25) .skip (.exit 0))
 (.seq (.block 1 (H (gI<|JU 1 22 24<|tv<|qO 5 26<|Y 6<|E) 26
   (yW (F 4<|F 5<|F 6<|ss PX 0<|tQ 29 29 29<|k9 30 1<|mD 8 24 31<|lR<|tL 10 34<|E) 30)))
 (G (tx 24 24<|E) 40))))
def Ri:PF:=⟨42,[.t 2,.t 3],
 (H (tD<|yQ<|J<|E) 1
 (.seq (H (C 3 1<|tn PV<|tr<|E) 7
 (.cond (.t 9) (H (yQ<|gJ 3<|E) 2
   .ret) .skip))
 (H (N (o 10 (.build JP []))<|tD<|Y 4<|E) 10
 (H (Z 4<|tt 1<|tn PW<|ta 12 12 12<|tT 13<|ty<|tl 1 17<|E) 13
 (.seq (H (tB 1<|tK<|E) 21
 (.block 0 (.loop afX)))
 (H (tH 4 2<|tO 3 0<|E) 41
 .ret))))))⟩
def KM:PF:=⟨16,[.t 4],
 (H (tb<|yJ 4<|V<|E) 2
 (H (Z 1<|N (o 7 (.build [(.int .i64 0),(.int .i64 0)] [(0,1,(.t 6)),(1,1,(ci 1))]))<|qU 5 0 0<|td 2 5<|E) 6
 (H (C 2 5<|tn DT<|gV 0 2 1<|N (gt 10 (some 13) (.mkf (.func Iz) [] [(.t 5)]))<|qR 10 PY<|tI 10 4<|E) 8
 .ret)))⟩
def KN:PF:=⟨30,[.cell 4 true 12,.t 5],
 (H (tb<|yJ 4<|KA 0 0 0 0 0 0 0 0 0 0 0<|J<|E) 2
 (.seq (H (k6 2<|Z 1<|k5<|E) 9
 (.cond (.t 14) (H (N (o 15 (.build [(.int .u32 0),(.int .i64 0),.ai,(.int .i64 0),(.int .u32 0),(.int .u32 0),(.int .u32 0),(.int .u32 0),(.int .u32 0),(.int .u32 0),(.int .u32 0),(.int .u32 0)] []))<|tJ 12 4 5 4<|E) 15
   .ret) .skip))
 (H (tu 1 lO<|ta 16 16 16<|tm 6 7<|E) 17
 (H (Z 6<|tc 96 2<|ka 32 12<|tj 12<|pG 8 0 0 0 0 0 0 0 0 0 0 0<|td 12 8<|E) 21
 (H (tp 2<|B 1 IB<|tc 0 8<|jD 1<|E) 25
 (H (C 12 8<|tJ 12 4 5 0<|E) 29
 .ret))))))⟩
def afY:PC:=
 (.block 1 (G (A 3<|tB 5<|yL 10<|td 1 3<|E) 10))
def Rj:PF:=⟨15,[.t 2],
 (H (tD<|J<|E) 1
 (H (wV 0<|BB 1 0<|E) 3
 (.seq (H (C 2 1<|tn IC<|E) 6
 (.block 0 (.hZ (.t 7) [8,9] (G (BH 0 0<|tl 2 9<|E) 5) afY)))
 (H (A 3<|Y 2<|E) 14
 .ret))))⟩
def zb:PF:=⟨34,[.cell 4 true 12,.t 5],
 (H (N (o 4 (.alloc [(.int .i64 0),(.int .u8 0),(.int .u32 0),(.int .u32 0),(.int .u32 0),(.int .u32 0),(.int .u64 0),(.bool false),.ai,(.int .i64 0),(.int .i64 0),(.int .i64 0)] none))<|V<|E) 4
 (.seq (H (Z 0<|B 1 Iw<|tr<|tG 0<|uR 1<|N (gf 11 (some 14) (.nilck (.t 12)))<|qV 11 1<|N (gf 11 (some 16) (.iaddra 8 24 (.t 15) (.t 13)))<|qV 11 22<|pF 11 1<|qS 11<|tg 11<|E) 7
 (.cond (.t 20) (H (Kw 0 0 0 0 0 0 0 0 0 0<|td 12 4<|nZ 5<|E) 21
   .ret) .skip))
 (H (U 0 1<|tU<|tq 1<|k0 8 24 23<|tq 10<|tj 12<|yX (o 6 (.alloc [(.int .i64 0),(.int .u8 0),(.int .u32 0),(.int .u32 0),(.int .u32 0),(.int .u32 0),(.int .u64 0),(.bool false),.ai,(.int .i64 0),(.int .i64 0),(.int .i64 0)] none))<|td 12 6<|E) 22
 (H (tC 8 6 1<|tn PZ<|tc 8 6<|jD 1<|E) 29
 (H (ts 12 6 12 4<|od 5<|E) 33
 .ret)))))⟩
def afZ:PC:=
 (.seq (H (Z 3<|tB 1<|oc<|yZ 14<|E) 14
 (.cond (.t 18) .skip (.exit 0)))
 (.seq (.block 1 (H (tB 1<|Z 3<|m5 1<|tv<|yT<|oh 1000<|E) 21
   (.cond (.t 27) (H (mE<|E) 2
     .ret) .skip)))
 (G (Z 3<|tS 1<|Y 3<|E) 19)))
def Fc:PF:=⟨28,[.t 2],
 (H (tD<|V<|E) 1
 (.seq (H (tB 1<|oc<|oh 20<|tP 2 1 1<|Ke 8<|mz 8 6000<|tg 8<|E) 4
 (.cond (.t 13) (H (mE<|E) 2
   .ret) .skip))
 (.seq (H (J<|E) 3
 (.block 0 (.loop afZ)))
 (H (V<|E) 2
 .ret))))⟩
def af0:PC:=
 (.seq (H (Z 0<|yT<|kZ 6<|E) 5
 (.cond (.t 7) .skip (.exit 0)))
 (.block 1 (yU (F 4<|F 0<|yP 0<|lS<|F 0<|yP 1<|lS<|F 0<|yP 2<|lS<|F 0<|yP 3<|lS<|F 0<|yP 4<|lS<|F 0<|yP 5<|lS<|Ka 256<|E0 23<|N (o 29 (.build [(.int .i64 0),(.int .i64 0),(.int .i64 0),(.int .i64 0),(.int .i64 0)] [(0,1,(.t 11)),(1,1,(.t 14)),(2,1,(.t 17)),(3,1,(.t 20)),(4,1,(.t 28))]),[])<|N (o 30 (.bslice [(.int .i64 0),(.int .i64 0),(.int .i64 0),(.int .i64 0),(.int .i64 0)] 1 [(0,5,(.t 29))]),[])<|N (o 31 (.append afN 5 40 (.t 8) (.t 30)),[])<|to 4<|E) 8
   (G (Z 0<|N (o 33 (.slstr (.t 32) (some (ci 6)) none))<|Y 0<|E) 32))))
def Rk:PF:=⟨43,[.t 2,.t 3],
 (H (ti<|V<|E) 2
 (H (ti<|E) 4
 (.seq (.block 0 (.loop af0))
 (.seq (H (Z 0<|yT<|oh 0<|tG 4<|Ey P0<|qS 37<|tg 37<|E) 34
 (.cond (.t 41) (H (ti<|V<|E) 2
   .ret) .skip))
 (H (tH 4 2<|od 3<|E) 42
 .ret)))))⟩
def Rl:PF:=⟨23,[.t 4],
 (.seq (.aL [o 2 (.box (.t 0) none),o 4 (.mov (.c (.bool false)))])
 (.seq (.aL [o 8 (.mov (.t 1)),o 9 (.call (cf lO) [(.t 8)]),o 7 (.mov (.t 9)),o 10 (.ext (.t 7) 0),o 11 (.ext (.t 7) 1),o 5 (.mov (.t 10)),o 6 (.mov (.t 11))])
 (.seq (.aL [o 12 (.mov (.t 6)),o 13 (.mov (.t 12)),gt 13 (some 14) (.mov (.t 5)),gt 13 (some 15) (.faddr 0 (.t 2)),gt 13 (some 16) (.iaddra 32 3 (.t 15) (.t 14)),gt 13 (some 17) (.load true 3 (.t 16)),gt 13 (some 18) (.mov (.t 1)),gt 13 (some 19) (.shf .shr (.t 18) (.c (.int .u64 8))),gt 13 (some 20) (.build [(.int .u32 0),(.bool false),(.bool false)] [(0,1,(.t 19)),(1,1,(.c (.bool true)))]),gt 13 (some 21) (.eq (.agg [.int,.bool,.bool]) (.t 17) (.t 20)),o 22 (.pick (.t 13) (.t 21) (.c (.bool false))),o 4 (.mov (.t 22))])
 .ret)))⟩
def Rm:PF:=⟨7,[.cell 0 true 952],
 (H (J5<|E) 0
 (H (J5<|E) 1
 (H (tq 936<|EC 8 1 0<|y7 1<|tc 944 1<|EC 8 1 0<|y7 1<|E) 2
 (H (ts 952 1 952 0<|E) 6
 .ret))))⟩
def Fe:PF:=⟨26,[.t 6],
 (H (te 0<|yJ 5<|te 2<|J<|E) 3
 (H (C 952 3<|tN 1 6 5<|N (o 11 (.build JQ [(0,952,(.t 8)),(952,1,(.t 9)),(953,6,(.t 10)),(962,1,(.c (.bool true)))]))<|tD<|Y 7<|E) 8
 (.seq (H (tt 5<|EL 2<|tG 7<|Ey wB<|N (gf 16 (some 19) (.fld false 1 0 (.t 18)))<|N (gf 16 (some 20) (.ne .int (.t 19) (ci 0)))<|tg 16<|E) 13
 (.cond (.t 21) (H (J<|E) 6
   .ret) .skip))
 (H (gL 7 961 1<|Y 6<|E) 22
 .ret))))⟩
def Ff:PF:=⟨35,[.cell 8 true 952,.cell 9 true 3,.t 10],
 (H (te 0<|yJ 6<|te 2<|te 3<|J5<|tZ<|ti<|E) 4
 (H (C 952 4<|tN 1 6 6<|C 2 7<|N (o 17 (.build JQ [(0,952,(.t 13)),(952,1,(.t 14)),(953,6,(.t 15)),(959,2,(.t 16))]))<|tD<|Y 11<|E) 13
 (H (tu 11 wB<|yX (o 12 (.alloc [(.int .i64 0),(.int .u64 0),(.int .u32 0)] none))<|td 3 12<|E) 19
 (.seq (H (tt 12<|jf 0<|E) 21
 (.cond (.t 23) (yU (jC 952 4<|tW 3 12 0<|yX (u (.store 952 (.t 8) (.t 24)),[1])<|qX 3 9<|yX (o 10 (.mov (.c .ai)),[])<|E) 24
   .ret) .skip))
 (yU (L 11 0<|jz 952<|tW 3 12 3<|L 11 963<|tM 1 3 4<|yX (u (.store 952 (.t 8) (.t 29)),[4,8])<|J7 3 9 30 8<|to 10<|E) 26
 .ret)))))⟩
def zd:PF:=⟨8,[.t 2],
 (H (ti<|E) 2
 (.seq (H (Z 0<|N (o 4 (.eq .sl (.t 3) (.c .ai)))<|E) 3
 (.cond (.t 4) (H (ti<|E) 2
   .ret) .skip))
 (H (N (o 5 (.bslice [(.int .i64 0)] 0 []))<|Z 0<|N (o 7 (.append mw 1 8 (.t 5) (.t 6)))<|Y 2<|E) 5
 .ret)))⟩
def af1:PC:=
 (H (ij 32<|E) 8
 (.seq (.cond (.t 8) .skip (.exit 0))
 (.seq (.block 1 (H (gI<|Y 4<|E) 9
   (H (C 96 1<|B 4 P2<|ta 10 10 10<|tm 5 6<|E) 11
   (H (Z 6<|E) 16
   (.cond (.t 16) (G (U 3 5<|wW 1 0 1 0<|y5 1 4 17<|Y 3<|E) 17) .skip)))))
 (G (tx 7 7<|E) 21))))
def KO:PF:=⟨23,[.t 2],
 (H (tD<|ti<|E) 1
 (H (ti<|E) 3
 (.seq (H (J<|E) 7
 (.block 0 (.loop af1)))
 (H (tH 3 2<|E) 22
 .ret))))⟩
def af2:PC:=
 (H (tE<|E) 12
 (.seq (.cond (.t 12) .skip (.exit 0))
 (.seq (.block 1 (H (il 1 9<|tY 8<|E) 13
   (H (Z 6<|tS 1<|Y 6<|E) 15
   (.seq (H (U 8 1<|eA<|E) 17
   (.cond (.t 19) (G (J<|E) 6) .skip))
   (G (U 5 6<|N (o 22 (.max [(.t 20),(.t 21)]))<|Y 5<|E) 20)))))
 (G (tx 11 11<|E) 23))))
def Rn:PF:=⟨25,[.t 4],
 (H (J<|E) 4
 (H (J<|J<|E) 5
 (.seq (H (Z 0<|tK<|E) 9
 (.block 0 (.loop af2)))
 (H (tH 5 4<|E) 24
 .ret))))⟩
def KP:PF:=⟨28,[.t 2],
 (H (V<|E) 2
 (.seq (H (gL 0 1273 1<|oc<|lU 0<|E) 3
 (.cond (.t 8) (H (V<|E) 2
   .ret) .skip))
 (yU (L 0 952<|tf<|L 0 1273<|iJ 1 3<|N (o 17 (.iaddrs 1 (.t 16) (ci 0)),[])<|iJ 1 3<|jA P3 12<|E) 9
 (H (Z 0<|gL 0 1273 1<|N (o 25 (.slsl 1 (.t 24) (some (ci 1)) none none))<|tT 20<|tq 1273<|tl 1 25<|E) 20
 (H (mE<|E) 2
 .ret)))))⟩
def KQ:PF:=⟨23,[.t 4],
 (H (V<|E) 4
 (H (Z 1<|kZ 0<|tz 1<|wU 8<|tw 7<|tz 0<|N (gt 11 (some 13) (.nilck (.t 12)))<|wS 11 0<|pM 11 1<|pL 11 1<|N (gt 11 (some 17) (.nilck (.t 15)))<|wS 11 0<|wS 11 936<|N (gt 11 (some 20) (.iaddra 8 1 (.t 19) (.t 16)))<|pM 11 1<|tI 11 4<|E) 5
 .ret))⟩
def af3:PC:=
 (H (tE<|E) 43
 (.seq (.cond (.t 43) .skip (.exit 2))
 (.seq (.block 3 (H (gI<|Y 10<|E) 44
   (yW (L 0 0<|tf<|L 0 0<|iJ 1 3<|iH 1273<|iJ 1 3<|tk 0 9<|nY 1 3 7 10<|F 10<|Kv<|N (o 60 (.bslice [(.int .i64 0)] 1 [(0,1,(.t 59))]),[])<|N (o 61 (.append mw 1 8 (.t 55) (.t 60)),[3])<|k9 48 1273<|tL 1 61<|E) 45)))
 (G (tx 42 42<|E) 64))))
def af4:PC:=
 (H (tE<|E) 37
 (.seq (.cond (.t 37) .skip (.exit 0))
 (.seq (.block 1 (H (il 2 34<|tj 2<|qU 9 0 0<|td 2 9<|E) 38
   (H (tB 9<|J<|E) 40
   (.block 2 (.loop af3)))))
 (G (tx 36 36<|E) 65))))
def Ro:PF:=⟨88,[],
 (H (N (o 11 (.build [(.int .u8 0),(.int .u32 0),(.int .u32 0),(.int .u32 0),(.int .u32 0),(.int .u64 0)] [(0,1,(.c (.int .u8 20)))]))<|Bq 4 0 0 0 0 0 0<|td 6 4<|E) 11
 (yU (L 0 0<|tf<|iH 0<|jz 952<|F 1<|sx 6 4 3 6<|Kh 0 0<|EV AW 19 20<|tQ 12 12 12<|uW 12 2<|yX (o 5 (.alloc py none),[3,6,8,10])<|yX (o 6 (.alloc [(.int .i64 0),(.int .u64 0),(.int .u32 0)] none),[3,6,8,10,15])<|su 952 5 24<|jy 3 6<|to 7<|E) 13
 (yU (L 0 0<|tf<|tW 952 5 3<|N (o 32 (.nilck (.t 30)),[])<|lR<|tL 952 31<|E) 27
 (.seq (H (Z 7<|tK<|E) 34
 (.block 0 (.loop af4)))
 (yW (F 0<|L 0 194<|tf<|F 1<|tW 6 4 4<|Kh 0 0<|sx 3 6 4 6<|L 0 193<|nY 1 4 6 8<|L 0 193<|ET 1 4 6 8 12<|N (o 83 (.build [(.int .i64 0),(.int .u8 0),(.int .u32 0),(.int .u32 0),(.int .u32 0),(.int .u32 0),(.int .u64 0),(.int .i64 0),(.int .i64 0),(.int .i64 0),(.int .u64 0),(.int .u32 0),(.int .i64 0),(.int .i64 0)] [(0,1,(.t 71)),(1,6,(.t 72)),(7,2,(.t 73)),(9,3,(.t 74)),(12,1,(.t 78)),(13,1,(.t 82))]),[])<|N (o 84 (.bslice [(.int .i64 0),(.int .u8 0),(.int .u32 0),(.int .u32 0),(.int .u32 0),(.int .u32 0),(.int .u64 0),(.int .i64 0),(.int .i64 0),(.int .i64 0),(.int .u64 0),(.int .u32 0),(.int .i64 0),(.int .i64 0)] 1 [(0,14,(.t 83))]),[])<|N (o 85 (.append pt 14 96 (.t 70) (.t 84)),[])<|k9 66 194<|tL 1 85<|E) 66)))))⟩
def Fg:PF:=⟨57,[],
 (H (U 0 1<|tU<|tq 1<|k0 8 24 8<|Y 4<|E) 7
 (H (m7 4<|ty<|tj 10<|tn DU<|ta 12 12 12<|Bq 5 0 0 0 0 0 0<|tA 6 5 6<|E) 13
 (.block 0 (H (gL 4 22 1<|Y 28<|E) 29
   (.cond (.t 28) (G (Z 0<|B 1 ID<|E) 33) (H (tH 6 36<|E) 37
     (.cond (.t 36) (yU (F 4<|F 4<|F 4<|F 1<|jC 6 5<|N (o 43 (.build [(.int .i64 0),(.int .u8 0),(.int .u32 0),(.int .u32 0),(.int .u32 0),(.int .u32 0),(.int .u64 0),(.bool false),.ai,(.int .i64 0),(.int .i64 0),(.int .i64 0)] [(0,1,(.t 41)),(1,6,(.t 42))]),[])<|L 0 193<|iJ 1 4<|k9 38 10<|tL 12 43<|k9 39 22<|EA 1<|k9 40 23<|tL 1 47<|E) 38
       (G (Z 0<|B 1 ID<|E) 54)) (G (Z 4<|m7 4<|ty<|tj 10<|tn P4<|tT 20<|ty<|tl 10 25<|E) 20))))))))⟩
def af5:PC:=
 (H (ij 8<|E) 5
 (.seq (.cond (.t 5) .skip (.exit 0))
 (.seq (.block 1 (H (gI<|Y 2<|E) 6
   (H (U 0 2<|tU<|tq 1<|k0 8 24 8<|Y 3<|E) 7
   (H (gL 3 22 1<|tz 0<|og 2<|qR 16 AX<|sr 16<|tw 16<|E) 12
   (.cond (.t 21) (yU (L 0 0<|tf<|L 3 10<|kb 12 3<|jA IE 25<|E) 22
     (G (U 3 3<|Kw 0 0 0 0 0 0 0 0 0 0<|tT 31<|tq 22<|y9 1<|tT 32<|tq 10<|tl 12 33<|E) 31)) .skip)))))
 (G (tx 4 4<|E) 38))))
def Rp:PF:=⟨39,[],
 (H (J<|E) 4
 (.block 0 (.loop af5)))⟩
def KR:PF:=⟨15,[.t 4],
 (H (V<|E) 4
 (H (Z 0<|N (o 6 (.ne .ptr (.t 5) (.c .dY)))<|tz 1<|JZ 0<|tw 7<|tz 1<|wU 8<|tI 11 4<|E) 5
 .ret))⟩
def BM:PF:=⟨37,[.t 4],
 (H (V<|E) 4
 (H (Z 0<|B 1 PK<|ta 7 7 7<|yX (o 5 (.alloc [(.int .i64 0),(.int .u8 0),(.int .u32 0),(.int .u32 0),(.int .u32 0),(.int .u32 0),(.int .u64 0),(.bool false),.ai,(.int .i64 0),(.int .i64 0),(.int .i64 0)] none))<|tA 12 5 6<|E) 8
 (yU (F 6<|lQ<|yS 0<|Kr 1<|N (gt 14 (some 17) (.call (cf AX) [(.t 15),(.t 16)]),[])<|mG 14<|lQ<|Bo 7 5<|Bw 1<|N (gt 19 (some 22) (.un .not (.t 21)),[])<|mG 19<|lQ<|yS 0<|Ew<|gX 24 0<|wR 24 1<|uS 24<|gX 24 0<|N (gt 24 (some 31) (.load true 952 (.t 30)),[])<|J0 24 1<|N (gt 24 (some 33) (.faddr 1 (.t 5)),[])<|N (gt 24 (some 34) (.load true 6 (.t 33)),[15,18])<|N (gt 24 (some 35) (.call (cf Iy) [(.t 31),(.t 32),(.t 34)]),[])<|mG 24<|to 4<|E) 13
 .ret)))⟩
def Rq:PF:=⟨41,[.t 2],
 (H (tD<|V<|E) 1
 (H (tB 1<|oc<|Y 3<|E) 5
 (.seq (H (tt 1<|ij 1<|tP 0 1 1<|mz 11 64<|tg 11<|tG 3<|N (gf 16 (some 18) (.bin .lss (.t 17) (ci 1)))<|tg 16<|tG 3<|N (gf 20 (some 22) (.bin .gtr (.t 21) (ci 8)))<|tg 20<|tP 2 1 1<|Bn 24<|mz 24 4000<|tg 24<|E) 8
 (.cond (.t 29) (H (V<|E) 2
   .ret) .skip))
 (H (N (o 4 (.mov (cf IF)))<|E) 4
 (H (tB 1<|B 4 P5<|tr<|gV 2 1 1<|N (gt 35 (some 38) (.call (cf P6) [(.t 37),(cf IG)]))<|sr 35<|tI 35 2<|E) 30
 .ret)))))⟩
def Rr:PF:=⟨18,[.t 2,.t 3],
 (H (yQ<|J<|E) 2
 (H (tu 0 P8<|ta 6 6 6<|tm 4 5<|E) 7
 (.seq (H (Z 5<|jf 0<|E) 11
 (.cond (.t 12) (H (Z 5<|yX (o 2 (.mov (.c .dY)))<|Y 3<|E) 13
   .ret) .skip))
 (H (Km PN<|Z 4<|N (o 16 (.build my [(0,952,(.t 14)),(952,1,(.t 15))]))<|tD<|Y 2<|tO 3 0<|E) 14
 .ret))))⟩
def Fh:PF:=⟨17,[.cell 2 true 10,.t 3],
 (H (JR 0 0 0 0 0 0 0 0 0<|J<|E) 2
 (H (tu 0 DV<|ta 6 6 6<|tm 4 5<|E) 7
 (.seq (H (Z 5<|jf 0<|E) 11
 (.cond (.t 12) (H (N (o 13 (.build [.ai,(.int .i64 0),(.int .u64 0),(.int .u64 0),(.int .u64 0),(.int .u64 0),(.int .u64 0),(.int .u64 0),(.int .u64 0),(.int .u64 0)] []))<|Z 5<|tA 10 2 3<|E) 13
   .ret) .skip))
 (H (Z 4<|N (o 16 (.build [.ai,(.int .i64 0),(.int .u64 0),(.int .u64 0),(.int .u64 0),(.int .u64 0),(.int .u64 0),(.int .u64 0),(.int .u64 0),(.int .u64 0)] [(0,1,(.t 15))]))<|tJ 10 2 3 0<|E) 15
 .ret))))⟩
def Rs:PF:=⟨6,[.t 2],
 (H (tD<|za<|E) 1
 (H (mF 0<|tv<|tn P9<|Y 2<|E) 3
 .ret))⟩
def KT:PF:=⟨17,[.t 6],
 (H (te 0<|yJ 5<|te 2<|V<|E) 3
 (H (mF 0<|tv<|y8 15<|tX<|Bx 952 3<|og 1<|N (gt 10 (some 13) (.load true 6 (.t 5)))<|yN 10 IH 11<|Ko 10 10<|tI 10 6<|E) 7
 .ret))⟩
def Rt:PF:=⟨19,[.t 2],
 (H (tD<|V<|E) 1
 (H (mF 1<|tv<|kZ 1<|gV 0 1 1<|JY 6 0<|tw 6<|gV 0 1 1<|yR 11 1 1<|pM 11 1<|N (gt 11 (some 16) (.bin .sub (ci 64) (.t 15)))<|N (gt 11 (some 17) (.bin .leq (.t 13) (.t 16)))<|tI 11 2<|E) 3
 .ret))⟩
def Ru:PF:=⟨9,[.t 4],
 (H (V<|E) 4
 (H (Z 0<|B 1 II<|kZ 0<|Y 4<|E) 5
 .ret))⟩
def Rw:PF:=⟨7,[.t 3],
 (H (tb<|V<|E) 2
 (H (EW 2<|C 2 1<|ik IA<|Y 3<|E) 4
 .ret))⟩
def Fi:PF:=⟨22,[.t 4],
 (H (tb<|tb<|V<|E) 2
 (yU (N (o 5 (.load true 2 (.t 3)),[])<|tW 2 2 0<|N (o 7 (.eq (.agg [.int,.int]) (.t 5) (.t 6)),[])<|lQ<|N (gf 8 (some 9) (.faddr 0 (.t 3)),[])<|N (gf 8 (some 10) (.load false 1 (.t 9)),[])<|N (gf 8 (some 11) (.faddr 0 (.t 2)),[])<|N (gf 8 (some 12) (.load false 1 (.t 11)),[5])<|N (gf 8 (some 13) (.bin .geq (.t 10) (.t 12)),[])<|N (gf 8 (some 14) (.mov (.t 13)),[])<|N (gt 14 (some 15) (.load true 2 (.t 3)),[])<|N (gt 14 (some 16) (.call (cf nX) [(.t 15)]),[])<|N (gt 14 (some 17) (.load true 2 (.t 2)),[10,11])<|N (gt 14 (some 18) (.call (cf nX) [(.t 17)]),[])<|N (gt 14 (some 19) (.bin .leq (.t 16) (.t 18)),[])<|N (gf 8 (some 20) (.pick (.t 14) (.t 19) (.c (.bool false))),[])<|N (o 21 (.pick (.t 8) (.c (.bool true)) (.t 20)),[])<|to 4<|E) 5
 .ret))⟩
def Rx:PF:=⟨21,[.t 2,.t 3],
 (.seq (.aL [o 2 (.mov (ci 0)),o 3 (.mov (.c (.bool false)))])
 (.seq (.aL [o 5 (.mov (.t 0)),o 6 (.bin .and (.t 5) (.c (.int .u32 255))),o 7 (.conv .i64 (.t 6)),o 8 (.bin .sub (.t 7) (ci 1)),o 4 (.mov (.t 8))])
 (.seq (.seq (.aL [o 9 (.mov (.t 4)),o 10 (.bin .lss (.t 9) (ci 0)),o 11 (.mov (.t 10)),gf 11 (some 12) (.mov (.t 4)),gf 11 (some 13) (.bin .geq (.t 12) (ci 32)),o 14 (.pick (.t 11) (.c (.bool true)) (.t 13)),o 15 (.mov (.t 14)),gf 15 (some 16) (.mov (.t 0)),gf 15 (some 17) (.shf .shr (.t 16) (.c (.int .u64 8))),gf 15 (some 18) (.bin .gtr (.t 17) (.c (.int .u32 8388607))),o 19 (.pick (.t 15) (.c (.bool true)) (.t 18))])
 (.cond (.t 19) (.seq (.aL [o 2 (.mov (ci 0)),o 3 (.mov (.c (.bool false)))])
   .ret) .skip))
 (.seq (.aL [o 20 (.mov (.t 4)),o 2 (.mov (.t 20)),o 3 (.mov (.c (.bool true)))])
 .ret))))⟩
def KU:PF:=⟨24,[.t 4],
 (H (tb<|yJ 4<|pK 0<|E) 2
 (H (tu 1 lO<|ta 8 8 8<|tm 5 6<|E) 9
 (.seq (H (Z 5<|tc 96 2<|ka 32 12<|ty<|tY 7<|E) 13
 (H (k6 2<|B 7 lM<|E) 18
 (.cond (.t 22) (H (tH 7 4<|E) 23
   .ret) .skip)))
 (H (pK 0<|E) 4
 .ret))))⟩
def Ry:PF:=⟨4,[.t 2],
 (H (tD<|za<|E) 1
 (H (KG DW<|Y 2<|E) 3
 .ret))⟩
def ze:PF:=⟨8,[.t 2],
 (H (ti<|E) 2
 (.seq (H (Z 0<|N (o 4 (.eq .sl (.t 3) (.c .ai)))<|E) 3
 (.cond (.t 4) (H (ti<|E) 2
   .ret) .skip))
 (H (N (o 5 (.bslice [(.int .u32 0)] 0 []))<|Z 0<|N (o 7 (.append bZ 1 4 (.t 5) (.t 6)))<|Y 2<|E) 5
 .ret)))⟩
def af6:PC:=
 (.seq (H (Z 3<|jB 0<|yZ 8<|E) 8
 (.cond (.t 11) .skip (.exit 0)))
 (.seq (.block 1 (H (U 0 3<|m5 5<|tj 5<|yX (o 4 (.alloc [(.int .i64 0),(.int .i64 0),(.int .i64 0),(.int .i64 0),(.int .i64 0)] none))<|td 5 4<|E) 14
   (H (tt 4<|oh 6<|gV 0 4 1<|N (gt 21 (some 24) (.bin .lss (.t 23) (ci 17)))<|tw 21<|tP 0 4 1<|mz 26 38<|tg 26<|tP 1 4 1<|mz 31 7<|tg 31<|tP 2 4 1<|mz 36 7<|tg 36<|tP 3 4 1<|mz 41 7<|tg 41<|tP 0 4 1<|Ky 46 5<|sk 46<|E3 0 4 1<|Ky 50 6<|N (gf 46 (some 54) (.pick (.t 50) (.c (.bool true)) (.t 53)))<|sk 46<|sq 4 4<|EI 1<|pL 55 0<|N (gt 55 (some 59) (.len .sl (.t 58)))<|N (gt 55 (some 60) (.bin .geq (.t 57) (.t 59)))<|sy 46 55<|tg 46<|E) 18
   (.cond (.t 62) (H (V<|E) 2
     .ret) .skip))))
 (G (Z 3<|tS 1<|Y 3<|E) 12)))
def KV:PF:=⟨63,[.t 2],
 (H (V<|E) 2
 (.seq (H (jB 0<|oh 64<|E) 5
 (.cond (.t 7) (H (V<|E) 2
   .ret) .skip))
 (.seq (H (J<|E) 3
 (.block 0 (.loop af6)))
 (H (mE<|E) 2
 .ret))))⟩
def wZ:uG:=⟨47,[.cell 2 true 3],
 (.later (G (tZ<|E) 2)
 (.here [o 5 (.mkf (.func AY) [] [(.t 2)])] (.t 5) []
 (yU (L 0 952<|tf<|N (o 10 (.bin .geq (.t 9) (ci 0)),[])<|lQ<|yS 0<|Ew<|gX 11 952<|wR 11 1<|N (gt 11 (some 16) (.bin .lss (.t 15) (ci 8)),[])<|mG 11<|lQ<|yS 0<|Kr 0<|uS 18<|gX 18 952<|wR 18 1<|N (gt 18 (some 24) (.bin .and (.t 23) (ci 7)),[])<|N (gt 18 (some 25) (.nilck (.t 19)),[])<|gX 18 0<|gX 18 936<|N (gt 18 (some 28) (.iaddra 8 1 (.t 27) (.t 24)),[])<|wR 18 1<|mG 18<|qP cQ 12<|E) 6
 (yU (N (o 33 (.load false 1 (.c (.df uO))),[])<|L 0 953<|j9 0 1 0<|N (o 39 (.lookup .int .cJ (.t 33) (.t 38) true),[])<|tQ 32 32 32<|sw 3<|to 4<|E) 33
 (H (Z 4<|lP cQ 2<|E) 42
 (H (U 3 0<|wN<|td 3 2<|E) 44
 .ret))))))⟩
def Fj:PF:=⟨27,[.t 4,.t 5],
 (H (tb<|yJ 4<|pK 0<|V<|E) 2
 (.seq (H (Z 1<|ij 0<|tG 1<|J8 32<|tg 8<|tG 1<|J9 0 2<|N (gf 12 (some 15) (.iaddra 32 3 (.t 14) (.t 13)))<|qV 12 1<|pF 12 1<|qS 12<|tg 12<|E) 6
 (.cond (.t 19) (H (pK 0<|V<|E) 4
   .ret) .skip))
 (H (U 1 1<|tc 0 2<|ka 32 3<|ty<|tv<|tF IJ 20<|Y 4<|od 5<|E) 20
 .ret)))⟩
def KW:PF:=⟨9,[.t 4],
 (H (tb<|tb<|J<|E) 2
 (H (A 2<|A 3<|mC IK 2 3<|tR DX 5<|Y 4<|E) 5
 .ret))⟩
def BN:PF:=⟨49,[.cell 2 true 6,.t 3],
 (H (tD<|N (o 2 (.alloc [(.int .u8 0),(.int .u32 0),(.int .u32 0),(.int .u32 0),(.int .u32 0),(.int .u64 0)] none))<|V<|E) 1
 (H (C 10 1<|tn DY<|ta 6 6 6<|J6 4 0 0 0 0 0<|tA 5 4 5<|E) 7
 (.seq (.block 0 (H (Z 5<|tr<|tP 0 4 1<|N (gf 14 (some 17) (.eq .int (.t 16) (.c (.int .u8 0))))<|tg 14<|Y 11<|E) 12
   (.cond (.t 11) (H (N (o 19 (.build [(.int .u8 0),(.int .u32 0),(.int .u32 0),(.int .u32 0),(.int .u32 0),(.int .u64 0)] [(0,1,(.c (.int .u8 20)))]))<|td 6 2<|od 3<|E) 19
     .ret) (H (tt 4<|N (o 23 (.bin .leq (.t 22) (.c (.int .u8 16))))<|Y 20<|E) 21
     (.cond (.t 20) (H (N (o 24 (.build [(.int .u8 0),(.int .u32 0),(.int .u32 0),(.int .u32 0),(.int .u32 0),(.int .u64 0)] []))<|td 6 2<|nZ 3<|E) 24
       .ret) .skip)))))
 (yU (tk 0 4<|tf<|N (o 27 (.bin .sub (.t 26) (.c (.int .u8 16))),[])<|tW 10 1 1<|tk 2 4<|tM 1 1 3<|pC uK 28 1<|EJ<|BF 10 1 1 3 5 6<|tk 3 4<|BK 1 1 3 5 6 8<|pC uK 33 1<|EJ<|tk 2 1<|N (o 39 (.iaddra 8 1 (.t 38) (ci 6)),[])<|N (o 40 (.load false 1 (.t 39)),[1,3,5,6,8,10,11])<|EJ<|tk 4 4<|N (o 43 (.load false 1 (.t 42)),[1,3,5,6,8,10,11,15])<|EJ<|tk 2 1<|N (o 46 (.iaddra 8 1 (.t 45) (ci 5)),[])<|N (o 47 (.load false 1 (.t 46)),[1,3,5,6,8,10,11,15,18])<|N (o 48 (.build [(.int .u8 0),(.int .u32 0),(.int .u32 0),(.int .u32 0),(.int .u32 0),(.int .u64 0)] [(0,1,(.t 27)),(1,1,(.t 32)),(2,1,(.t 37)),(3,1,(.t 41)),(4,1,(.t 44)),(5,1,(.t 47))]),[])<|qX 6 2<|KC 3<|E) 25
 .ret))))⟩
def BO:PF:=⟨72,[],
 (H (U 0 1<|tU<|tq 1<|k0 8 24 11<|Y 4<|E) 10
 (H (gL 0 0 1<|uZ<|tq 1273<|tv<|oc<|Y 5<|E) 15
 (H (Z 4<|pE 10 9<|tj 2<|qU 6 0 0<|td 2 6<|E) 23
 (yU (L 0 0<|tf<|L 4 10<|kb 12 3<|jA Qa 32<|tQ 28 28 28<|uW 28 2<|yX (o 7 (.alloc [(.int .i64 0),(.int .u8 0),(.int .u32 0),(.int .u32 0),(.int .u32 0),(.int .u32 0),(.int .u64 0),(.bool false),.ai,(.int .i64 0),(.int .i64 0),(.int .i64 0)] none),[3,7,8])<|yX (o 8 (.alloc [(.int .i64 0),(.int .u64 0),(.int .u32 0)] none),[3,7,8,13])<|su 12 7 38<|jy 3 8<|to 9<|E) 29
 (H (tN 4 12 7<|tU<|tq 10<|tl 12 42<|E) 41
 (H (Z 9<|E) 45
 (.cond (.t 45) (.seq (H (tt 8<|jf 0<|tX<|uX 1 7<|yY 0<|pF 49 1<|N (gf 49 (some 53) (.ne .int (.t 52) (.c (.int .u8 2))))<|tg 49<|E) 46
   (.cond (.t 54) (G (Ev 0 0<|td 2 6<|E) 55) .skip))
   (yW (F 0<|F 1<|jC 12 7<|tW 2 6 2<|F 5<|L 0 0<|tM 1 2 3<|iH 1273<|tM 1 2 3<|N (o 68 (.len .sl (.t 67)),[2,3])<|N (o 69 (.call (cf D0) [(.t 59),(.t 60),(.t 68)]),[2])<|N (o 70 (.load true 3 (.t 8)),[2,3,8,11,12,13])<|N (o 71 (.call (cf Qb) [(.t 56),(.t 57),(.t 58),(.t 69),(.t 70)]),[])<|E) 56)) .skip)))))))⟩
def KX:PF:=⟨53,[.cell 2 true 10],
 (H (tD<|JR 0 0 0 0 0 0 0 0 0<|E) 1
 (.seq (H (C 10 1<|tn DU<|ta 12 12 12<|Bq 3 0 0 0 0 0 0<|tA 6 3 4<|E) 13
 (H (Z 4<|E) 17
 (.cond (.t 17) (H (ts 10 1 10 2<|E) 18
   .ret) .skip)))
 (H (C 10 1<|tn DY<|ta 19 19 19<|J6 5 0 0 0 0 0<|tA 5 5 6<|E) 20
 (H (tB 5<|EH 8<|tc 2 1<|ka 8 1<|yX (o 7 (.alloc [.dY] none))<|td 1 7<|E) 24
 (H (tB 1<|tS 1<|yX (o 8 (.alloc [(.int .i64 0)] none))<|td 1 8<|E) 29
 (H (N (o 32 .nJ)<|mC A0 5 7<|JS 1<|uU A1 1 5 7<|gW 32 2<|uU A2 1 5 7<|gW 32 3<|uU A3 1 5 7<|gW 32 4<|mC A4 5 8<|gW 32 5<|uU A5 7 5 8<|gW 32 6<|tH 32 9<|E) 32
 (.seq (H (Z 9<|tt 5<|tiQ 41<|ta 40 40 40<|tm 10 11<|E) 41
 (H (Z 11<|E) 47
 (.cond (.t 47) (G (Z 10<|yI<|E) 48) .skip)))
 (H (A 8<|tc 1 1<|jD 1<|E) 50
 (H (ts 10 1 10 2<|E) 52
 .ret)))))))))⟩
def Rz:PF:=⟨18,[],
 (H (tb<|E) 3
 (H (Z 0<|mF 9<|tj 2<|tF D1 4<|E) 4
 (yW (F 0<|L 0 953<|jz 320<|tk 0 3<|iJ 1 4<|pC Qc 12 0<|k9 8 953<|tL 320 15<|E) 8)))⟩
def KY:PF:=⟨12,[.t 2],
 (H (V<|E) 2
 (H (tu 0 DV<|ta 5 5 5<|tm 3 4<|E) 6
 (H (Z 4<|jf 0<|Y 2<|E) 10
 .ret)))⟩
def af7:PC:=
 (.seq (H (Z 0<|yT<|oh 0<|E) 15
 (.cond (.t 17) .skip (.exit 0)))
 (.seq (.block 1 (H (N (o 5 (.alloc [(.int .u8 0),(.int .u8 0),(.int .u8 0),(.int .u8 0),(.int .u8 0),(.int .u8 0)] none))<|E) 5
   (H (N (o 20 (.slarr 6 1 (.t 5) none none))<|Z 0<|N (o 22 (.copy 1 (.t 20) (.t 21)))<|E) 20
   (G (Z 4<|y3 6 1 5 0<|tv<|y3 6 1 5 1<|tv<|y3 6 1 5 2<|tv<|y3 6 1 5 3<|tv<|y3 6 1 5 4<|tv<|N (o 34 (.conv .u16 (.t 33)))<|y3 6 1 5 5<|tv<|N (o 37 (.conv .u16 (.t 36)))<|N (o 38 (.shf .shl (.t 37) (.c (.int .u64 8))))<|N (o 39 (.bin .or (.t 34) (.t 38)))<|N (o 40 (.build [(.int .u8 0),(.int .u8 0),(.int .u8 0),(.int .u8 0),(.int .u16 0)] [(0,1,(.t 25)),(1,1,(.t 27)),(2,1,(.t 29)),(3,1,(.t 31)),(4,1,(.t 39))]))<|N (o 41 (.bslice [(.int .u8 0),(.int .u8 0),(.int .u8 0),(.int .u8 0),(.int .u16 0)] 1 [(0,5,(.t 40))]))<|N (o 42 (.append afO 5 6 (.t 23) (.t 41)))<|Y 4<|E) 23))))
 (G (Z 0<|N (o 19 (.slstr (.t 18) (some (ci 6)) none))<|Y 0<|E) 18)))
def Fk:PF:=⟨47,[.t 2,.t 3],
 (H (ti<|J<|E) 2
 (.seq (H (Z 0<|yT<|JT 6<|jf 0<|tG 0<|N (gf 10 (some 12) (.len .str (.t 11)))<|mz 10 384<|tg 10<|E) 6
 (.cond (.t 14) (H (ti<|gJ 3<|E) 2
   .ret) .skip))
 (H (ti<|E) 4
 (.seq (.block 0 (.loop af7))
 (.seq (H (tu 4 Qd<|tr<|E) 43
 (.cond (.t 45) (H (ti<|gJ 3<|E) 2
   .ret) .skip))
 (H (tH 4 2<|tO 3 0<|E) 46
 .ret))))))⟩
def RA:PF:=⟨9,[.t 4],
 (H (V<|E) 4
 (H (Z 0<|B 1 Qe<|kZ 0<|Y 4<|E) 5
 .ret))⟩
def RC:PF:=⟨9,[.t 4],
 (H (V<|E) 4
 (H (Z 0<|B 1 D2<|kZ 0<|Y 4<|E) 5
 .ret))⟩
def RE:PF:=⟨6,[.t 2],
 (H (V<|E) 2
 (H (tu 0 P7<|tr<|Y 2<|E) 3
 .ret))⟩
def RF:PF:=⟨17,[.t 2],
 (H (V<|E) 2
 (H (Z 0<|N (o 4 (.bin .lss (.t 3) (.c (.int .u8 8))))<|tG 0<|N (gf 5 (some 7) (.eq .int (.t 6) (.c (.int .u8 8))))<|tg 5<|tG 0<|N (gf 9 (some 11) (.bin .geq (.t 10) (.c (.int .u8 16))))<|sk 9<|Q9 0<|J3 24<|sy 9 12<|tg 9<|Y 2<|E) 3
 .ret))⟩
def RG:PF:=⟨15,[.t 2,.t 3],
 (H (yQ<|J<|E) 2
 (.seq (H (Z 0<|ij 1<|tG 0<|N (gf 6 (some 8) (.bin .gtr (.t 7) (ci 64)))<|tg 6<|E) 4
 (.cond (.t 9) (H (yQ<|gJ 2<|E) 2
   .ret) .skip))
 (H (Z 0<|tu 0 Qf<|N (o 13 (.build afP [(0,1,(.t 10)),(1,1,(.t 12))]))<|tD<|Y 2<|tO 3 0<|E) 10
 .ret)))⟩
def RH:PF:=⟨4,[.t 2],
 (H (tD<|za<|E) 1
 (H (KG qK<|Y 2<|E) 3
 .ret))⟩
def KZ:PF:=⟨26,[.t 6],
 (H (te 0<|yJ 5<|te 2<|J<|E) 3
 (.seq (H (C 952 3<|tN 1 6 5<|tR DS 10<|oh 0<|E) 10
 (.cond (.t 14) (H (J<|E) 6
   .ret) .skip))
 (H (C 952 3<|tN 1 6 5<|Ev 0 0<|N (o 20 (.call (cf AW) [(.t 16),(.t 17),(.t 18),(.t 19)]))<|ta 15 15 15<|iI 15 2<|yX (o 7 (.alloc py none))<|yX (o 8 (.alloc [(.int .i64 0),(.int .u64 0),(.int .u32 0)] none))<|lT 952 7 21<|tA 3 8 9<|E) 16
 (H (tt 8<|Y 6<|E) 24
 .ret))))⟩
def af8:PC:=
 (H (tE<|E) 9
 (.seq (.cond (.t 9) .skip (.exit 0))
 (.seq (.block 1 (H (gI<|Y 5<|E) 10
   (H (Z 1<|U 0 5<|m5 2<|tj 2<|uV 11<|E) 11
   (.cond (.t 16) (H (tH 5 4<|E) 17
     .ret) .skip))))
 (G (tx 8 8<|E) 18))))
def RI:PF:=⟨19,[.t 4],
 (H (J<|E) 4
 (.seq (H (Z 0<|tK<|E) 6
 (.block 0 (.loop af8)))
 (H (uT 1<|E) 4
 .ret)))⟩
def RJ:PF:=⟨8,[.t 2],
 (H (tD<|J<|E) 1
 (H (mF 0<|tv<|tB 1<|yL 4<|Y 2<|E) 3
 .ret))⟩
def af9:PC:=
 (H (tE<|E) 10
 (.seq (.cond (.t 10) .skip (.exit 0))
 (.seq (.block 1 (H (il 2 7<|tj 2<|qU 5 0 0<|td 2 5<|E) 11
   (.seq (H (Z 0<|tN 3 2 5<|JV 13<|tr<|E) 13
   (.cond (.t 17) .ret .skip))
   (G (Z 3<|tB 5<|Kz 32<|yL 18<|Y 3<|E) 18))))
 (G (tx 9 9<|E) 23))))
def RK:PF:=⟨24,[],
 (H (J<|E) 3
 (H (tt 1<|tK<|E) 6
 (.block 0 (.loop af9))))⟩
def w4:wq:=⟨4,⟨17,[],
 (H (Z 4<|E) 1
 (H (Z 1<|N (o 6 (.ne .c9 (.t 5) (.c .ew)))<|E) 5
 (.cond (.t 6) (H (Z 1<|N (o 9 (.ta (.int .i64 0) (.t 8) si true))<|ta 7 7 7<|tm 2 3<|E) 8
   (.seq (H (Z 3<|tr<|E) 12
   (.cond (.t 13) (G (Z 1<|Bt<|E) 14) .skip))
   (G (Z 2<|wJ 0 1 0 0 0<|td 3 0<|E) 15))) .skip)))⟩⟩
def Fl:PF:=⟨8,[],
 (H (Z 0<|tr<|E) 4
 (.cond (.t 5) (G (Z 1<|N (o 7 (.mki si (.t 6)))<|Bt<|E) 6) .skip))⟩
def RL:PF:=⟨11,[.t 4],
 (.seq (.aL [o 4 (.mov (.c (.int .u32 0)))])
 (.seq (.aL [o 5 (.mov (.t 1)),o 6 (.shf .shl (.t 5) (.c (.int .u64 8))),o 7 (.mov (.t 0)),o 8 (.conv .u32 (.t 7)),o 9 (.bin .add (.t 6) (.t 8)),o 10 (.bin .add (.t 9) (.c (.int .u32 1))),o 4 (.mov (.t 10))])
 .ret))⟩
def Fo:PF:=⟨35,[.t 6],
 (H (J<|E) 6
 (.seq (.block 0 (H (Z 0<|yK<|Y 7<|E) 8
   (.cond (.t 7) (H (gJ 1<|E) 6
     .ret) (H (Z 1<|ij 0<|tG 1<|uR 0<|N (gf 13 (some 16) (.nilck (.t 15)))<|qV 13 0<|pF 13 1<|N (gf 13 (some 19) (.bin .geq (.t 14) (.t 18)))<|tg 13<|Y 10<|E) 11
     (.cond (.t 10) (H (gJ 2<|E) 6
       .ret) (H (m7 0<|tq 1<|tj 1<|B 1 PJ<|Y 21<|E) 22
       (.cond (.t 21) (H (gJ 12<|E) 6
         .ret) .skip)))))))
 (H (Z 2<|U 0 1<|tU<|tq 2<|k0 64 32 30<|uV 28<|E) 28
 (H (J<|E) 6
 .ret))))⟩
def K0:PF:=⟨16,[],
 (yW (qW 1 1<|Kc 1 1 0<|iH 1<|kb 1 0<|N (o 10 (.load false 1 (.t 2)),[0,1,4])<|N (o 11 (.call (cf AZ) [(.t 9),(.t 10),(ci 1)]),[0])<|tQ 4 4 4<|k9 5 1<|tL 1 12<|E) 5)⟩
def zf:PC:=
 (.block 1 (.block 2 (yU (jC 2 12<|pJ nX<|tk 0 8<|tM 1 0 1<|N (o 30 (.bin .lss (.t 27) (.t 29)),[])<|to 25<|E) 26
   (.cond (.t 25) (G (A 9<|C 2 12<|y0 1 0 2 0 0<|BE 2 16 31<|td 1 9<|E) 31) (yU (tk 0 12<|tf<|tW 2 8 1<|ss nX 1<|N (o 40 (.bin .gtr (.t 37) (.t 39)),[])<|to 35<|E) 36
     (.cond (.t 35) (.seq (H (A 10<|tr<|E) 41
       (.cond (.t 42) (H (A 9<|C 2 8<|y0 1 0 2 0 0<|BE 2 16 43<|td 1 9<|E) 43
         (G (EM 1 10<|E) 0)) .skip))
       (G (A 9<|C 2 12<|y0 1 0 2 0 0<|BE 2 16 47<|td 1 9<|E) 47)) (yU (jC 2 12<|pJ nX<|tk 0 8<|tM 1 0 1<|Ez 53<|to 51<|E) 52
       (.cond (.t 51) (G (tt 12<|tB 12<|tB 8<|yL 60<|N (o 64 (.build [(.int .i64 0),(.int .i64 0)] [(0,1,(.t 58)),(1,1,(.t 63))]))<|td 2 8<|E) 57) (yU (tk 0 12<|tf<|tW 2 8 1<|ss nX 1<|Ez 67<|to 65<|E) 66
         (.cond (.t 65) (G (tB 8<|tB 12<|yL 72<|tc 1 8<|jD 1<|E) 71) (H (ts 1 3 1 6<|E2 1 7<|E) 24
           .ret)))))))))))
def K1:PF:=⟨85,[.cell 6 true 1,.cell 7 false 1],
 (H (te 0<|yJ 6<|y6<|BJ<|E) 3
 (H (U 1 2<|Kj 0 1 1 1 0 0<|qU 8 0 0<|td 2 8<|E) 13
 (.seq (H (C 2 8<|tn DT<|tr<|E) 16
 (.cond (.t 18) (H (ts 1 3 1 6<|E2 1 7<|E) 19
   .ret) .skip))
 (H (y6<|E) 9
 (H (BJ<|y9 1<|E) 10
 (.seq (H (C 1 3<|tn Ix<|E) 20
 (.block 0 (.hZ (.t 21) [22,23] (G (BH 0 0<|tl 2 23<|E) 12) zf)))
 (.seq (H (A 10<|tr<|E) 77
 (.cond (.t 78) (G (A 9<|C 2 8<|y0 1 0 2 0 0<|BE 2 16 79<|td 1 9<|E) 79) .skip))
 (H (A 9<|N (o 84 (.build [.ai] [(0,1,(.t 83))]))<|td 1 6<|EM 1 7<|E) 83
 .ret))))))))⟩
def K2:PF:=⟨22,[.cell 2 true 5,.t 3],
 (H (tD<|N (o 2 (.alloc [(.int .u8 0),(.int .u8 0),(.int .u8 0),(.int .u8 0),(.int .u16 0)] none))<|V<|E) 1
 (.seq (H (tB 1<|ij 0<|tP 1 1 1<|EG 7 0 1<|pF 7 1<|Bn 7<|N (gf 7 (some 13) (.bin .geq (.t 9) (.t 12)))<|tg 7<|E) 4
 (.cond (.t 14) (H (N (o 15 (.build [(.int .u8 0),(.int .u8 0),(.int .u8 0),(.int .u8 0),(.int .u16 0)] []))<|td 5 2<|nZ 3<|E) 15
   .ret) .skip))
 (H (tt 1<|tB 1<|E4 5 17<|tj 5<|td 5 2<|od 3<|E) 16
 .ret)))⟩
def RM:PF:=⟨10,[.t 4],
 (H (tb<|yJ 4<|N (o 4 (.mov (.c (.int .u64 0))))<|E) 2
 (H (Z 1<|EH 8<|tc 2 2<|ka 8 1<|tY 4<|E) 5
 .ret))⟩
def aga:PC:=
 (H (ij 5<|E) 26
 (.seq (.cond (.t 26) .skip (.exit 0))
 (.seq (.block 1 (H (N (o 27 (.idxa false 5 1 (.t 24) (.t 25)))<|Y 9<|E) 27
   (H (Z 9<|yI<|E) 28
   (.cond (.t 29) (.exit 0) .skip))))
 (G (tx 25 25<|E) 30))))
def RN:PF:=⟨43,[.cell 4 true 12,.cell 5 true 3,.t 6],
 (H (tb<|N (o 4 (.alloc [(.int .i64 0),(.int .u8 0),(.int .u32 0),(.int .u32 0),(.int .u32 0),(.int .u32 0),(.int .u64 0),(.bool false),.ai,(.int .i64 0),(.int .i64 0),(.int .i64 0)] none))<|tZ<|V<|E) 3
 (H (tN 0 12 3<|N (o 12 (.build [.dY,(.int .i64 0),(.int .u8 0),(.int .u32 0),(.int .u32 0),(.int .u32 0),(.int .u32 0),(.int .u64 0),(.bool false),.ai,(.int .i64 0),(.int .i64 0),(.int .i64 0),(.int .i64 0),(.int .u64 0),(.int .u32 0),(.bool false)] [(0,1,(.t 10)),(1,12,(.t 11))]))<|tD<|Y 7<|E) 10
 (.seq (H (Z 7<|Bp A6<|Z 7<|Bp A7<|Z 7<|Bp A8<|Z 7<|Bp A9<|Z 7<|Bp uL<|N (o 24 (.build [.cJ,.cJ,.cJ,.cJ,.cJ] [(0,1,(.t 15)),(1,1,(.t 17)),(2,1,(.t 19)),(3,1,(.t 21)),(4,1,(.t 23))]))<|J<|E) 14
 (.block 0 (.loop aga)))
 (yU (L 7 1<|jz 12<|L 7 13<|kb 3 3<|L 7 16<|tM 1 3 7<|yX (u (.store 12 (.t 4) (.t 34)),[7,11])<|J7 3 5 38 11<|to 6<|E) 31
 .ret))))⟩
def RP:PF:=⟨55,[],
 (H (te 2<|te 3<|te 4<|E) 7
 (H (U 0 1<|tU<|tq 1<|k0 8 24 12<|Y 10<|E) 11
 (yU (F 0<|L 0 194<|tf<|F 1<|tk 1 7<|kb 6 4<|sx 2 8 4 7<|By 3 9 4 7 8<|L 10 23<|ET 1 4 7 8 9<|L 0 193<|BK 1 4 7 8 9 13<|N (o 34 (.build [(.int .i64 0),(.int .u8 0),(.int .u32 0),(.int .u32 0),(.int .u32 0),(.int .u32 0),(.int .u64 0),(.int .i64 0),(.int .i64 0),(.int .i64 0),(.int .u64 0),(.int .u32 0),(.int .i64 0),(.int .i64 0)] [(0,1,(.t 21)),(1,6,(.t 23)),(7,2,(.t 24)),(9,3,(.t 25)),(12,1,(.t 29)),(13,1,(.t 33))]),[])<|N (o 35 (.bslice [(.int .i64 0),(.int .u8 0),(.int .u32 0),(.int .u32 0),(.int .u32 0),(.int .u32 0),(.int .u64 0),(.int .i64 0),(.int .i64 0),(.int .i64 0),(.int .u64 0),(.int .u32 0),(.int .i64 0),(.int .i64 0)] 1 [(0,14,(.t 34))]),[])<|N (o 36 (.append pt 14 96 (.t 20) (.t 35)),[])<|k9 16 194<|tL 1 36<|E) 16
 (yU (F 10<|L 10 0<|jz 10<|tW 3 9 4<|EX IM 0<|k9 39 0<|tL 10 45<|E) 39
 (G (U 10 10<|Kw 0 0 0 0 0 0 0 0 0 0<|tT 48<|tq 22<|y9 1<|tT 49<|tq 10<|tl 12 50<|E) 48)))))⟩
def BP:PF:=⟨20,[.cell 6 true 2],
 (H (te 0<|yJ 6<|BH 0 0<|E) 3
 (.seq (H (U 2 1<|N (o 9 (.bin .sub (.t 7) (.t 8)))<|tB 3<|N (o 12 (.bin .geq (.t 9) (.t 11)))<|gV 1 3 1<|N (gt 13 (some 16) (.bin .gtr (.t 15) (ci 0)))<|tw 13<|E) 7
 (.cond (.t 17) (H (Ev 0 0<|td 2 6<|E) 18
   .ret) .skip))
 (H (ts 2 3 2 6<|E) 19
 .ret)))⟩
def RQ:PF:=⟨7,[],
 (G (tv<|tC 4 0 1<|Bv<|tT 2<|jD 1<|E) 2)⟩
def RR:PF:=⟨14,[],
 (yW (tf<|tW 10 0 0<|tk 2 1<|tM 1 0 1<|pC uK 4 0<|BF 10 0 0 1 3 4<|tk 3 1<|BK 1 0 1 3 4 5<|pC uK 8 0<|E0 7<|j7 3<|yM 1<|E) 3)⟩
def RS:PF:=⟨14,[],
 (yW (tf<|tW 10 0 0<|tk 2 1<|tM 1 0 1<|pC uK 4 0<|BF 10 0 0 1 3 4<|tk 3 1<|BK 1 0 1 3 4 5<|pC uK 8 0<|Kx 7<|j7 3<|yM 1<|E) 3)⟩
def RT:PF:=⟨12,[],
 (yW (tf<|tW 10 0 0<|tk 2 1<|tM 1 0 1<|pC uK 4 0<|tk 4 1<|ET 1 0 1 3 4<|N (o 10 (.shf .shl (.t 7) (.t 9)),[])<|j7 3<|yM 1<|E) 3)⟩
def RU:PF:=⟨5,[],
 (G (mF 4<|tv<|jE<|td 1 1<|E) 2)⟩
def K3:PF:=⟨10,[],
 (H (A 0<|uZ<|tv<|N (o 6 (.ne .int (.t 5) (.c (.int .u64 0))))<|E) 3
 (.cond (.t 6) (G (tC 4 1 1<|jE<|td 1 2<|E) 7) .skip))⟩
def agb:PC:=
 (H (tE<|E) 8
 (.seq (.cond (.t 8) .skip (.exit 0))
 (.seq (.block 1 (H (gI<|Y 4<|E) 9
   (yW (F 0<|L 0 1273<|tf<|tk 0 3<|iJ 1 4<|F 4<|Kv<|N (o 19 (.bslice [(.int .i64 0)] 1 [(0,1,(.t 18))]),[])<|N (o 20 (.append mw 1 8 (.t 14) (.t 19)),[])<|k9 10 1273<|tL 1 20<|E) 10)))
 (G (tx 7 7<|E) 23))))
def RW:PF:=⟨24,[],
 (H (tb<|E) 3
 (H (mF 1<|tv<|J<|E) 5
 (.block 0 (.loop agb))))⟩
def agc:PC:=
 (H (ij 32<|E) 7
 (.seq (.cond (.t 7) .skip (.exit 0))
 (.seq (.block 1 (H (gI<|Y 5<|E) 8
   (H (C 320 2<|U 5 1<|tR Qg 9<|td 320 2<|E) 9
   (H (Z 5<|B 1 D3<|E) 13
   (.cond (.t 15) (G (U 5 5<|tc 0 2<|ka 32 10<|tj 10<|B 1 IN<|tc 0 2<|k0 32 10 16<|tl 10 22<|E) 16) .skip)))))
 (G (tx 6 6<|E) 25))))
def RX:PF:=⟨27,[.cell 4 true 320],
 (H (tb<|yJ 4<|Kk<|E) 2
 (.seq (H (J<|E) 6
 (.block 0 (.loop agc)))
 (H (ts 320 2 320 4<|E) 26
 .ret)))⟩
def K4:PF:=⟨12,[.t 2],
 (H (tD<|V<|E) 1
 (H (N (o 3 (.load false 1 (.t 1)))<|oc<|N (o 5 (.bin .leq (.t 4) (ci 64)))<|tX<|ED 1 1<|N (gt 6 (some 8) (.mkf (.func Qi) [] [(.t 1)]))<|qR 6 Qh<|sr 6<|tI 6 2<|E) 3
 .ret))⟩
def agd:PC:=
 (H (tE<|E) 9
 (.seq (.cond (.t 9) .skip (.exit 0))
 (.seq (.block 1 (H (gI<|Y 5<|E) 10
   (H (Z 1<|U 0 5<|m5 1<|tv<|uV 11<|E) 11
   (.cond (.t 16) (H (tH 5 4<|E) 17
     .ret) .skip))))
 (G (tx 8 8<|E) 18))))
def RY:PF:=⟨19,[.t 4],
 (H (J<|E) 4
 (.seq (H (Z 0<|tK<|E) 6
 (.block 0 (.loop agd)))
 (H (uT 1<|E) 4
 .ret)))⟩
def RZ:PC:=
 (H (tE<|E) 9
 (.seq (.cond (.t 9) .skip (.exit 0))
 (.seq (.block 1 (H (gI<|Y 5<|E) 10
   (H (Z 1<|U 0 5<|m5 1<|tv<|uV 11<|E) 11
   (.cond (.t 16) (H (tH 5 4<|E) 17
     .ret) .skip))))
 (G (tx 8 8<|E) 18))))
def Fp:PF:=⟨19,[.t 4],
 (H (J<|E) 4
 (.seq (H (Z 0<|tK<|E) 6
 (.block 0 (.loop RZ)))
 (H (uT 1<|E) 4
 .ret)))⟩
def R0:PF:=⟨13,[.cell 2 true 1],
 (H (y6<|E) 2
 (H (Z 0<|N (o 5 (.min [(.t 4),(ci 64)]))<|Y 3<|E) 4
 (.seq (H (Z 3<|ij 1<|E) 6
 (.cond (.t 7) (H (N (o 8 (.build [.ai] []))<|td 1 2<|E) 8
   .ret) .skip))
 (H (Z 3<|N (o 10 (.build [(.int .i64 0),(.int .i64 0)] [(0,1,(ci 0)),(1,1,(.t 9))]))<|y0 1 0 2 0 0<|N (o 12 (.build [.ai] [(0,1,(.t 11))]))<|td 1 2<|E) 9
 .ret))))⟩
def R3:PC:=
 (H (tE<|E) 8
 (.seq (.cond (.t 8) .skip (.exit 0))
 (.seq (.block 1 (H (gI<|JU 2 5 7<|tj 2<|qU 4 0 0<|qO 3 9<|td 2 4<|E) 9
   (H (Z 0<|tN 3 2 4<|JV 12<|tr<|E) 12
   (.cond (.t 16) .ret .skip))))
 (G (tx 7 7<|E) 17))))
def Fs:PF:=⟨18,[],
 (H (A 1<|tK<|E) 5
 (.block 0 (.loop R3)))⟩
def K5:PF:=⟨19,[.t 4],
 (H (V<|E) 4
 (H (Z 0<|kZ 0<|tz 0<|wU 32<|tw 7<|tz 1<|JZ 0<|tw 11<|tz 1<|wU 8<|tI 15 4<|E) 5
 .ret))⟩
def BQ:PF:=⟨72,[.t 2],
 (H (V<|E) 2
 (.seq (H (j6 0 1 7 1<|E) 4
 (.cond (.t 8) (H (V<|E) 2
   .ret) .skip))
 (.seq (yU (L 0 0<|tf<|iH 0<|jz 952<|th 0 1 0<|tM 1 3 6<|th 0 1 1<|Kf 6 3 6 11<|mB Iy 15 20<|E) 9
 (.cond (.t 26) (H (mE<|E) 2
   .ret) .skip))
 (.seq (yU (L 0 0<|tf<|iH 0<|jz 952<|th 0 1 0<|tM 1 3 6<|th 0 1 1<|Kf 6 3 6 11<|mB IH 33 38<|to 3<|E) 27
 (H (Z 3<|jf 0<|E) 45
 (.cond (.t 46) (H (U 0 3<|wJ 0 1 0 0 0<|tF yB 47<|E) 47
   (H (mE<|E) 2
   .ret)) .skip)))
 (yU (F 0<|F 0<|L 0 0<|tf<|iH 0<|jz 952<|th 0 1 1<|E6 6 5 8<|pC IP 59 0<|j7 51<|k7 1 7<|EA 1<|j7 52<|k7 1 8<|tL 1 65<|E) 51
 (H (mE<|E) 2
 .ret))))))⟩
def Ft:PF:=⟨60,[.t 2],
 (H (V<|E) 2
 (.seq (H (j6 0 1 8 1<|oc<|lU 0<|E) 7
 (.cond (.t 13) (H (V<|E) 2
   .ret) .skip))
 (H (j6 0 1 8 1<|N (o 20 (.iaddrs 1 (.t 19) (ci 0)))<|tv<|tn lO<|ta 14 14 14<|tm 3 4<|E) 15
 (yU (L 0 0<|tf<|iH 953<|jz 320<|F 3<|th 0 1 0<|tM 1 3 6<|mB Qk 32 33<|tQ 25 25 25<|yX (o 5 (.alloc qN none),[3,6,12,13])<|jy 320 5<|to 6<|E) 26
 (yU (L 0 0<|tf<|tW 320 5 3<|N (o 47 (.nilck (.t 45)),[])<|N (o 48 (.faddr 953 (.t 47)),[])<|tL 320 46<|E) 42
 (.seq (H (Z 6<|E) 49
 (.cond (.t 49) (G (Z 0<|j6 0 1 8 1<|N (o 56 (.slsl 1 (.t 55) (some (ci 1)) none none))<|tT 50<|tV 1 8<|tl 1 56<|E) 50) .skip))
 (H (mE<|E) 2
 .ret)))))))⟩
def BR:PF:=⟨60,[.t 2],
 (H (V<|E) 2
 (yU (L 0 0<|tf<|iH 0<|jz 952<|th 0 1 0<|tM 1 3 6<|th 0 1 1<|Kf 6 3 6 11<|mB DS 12 17<|to 3<|E) 6
 (.seq (H (Z 3<|lU 0<|tG 0<|N (gf 26 (some 28) (.nilck (.t 27)))<|qV 26 1<|qV 26 9<|qV 26 1<|pF 26 1<|mz 26 0<|tg 26<|E) 24
 (.cond (.t 34) (H (V<|E) 2
   .ret) .skip))
 (H (gL 0 0 1<|uZ<|tq 952<|tv<|B 3 Qm<|ta 35 35 35<|tm 4 5<|E) 36
 (.seq (H (Z 5<|jf 0<|E) 47
 (.cond (.t 48) (H (U 0 5<|wJ 0 1 0 0 0<|tF yB 49<|E) 49
   (H (mE<|E) 2
   .ret)) .skip))
 (H (Z 0<|U 4 3<|Kj 0 1 1 1 0 0<|tT 53<|tV 1 9<|tl 2 56<|E) 53
 (H (mE<|E) 2
 .ret)))))))⟩
def K6:PF:=⟨44,[.t 2],
 (H (V<|E) 2
 (.seq (yU (th 0 1 11<|tf<|th 0 1 9<|j9 1 1 4<|N (o 14 (.bin .geq (.t 7) (.t 13)),[])<|E) 3
 (.cond (.t 14) (H (V<|E) 2
   .ret) .skip))
 (yU (L 0 0<|tf<|iH 952<|tf<|th 0 1 9<|lR<|tM 1 3 6<|th 0 1 11<|nY 1 3 6 12<|E0 27<|jA IQ 21<|E) 15
 (H (j6 0 1 11 1<|tS 1<|tT 35<|tV 1 11<|tl 1 40<|E) 35
 (H (mE<|E) 2
 .ret)))))⟩
def age:PC:=
 (H (tE<|E) 131
 (.seq (.cond (.t 131) .skip (.exit 1))
 (.seq (.block 2 (H (il 2 128<|tj 2<|qU 10 0 0<|td 2 10<|E) 132
   (yW (qW 1 1<|iH 0<|tf<|sx 2 10 0 3<|BD D1<|E) 134)))
 (G (tx 130 130<|E) 140))))
def oi:PF:=⟨144,[.t 2],
 (H (tD<|V<|E) 1
 (H (A 1<|pE 1 1<|tj 6<|Bq 3 0 0 0 0 0 0<|td 6 3<|E) 11
 (.seq (yU (qW 1 1<|iH 1<|k7 9 1<|tf<|N (o 22 (.bin .gtr (.t 21) (ci 0)),[])<|lQ<|Ks 1 1<|Ew<|gX 23 0<|wR 23 1<|uS 23<|gX 23 0<|N (gt 23 (some 30) (.load true 952 (.t 29)),[])<|N (gt 23 (some 31) (.load false 1 (.t 1)),[8,11,14])<|uS 23<|gX 23 1<|gX 23 0<|N (gt 23 (some 35) (.load false 1 (.t 34)),[8,11,14])<|N (gt 23 (some 36) (.load true 6 (.t 3)),[8,11,14,15,19])<|N (gt 23 (some 37) (.call (cf DS) [(.t 30),(.t 35),(.t 36)]),[])<|N (gt 23 (some 38) (.load false 1 (.t 1)),[8,11,14,15,19,20,21])<|uS 23<|gX 23 1<|gX 23 9<|gX 23 1<|N (gt 23 (some 43) (.load false 1 (.t 42)),[8,11,14,15,19,20,21])<|N (gt 23 (some 44) (.ne .int (.t 37) (.t 43)),[])<|mG 23<|E) 16
 (.cond (.t 45) (yU (qW 1 1<|iH 0<|tf<|N (o 50 (.load false 1 (.t 1)),[0,3])<|JW 1 9<|E6 2 0 3<|jA D1 49<|E) 46
   (G (A 1<|Ev 0 0<|tU<|tV 1 9<|tl 2 57<|E) 56)) .skip))
 (yU (qW 1 1<|iH 0<|tf<|iH 0<|jz 952<|By 6 3 0 3 6<|BD IS<|tQ 61 61 61<|sw 4<|to 5<|E) 62
 (yU (qW 1 1<|iH 0<|tf<|iH 0<|jz 952<|N (o 81 (.load false 1 (.t 1)),[0,3,6])<|JW 1 0<|nY 1 0 3 6<|N (o 86 (.load true 6 (.t 3)),[0,3,6,7,11])<|N (o 87 (.load false 1 (.t 1)),[0,3,6,7,11,12])<|JW 1 9<|N (o 91 (.load true 2 (.t 90)),[0,3,6,7,11,12])<|E8 AW 80 85 86<|tQ 73 73 73<|uW 73 2<|yX (o 6 (.alloc py none),[0,3,6,7,11,12,13,17,18])<|yX (o 7 (.alloc [(.int .i64 0),(.int .u64 0),(.int .u32 0)] none),[0,3,6,7,11,12,13,17,18,23])<|su 952 6 93<|jy 3 7<|to 8<|E) 74
 (.seq (H (tt 7<|jf 0<|E) 96
 (.cond (.t 98) (H (A 1<|C 3 7<|ik yB<|E) 99
   (H (mE<|E) 2
   .ret)) .skip))
 (.seq (H (tt 3<|E) 102
 (.block 0 (H (N (o 105 (.eq .int (.t 103) (.c (.int .u8 4))))<|Y 104<|E) 105
   (.cond (.t 104) (G (A 1<|Z 4<|mC IU 1 3<|tR IT 106<|E) 106) (H (N (o 111 (.eq .int (.t 103) (.c (.int .u8 3))))<|Y 110<|E) 111
     (.cond (.t 110) (G (A 1<|Z 4<|mC IV 1 7<|tR IT 112<|E) 112) .skip))))))
 (yU (qW 1 1<|iH 0<|tf<|N (o 120 (.load false 1 (.t 1)),[0,3])<|By 952 6 0 3 4<|Kh 0 0<|k9 119 0<|yX (u (.store 952 (.t 124) (.t 121)),[4])<|j7 120<|k7 1 9<|tL 2 122<|E) 116
 (.seq (H (Z 8<|tK<|E) 128
 (.block 1 (.loop age)))
 (H (A 1<|C 3 7<|ik yB<|E) 141
 (H (mE<|E) 2
 .ret)))))))))))⟩
def Fu:PF:=⟨48,[.cell 4 true 10],
 (H (tb<|tb<|JR 0 0 0 0 0 0 0 0 0<|E) 2
 (H (C 10 2<|tn DY<|ta 9 9 9<|J6 5 0 0 0 0 0<|tA 5 5 6<|E) 10
 (.seq (H (C 10 2<|tn DU<|ta 14 14 14<|Bq 7 0 0 0 0 0 0<|tA 6 7 8<|E) 15
 (H (Z 6<|tr<|tG 8<|N (gf 21 (some 23) (.un .not (.t 22)))<|tg 21<|E) 19
 (.cond (.t 24) (H (ts 10 2 10 4<|E) 25
   .ret) .skip)))
 (H (tB 5<|EH 8<|tB 3<|tc 2 2<|k0 8 1 28<|tl 1 30<|E) 26
 (H (tC 2 3 1<|Bv<|tc 2 2<|EC 8 1 4<|tl 1 35<|E) 33
 (H (tt 3<|Bv<|tc 2 2<|EC 8 1 7<|tl 1 40<|E) 38
 (H (tB 2<|tS 1<|tc 1 2<|jD 1<|E) 43
 (H (ts 10 2 10 4<|E) 47
 .ret))))))))⟩
def Fv:PF:=⟨26,[.cell 6 true 320],
 (H (te 0<|yJ 6<|Kk<|E) 3
 (.seq (H (Z 1<|B 2 D3<|tz 1<|N (gt 10 (some 12) (.faddr 0 (.t 3)))<|N (gt 10 (some 13) (.iaddra 32 10 (.t 12) (.t 11)))<|wS 10 0<|pM 10 1<|KD 10<|pL 10 2<|N (gt 10 (some 18) (.bin .add (.t 17) (ci 1)))<|N (gt 10 (some 19) (.eq .int (.t 16) (.t 18)))<|tw 10<|E) 7
 (.cond (.t 20) (G (Z 1<|tc 0 3<|ka 32 10<|ty<|KH 1 0<|E) 21) .skip))
 (H (ts 320 3 320 6<|E) 25
 .ret)))⟩
def K7:PF:=⟨29,[.cell 4 true 10],
 (H (tb<|yJ 4<|N (o 4 (.alloc [(.int .u8 0),(.int .i64 0),(.int .u8 0),(.int .u8 0),(.int .u8 0),(.int .u8 0),(.int .u8 0),(.int .u8 0),(.int .u8 0),(.int .u8 0)] none))<|E) 2
 (H (C 10 2<|B 1 IW<|Y 5<|E) 6
 (.seq (H (Z 5<|ij 0<|E) 9
 (.cond (.t 10) (H (ts 10 2 10 4<|E) 11
   .ret) .skip))
 (yU (tk 2 2<|F 5<|N (o 14 (.slarr 8 1 (.t 12) (some (.t 13)) none),[])<|tk 2 2<|F 5<|Kt 1<|N (o 18 (.slarr 8 1 (.t 15) (some (.t 17)) none),[])<|N (o 19 (.copy 1 (.t 14) (.t 18)),[])<|E) 12
 (H (tB 2<|u9 1<|tc 1 2<|jD 1<|E) 20
 (H (tB 2<|tc 2 2<|ka 8 1<|KH 1 0<|E) 24
 (H (ts 10 2 10 4<|E) 28
 .ret)))))))⟩
def R5:PF:=⟨9,[.t 4],
 (H (V<|E) 4
 (H (Z 0<|B 1 Qp<|kZ 0<|Y 4<|E) 5
 .ret))⟩
def R6:PF:=⟨9,[.t 3],
 (H (tb<|V<|E) 2
 (H (EW 5<|A 1<|oc<|tF Qj 4<|tr<|Y 3<|E) 4
 .ret))⟩
def R7:PF:=⟨50,[.t 4],
 (H (tb<|yJ 4<|V<|E) 2
 (H (tt 2<|Kb 16<|gV 0 2 1<|N (gt 10 (some 13) (.bin .leq (.t 12) (.c (.int .u8 38))))<|tI 10 5<|E) 7
 (H (tt 2<|y8 5<|tP 0 2 1<|N (gf 18 (some 21) (.eq .int (.t 20) (.c (.int .u8 6))))<|tg 18<|Y 6<|E) 15
 (H (tt 2<|N (o 25 (.bin .leq (.t 24) (.c (.int .u8 6))))<|tG 5<|N (o 28 (.pick (.t 26) (.c (.bool true)) (.t 27)))<|gV 1 2 1<|yR 29 2 2<|pM 29 1<|yR 29 3 2<|pM 29 1<|N (gt 29 (some 36) (.max [(.t 31),(.t 33),(.t 35)]))<|N (gt 29 (some 37) (.bin .lss (.t 36) (.c (.int .u8 8))))<|tw 29<|tz 6<|tid<|wP 39<|E3 4 2 1<|N (gf 42 (some 45) (.conv .i64 (.t 44)))<|pD 42 1<|N (gf 42 (some 47) (.bin .lss (.t 45) (.t 46)))<|wO 39 42<|tI 39 4<|E) 23
 .ret))))⟩
def R8:PF:=⟨20,[],
 (H (tb<|E) 3
 (H (U 0 0<|C 3 3<|tT 4<|tq 13<|tl 3 6<|tT 5<|tq 16<|y7 1<|E) 4
 (yW (L 0 0<|tf<|L 0 1<|kb 12 3<|jA IE 14<|E) 11)))⟩
def R9:PF:=⟨41,[.t 4],
 (H (tb<|tb<|ti<|E) 2
 (H (mC D4 2 3<|JX 5<|td 1 5<|E) 10
 (H (mC po 2 3<|JX 6<|td 1 6<|E) 11
 (H (N (o 12 .nJ)<|A 5<|JS 1<|A 5<|gW 12 2<|A 5<|gW 12 3<|A 5<|gW 12 4<|A 5<|gW 12 5<|A 5<|gW 12 10<|A 5<|gW 12 12<|A 5<|gW 12 18<|A 5<|gW 12 19<|A 6<|gW 12 6<|A 6<|gW 12 7<|A 6<|gW 12 9<|A 6<|gW 12 11<|uU D5 6 2 3<|gW 12 8<|mC D6 2 3<|gW 12 13<|uU D7 3 5 6<|gW 12 14<|tH 12 7<|E) 12
 (H (Z 7<|tt 3<|tiQ 31<|ta 30 30 30<|tm 8 9<|E) 31
 (.seq (H (Z 9<|tr<|E) 37
 (.cond (.t 38) (H (ti<|E) 4
   .ret) .skip))
 (H (Z 8<|yI<|Y 4<|E) 39
 .ret)))))))⟩
def sB:PF:=⟨85,[.cell 6 true 320,.t 7],
 (H (te 0<|yJ 6<|Kk<|V<|E) 3
 (.seq (H (Z 1<|B 2 D3<|tr<|E) 10
 (.cond (.t 13) (H (ts 320 3 320 6<|nZ 7<|E) 14
   .ret) .skip))
 (H (Z 1<|tc 0 3<|ka 32 10<|Y 8<|E) 15
 (.seq (H (m7 8<|tj 10<|B 2 IW<|Y 9<|E) 18
 (.block 0 (H (gL 8 0 1<|jE<|Z 2<|tS 1<|EN 28<|Y 23<|E) 24
   (.cond (.t 23) (H (ts 320 3 320 6<|od 7<|E) 32
     .ret) (H (gL 8 0 1<|y8 0<|tz 8<|N (gt 39 (some 41) (.nilck (.t 40)))<|wS 39 1<|pM 39 1<|Ko 39 0<|wP 39<|Ra 9<|N (gf 45 (some 47) (.eq .int (.t 46) (ci 0)))<|wO 39 45<|tI 39 33<|E) 34
     (.cond (.t 33) (H (Z 8<|m7 8<|tj 10<|B 2 IN<|tT 50<|jD 10<|E) 50
       (H (U 8 2<|tS 1<|Ku<|tT 57<|ty<|tl 1 60<|E) 57
       (H (ts 320 3 320 6<|od 7<|E) 63
       .ret))) (H (Z 9<|ij 0<|Y 64<|E) 65
       (.cond (.t 64) (yU (F 8<|L 8 1<|tf<|F 2<|BC<|k9 67 2<|mD 8 1 71<|tL 1 73<|E) 67
         (G (gL 8 1 1<|tS 1<|tT 77<|tq 1<|tl 1 81<|E) 77)) .skip))))))))
 (H (ts 320 3 320 6<|nZ 7<|E) 84
 .ret)))))⟩
def BS:PF:=⟨39,[.t 4,.t 5],
 (H (J<|J<|E) 4
 (.seq (.block 0 (H (Z 0<|yK<|Y 8<|E) 9
   (.cond (.t 8) (H (J<|gJ 1<|E) 4
     .ret) (H (Z 1<|ij 1<|Y 11<|E) 12
     (.cond (.t 11) (H (J<|gJ 2<|E) 4
       .ret) .skip)))))
 (H (m7 0<|tq 1<|tj 1<|B 1 Qr<|ta 14 14 14<|tm 6 7<|E) 15
 (.seq (H (Z 7<|tr<|E) 23
 (.cond (.t 24) (H (J<|gJ 6<|E) 4
   .ret) .skip))
 (H (Z 0<|m7 0<|tq 1<|tj 1<|U 6 1<|tR Qs 30<|ta 25 25 25<|tT 26<|tq 1<|tl 1 34<|E) 26
 (H (tH 6 4<|tO 5 0<|E) 38
 .ret))))))⟩
def K8:PF:=⟨8,[.t 4],
 (H (J<|E) 4
 (H (U 0 1<|N (o 7 (.call (cf DX) [(.t 5),(.t 6),(cf IY)]))<|Y 4<|E) 5
 .ret))⟩
def agf:PC:=
 (H (tE<|E) 60
 (.seq (.cond (.t 60) .skip (.exit 1))
 (.seq (.block 2 (H (gI<|Y 9<|E) 61
   (H (tc 2 6<|tj 2<|tC 3 3 1<|jE<|Z 9<|y4<|tF Qt 64<|ta 62 62 62<|tm 10 11<|E) 63
   (G (U 8 10<|N (o 75 (.bslice [(.int .i64 0)] 1 [(0,1,(.t 74))]))<|N (o 76 (.append mw 1 8 (.t 73) (.t 75)))<|Y 8<|E) 73))))
 (G (tx 59 59<|E) 77))))
def Fw:PF:=⟨80,[.t 4,.t 5],
 (H (tb<|tb<|ti<|J<|E) 2
 (H (tc 0 2<|ty<|tj 480<|tB 3<|tF uJ 15<|ta 12 12 12<|pG 6 0 0 0 0 0 0 0 0 0 0 0<|tA 12 6 7<|E) 13
 (.seq (.block 0 (H (Z 7<|jf 0<|Y 21<|E) 22
   (.cond (.t 21) (H (Z 7<|EB 4<|Y 5<|E) 24
     .ret) (H (tt 3<|EL 3<|gV 0 3 1<|N (gt 29 (some 32) (.ne .int (.t 31) (.c (.int .u8 4))))<|tw 29<|tP 4 3 1<|N (gf 34 (some 37) (.bin .lss (.t 36) (.c (.int .u32 1))))<|tg 34<|tP 4 3 1<|N (gf 39 (some 42) (.bin .gtr (.t 41) (.c (.int .u32 8))))<|tg 39<|Y 25<|E) 26
     (.cond (.t 25) (H (ti<|gJ 2<|E) 4
       .ret) (H (tC 3 3 1<|jE<|tc 2 6<|tq 1<|tv<|tC 4 3 1<|jE<|Kg 50<|J1 47<|Y 44<|E) 45
       (.cond (.t 44) (H (ti<|gJ 9<|E) 4
         .ret) .skip)))))))
 (H (ti<|E) 8
 (.seq (H (tC 4 3 1<|jE<|J<|E) 56
 (.block 1 (.loop agf)))
 (H (tu 8 IZ<|Y 4<|tO 5 0<|E) 78
 .ret))))))⟩
def agh:PC:=
 (H (tE<|E) 11
 (.seq (.cond (.t 11) .skip (.exit 0))
 (.seq (.block 1 (H (gI<|JU 1 8 10<|tv<|qO 6 12<|Y 7<|E) 12
   (G (Z 2<|U 7 6<|JV 15<|E) 15)))
 (G (tx 10 10<|E) 19))))
def Sa:PF:=⟨20,[],
 (H (Z 1<|tK<|E) 8
 (.block 0 (.loop agh)))⟩
def Sb:PF:=⟨21,[],
 (yW (qW 1 2<|iH 0<|tf<|iH 952<|tf<|F 0<|tk 5 3<|nY 1 0 3 6<|F 1<|Ka 8<|N (o 18 (.shf .shr (.t 15) (.t 17)),[])<|BC<|mB Qn 12 13<|E) 6)⟩
def K9:PF:=⟨11,[.t 6],
 (H (te 2<|J<|E) 5
 (H (U 0 1<|pA Qu 5<|tR I0 7<|Y 6<|E) 7
 .ret))⟩
def Sc:PF:=⟨29,[],
 (H (A 2<|uZ<|ty<|tv<|uZ<|tq 952<|tv<|B 0 Qo<|ta 8 8 8<|tm 6 7<|E) 9
 (yW (tk 1 3<|tf<|F 6<|N (o 23 (.conv .u64 (.t 22)),[])<|F 1<|Ka 8<|N (o 26 (.shf .shl (.t 23) (.t 25)),[])<|N (o 27 (.bin .or (.t 21) (.t 26)),[])<|tk 1 3<|yM 1<|E) 20))⟩
def La:PF:=⟨12,[.cell 4 false 1,.t 5],
 (H (N (o 4 (.alloc [(.int .u8 0)] none))<|J<|E) 4
 (H (U 0 1<|pA Qv 4<|tR I0 6<|Y 5<|E) 6
 (H (A 4<|Z 5<|tA 1 4 5<|E) 10
 .ret)))⟩
def Se:PF:=⟨12,[.t 4],
 (H (tb<|yJ 4<|J<|E) 2
 (H (tc 2 2<|tB 2<|N (o 8 (.slarr 8 1 (.t 5) none (some (.t 7))))<|Z 1<|Ku<|tF D8 8<|Y 4<|E) 5
 .ret))⟩
def agi:PC:=
 (H (tE<|E) 9
 (.seq (.cond (.t 9) .skip (.exit 0))
 (.seq (.block 1 (H (gI<|Y 5<|E) 10
   (H (Z 1<|U 0 5<|m5 5<|tj 5<|uV 11<|E) 11
   (.cond (.t 16) (H (tH 5 4<|E) 17
     .ret) .skip))))
 (G (tx 8 8<|E) 18))))
def Sf:PF:=⟨19,[.t 4],
 (H (J<|E) 4
 (.seq (H (Z 0<|tK<|E) 6
 (.block 0 (.loop agi)))
 (H (uT 1<|E) 4
 .ret)))⟩
def Sg:PF:=⟨7,[.t 2],
 (H (ti<|E) 2
 (H (C 952 0<|tB 1<|tF IX 3<|Y 2<|E) 3
 .ret))⟩
def Lb:PF:=⟨15,[.t 4],
 (H (tb<|yJ 4<|ti<|E) 2
 (.seq (H (tc 0 2<|ty<|tV 0 0<|m6<|Z 1<|k5<|E) 5
 (.cond (.t 12) (H (ti<|E) 4
   .ret) .skip))
 (H (Z 1<|wW 1 0 1 0<|Y 4<|E) 13
 .ret)))⟩
def Lc:PF:=⟨9,[.t 2],
 (H (ti<|E) 2
 (H (tc 0 0<|ty<|tj 480<|tB 1<|tF pq 5<|Y 2<|E) 3
 .ret))⟩
def Fx:PF:=⟨15,[.t 4],
 (H (tb<|yJ 4<|ti<|E) 2
 (.seq (H (k6 2<|Z 1<|k5<|E) 5
 (.cond (.t 10) (H (ti<|E) 4
   .ret) .skip))
 (H (tp 2<|B 1 D9<|tn sh<|Y 4<|E) 11
 .ret)))⟩
def BT:PF:=⟨31,[.t 3],
 (H (ti<|E) 3
 (H (A 0<|yI<|Y 4<|E) 5
 (.seq (H (jB 4<|lU 0<|tX<|uX 0 1<|yY 0<|qV 10 0<|qV 10 0<|Bz 10 96<|EG 10 2 2<|pF 10 1<|N (gf 10 (some 18) (.call (cf lM) [(.t 15),(.t 17)]))<|qS 10<|tg 10<|E) 7
 (.cond (.t 20) (H (ti<|E) 3
   .ret) .skip))
 (.seq (H (Z 4<|tC 2 2 1<|tF Qq 21<|E) 21
 (.cond (.t 24) (H (tH 4 3<|E) 25
   .ret) .skip))
 (H (Z 4<|tC 2 2 1<|wW 1 0 1 0<|y5 1 4 26<|Y 3<|E) 26
 .ret)))))⟩
def Sh:PF:=⟨9,[.t 4],
 (H (V<|E) 4
 (H (Z 0<|B 1 Qw<|kZ 0<|Y 4<|E) 5
 .ret))⟩
def Ld:PF:=⟨20,[.t 2],
 (H (ti<|E) 2
 (H (tc 0 0<|tq 608<|tj 176<|tC 2 1 1<|tF wC 8<|ta 5 5 5<|EO 3 0 0 0 0<|tA 5 3 4<|E) 6
 (.seq (H (Z 4<|jf 0<|E) 14
 (.cond (.t 15) (H (ti<|E) 2
   .ret) .skip))
 (H (C 952 0<|tt 3<|tF IX 16<|Y 2<|E) 16
 .ret))))⟩
def Le:PF:=⟨23,[.cell 4 true 5,.t 5],
 (H (tb<|yJ 4<|N (o 4 (.alloc [(.int .u32 0),(.int .u8 0),(.int .u8 0),(.bool false),(.int .u32 0)] none))<|J<|E) 2
 (.seq (H (tc 0 2<|m6<|Z 1<|k5<|E) 8
 (.cond (.t 12) (H (N (o 13 (.build [(.int .u32 0),(.int .u8 0),(.int .u8 0),(.bool false),(.int .u32 0)] []))<|tJ 5 4 5 4<|E) 13
   .ret) .skip))
 (H (tu 1 lO<|ta 14 14 14<|tm 6 7<|E) 15
 (H (Z 6<|tc 96 2<|ka 16 5<|tj 5<|tJ 5 4 5 0<|E) 19
 .ret))))⟩
def Lf:PF:=⟨11,[.t 3],
 (H (ti<|E) 3
 (.seq (H (tC 4 0 1<|wQ 1<|E) 4
 (.cond (.t 6) (H (A 1<|yI<|Y 3<|E) 7
   .ret) .skip))
 (H (A 2<|yI<|Y 3<|E) 9
 .ret)))⟩
def Lg:PC:=
 (.block 1 (H (A 3<|kZ 1<|gV 1 7 1<|yO 14 1 3<|N (gt 14 (some 18) (.bin .geq (.t 16) (.t 17)))<|tw 14<|E) 12
   (.cond (.t 19) (H (tt 7<|td 1 4<|EM 1 5<|E) 20
     .ret) .skip)))
def Si:PF:=⟨22,[.cell 4 false 1,.cell 5 false 1],
 (H (tb<|tb<|wV 0<|BJ<|E) 2
 (.seq (H (C 1 2<|tn Ix<|E) 8
 (.block 0 (.hZ (.t 9) [10,11] (G (BH 0 0<|tl 2 11<|E) 7) Lg)))
 (H (Kq 1 4 0<|E2 1 5<|E) 0
 .ret)))⟩
def Fy:PF:=⟨78,[.cell 6 true 1,.t 7],
 (H (te 0<|yJ 6<|y6<|V<|E) 3
 (H (U 1 2<|Kj 0 1 1 1 0 0<|qU 8 0 0<|td 2 8<|E) 13
 (.seq (H (C 2 8<|tn DT<|tr<|E) 16
 (.cond (.t 18) (H (ts 1 3 1 6<|nZ 7<|E) 19
   .ret) .skip))
 (H (pA I1 8<|Y 9<|E) 20
 (H (tt 3<|B 9 II<|Y 10<|E) 21
 (.seq (H (Z 10<|ij 0<|E) 25
 (.cond (.t 26) (H (ts 1 3 1 6<|nZ 7<|E) 27
   .ret) .skip))
 (H (tt 3<|Z 10<|m5 2<|tj 2<|qU 11 0 0<|td 2 11<|E) 28
 (H (ti<|E) 12
 (.seq (H (tt 8<|tt 11<|J1 34<|E) 33
 (.cond (.t 37) (G (Z 12<|tt 11<|tt 8<|tt 11<|Kg 42<|N (o 46 (.build [(.int .i64 0),(.int .i64 0)] [(0,1,(.t 40)),(1,1,(.t 45))]))<|y0 1 0 2 0 0<|BE 2 16 38<|Y 12<|E) 38) .skip))
 (.seq (yU (jC 2 8<|pJ nX<|sx 2 11 0 1<|pJ nX<|N (o 53 (.bin .lss (.t 50) (.t 52)),[])<|E) 49
 (.cond (.t 53) (yW (F 12<|jC 2 8<|ss nX 0<|sx 2 11 1 2<|ss nX 0<|BF 2 8 1 2 3 4<|ss nX 0<|Kx 58<|N (o 62 (.build [(.int .i64 0),(.int .i64 0)] [(0,1,(.t 56)),(1,1,(.t 61))]),[])<|N (o 63 (.bslice [(.int .i64 0),(.int .i64 0)] 1 [(0,2,(.t 62))]),[])<|EY 2 16 54<|to 12<|E) 54) .skip))
 (yU (tk 0 3<|tf<|F 10<|N (o 68 (.slsl 2 (.t 66) none (some (.t 67)) none),[])<|F 12<|tk 0 3<|iJ 1 1<|F 10<|Kt 1<|N (o 74 (.slsl 2 (.t 71) (some (.t 73)) none none),[])<|N (o 75 (.bslice [.ai] 3 [(0,1,(.t 68)),(1,1,(.t 69)),(2,1,(.t 74))]),[])<|pJ Qx<|N (o 77 (.build [.ai] [(0,1,(.t 76))]),[])<|qX 1 6<|KC 7<|E) 65
 .ret)))))))))))⟩
def Sj:PF:=⟨5,[],
 (G (gI<|uZ<|N (o 4 (.slarr 32 1 (.t 3) none none))<|yX (u (.clear [(.int .u8 0)] (.t 4)))<|E) 2)⟩
def Lh:PC:=
 (.block 1 (H (A 3<|Z 6<|N (o 14 (.bin .geq (.t 12) (.t 13)))<|tX<|ED 1 3<|og 6<|yR 15 1 7<|pM 15 1<|N (gt 15 (some 20) (.bin .mul (.t 19) (ci 32)))<|N (gt 15 (some 21) (.bin .add (.t 17) (.t 20)))<|N (gt 15 (some 22) (.bin .lss (.t 16) (.t 21)))<|tw 15<|E) 12
   (.cond (.t 23) (H (tt 7<|Kz 32<|A 3<|y4<|Z 6<|N (o 30 (.bin .sub (.t 28) (.t 29)))<|td 1 4<|EM 1 5<|E) 24
     .ret) .skip)))
def Sk:PF:=⟨31,[.cell 4 false 1,.cell 5 false 1],
 (H (tb<|tb<|wV 0<|BJ<|E) 2
 (.seq (H (C 2 2<|tn IC<|E) 8
 (.block 0 (.hZ (.t 9) [10,11] (H (Z 10<|E) 6
   (G (BH 0 0<|tl 2 11<|E) 7)) Lh)))
 (H (Kq 1 4 0<|E2 1 5<|E) 0
 .ret)))⟩
def FA:PF:=⟨9,[.t 2],
 (H (ti<|E) 2
 (H (Z 0<|jB 0<|jB 0<|J4 1 3 5<|Y 2<|E) 3
 .ret))⟩
def Lk:PF:=⟨18,[.t 6],
 (H (te 1<|te 2<|J<|E) 4
 (.seq (H (Z 0<|N (o 8 (.ne .ptr (.t 7) (.c .dY)))<|tX<|ED 1 4<|wU 0<|tw 9<|E) 7
 (.cond (.t 12) (H (gJ 2<|E) 6
   .ret) .skip))
 (H (Z 0<|A 4<|N (o 15 (.bin .quo (.t 14) (ci 32)))<|mC Qy 5 4<|tR DX 13<|Y 6<|E) 13
 .ret)))⟩
def Sl:PF:=⟨6,[],
 (G (Z 0<|A 1<|tU<|jD 1<|E) 3)⟩
def Sm:PF:=⟨6,[],
 (G (m7 0<|tv<|td 1 1<|E) 3)⟩
def Sn:PC:=
 (H (tE<|E) 9
 (.seq (.cond (.t 9) .skip (.exit 0))
 (.seq (.block 1 (H (gI<|Y 5<|E) 10
   (H (Z 1<|U 0 5<|m5 1<|tv<|EN 11<|E) 11
   (.cond (.t 16) (H (tH 5 4<|E) 17
     .ret) .skip))))
 (G (tx 8 8<|E) 18))))
def FB:PF:=⟨19,[.t 4],
 (H (J<|E) 4
 (.seq (H (Z 0<|tK<|E) 6
 (.block 0 (.loop Sn)))
 (H (uT 1<|E) 4
 .ret)))⟩
def Ll:PF:=⟨5,[.t 2],
 (H (ti<|E) 2
 (H (Z 0<|N (o 4 (.call (cf qL) [(.c .ai),(.t 3)]))<|Y 2<|E) 3
 .ret))⟩
def So:PF:=⟨6,[.t 4],
 (H (tb<|tb<|za<|E) 2
 (H (N (o 5 (.mkf (.func yC) [] [(.t 3),(.t 2)]))<|Y 4<|E) 5
 .ret))⟩
def agj:PC:=
 (H (tE<|E) 9
 (.seq (.cond (.t 9) .skip (.exit 0))
 (.seq (.block 1 (H (gI<|Y 5<|E) 10
   (H (Z 1<|U 0 5<|m5 1<|tv<|EN 11<|E) 11
   (.cond (.t 16) (H (tH 5 4<|E) 17
     .ret) .skip))))
 (G (tx 8 8<|E) 18))))
def Sp:PF:=⟨19,[.t 4],
 (H (J<|E) 4
 (.seq (H (Z 0<|tK<|E) 6
 (.block 0 (.loop agj)))
 (H (uT 1<|E) 4
 .ret)))⟩
def Sq:PF:=⟨7,[.t 3],
 (H (tb<|V<|E) 2
 (H (EW 2<|C 2 1<|ik IA<|Y 3<|E) 4
 .ret))⟩
def agk:PC:=
 (H (tE<|E) 28
 (.seq (.cond (.t 28) .skip (.exit 2))
 (.seq (.block 3 (H (il 1 25<|tY 8<|E) 29
   (G (U 6 8<|N (o 33 (.append fe 2 16 (.t 31) (.t 32)))<|Y 6<|E) 31)))
 (G (tx 27 27<|E) 34))))
def agl:PC:=
 (H (tE<|E) 12
 (.seq (.cond (.t 12) .skip (.exit 0))
 (.seq (.block 1 (H (il 1 9<|tY 5<|E) 13
   (H (Z 3<|jB 5<|yL 15<|Y 3<|E) 15
   (H (Z 3<|ij 0<|E) 19
   (.cond (.t 20) (G (N (o 21 (.mki ar1 (.c (S [108,101,110,32,111,117,116,32,111,102,32,114,97,110,103,101]))))<|Bt<|E) 21) .skip)))))
 (G (tx 11 11<|E) 22))))
def Sr:PF:=⟨36,[.t 2],
 (H (ti<|E) 2
 (H (J<|E) 3
 (.seq (H (Z 0<|tK<|E) 9
 (.block 0 (.loop agl)))
 (H (Z 3<|N (o 24 (.call (cf qM) [(.c .ai),(.t 23)]))<|Y 6<|E) 23
 (.seq (H (Z 0<|tK<|E) 25
 (.block 2 (.loop agk)))
 (H (tH 6 2<|E) 35
 .ret))))))⟩
def Ss:PF:=⟨11,[],
 (yW (qW 1 1<|F 0<|Kc 1 2 0<|N (o 7 (.bin .rem (.t 6) (ci 32)),[])<|j7 5<|N (o 9 (.iaddra 32 1 (.t 8) (.t 7)),[])<|N (o 10 (.call (.t 4) [(.t 9)]),[])<|E) 4)⟩
def agm:PC:=
 (.block 1 (G (A 2<|Z 5<|wW 1 0 1 0<|y5 1 4 8<|td 1 2<|E) 8))
def Lm:PF:=⟨13,[.t 4],
 (H (tb<|yJ 4<|ti<|E) 2
 (.seq (H (Z 1<|E) 6
 (.block 0 (.hZ (.t 6) [7] (G (Z 7<|E) 5) agm)))
 (H (A 2<|Y 4<|E) 12
 .ret)))⟩
def agn:PC:=
 (.seq (H (jB 4<|oh 0<|E) 9
 (.cond (.t 11) .skip (.exit 0)))
 (.block 1 (H (Z 4<|jB 4<|u9 1<|E4 1 12<|tY 5<|E) 12
   (.seq (H (U 0 5<|wN<|tr<|E) 18
   (.cond (.t 21) .ret .skip))
   (H (tp 2<|B 5 m4<|Y 6<|E) 22
   (H (tu 6 Qz<|E) 25
   (G (Z 4<|jB 4<|u9 1<|N (o 31 (.slsl 1 (.t 27) none (some (.t 30)) none))<|Z 6<|N (o 33 (.append bZ 1 4 (.t 31) (.t 32)))<|Y 4<|E) 27)))))))
def St:PF:=⟨34,[],
 (H (A 1<|N (o 8 (.rN bZ [(.int .u32 0)] 1 [(0,1,(.t 7))]))<|Y 4<|E) 7
 (.block 0 (.loop agn)))⟩
def Ln:PF:=⟨16,[.t 4],
 (H (tb<|tb<|ti<|E) 2
 (.seq (H (k6 2<|A 3<|k5<|E) 5
 (.cond (.t 10) (H (ti<|E) 4
   .ret) .skip))
 (H (tc 0 2<|m6<|tn j5<|mC Ea 2 3<|ik mv<|Y 4<|E) 11
 .ret)))⟩
def ago:PC:=
 (.seq (H (U 2 3<|N (o 9 (.bin .lss (.t 7) (.t 8)))<|E) 7
 (.cond (.t 9) .skip (.exit 0)))
 (.seq (.block 1 (yW (F 0<|F 2<|F 0<|F 3<|F 0<|F 3<|N (o 20 (.iaddrs 1 (.t 18) (.t 19)),[])<|tf<|F 0<|F 2<|N (o 24 (.iaddrs 1 (.t 22) (.t 23)),[])<|iJ 1 7<|N (o 26 (.iaddrs 1 (.t 14) (.t 15)),[])<|tL 1 21<|N (o 27 (.iaddrs 1 (.t 16) (.t 17)),[])<|tL 1 25<|E) 14))
 (G (Z 2<|tS 1<|Z 3<|u9 1<|qO 2 11<|Y 3<|E) 10)))
def Su:PF:=⟨28,[],
 (H (jB 0<|u9 1<|tO 2 0<|Y 3<|E) 4
 (.block 0 (.loop ago)))⟩
def agp:PC:=
 (.seq (H (Z 6<|jB 0<|yZ 16<|E) 16
 (.cond (.t 19) .skip (.exit 0)))
 (.seq (.block 1 (H (U 0 6<|m5 1<|tY 7<|E) 22
   (H (U 1 7<|wN<|tr<|E) 26
   (.cond (.t 29) (H (Z 0<|U 5 7<|il 1 30<|jD 1<|E) 30
     (G (Z 5<|tS 1<|Y 5<|E) 34)) .skip))))
 (G (Z 6<|tS 1<|Y 6<|E) 20)))
def FC:PF:=⟨42,[.t 4],
 (H (ti<|E) 4
 (H (Z 0<|B 1 I2<|Y 5<|E) 8
 (.seq (H (Z 5<|N (o 12 (.eq .int (.t 11) (ci (-1))))<|E) 11
 (.cond (.t 12) (H (tH 0 4<|E) 13
   .ret) .skip))
 (.seq (H (Z 5<|tS 1<|Y 6<|E) 14
 (.block 0 (.loop agp)))
 (H (U 0 5<|N (o 38 (.slsl 1 (.t 36) (some (.t 37)) none none))<|yX (u (.clear [(.int .u32 0)] (.t 38)))<|E) 36
 (H (U 0 5<|N (o 41 (.slsl 1 (.t 39) none (some (.t 40)) none))<|Y 4<|E) 39
 .ret))))))⟩
def Sv:PF:=⟨17,[.t 4],
 (H (V<|E) 4
 (H (tp 1<|B 0 uJ<|ta 7 7 7<|pG 5 0 0 0 0 0 0 0 0 0 0 0<|tA 12 5 6<|E) 8
 (H (tt 5<|A 2<|EF<|Y 4<|E) 13
 .ret)))⟩
def agq:PC:=
 (H (tE<|E) 9
 (.seq (.cond (.t 9) .skip (.exit 0))
 (.seq (.block 1 (H (gI<|Y 5<|E) 10
   (H (Z 1<|U 0 5<|m5 1<|tv<|uV 11<|E) 11
   (.cond (.t 16) (H (tH 5 4<|E) 17
     .ret) .skip))))
 (G (tx 8 8<|E) 18))))
def Sw:PF:=⟨19,[.t 4],
 (H (J<|E) 4
 (.seq (H (Z 0<|tK<|E) 6
 (.block 0 (.loop agq)))
 (H (uT 1<|E) 4
 .ret)))⟩
def agr:PC:=
 (H (tE<|E) 12
 (.seq (.cond (.t 12) .skip (.exit 0))
 (.seq (.block 1 (H (il 2 9<|tj 2<|qU 5 0 0<|td 2 5<|E) 13
   (H (C 1 3<|tt 5<|tB 5<|E5 AZ 16 18<|ta 15 15 15<|yX (o 6 (.alloc [.ai] none))<|tA 1 6 7<|E) 16
   (.seq (H (Z 7<|tr<|E) 24
   (.cond (.t 25) (H (V<|E) 2
     .ret) .skip))
   (G (ts 1 6 1 3<|E) 26)))))
 (G (tx 11 11<|E) 27))))
def Sx:PF:=⟨39,[.t 2],
 (H (tD<|V<|E) 1
 (H (y6<|E) 3
 (.seq (H (tt 1<|tK<|E) 8
 (.block 0 (.loop agr)))
 (yU (tk 1 1<|tf<|N (o 30 (.bin .geq (.t 29) (ci 0)),[])<|lQ<|Bo 1 1<|Bw 1<|N (gt 31 (some 34) (.load true 2 (.t 1)),[5])<|N (gt 31 (some 35) (.call (cf AU) [(.t 34)]),[5])<|N (gt 31 (some 36) (.bin .mul (.t 35) (ci 32)),[])<|N (gt 31 (some 37) (.bin .leq (.t 33) (.t 36)),[])<|mG 31<|to 2<|E) 28
 .ret))))⟩
def Sy:PF:=⟨11,[.t 6],
 (H (te 0<|te 1<|te 2<|ti<|E) 3
 (H (sj 3 4<|pA Jw 5<|tR Ei 7<|Y 6<|E) 7
 .ret))⟩
def Sz:PF:=⟨8,[.t 4],
 (H (tb<|tb<|ti<|E) 2
 (H (C 176 2<|pA Jx 3<|ik yE<|Y 4<|E) 5
 .ret))⟩
def FD:PF:=⟨26,[.t 6],
 (H (te 0<|te 1<|yJ 6<|V<|E) 3
 (H (N (o 10 .nJ)<|mC wG 3 4<|JS 0<|mC wH 3 4<|gW 10 1<|mC yH 3 4<|gW 10 2<|tH 10 7<|E) 10
 (H (U 7 2<|N (o 18 (.lookup .int .cJ (.t 16) (.t 17) true))<|ta 15 15 15<|tm 8 9<|E) 16
 (H (Z 9<|tz 8<|N (gt 22 (some 24) (.call (.t 23) []))<|tI 22 6<|E) 21
 .ret))))⟩
def ags:PC:=
 (H (tE<|E) 143
 (.seq (.cond (.t 143) .skip (.exit 7))
 (.seq (.block 8 (H (il 1 140<|tY 13<|E) 144
   (G (Z 0<|U 13 1<|tR Jv 146<|E) 146)))
 (G (tx 142 142<|E) 150))))
def agt:PC:=
 (H (tE<|E) 120
 (.seq (.cond (.t 120) .skip (.exit 5))
 (.seq (.block 6 (H (il 1 117<|tY 11<|E) 121
   (G (Z 0<|B 11 wD<|E) 123)))
 (G (tx 119 119<|E) 126))))
def agu:PC:=
 (H (tE<|E) 83
 (.seq (.cond (.t 83) .skip (.exit 3))
 (.seq (.block 4 (H (il 1 80<|tY 9<|E) 84
   (G (U 0 0<|pE 0 0<|tq 608<|tj 176<|B 9 Eh<|ta 86 86 86<|iI 86 2<|tT 87<|ty<|tV 0 608<|tl 176 96<|E) 87)))
 (G (tx 82 82<|E) 103))))
def agv:PC:=
 (H (tE<|E) 41
 (.seq (.cond (.t 41) .skip (.exit 0))
 (.seq (.block 1 (H (il 4 38<|tj 4<|yX (o 7 (.alloc [(.int .u8 0),(.int .u64 0),(.int .u32 0),(.bool false)] none))<|td 4 7<|E) 42
   (.block 2 (H (tC 2 7 1<|wQ 0<|tP 3 7 1<|tg 52<|Y 48<|E) 49
     (.cond (.t 48) .skip (yU (F 0<|tk 0 7<|tf<|j7 57<|k7 0 936<|mD 8 1 59<|tf<|to 56<|E) 57
       (.cond (.t 56) (G (Z 0<|tC 2 7 1<|tt 7<|jE<|E5 Bb 65 67<|E) 65) (G (Z 0<|tC 2 7 1<|tF wD 44<|E) 44))))))))
 (G (tx 40 40<|E) 72))))
def SA:PF:=⟨151,[],
 (H (U 0 1<|tU<|tV 0 784<|k0 8 19 16<|tj 19<|tn QQ<|ta 14 14 14<|yX (o 4 (.alloc [(.int .u8 0),(.int .u64 0),(.int .u32 0),(.bool false),(.int .u8 0),(.int .u64 0),(.int .u32 0),(.bool false),(.int .u8 0),(.int .u64 0),(.int .u32 0),(.bool false),(.int .u8 0),(.int .u64 0),(.int .u32 0),(.bool false),(.int .i64 0),(.int .i64 0),(.bool false)] none))<|tA 19 4 5<|E) 15
 (yU (F 0<|F 1<|jC 19 4<|j7 25<|k7 0 784<|mD 8 19 26<|tL 19 27<|E) 25
 (H (U 0 1<|tU<|tV 0 936<|k0 8 1 33<|y9 1<|E) 32
 (.seq (H (Z 5<|tK<|E) 38
 (.block 0 (.loop agv)))
 (.seq (H (m7 0<|ty<|tV 0 608<|tj 176<|B 1 QB<|tK<|E) 73
 (.block 3 (.loop agu)))
 (.seq (yU (th 0 0 0<|qQ<|th 0 0 0<|lR<|kb 480 5<|F 1<|Br QR 109<|KE<|N (o 119 (.mov (ci 0)),[])<|E) 104
 (.block 5 (.loop agt)))
 (yU (th 0 0 0<|qQ<|th 0 0 0<|lR<|kb 480 5<|F 1<|Br QA 132<|KE<|N (o 142 (.mov (ci 0)),[])<|E) 127
 (.block 7 (.loop ags)))))))))⟩
def SB:PF:=⟨14,[.t 4],
 (H (tb<|yJ 4<|wT 0<|E) 2
 (H (Z 1<|pA I5 2<|ik D2<|Y 5<|E) 6
 (H (U 1 5<|N (o 11 (.max [(ci 0),(.t 10)]))<|E4 1 9<|tY 4<|E) 9
 .ret)))⟩
def SC:PF:=⟨10,[.t 3],
 (H (V<|E) 3
 (H (Z 0<|A 1<|uZ<|tq 4<|tv<|N (o 9 (.bin .geq (.t 4) (.t 8)))<|Y 3<|E) 4
 .ret))⟩
def agw:PC:=
 (H (tE<|E) 13
 (.seq (.cond (.t 13) .skip (.exit 0))
 (.seq (.block 1 (H (il 1 10<|tY 6<|E) 14
   (H (Z 1<|B 6 QD<|E) 16
   (.cond (.t 18) (H (tH 6 4<|E) 19
     .ret) .skip))))
 (G (tx 12 12<|E) 20))))
def SD:PF:=⟨24,[.t 4],
 (H (wT 0<|E) 4
 (.seq (H (gL 0 1 1<|tK<|E) 7
 (.block 0 (.loop agw)))
 (H (Z 1<|N (o 22 (.iaddrs 1 (.t 21) (ci 0)))<|tY 4<|E) 21
 .ret)))⟩
def SF:PF:=⟨9,[.t 4],
 (H (V<|E) 4
 (H (Z 0<|B 1 D8<|kZ 0<|Y 4<|E) 5
 .ret))⟩
def SG:PF:=⟨28,[.t 4],
 (H (wT 0<|E) 4
 (H (Z 1<|gL 0 2 1<|N (o 11 (.shf .shr (.t 10) (.c (.int .u64 33))))<|jB 1<|Bv<|N (o 15 (.bin .rem (.t 11) (.t 14)))<|E4 1 6<|tY 5<|E) 6
 (H (Z 0<|gL 0 2 1<|N (o 23 (.bin .mul (.t 22) (.c (.int .u64 6364136223846793005))))<|N (o 24 (.bin .add (.t 23) (.c (.int .u64 1))))<|tT 18<|tq 2<|tl 1 24<|E) 18
 (H (tH 5 4<|E) 27
 .ret))))⟩
def Lo:PF:=⟨65,[.cell 2 true 3],
 (H (tZ<|E) 2
 (.seq (H (Z 0<|gr<|uY 0<|E) 6
 (.cond (.t 11) (G (U 0 0<|gr<|mA jw 12 1<|E) 12) .skip))
 (yU (L 0 0<|pN 0 0 480<|L 0 953<|j9 1 1 5<|th 0 953 3<|tM 1 5 10<|BG 65<|lS<|mB QE 25 30<|tQ 19 19 19<|uW 19 2<|yX (o 3 (.alloc jx none),[5,10,15,18])<|su 480 3 39<|sw 4<|to 5<|E) 20
 (H (tu 5 gU<|E) 42
 (H (tN 0 480 3<|tU<|ty<|tV 0 0<|tl 480 45<|E) 44
 (.seq (H (Z 0<|gr<|wQ 0<|E) 50
 (.cond (.t 55) (G (U 0 4<|gL 0 952 1<|E5 Bb 56 57<|E) 56) .skip))
 (H (Z 4<|wJ 2 1 0 0 0<|td 3 2<|E) 63
 .ret)))))))⟩
def zg:PF:=⟨120,[.cell 2 true 3],
 (H (tZ<|E) 2
 (yU (th 0 953 3<|tf<|BG 129<|lS<|L 0 953<|j9 4 1 4<|BG 9<|lS<|yX (o 3 (.mov (.t 19)),[])<|to 4<|E) 13
 (H (Z 3<|B 4 QF<|ta 27 27 27<|tm 5 6<|E) 28
 (H (Z 6<|lP cQ 2<|E) 33
 (H (U 0 0<|gr<|mA jw 35 1<|E) 35
 (H (U 0 0<|gr<|tF Bc 42<|pG 7 0 0 0 0 0 0 0 0 0 0 0<|td 12 7<|E) 42
 (.seq (H (tc 2 7<|tj 2<|U 3 4<|tR Jr 51<|ta 49 49 49<|tm 8 9<|E) 50
 (H (Z 9<|tr<|E) 57
 (.cond (.t 58) (yU (tk 2 7<|jz 2<|pJ AU<|F 5<|Kv<|tk 1 7<|tM 1 1 2<|N (o 66 (.bin .leq (.t 63) (.t 65)),[])<|qP cQ 6<|E) 59
   (H (U 0 5<|tU<|tq 961<|tl 1 69<|E) 68
   (.seq (H (gL 0 962 1<|E) 72
   (.cond (.t 75) (H (j8 2<|E) 76
     .ret) .skip))
   (yU (tk 2 7<|jz 2<|L 0 959<|kb 2 1<|jA QG 78<|tk 2 7<|yM 2<|E) 77
   (G (j6 0 959 1 1<|Z 5<|eA<|tX<|sq 2 7<|Kn 2<|N (gt 92 (some 95) (.call (cf I3) [(.t 94)]))<|tw 92<|lP cQ 2<|E) 85))))) .skip)))
 (H (tc 2 7<|tj 2<|U 3 4<|tR QH 100<|ta 98 98 98<|iI 98 2<|yX (o 10 (.alloc [.ai,(.int .i64 0)] none))<|lT 2 10 104<|tm 11 12<|E) 99
 (H (C 2 10<|tc 2 7<|jD 2<|E) 107
 (yU (F 0<|th 0 953 1<|tf<|tW 12 7 5<|Br Js 109<|E) 109
 (H (Z 11<|Bv<|wJ 1 1 0 0 0<|td 3 2<|E) 117
 .ret)))))))))))⟩
def SH:PF:=⟨28,[.cell 2 true 3],
 (H (tZ<|E) 2
 (H (m7 0<|tq 953<|tj 6<|tn Jt<|E) 3
 (H (U 0 0<|gr<|mA jw 8 0<|E) 8
 (yU (F 0<|th 0 953 1<|tf<|jA Bc 15<|L 0 953<|E6 6 5 6<|jA Ee 21<|E) 15
 (H (j8 2<|E) 27
 .ret)))))⟩
def SI:PF:=⟨28,[.cell 2 true 3],
 (H (tZ<|E) 2
 (H (m7 0<|tq 953<|tj 6<|tn Jt<|E) 3
 (H (U 0 0<|gr<|mA jw 8 1<|E) 8
 (yU (F 0<|th 0 953 1<|tf<|jA Bc 15<|L 0 953<|E6 6 5 6<|jA Ee 21<|E) 15
 (H (j8 2<|E) 27
 .ret)))))⟩
def SJ:PF:=⟨40,[.cell 2 true 3],
 (H (tZ<|E) 2
 (H (U 0 0<|gr<|mA jw 4 1<|E) 4
 (H (U 0 0<|gr<|tF Bc 11<|pG 3 0 0 0 0 0 0 0 0 0 0 0<|td 12 3<|E) 11
 (yU (F 0<|L 0 963<|tf<|tk 2 3<|j9 0 1 4<|EY 2 16 22<|k9 18 963<|tL 1 26<|E) 18
 (yU (F 0<|th 0 953 1<|tf<|tk 1 3<|iJ 1 5<|N (o 37 (.build [(.int .u32 0),(.int .i64 0),.ai,(.int .i64 0),(.int .u32 0),(.int .u32 0),(.int .u32 0),(.int .u32 0),(.int .u32 0),(.int .u32 0),(.int .u32 0),(.int .u32 0)] [(1,1,(.t 36))]),[])<|mB Js 29 34<|E) 29
 (H (j8 2<|E) 39
 .ret))))))⟩
def SM:PF:=⟨18,[.cell 2 true 3],
 (H (tZ<|E) 2
 (H (U 0 0<|gr<|mA jw 3 2<|E) 3
 (H (U 0 0<|gr<|tF wD 10<|E) 10
 (H (j8 2<|E) 17
 .ret))))⟩
def SN:PF:=⟨48,[.cell 2 true 3],
 (H (tZ<|E) 2
 (H (U 0 0<|gr<|mA jw 3 2<|E) 3
 (yU (L 0 0<|pN 0 0 480<|L 0 953<|j9 1 1 5<|jA uM 15<|th 0 953 1<|nY 1 5 10 11<|N (o 27 (.ne .int (.t 21) (.t 26)),[])<|qP cQ 12<|E) 10
 (H (U 0 0<|gr<|tF Ef 29<|E) 29
 (yU (F 0<|th 0 953 1<|tf<|L 0 952<|iJ 1 5<|mB Bb 36 41<|E) 36
 (H (j8 2<|E) 47
 .ret))))))⟩
def SO:PF:=⟨48,[.cell 2 true 3],
 (H (tZ<|E) 2
 (H (U 0 0<|gr<|mA jw 5 2<|E) 5
 (H (Z 0<|j6 0 953 2 1<|mA jw 12 1<|E) 12
 (yU (L 0 0<|pN 0 0 480<|L 0 953<|j9 1 1 5<|th 0 953 2<|tM 1 5 10<|mB QI 25 30<|tQ 19 19 19<|yX (o 3 (.alloc jx none),[5,10,15,16])<|jy 480 3<|to 4<|E) 20
 (H (tu 4 gU<|E) 39
 (H (tN 0 480 3<|tU<|ty<|tV 0 0<|tl 480 42<|E) 41
 (H (j8 2<|E) 47
 .ret)))))))⟩
def SP:PF:=⟨53,[.cell 2 true 3],
 (H (tZ<|E) 2
 (H (U 0 0<|gr<|mA jw 5 2<|E) 5
 (H (U 0 0<|gr<|tF Ef 12<|E) 12
 (yU (th 0 0 0<|qQ<|th 0 0 0<|lR<|kb 480 5<|th 0 953 1<|tM 1 5 11<|L 0 952<|nY 1 5 11 16<|E8 QJ 25 31 36<|tQ 19 19 19<|Kl 3 5 11 16 20 21<|jy 128 3<|to 4<|E) 20
 (H (tu 4 gU<|E) 44
 (H (tN 0 128 3<|tU<|ty<|tV 0 480<|tl 128 47<|E) 46
 (H (j8 2<|E) 52
 .ret)))))))⟩
def Lp:PF:=⟨55,[.cell 2 true 3],
 (H (tZ<|E) 2
 (H (Z 0<|j6 0 953 3 1<|tF Bd 5<|E) 5
 (H (U 0 0<|gr<|tF Eg 12<|E) 12
 (yU (th 0 0 0<|qQ<|th 0 0 0<|lR<|kb 480 5<|th 0 953 1<|tM 1 5 11<|th 0 953 3<|nY 1 5 11 16<|lS<|E8 Ju 25 31 36<|tQ 19 19 19<|Kl 3 5 11 16 21 23<|jy 128 3<|to 4<|E) 20
 (H (tu 4 gU<|E) 46
 (H (tN 0 128 3<|tU<|ty<|tV 0 480<|tl 128 49<|E) 48
 (H (j8 2<|E) 54
 .ret)))))))⟩
def Lq:PF:=⟨22,[.cell 2 true 3],
 (H (tZ<|E) 2
 (H (U 0 0<|gr<|tF Eg 3<|E) 3
 (yU (F 0<|th 0 953 1<|tf<|L 0 952<|iJ 1 5<|mB Jv 10 15<|E) 10
 (H (j8 2<|E) 21
 .ret))))⟩
def zh:PF:=⟨161,[.cell 2 true 3],
 (H (tZ<|E) 2
 (H (Z 0<|j6 0 953 3 1<|tF Bd 9<|E) 9
 (H (j6 0 953 4 1<|N (o 21 (.bin .leq (.t 20) (.c (.int .u32 1))))<|lP cQ 2<|E) 16
 (yU (th 0 0 0<|lR<|pN 0 0 96<|L 0 953<|j9 1 1 7<|jA lM 30<|qP cQ 4<|E) 23
 (.seq (H (j6 0 953 2 1<|wQ 0<|E) 38
 (.cond (.t 43) (yU (th 0 0 0<|qQ<|th 0 0 0<|lR<|kb 480 5<|th 0 953 1<|tM 1 5 11<|mB wE 49 55<|yX (o 3 (.alloc [(.int .u8 0),(.int .u8 0),(.int .u8 0)] none),[5,11,16,17])<|qX 3 3<|E) 44
   (yW (tk 0 3<|tf<|ER 1<|lQ<|Bo 1 3<|Bw 1<|N (gt 65 (some 68) (.conv .i64 (.t 67)),[])<|J0 65 0<|uS 65<|gX 65 952<|N (gt 65 (some 72) (.load false 1 (.t 71)),[5])<|N (gt 65 (some 73) (.eq .int (.t 68) (.t 72)),[])<|mG 65<|qP cQ 5<|E) 62)) (yU (L 0 0<|pN 0 608 176<|L 0 953<|j9 2 1 5<|jA wC 82<|tQ 76 76 76<|yX (o 4 (.alloc [(.int .u32 0),(.int .u8 0),(.int .u8 0),(.bool false),(.int .u32 0)] none),[5,10,11])<|jy 5 4<|to 5<|E) 77
   (H (tu 5 gU<|E) 91
   (yW (tk 2 4<|tf<|lS<|L 0 952<|iJ 1 1<|Ez 95<|lQ<|Bo 0 4<|Bw 1<|J0 101 0<|uS 101<|gX 101 953<|gX 101 1<|N (gt 101 (some 108) (.load false 1 (.t 107)),[10])<|N (gt 101 (some 109) (.eq .int (.t 103) (.t 108)),[])<|mG 101<|qP cQ 5<|E) 93)))))
 (yU (L 0 0<|pN 0 608 176<|L 0 953<|j9 1 1 5<|L 0 952<|tM 1 5 10<|BC<|th 0 953 3<|nY 1 5 10 14<|BC<|th 0 953 4<|ET 1 5 10 14 20<|N (o 140 (.eq .int (.t 139) (.c (.int .u32 1))),[])<|th 0 953 2<|BK 1 5 10 14 20 26<|N (o 146 (.build [(.int .u32 0),(.int .u8 0),(.int .u8 0),(.bool false),(.int .u32 0)] [(0,1,(.t 123)),(1,1,(.t 128)),(2,1,(.t 134)),(3,1,(.t 140)),(4,1,(.t 145))]),[])<|jA QK 118<|tQ 112 112 112<|uW 112 2<|yX (o 6 (.alloc uP none),[5,10,14,20,26,32,34])<|su 176 6 148<|sw 7<|to 8<|E) 113
 (H (tu 8 gU<|E) 151
 (H (tN 0 176 6<|tU<|ty<|tV 0 608<|tl 176 154<|E) 153
 (H (Z 7<|wJ 2 1 0 0 0<|td 3 2<|E) 159
 .ret)))))))))⟩
def SQ:PF:=⟨53,[.cell 2 true 3],
 (H (tZ<|E) 2
 (yU (L 0 0<|pN 0 608 176<|L 0 953<|j9 2 1 5<|jA wC 11<|tQ 5 5 5<|yX (o 3 (.alloc [(.int .u32 0),(.int .u8 0),(.int .u8 0),(.bool false),(.int .u32 0)] none),[5,10,11])<|jy 5 3<|to 4<|E) 6
 (H (tu 4 gU<|E) 20
 (yU (tk 2 3<|tf<|lS<|L 0 952<|iJ 1 1<|Ez 24<|qP cQ 5<|E) 22
 (yU (F 0<|L 0 0<|pN 0 608 176<|L 0 953<|j9 2 1 6<|pC Eh 38 0<|tQ 31 31 31<|uW 31 2<|k9 32 0<|k7 0 608<|tL 176 45<|E) 32
 (H (j8 2<|E) 52
 .ret))))))⟩
def zi:PF:=⟨179,[.cell 2 true 3],
 (H (tZ<|E) 2
 (H (Z 0<|j6 0 953 3 1<|tF Bd 10<|E) 10
 (H (j6 0 953 4 1<|N (o 22 (.bin .leq (.t 21) (.c (.int .u32 1))))<|lP cQ 2<|E) 17
 (yU (L 0 952<|tf<|BC<|L 0 953<|j9 5 1 3<|th 0 953 1<|tM 1 3 9<|th 0 953 1<|nY 1 3 9 14<|N (o 44 (.ne .int (.t 43) (.c (.int .u32 0))),[])<|lQ<|yS 0<|Ew<|gX 45 953<|gX 45 4<|N (gt 45 (some 50) (.load false 1 (.t 49)),[3,9,14])<|N (gt 45 (some 51) (.eq .int (.t 50) (.c (.int .u32 1))),[])<|mG 45<|N (o 53 (.build [(.int .u8 0),(.int .u64 0),(.int .u32 0),(.bool false)] [(0,1,(.t 28)),(1,1,(.t 33)),(2,1,(.t 38)),(3,1,(.t 52))]),[])<|yX (o 3 (.alloc [(.int .u8 0),(.int .u64 0),(.int .u32 0),(.bool false)] none),[3,9,14,19,26])<|qX 4 3<|E) 24
 (.seq (.block 0 (H (tc 3 3<|tY 54<|E) 55
   (.cond (.t 54) (H (U 0 0<|gr<|tF Eg 57<|E) 57
     (yU (th 0 0 0<|qQ<|th 0 0 0<|lR<|kb 480 5<|th 0 953 1<|tM 1 5 11<|th 0 953 3<|nY 1 5 11 16<|lS<|E8 Ju 70 76 81<|tQ 64 64 64<|Kl 4 5 11 16 21 23<|jy 128 4<|to 5<|E) 65
     (H (Z 5<|lU 0<|E) 91
     (.cond (.t 92) (G (tN 0 128 4<|tU<|ty<|tV 0 480<|tl 128 94<|E) 93) .skip)))) (H (Z 0<|gr<|uY 0<|Y 99<|E) 100
     (.cond (.t 99) (H (U 0 0<|gr<|mA jw 106 2<|E) 106
       (H (U 0 0<|gr<|tF Ef 113<|E) 113
       (yU (th 0 0 0<|qQ<|th 0 0 0<|lR<|kb 480 5<|th 0 953 1<|tM 1 5 11<|mB QL 126 132<|tQ 120 120 120<|yX (o 6 (.alloc wI none),[5,11,16,17])<|jy 128 6<|to 7<|E) 121
       (H (tu 7 gU<|E) 141
       (G (tN 0 128 6<|tU<|ty<|tV 0 480<|tl 128 144<|E) 143))))) .skip)))))
 (yU (F 0<|th 0 953 3<|tf<|j7 150<|k7 0 784<|mD 8 19 155<|jz 19<|sx 4 3 5 10<|BD QM<|tQ 149 149 149<|yX (o 8 (.alloc [(.int .u8 0),(.int .u64 0),(.int .u32 0),(.bool false),(.int .u8 0),(.int .u64 0),(.int .u32 0),(.bool false),(.int .u8 0),(.int .u64 0),(.int .u32 0),(.bool false),(.int .u8 0),(.int .u64 0),(.int .u32 0),(.bool false),(.int .i64 0),(.int .i64 0),(.bool false)] none),[5,10,11,12])<|jy 19 8<|to 9<|E) 150
 (H (tu 9 gU<|E) 165
 (yU (F 0<|th 0 953 3<|tf<|tW 19 8 5<|j7 167<|k7 0 784<|mD 8 19 172<|tL 19 173<|E) 167
 (H (j8 2<|E) 178
 .ret)))))))))⟩
def FE:PF:=⟨54,[.cell 2 true 3],
 (H (tZ<|E) 2
 (yU (F 0<|L 0 952<|tf<|j7 7<|k7 0 784<|mD 8 19 11<|jz 19<|pJ QN<|tQ 6 6 6<|uW 6 2<|yX (o 3 (.alloc [(.int .u8 0),(.int .u64 0),(.int .u32 0),(.bool false),(.int .u8 0),(.int .u64 0),(.int .u32 0),(.bool false),(.int .u8 0),(.int .u64 0),(.int .u32 0),(.bool false),(.int .u8 0),(.int .u64 0),(.int .u32 0),(.bool false),(.int .i64 0),(.int .i64 0),(.bool false)] none),[4,9,10])<|yX (o 4 (.alloc [(.int .u8 0),(.int .u64 0),(.int .u32 0),(.bool false)] none),[4,9,10,15])<|su 19 3 18<|jy 4 4<|to 5<|E) 7
 (H (tu 5 gU<|E) 21
 (yU (F 0<|L 0 952<|tf<|tW 19 3 4<|j7 23<|k7 0 784<|mD 8 19 27<|tL 19 28<|E) 23
 (.seq (H (tC 2 4 1<|uY 0<|gV 3 4 1<|sr 36<|tw 36<|E) 33
 (.cond (.t 40) (yW (F 0<|tk 2 4<|tf<|L 0 952<|iJ 1 2<|mB Bb 41 43<|E) 41) .skip))
 (H (tB 4<|tC 2 4 1<|N (o 53 (.build [(.int .i64 0),(.int .u64 0),(.int .u32 0)] [(1,1,(.t 50)),(2,1,(.t 52))]))<|td 3 2<|E) 49
 .ret))))))⟩
def SR:PF:=⟨32,[.cell 2 true 3],
 (H (tZ<|E) 2
 (yU (F 0<|L 0 952<|tf<|j7 6<|k7 0 784<|mD 8 19 10<|jz 19<|pJ QO<|tQ 5 5 5<|yX (o 3 (.alloc [(.int .u8 0),(.int .u64 0),(.int .u32 0),(.bool false),(.int .u8 0),(.int .u64 0),(.int .u32 0),(.bool false),(.int .u8 0),(.int .u64 0),(.int .u32 0),(.bool false),(.int .u8 0),(.int .u64 0),(.int .u32 0),(.bool false),(.int .i64 0),(.int .i64 0),(.bool false)] none),[4,9,10])<|jy 19 3<|to 4<|E) 6
 (H (tu 4 gU<|E) 19
 (yU (F 0<|L 0 952<|tf<|tW 19 3 4<|j7 21<|k7 0 784<|mD 8 19 25<|tL 19 26<|E) 21
 (H (j8 2<|E) 31
 .ret)))))⟩
def Lr:PF:=⟨81,[.cell 2 true 3],
 (H (tZ<|E) 2
 (H (U 0 0<|gr<|mA jw 5 1<|E) 5
 (.seq (H (j6 0 953 2 1<|uY 0<|E) 12
 (.cond (.t 17) (G (Z 0<|j6 0 953 2 1<|mA jw 18 0<|E) 18) .skip))
 (yU (L 0 0<|pN 0 0 480<|L 0 953<|j9 1 1 5<|th 0 953 3<|tM 1 5 10<|BG 8<|lS<|th 0 953 2<|nY 1 5 10 15<|L 0 0<|k7 0 480<|N (o 54 (.load true 128 (.t 53)),[5,10,15,22])<|th 0 0 0<|lR<|N (o 60 (.load true 480 (.t 59)),[5,10,15,22,28])<|th 0 953 2<|N (o 65 (.load false 1 (.t 64)),[5,10,15,22,28,34])<|N (o 66 (.call (cf wE) [(.t 54),(.t 60),(.t 65)]),[5,10,15,22])<|N (o 67 (.fld false 1 0 (.t 66)),[])<|ER 3<|N (o 69 (.call (cf QP) [(.t 31),(.t 36),(.t 43),(.t 48),(.t 68)]),[])<|tQ 25 25 25<|yX (o 3 (.alloc jx none),[5,10,15,22,28,34,39,40,43])<|jy 480 3<|to 4<|E) 26
 (H (tu 4 gU<|E) 72
 (H (tN 0 480 3<|tU<|ty<|tV 0 0<|tl 480 75<|E) 74
 (H (j8 2<|E) 80
 .ret)))))))⟩
def SS:PF:=⟨38,[.cell 2 true 3],
 (H (tZ<|E) 2
 (H (U 0 0<|gr<|mA jw 5 0<|E) 5
 (yU (L 0 0<|pN 0 0 480<|L 0 953<|j9 1 1 5<|th 0 953 3<|tM 1 5 10<|BG 8<|lS<|mB yD 18 23<|tQ 12 12 12<|sw 3<|to 4<|E) 13
 (H (tu 4 gU<|E) 34
 (H (Z 3<|wJ 2 1 0 0 0<|td 3 2<|E) 36
 .ret)))))⟩
def Ls:PF:=⟨10,[.cell 2 true 3],
 (H (tZ<|E) 2
 (H (Z 0<|gL 0 952 1<|tF I4 3<|E) 3
 (H (j8 2<|E) 9
 .ret)))⟩
def FF:PF:=⟨19,[.cell 2 true 3],
 (H (tZ<|E) 2
 (H (Z 0<|j6 0 953 3 1<|tF Bd 3<|E) 3
 (H (Z 0<|j6 0 953 3 1<|jE<|tF I4 10<|E) 10
 (H (j8 2<|E) 18
 .ret))))⟩
def Lt:PF:=⟨46,[.cell 2 true 3],
 (H (tZ<|E) 2
 (yU (th 0 953 3<|tf<|N (o 8 (.bin .lss (.t 7) (.c (.int .u32 8))),[])<|lQ<|yS 0<|Kr 0<|uS 9<|gX 9 953<|gX 9 3<|wR 9 1<|N (gt 9 (some 16) (.bin .rem (.t 15) (.c (.int .u32 8))),[])<|N (gt 9 (some 17) (.nilck (.t 10)),[])<|gX 9 0<|gX 9 944<|N (gt 9 (some 20) (.iaddra 8 1 (.t 19) (.t 16)),[])<|wR 9 1<|N (gt 9 (some 22) (.un .not (.t 21)),[])<|mG 9<|qP cQ 2<|E) 3
 (yU (F 0<|th 0 953 3<|tf<|F 0<|L 0 953<|j9 3 1 5<|j7 25<|k7 0 936<|mD 8 1 30<|EA 1<|j7 31<|k7 0 944<|mD 8 1 36<|EA 1<|E) 25
 (H (j8 2<|E) 45
 .ret))))⟩
def SU:PF:=⟨19,[],
 (yW (th 0 0 0<|jz 784<|L 0 952<|iJ 1 4<|F 1<|F 2<|EV QS 10 14<|pJ gU<|E) 6)⟩
def zj:PF:=⟨36,[.cell 6 true 480,.t 7,.t 8],
 (H (te 0<|yJ 6<|qT<|pK 0<|J<|E) 3
 (H (tp 3<|U 1 2<|tR QT 13<|ta 12 12 12<|iI 12 2<|E9 9<|lT 480 9 17<|tm 10 11<|E) 13
 (.seq (H (Z 11<|lU 0<|tG 11<|N (gf 22 (some 24) (.eq .int (.t 23) (ci 7)))<|tg 22<|tX<|Bx 480 3<|og 1<|qR 26 Bf<|JY 26 6<|tw 26<|E) 20
 (.cond (.t 31) (H (ts 480 3 480 6<|wL 7 0<|tO 8 8<|E) 32
   .ret) .skip))
 (H (tp 9<|U 10 11<|lT 480 6 33<|tm 7 8<|E) 33
 .ret))))⟩
def FG:PF:=⟨6,[],
 (G (gI<|lU 0<|B 0 cQ<|E) 2)⟩
def SW:PF:=⟨34,[],
 (yU (th 0 0 0<|qQ<|th 0 0 0<|lR<|kb 480 5<|F 1<|F 2<|EV QU 14 20<|tQ 8 8 8<|yX (o 6 (.alloc wI none),[5,11,14])<|jy 128 6<|to 7<|E) 9
 (H (tu 7 gU<|E) 26
 (G (tN 0 128 6<|tU<|ty<|tV 0 480<|tl 128 29<|E) 28)))⟩
def Lu:PF:=⟨14,[.t 4,.t 5],
 (H (J<|V<|E) 4
 (.seq (H (Z 0<|B 1 Jy<|tr<|E) 6
 (.cond (.t 9) (H (J<|V<|E) 4
   .ret) .skip))
 (H (Z 0<|tS 32<|u9 1<|N (o 13 (.bin .quo (.t 12) (ci 32)))<|Y 4<|od 5<|E) 10
 .ret)))⟩
def SX:PF:=⟨21,[.cell 4 true 12],
 (H (KA 0 0 0 0 0 0 0 0 0 0 0<|E) 4
 (H (Z 0<|pE 0 0<|ty<|tj 480<|B 1 uJ<|ta 7 7 7<|pG 5 0 0 0 0 0 0 0 0 0 0 0<|tA 12 5 6<|E) 8
 (H (tu 6 gU<|E) 18
 (H (ts 12 5 12 4<|E) 20
 .ret))))⟩
def FH:PF:=⟨27,[.t 6,.t 7],
 (H (te 0<|yJ 5<|te 2<|J<|V<|E) 3
 (.seq (H (Z 1<|A 5<|ik Jy<|tr<|E) 10
 (.cond (.t 13) (H (J<|V<|E) 6
   .ret) .skip))
 (H (pA QV 5<|Y 8<|E) 14
 (H (Z 8<|tB 3<|uV 15<|Y 9<|E) 15
 (.seq (H (U 9 1<|y4<|C 2 3<|tn AU<|Kz 32<|J1 21<|E) 19
 (.cond (.t 25) (H (J<|V<|E) 6
   .ret) .skip))
 (H (tH 9 6<|od 7<|E) 26
 .ret))))))⟩
def SY:PF:=⟨15,[.cell 4 true 2],
 (H (tb<|tb<|N (o 4 (.alloc [.ai,(.int .i64 0)] none))<|E) 2
 (yU (tk 0 2<|tf<|pJ QW<|sx 2 3 1 2<|N (o 9 (.bslice [(.int .i64 0),(.int .i64 0)] 1 [(0,2,(.t 8))]),[])<|EY 2 16 7<|BF 2 2 1 2 3 5<|pJ AU<|N (o 13 (.bin .mul (.t 12) (ci 32)),[])<|N (o 14 (.build [.ai,(.int .i64 0)] [(0,1,(.t 10)),(1,1,(.t 13))]),[])<|qX 2 4<|E) 5
 .ret))⟩
def Lv:PF:=⟨26,[.cell 6 true 2,.t 7,.t 8],
 (H (te 0<|yJ 6<|N (o 6 (.alloc [.ai,(.int .i64 0)] none))<|J<|V<|E) 3
 (H (C 2 3<|U 1 2<|tR Jr 12<|ta 11 11 11<|tm 9 10<|E) 12
 (.seq (H (Z 10<|E) 18
 (.cond (.t 18) (G (U 9 1<|y4<|tc 1 3<|jD 1<|E) 19) .skip))
 (H (C 2 3<|U 9 10<|lT 2 6 23<|tm 7 8<|E) 23
 .ret))))⟩
def SZ:PF:=⟨28,[],
 (H (te 2<|E) 5
 (yU (L 0 0<|pN 0 0 480<|F 1<|tW 12 5 5<|Br Ej 14<|tQ 8 8 8<|yX (o 6 (.alloc jx none),[5,7,8])<|jy 480 6<|to 7<|E) 9
 (H (tu 7 gU<|E) 20
 (G (tN 0 480 6<|tU<|ty<|tV 0 0<|tl 480 23<|E) 22))))⟩
def FI:PF:=⟨11,[],
 (H (tD<|E) 1
 (G (tq 4<|tv<|N (o 4 (.bin .geq (.t 3) (.c (.int .u32 1))))<|gV 4 1 1<|N (gt 5 (some 8) (.bin .leq (.t 7) (.c (.int .u32 8))))<|tw 5<|lP cQ 2<|E) 2))⟩
def Lx:PF:=⟨16,[],
 (H (tb<|tb<|E) 2
 (G (tq 3<|tv<|jE<|tc 2 2<|tq 1<|tv<|tC 4 3 1<|jE<|Kg 9<|N (o 14 (.bin .leq (.t 6) (.t 13)))<|lP cQ 9<|E) 4))⟩
def agx:PC:=
 (H (tE<|E) 18
 (.seq (.cond (.t 18) .skip (.exit 0))
 (.seq (.block 1 (H (il 1 15<|tY 5<|E) 19
   (H (Z 0<|pE 0 0<|ty<|tj 480<|B 5 uJ<|ta 21 21 21<|pG 6 0 0 0 0 0 0 0 0 0 0 0<|tA 12 6 7<|E) 22
   (yU (F 0<|L 0 963<|tf<|tk 2 6<|j9 0 1 4<|EY 2 16 36<|k9 32 963<|tL 1 40<|E) 32
   (G (U 0 0<|pE 0 0<|tq 608<|tj 176<|B 5 QX<|tT 43<|ty<|tV 0 608<|tl 176 51<|E) 43)))))
 (G (tx 17 17<|E) 56))))
def S0:PF:=⟨74,[],
 (.seq (H (Z 0<|pE 0 0<|ty<|tj 480<|B 1 pq<|tK<|E) 8
 (.block 0 (.loop agx)))
 (G (U 0 0<|pE 0 0<|ty<|tj 480<|B 1 Jz<|ta 57 57 57<|iI 57 2<|tT 58<|ty<|tV 0 0<|tl 480 67<|E) 58))⟩
def agy:PC:=
 (.block 1 (G (Z 5<|td 1 3<|E) 16))
def Ly:PF:=⟨18,[.t 4],
 (H (tb<|tb<|pK 0<|E) 2
 (.seq (H (k6 2<|A 3<|k5<|E) 6
 (.cond (.t 11) (H (pK 0<|E) 4
   .ret) .skip))
 (.seq (H (tp 2<|A 3<|ik Ek<|E) 12
 (.block 0 (.hZ (.t 14) [15] (G (Z 15<|E) 5) agy)))
 (H (A 3<|Y 4<|E) 17
 .ret))))⟩
def S1:PF:=⟨25,[],
 (H (Z 0<|pE 0 0<|ty<|tj 480<|B 1 QY<|ta 6 6 6<|E9 4<|tA 480 4 5<|E) 7
 (H (tu 5 gU<|E) 17
 (G (tN 0 480 4<|tU<|ty<|tV 0 0<|tl 480 20<|E) 19)))⟩
def w5:PF:=⟨53,[.cell 6 true 480,.t 7],
 (H (te 0<|yJ 6<|qT<|J<|E) 3
 (.seq (.block 0 (H (k6 3<|Z 1<|k5<|tX<|uX 0 3<|yY 0<|Bz 15 96<|pD 15 2<|wK 15 lM<|qS 15<|tg 15<|Y 8<|E) 9
   (.cond (.t 8) (H (tp 3<|tJ 480 6 7 4<|E) 23
     .ret) (H (tp 3<|B 1 uM<|Z 1<|EF<|tX<|BA 480 3<|uR 1<|pD 30 2<|N (gf 30 (some 34) (.call (cf El) [(.t 31),(.t 32),(.t 33)]))<|tg 30<|Y 24<|E) 25
     (.cond (.t 24) (H (tp 3<|tJ 480 6 7 12<|E) 36
       .ret) (yU (jC 480 3<|F 2<|BD Bf<|sx 480 3 0 2<|F 1<|BD QZ<|E0 40<|N (o 45 (.bin .gtr (.t 44) (ci 6)),[])<|to 37<|E) 38
       (.cond (.t 37) (H (tp 3<|tJ 480 6 7 8<|E) 46
         .ret) .skip)))))))
 (H (tp 3<|U 1 2<|tR Bg 47<|Bm 0<|BI 1<|tA 480 6 7<|E) 47
 .ret)))⟩
def S2:PF:=⟨20,[.cell 8 true 128,.t 9],
 (H (te 0<|te 1<|yJ 8<|wX<|J<|E) 4
 (yU (jC 128 4<|tW 480 5 0<|F 2<|F 3<|F 3<|N (o 15 (.call (cf Be) [(.t 14)]),[0,1])<|N (o 16 (.build [(.int .u8 0),(.int .u8 0),(.int .u8 0)] [(0,1,(.c (.int .u8 3))),(2,1,(.t 15))]),[])<|N (o 17 (.call (cf wF) [(.t 10),(.t 11),(.t 12),(.t 13),(.t 16)]),[])<|N (o 18 (.ext (.t 17) 0),[])<|N (o 19 (.ext (.t 17) 1),[])<|jy 128 8<|to 9<|E) 10
 .ret))⟩
def Lz:PF:=⟨16,[],
 (G (Z 1<|N (o 5 (.bin .lss (.t 4) (.c (.int .u32 8))))<|tz 0<|og 1<|N (gt 6 (some 9) (.nilck (.t 7)))<|wS 6 0<|wS 6 936<|N (gt 6 (some 12) (.iaddra 8 1 (.t 11) (.t 8)))<|pM 6 1<|tw 6<|lP cQ 2<|E) 4)⟩
def BU:PF:=⟨56,[],
 (H (Z 0<|pE 0 0<|ty<|tV 0 0<|m6<|B 1 lM<|lP cQ 4<|E) 5
 (yU (th 0 0 0<|qQ<|th 0 0 0<|lR<|kb 480 5<|F 1<|Br wE 21<|yX (o 4 (.alloc [(.int .u8 0),(.int .u8 0),(.int .u8 0)] none),[5,11,13])<|qX 3 4<|E) 16
 (H (Z 0<|pE 0 0<|ty<|tj 480<|B 1 uM<|Z 1<|eA<|gV 0 4 1<|N (gt 40 (some 43) (.eq .int (.t 42) (.c (.int .u8 3))))<|tw 40<|lP cQ 12<|E) 30
 (yW (tk 2 4<|tf<|L 0 952<|iJ 1 1<|N (o 52 (.shf .shr (.t 47) (.t 51)),[])<|N (o 53 (.bin .and (.t 52) (.c (.int .u8 1))),[])<|ER 1<|qP cQ 5<|E) 46))))⟩
def S3:PF:=⟨24,[.cell 8 true 128,.t 9],
 (H (te 0<|te 1<|yJ 8<|wX<|J<|E) 4
 (H (sj 4 5<|U 2 3<|N (o 18 (.call (cf JA) [(.t 14),(.t 15),(.t 16),(.t 17),(.c (.bool true))]))<|ta 13 13 13<|iI 13 2<|J2 10<|lT 128 10 19<|tm 11 12<|E) 14
 (H (C 128 10<|Z 12<|tA 128 8 9<|E) 22
 .ret)))⟩
def LA:PF:=⟨41,[],
 (yU (th 0 0 0<|qQ<|th 0 0 0<|lR<|kb 480 5<|F 1<|F 2<|EV Q0 15 21<|tQ 9 9 9<|uW 9 2<|yX (o 6 (.alloc wI none),[5,11,14])<|su 128 6 25<|sw 7<|to 8<|E) 10
 (H (tu 8 gU<|E) 28
 (H (tN 0 128 6<|tU<|ty<|tV 0 480<|tl 128 31<|E) 30
 (H (Z 7<|lU 0<|E) 36
 (.cond (.t 37) (G (Z 0<|B 1 wD<|E) 38) .skip)))))⟩
def FJ:PF:=⟨35,[.cell 6 true 3],
 (H (te 0<|te 1<|yJ 6<|N (o 6 (.alloc [(.int .u8 0),(.int .u8 0),(.int .u8 0)] none))<|E) 3
 (H (tp 4<|B 2 uM<|Y 7<|E) 10
 (H (tu 7 lO<|ta 13 13 13<|tm 8 9<|E) 14
 (.seq (H (Z 9<|tr<|tG 8<|J9 0 3<|N (gf 20 (some 23) (.iaddra 32 4 (.t 22) (.t 21)))<|qV 20 0<|pF 20 1<|pD 20 7<|N (gf 20 (some 27) (.ne .int (.t 25) (.t 26)))<|tg 20<|E) 18
 (.cond (.t 28) (H (N (o 29 (.build [(.int .u8 0),(.int .u8 0),(.int .u8 0)] []))<|td 3 6<|E) 29
   .ret) .skip))
 (H (Z 8<|tc 0 3<|ka 32 4<|tq 1<|tj 3<|td 3 6<|E) 30
 .ret)))))⟩
def BV:PF:=⟨47,[.cell 4 true 176,.t 5,.t 6],
 (H (tb<|tb<|EE<|pK 0<|J<|E) 2
 (.seq (H (C 176 2<|C 5 3<|ik Q2<|Y 7<|E) 13
 (H (Z 7<|jf 0<|E) 16
 (.cond (.t 17) (H (C 176 2<|Z 7<|uQ 176 4<|wL 5 0<|Y 6<|E) 18
   .ret) .skip)))
 (H (tc 0 2<|m6<|tn JB<|ta 20 20 20<|iI 20 2<|KB 8<|lT 96 8 24<|tm 9 10<|E) 21
 (H (tu 9 lO<|ta 27 27 27<|tm 11 12<|E) 28
 (.seq (H (Z 12<|tr<|tG 11<|J8 16<|tg 34<|E) 32
 (.cond (.t 37) (H (ts 176 2 176 4<|wL 5 0<|tO 6 7<|E) 38
   .ret) .skip))
 (yU (F 11<|jC 96 8<|tW 5 3 1<|tk 0 2<|yX (u (.store 96 (.t 42) (.t 40)),[2])<|tk 96 2<|mD 16 5 39<|tL 5 41<|E) 39
 (H (C 176 2<|Z 9<|tA 176 4 5<|tO 6 0<|E) 45
 .ret)))))))⟩
def agz:PC:=
 (H (tE<|E) 28
 (.seq (.cond (.t 28) .skip (.exit 0))
 (.seq (.block 1 (H (il 1 25<|tY 11<|E) 29
   (H (A 7<|Z 11<|N (o 33 (.lookup .int (.bool false) (.t 31) (.t 32) false))<|E) 31
   (.cond (.t 33) (G (U 9 11<|wW 1 0 1 0<|y5 1 4 34<|Y 9<|E) 34) .skip))))
 (G (tx 27 27<|E) 38))))
def LB:PF:=⟨43,[.cell 4 true 176,.t 5,.t 6],
 (H (tb<|yJ 4<|EE<|ti<|J<|E) 2
 (.seq (H (tc 0 2<|m6<|Z 1<|k5<|E) 12
 (.cond (.t 16) (H (ts 176 2 176 4<|EB 5<|tO 6 4<|E) 17
   .ret) .skip))
 (H (N (o 18 .nJ)<|yX (o 7 (.alloc [.mc] none))<|td 1 7<|E) 18
 (H (N (o 8 (.alloc [.cJ] none))<|E) 8
 (H (uU Bh 7 2 8<|td 1 8<|E) 19
 (H (A 8<|Z 1<|wN<|E) 20
 (H (ti<|E) 9
 (.seq (H (tc 0 2<|m6<|tn iG<|tK<|E) 23
 (.block 0 (.loop agz)))
 (H (C 176 2<|B 9 JD<|Z 9<|tA 176 4 5<|tO 6 0<|E) 39
 .ret)))))))))⟩
def S4:PF:=⟨15,[.cell 6 true 128,.t 7],
 (H (te 0<|te 1<|yJ 6<|wX<|J<|E) 3
 (H (sj 3 4<|Z 2<|N (o 11 (.build [(.int .u8 0),(.int .u8 0),(.int .u8 0)] [(0,1,(.c (.int .u8 2)))]))<|N (o 12 (.call (cf wF) [(.t 8),(.t 9),(.t 10),(ci 0),(.t 11)]))<|Bm 0<|BI 1<|tA 128 6 7<|E) 8
 .ret))⟩
def FK:PF:=⟨27,[.cell 4 true 19,.t 5],
 (H (tb<|tb<|E7 0 0 0 0 0 0 0 0 0 0 0 0 0 0<|J<|E) 2
 (.seq (.block 0 (H (tc 18 2<|tY 6<|E) 7
   (.cond (.t 6) (H (C 19 2<|tJ 19 4 5 11<|E) 9
     .ret) (H (tC 17 2 1<|lU 4<|Y 10<|E) 11
     (.cond (.t 10) (H (C 19 2<|tJ 19 4 5 7<|E) 14
       .ret) .skip)))))
 (yU (jC 19 2<|tk 17 2<|iJ 1 0<|jA Bi 15<|By 4 3 0 2 3<|tk 0 2<|mD 4 4 18<|tL 4 19<|E) 15
 (H (tC 17 2 1<|tS 1<|tc 17 2<|jD 1<|E) 22
 (H (C 19 2<|tJ 19 4 5 0<|E) 26
 .ret)))))⟩
def FL:PF:=⟨36,[.cell 2 true 19,.cell 3 true 4,.t 4],
 (H (tD<|E7 0 0 0 0 0 0 0 0 0 0 0 0 0 0<|N (o 3 (.alloc [(.int .u8 0),(.int .u64 0),(.int .u32 0),(.bool false)] none))<|J<|E) 1
 (.seq (.block 0 (H (tC 17 1 1<|lU 0<|gV 18 1 1<|tI 10 6<|E) 7
   (.cond (.t 6) (H (C 19 1<|N (o 15 (.build [(.int .u8 0),(.int .u64 0),(.int .u32 0),(.bool false)] []))<|uQ 19 2<|tJ 4 3 4 11<|E) 14
     .ret) (H (tC 17 1 1<|lU 0<|Y 16<|E) 17
     (.cond (.t 16) (H (C 19 1<|N (o 21 (.build [(.int .u8 0),(.int .u64 0),(.int .u32 0),(.bool false)] []))<|uQ 19 2<|tJ 4 3 4 10<|E) 20
       .ret) .skip)))))
 (H (tC 16 1 1<|tc 0 1<|ka 4 4<|tj 4<|yX (o 5 (.alloc [(.int .u8 0),(.int .u64 0),(.int .u32 0),(.bool false)] none))<|td 4 5<|E) 22
 (yU (jC 19 1<|qP Bi 1<|tk 17 1<|tM 1 0 1<|N (o 31 (.bin .sub (.t 30) (ci 1)),[])<|tk 16 1<|tL 1 28<|tk 17 1<|tL 1 31<|E) 27
 (yU (jC 19 1<|tW 4 5 0<|yX (u (.store 19 (.t 2) (.t 34)),[1])<|qX 4 3<|yX (o 4 (.mov (ci 0)),[])<|E) 34
 .ret)))))⟩
def LC:PF:=⟨9,[.cell 2 true 19,.t 3],
 (H (tD<|E7 0 0 0 0 0 0 0 0 0 0 0 0 0 0<|J<|E) 1
 (.seq (H (tC 18 1 1<|E) 4
 (.cond (.t 5) (H (C 19 1<|tJ 19 2 3 11<|E) 6
   .ret) .skip))
 (H (tc 18 1<|y7 1<|E) 7
 (H (C 19 1<|tJ 19 2 3 0<|E) 8
 .ret))))⟩
def LD:PF:=⟨28,[.cell 10 true 480,.t 11],
 (H (te 0<|yJ 10<|qT<|J<|E) 5
 (H (tp 5<|U 1 2<|U 3 4<|KF yF 15 16 17<|ta 14 14 14<|E9 12<|tA 480 12 13<|E) 15
 (.seq (H (Z 13<|jf 0<|E) 23
 (.cond (.t 24) (H (tp 5<|Z 13<|tA 480 10 11<|E) 25
   .ret) .skip))
 (H (tp 12<|tJ 480 10 11 0<|E) 27
 .ret))))⟩
def w8:uG:=⟨26,[.t 6,.cell 7 false 1],
 (.later (G (te 0<|yJ 6<|pK 0<|wV 0<|E) 3)
 (.here [] (cf yG) [(.t 7)]
 (H (tp 3<|U 1 2<|tR Bj 9<|N (o 13 (.fld true 8 4 (.t 12)))<|Z 2<|N (o 15 (.idxa false 8 1 (.t 13) (.t 14)))<|Y 8<|E) 9
 (H (Z 8<|uY 0<|lP kY 10<|E) 16
 (H (k6 3<|B 8 lM<|lP kY 4<|E) 19
 (H (tH 8 6<|Kq 1 7 0<|E) 25
 .ret))))))⟩
def S5:PF:=⟨7,[.cell 2 true 19,.t 3],
 (H (tD<|E7 0 0 0 0 0 0 0 0 0 0 0 0 0 0<|ti<|E) 1
 (H (N (o 4 (.build [(.int .u8 0),(.int .u64 0),(.int .u32 0),(.bool false),(.int .u8 0),(.int .u64 0),(.int .u32 0),(.bool false),(.int .u8 0),(.int .u64 0),(.int .u32 0),(.bool false),(.int .u8 0),(.int .u64 0),(.int .u32 0),(.bool false),(.int .i64 0),(.int .i64 0),(.bool false)] [(18,1,(.c (.bool true)))]))<|C 19 1<|tn JE<|lT 19 2 4<|Y 3<|E) 4
 .ret))⟩
def S6:PF:=⟨11,[.t 6],
 (H (te 0<|te 1<|te 2<|ti<|E) 3
 (H (sj 3 4<|pA JF 5<|tR Ei 7<|Y 6<|E) 7
 .ret))⟩
def agA:PC:=
 (H (tE<|E) 15
 (.seq (.cond (.t 15) .skip (.exit 0))
 (.seq (.block 1 (H (il 1 12<|tY 9<|E) 16
   (H (tp 4<|B 9 uM<|Z 9<|eA<|tz 2<|N (gt 23 (some 25) (.load true 128 (.t 3)))<|N (gt 23 (some 26) (.load true 480 (.t 4)))<|pL 23 9<|yN 23 wE 25<|N (gt 23 (some 29) (.call (.t 24) [(.t 28)]))<|tw 23<|E) 18
   (.cond (.t 30) (G (U 7 9<|wW 1 0 1 0<|y5 1 4 31<|Y 7<|E) 31) .skip))))
 (G (tx 14 14<|E) 35))))
def S7:PF:=⟨37,[.t 6],
 (H (te 0<|te 1<|yJ 6<|ti<|E) 3
 (H (ti<|E) 7
 (.seq (H (tc 0 4<|m6<|tn j5<|tK<|E) 10
 (.block 0 (.loop agA)))
 (H (tH 7 6<|E) 36
 .ret))))⟩
def FM:PF:=⟨23,[.t 3],
 (H (tb<|V<|E) 2
 (yU (N (o 4 (.faddr 0 (.t 2)),[])<|tf<|ER 3<|lQ<|Ks 1 1<|N (gt 7 (some 9) (.bin .geq (.t 8) (ci 0)),[])<|mG 7<|lQ<|Ks 1 1<|N (gt 11 (some 13) (.bin .lss (.t 12) (ci 8)),[])<|mG 11<|lQ<|Bo 2 2<|Bw 1<|N (gt 15 (some 18) (.load false 1 (.t 1)),[13])<|N (gt 15 (some 19) (.call (cf Be) [(.t 18)]),[13])<|N (gt 15 (some 20) (.bin .and (.t 17) (.t 19)),[])<|N (gt 15 (some 21) (.ne .int (.t 20) (.c (.int .u8 0))),[])<|mG 15<|to 3<|E) 4
 .ret))⟩
def S8:PF:=⟨6,[.t 2],
 (H (wT 0<|E) 2
 (H (Z 0<|N (o 4 (.bin .and (.t 3) (ci 7)))<|N (o 5 (.shf .shl (.c (.int .u8 1)) (.t 4)))<|Y 2<|E) 3
 .ret))⟩
def agB:PC:=
 (H (tE<|E) 15
 (.seq (.cond (.t 15) .skip (.exit 0))
 (.seq (.block 1 (H (il 1 12<|tY 7<|E) 16
   (H (C 176 2<|B 7 wC<|ta 18 18 18<|EO 8 0 0 0 0<|tA 5 8 9<|E) 19
   (H (tN 1 5 8<|wN<|E) 24
   (.cond (.t 26) (G (U 5 7<|wW 1 0 1 0<|y5 1 4 27<|Y 5<|E) 27) .skip)))))
 (G (tx 14 14<|E) 31))))
def S9:PF:=⟨33,[.t 4],
 (H (tb<|yJ 4<|ti<|E) 2
 (H (ti<|E) 5
 (.seq (H (tc 0 2<|m6<|tn iG<|tK<|E) 10
 (.block 0 (.loop agB)))
 (H (tH 5 4<|E) 32
 .ret))))⟩
def Ta:PF:=⟨9,[.t 3],
 (H (tb<|V<|E) 2
 (H (mF 2<|tv<|jE<|A 1<|eA<|Y 3<|E) 4
 .ret))⟩
def m8:PF:=⟨68,[.t 8],
 (H (te 0<|yJ 8<|J<|E) 4
 (.seq (H (tc 0 4<|tV 0 0<|m6<|Z 2<|k5<|E) 11
 (.cond (.t 17) (H (gJ 4<|E) 8
   .ret) .skip))
 (H (tc 480 4<|tj 128<|tc 0 4<|tj 480<|Z 2<|tR wE 19<|yX (o 9 (.alloc [(.int .u8 0),(.int .u8 0),(.int .u8 0)] none))<|td 3 9<|E) 18
 (H (V<|E) 10
 (.seq (H (tt 9<|E) 24
 (.block 0 (H (N (o 27 (.eq .int (.t 25) (.c (.int .u8 3))))<|Y 26<|E) 27
   (.cond (.t 26) (G (Z 3<|y8 0<|tz 1<|JZ 0<|tw 30<|tz 1<|wU 8<|tw 34<|gV 2 9 1<|pL 38 1<|N (gt 38 (some 42) (.shf .shr (.t 40) (.t 41)))<|N (gt 38 (some 43) (.bin .and (.t 42) (.c (.int .u8 1))))<|N (gt 38 (some 44) (.eq .int (.t 43) (.c (.int .u8 1))))<|tI 38 10<|E) 28) (H (N (o 47 (.eq .int (.t 25) (.c (.int .u8 1))))<|Y 46<|E) 47
     (.cond (.t 46) (G (tB 9<|jE<|Z 1<|eA<|tX<|Bx 784 4<|og 2<|pL 53 3<|yN 53 QC 54<|tw 53<|tX<|BA 784 4<|uR 1<|pD 59 2<|pD 59 3<|N (gf 59 (some 64) (.call (cf Q3) [(.t 60),(.t 61),(.t 62),(.t 63)]))<|tg 59<|Y 10<|E) 48) .skip))))))
 (.seq (H (Z 10<|tr<|E) 66
 (.cond (.t 67) (H (gJ 5<|E) 8
   .ret) .skip))
 (H (J<|E) 8
 .ret)))))))⟩
def vc:PF:=⟨58,[.cell 6 true 480,.t 7,.t 8],
 (H (te 0<|yJ 6<|qT<|pK 0<|J<|E) 3
 (.seq (.block 0 (H (Z 1<|uY 0<|tX<|sq 0 3<|N (gt 17 (some 19) (.faddr 0 (.t 18)))<|N (gt 17 (some 20) (.load true 96 (.t 19)))<|pL 17 1<|qR 17 lM<|sr 17<|tI 17 14<|E) 15
   (.cond (.t 14) (H (ts 480 3 480 6<|wL 7 0<|tO 8 4<|E) 25
     .ret) (H (tu 2 JI<|tr<|Y 26<|E) 27
     (.cond (.t 26) (H (ts 480 3 480 6<|wL 7 0<|tO 8 2<|E) 30
       .ret) .skip)))))
 (H (k6 3<|tn JB<|ta 31 31 31<|iI 31 2<|KB 9<|lT 96 9 36<|tm 10 11<|E) 32
 (.seq (H (Z 11<|tr<|E) 39
 (.cond (.t 40) (H (ts 480 3 480 6<|wL 7 0<|tO 8 7<|E) 41
   .ret) .skip))
 (H (C 96 9<|tc 0 3<|ty<|tl 96 42<|E) 42
 (H (tu 10 lO<|ta 45 45 45<|tm 12 13<|E) 46
 (H (Z 12<|U 1 2<|N (o 53 (.build [(.int .u32 0),(.int .i64 0),.ai,(.int .i64 0),(.int .u32 0),(.int .u32 0),(.int .u32 0),(.int .u32 0),(.int .u32 0),(.int .u32 0),(.int .u32 0),(.int .u32 0)] [(0,1,(.t 51)),(1,1,(.t 52))]))<|tc 96 3<|k0 32 12 50<|tl 12 53<|E) 50
 (H (tp 3<|Z 10<|tA 480 6 7<|tO 8 0<|E) 56
 .ret))))))))⟩
def agC:PC:=
 (.block 1 (G (A 5<|tS 1<|td 1 5<|E) 16))
def LF:PF:=⟨19,[.t 4],
 (H (tb<|yJ 4<|J<|E) 2
 (.seq (H (k6 2<|Z 1<|k5<|E) 6
 (.cond (.t 11) (H (J<|E) 4
   .ret) .skip))
 (H (wV 0<|BB 1 1<|E) 5
 (.seq (H (tp 2<|B 1 Ek<|E) 12
 (.block 0 (.hZ (.t 14) [15] .skip agC)))
 (H (A 5<|Y 4<|E) 18
 .ret)))))⟩
def Tb:PF:=⟨20,[.cell 8 true 128,.t 9],
 (H (te 0<|te 1<|yJ 8<|wX<|J<|E) 4
 (H (sj 4 5<|Z 2<|U 3 3<|Ku<|N (o 16 (.build [(.int .u8 0),(.int .u8 0),(.int .u8 0)] [(0,1,(.c (.int .u8 1))),(1,1,(.t 15))]))<|N (o 17 (.call (cf wF) [(.t 10),(.t 11),(.t 12),(.t 13),(.t 16)]))<|Bm 0<|BI 1<|tA 128 8 9<|E) 10
 .ret))⟩
def FN:PF:=⟨16,[.t 4],
 (H (V<|E) 4
 (H (Z 0<|kZ 1<|tz 0<|N (gt 7 (some 9) (.bin .leq (.t 8) (ci 128)))<|tw 7<|tX<|N (gt 11 (some 12) (.bslice [(.int .i64 0)] 4 [(0,1,(ci 1)),(1,1,(ci 2)),(2,1,(ci 4)),(3,1,(ci 8))]))<|og 1<|qR 11 Q4<|tI 11 4<|E) 5
 .ret))⟩
def Tc:PF:=⟨11,[.t 3],
 (H (J<|E) 3
 (H (Z 0<|A 1<|y4<|u9 1<|A 1<|u9 1<|N (o 10 (.bin .andNot (.t 7) (.t 9)))<|Y 3<|E) 4
 .ret))⟩
def LG:PF:=⟨9,[.t 2],
 (H (ti<|E) 2
 (H (Z 0<|jB 0<|jB 0<|J4 2 3 5<|Y 2<|E) 3
 .ret))⟩
def BW:PF:=⟨46,[.cell 6 true 480,.t 7],
 (H (te 0<|yJ 5<|te 2<|qT<|J<|E) 3
 (.seq (.block 0 (H (k6 3<|Z 1<|k5<|Y 10<|E) 11
   (.cond (.t 10) (H (tp 3<|tJ 480 6 7 4<|E) 17
     .ret) (H (tB 5<|tn JI<|tr<|tX<|uX 2 5<|N (gf 23 (some 25) (.load true 2 (.t 24)))<|N (gf 23 (some 26) (.call (cf I3) [(.t 25)]))<|qS 23<|tg 23<|Y 18<|E) 19
     (.cond (.t 18) (H (tp 3<|tJ 480 6 7 2<|E) 29
       .ret) .skip)))))
 (H (tu 1 lO<|ta 30 30 30<|tm 8 9<|E) 31
 (H (Z 8<|tc 96 3<|ka 32 12<|ty<|tv<|tc 0 5<|jD 1<|E) 35
 (H (tN 8 12 5<|tc 96 3<|k0 32 12 41<|tl 12 42<|E) 41
 (H (tp 3<|tJ 480 6 7 0<|E) 45
 .ret))))))⟩
def Td:PF:=⟨10,[.cell 4 true 176],
 (H (tb<|yJ 4<|EE<|E) 2
 (yU (jC 176 2<|tW 176 2 0<|F 1<|EX Eo 0<|jA JD 5<|qX 176 4<|E) 5
 .ret))⟩
def agD:PC:=
 (H (tE<|E) 20
 (.seq (.cond (.t 20) .skip (.exit 0))
 (.seq (.block 1 (H (il 1 17<|tY 9<|E) 21
   (G (tp 2<|B 9 Q5<|ta 23 23 23<|uQ 480 2<|E) 24)))
 (G (tx 19 19<|E) 29))))
def LH:PF:=⟨32,[.cell 4 true 480,.t 5,.t 6],
 (H (tb<|yJ 4<|qT<|ti<|J<|E) 2
 (H (tp 2<|B 1 pq<|Y 7<|E) 10
 (.seq (H (jB 7<|lU 0<|E) 13
 (.cond (.t 15) (H (ts 480 2 480 4<|EB 5<|tO 6 4<|E) 16
   .ret) .skip))
 (.seq (H (Z 7<|tK<|E) 17
 (.block 0 (.loop agD)))
 (H (tp 2<|Z 7<|tA 480 4 5<|tO 6 0<|E) 30
 .ret)))))⟩
def Te:PF:=⟨6,[.t 4],
 (H (tb<|tb<|za<|E) 2
 (H (N (o 5 (.mkf (.func Ep) [] [(.t 2),(.t 3)]))<|Y 4<|E) 5
 .ret))⟩
def agE:PC:=
 (H (ij 8<|E) 35
 (.seq (.cond (.t 35) .skip (.exit 2))
 (.seq (.block 3 (H (gI<|N (o 37 (.idxa false 8 1 (.t 33) (.t 34)))<|tm 11 12<|E) 36
   (H (A 6<|Z 12<|wN<|E) 38
   (.cond (.t 40) (G (Z 11<|tc 4 9<|ka 8 1<|yX (u (.store 1 (.t 43) (.c (.int .u32 0))))<|E) 41) .skip))))
 (G (tx 34 34<|E) 44))))
def agF:PC:=
 (.block 1 (H (tp 7<|B 8 uJ<|ta 26 26 26<|pG 9 0 0 0 0 0 0 0 0 0 0 0<|tA 12 9 10<|E) 27
   (.seq (H (tc 4 9<|tj 8<|J<|E) 32
   (.block 2 (.loop agE)))
   (G (tp 7<|tN 8 12 9<|tR Ej 46<|ta 45 45 45<|uQ 480 7<|E) 46))))
def LJ:PF:=⟨57,[.cell 4 true 480,.t 5],
 (H (tb<|tb<|qT<|J<|E) 2
 (.seq (H (k6 2<|A 3<|k5<|E) 13
 (.cond (.t 18) (H (tp 2<|tJ 480 4 5 4<|E) 19
   .ret) .skip))
 (H (mC Er 3 2<|JX 6<|td 1 6<|E) 20
 (H (tp 2<|E9 7<|td 480 7<|E) 21
 (.seq (H (tp 2<|A 3<|ik D9<|E) 22
 (.block 0 (.hZ (.t 24) [25] (G (Z 25<|E) 8) agF)))
 (H (tp 7<|A 3<|Kd Bg 0<|Bm 0<|BI 1<|tA 480 4 5<|E) 52
 .ret))))))⟩
def LK:PC:=
 (.block 1 (G (A 7<|tG 8<|N (gf 31 (some 33) (.load false 1 (.t 4)))<|N (gf 31 (some 34) (.eq .int (.t 32) (.t 33)))<|tg 31<|td 1 7<|E) 30))
def FO:PF:=⟨37,[.t 6],
 (H (te 0<|te 1<|yJ 6<|V<|E) 3
 (.seq (H (k6 3<|A 4<|k5<|tX<|uX 0 3<|yY 0<|Bz 15 96<|pD 15 2<|wK 15 lM<|qS 15<|tg 15<|E) 9
 (.cond (.t 22) (H (V<|E) 6
   .ret) .skip))
 (H (A 4<|Z 2<|eA<|yX (o 7 (.alloc [(.bool false)] none))<|td 1 7<|E) 23
 (.seq (H (tp 3<|B 2 Ek<|E) 26
 (.block 0 (.hZ (.t 28) [29] (G (Z 29<|E) 8) LK)))
 (H (A 7<|Y 6<|E) 36
 .ret)))))⟩
def agG:PC:=
 (.block 1 (yW (qW 1 5<|tW 480 2 0<|F 6<|EX Bf 0<|By 480 2 0 1 3<|N (o 16 (.load false 1 (.t 3)),[0,1,3,4])<|EX Bf 0<|Kx 14<|Kt 1<|N (o 20 (.max [(.t 11),(.t 19)]),[])<|qX 1 5<|E) 11))
def Tf:PF:=⟨22,[.t 4],
 (H (tb<|tb<|J<|E) 2
 (H (wV 0<|BB 1 0<|E) 5
 (.seq (H (tp 2<|A 3<|ik D9<|E) 7
 (.block 0 (.hZ (.t 9) [10] (G (Z 10<|E) 6) agG)))
 (H (A 5<|Y 4<|E) 21
 .ret))))⟩
def FQ:PC:=
 (.seq (H (Z 8<|uY 0<|E) 31
 (.cond (.t 32) .skip (.exit 0)))
 (.seq (.block 1 (H (U 8 1<|eA<|E) 36
   (.cond (.t 38) (H (tp 3<|tJ 480 6 7 12<|E) 39
     .ret) .skip)))
 (G (tp 3<|B 8 IB<|Y 8<|E) 33)))
def BX:PF:=⟨51,[.cell 6 true 480,.t 7],
 (H (te 0<|yJ 6<|qT<|J<|E) 3
 (.seq (H (k6 3<|Z 1<|k5<|tG 2<|N (gf 17 (some 19) (.ne .int (.t 18) (.c (.int .u32 0))))<|sk 17<|sq 0 3<|N (gt 20 (some 22) (.faddr 0 (.t 21)))<|N (gt 20 (some 23) (.load true 96 (.t 22)))<|pL 20 2<|qR 20 lM<|sr 20<|sy 17 20<|tg 17<|E) 11
 (.cond (.t 28) (H (tp 3<|tJ 480 6 7 4<|E) 29
   .ret) .skip))
 (.seq (H (tH 2 8<|E) 30
 (.block 0 (.loop FQ)))
 (H (tu 1 lO<|ta 40 40 40<|tm 9 10<|E) 41
 (H (U 9 2<|tc 96 3<|k0 32 12 45<|ty<|tl 1 46<|E) 45
 (H (tp 3<|tJ 480 6 7 0<|E) 50
 .ret))))))⟩
def BY:PF:=⟨49,[.cell 10 true 128,.t 11],
 (H (te 0<|te 1<|yJ 9<|te 4<|wX<|J<|E) 5
 (.seq (.block 0 (H (k6 6<|Z 2<|k5<|Y 14<|E) 15
   (.cond (.t 14) (H (C 128 5<|tJ 128 10 11 4<|E) 21
     .ret) (H (tp 6<|B 2 uM<|Z 2<|EF<|Y 22<|E) 23
     (.cond (.t 22) (H (C 128 5<|tJ 128 10 11 12<|E) 28
       .ret) (H (Z 3<|ij 0<|tG 3<|J8 8<|tg 32<|Y 29<|E) 30
       (.cond (.t 29) (H (C 128 5<|tJ 128 10 11 2<|E) 36
         .ret) .skip)))))))
 (H (tu 2 lO<|ta 37 37 37<|tm 12 13<|E) 38
 (H (Z 12<|tN 2 3 9<|N (o 45 (.build [(.int .u32 0),(.int .u8 0),(.int .u8 0),(.int .u8 0)] [(0,1,(.t 43)),(1,3,(.t 44))]))<|tc 0 5<|k0 32 4 42<|tl 4 45<|E) 42
 (H (C 128 5<|tJ 128 10 11 0<|E) 48
 .ret)))))⟩
def qY:PF:=⟨98,[.cell 10 true 128,.t 11,.t 12],
 (H (te 0<|te 1<|yJ 10<|wX<|wT 0<|J<|E) 5
 (H (sj 5 6<|Z 2<|tR wE 17<|yX (o 13 (.alloc [(.int .u8 0),(.int .u8 0),(.int .u8 0)] none))<|td 3 13<|E) 17
 (H (sj 5 6<|Z 2<|tN 3 3 13<|KF wF 22 23 24<|ta 21 21 21<|J2 14<|tA 128 14 15<|E) 22
 (yU (tk 2 13<|tf<|F 3<|ss Be 1<|N (o 34 (.bin .and (.t 31) (.t 33)),[])<|N (o 35 (.ne .int (.t 34) (.c (.int .u8 0))),[])<|to 16<|E) 30
 (.seq (.block 0 (H (Z 15<|lU 4<|tX<|uX 0 6<|yY 0<|Bz 39 96<|pD 39 2<|wK 39 lM<|sk 39<|Bx 480 6<|og 2<|qR 45 uM<|pL 45 2<|N (gt 45 (some 50) (.ne .int (.t 48) (.t 49)))<|sy 39 45<|tg 39<|Y 36<|E) 37
   (.cond (.t 36) (H (C 128 5<|Z 15<|uQ 128 10<|sv 11 0<|Y 12<|E) 53
     .ret) (H (tt 13<|EL 3<|Y 55<|E) 56
     (.cond (.t 55) (H (ts 128 5 128 10<|sv 11 0<|tO 12 12<|E) 59
       .ret) (H (Z 15<|jf 0<|Y 60<|E) 61
       (.cond (.t 60) (H (C 128 5<|Z 15<|uQ 128 10<|sv 11 0<|Y 12<|E) 63
         .ret) (H (Z 16<|tz 4<|Ki<|Y 65<|E) 66
         (.cond (.t 65) (H (ts 128 5 128 10<|sv 11 0<|tO 12 7<|E) 70
           .ret) (H (Z 16<|tr<|tz 4<|tid<|tI 74 71<|E) 72
           (.cond (.t 71) (H (ts 128 5 128 10<|sv 11 0<|tO 12 5<|E) 78
             .ret) .skip)))))))))))
 (yU (tk 2 13<|tf<|F 3<|ss Be 1<|N (o 83 (.bin .xor (.t 80) (.t 82)),[])<|tk 2 13<|yM 1<|E) 79
 (H (sj 14 6<|Z 2<|tN 3 3 13<|KF wF 86 87 88<|ta 85 85 85<|tA 128 14 15<|E) 86
 (yU (jC 128 14<|tk 2 13<|iJ 1 0<|F 15<|J7 128 10 94 2<|sw 11<|to 12<|E) 94
 .ret))))))))⟩
def Tg:PF:=⟨27,[.cell 8 true 128,.t 9,.t 10],
 (H (te 0<|te 1<|yJ 8<|wX<|J<|J<|E) 4
 (H (sj 4 5<|U 2 3<|N (o 19 (.call (cf JA) [(.t 15),(.t 16),(.t 17),(.t 18),(.c (.bool false))]))<|ta 14 14 14<|iI 14 2<|J2 11<|lT 128 11 20<|tm 12 13<|E) 15
 (yU (jC 128 11<|F 12<|ss Q6 0<|F 13<|su 128 8 23<|sw 9<|to 10<|E) 23
 .ret)))⟩
def jF:PF:=⟨89,[.t 4],
 (H (tb<|tb<|J<|E) 2
 (H (C 176 2<|tC 4 3 1<|tF wC 10<|ta 9 9 9<|EO 5 0 0 0 0<|tA 5 5 6<|E) 10
 (H (C 176 2<|tt 3<|tC 4 3 1<|E5 Es 17 19<|ta 16 16 16<|tm 7 8<|E) 17
 (.seq (.block 0 (H (C 176 2<|tC 4 3 1<|tF Et 26<|tr<|Y 25<|E) 26
   (.cond (.t 25) (H (gJ 4<|E) 4
     .ret) (H (tB 3<|N (o 34 (.bin .geq (.t 33) (.c (.int .u8 8))))<|tP 2 3 1<|N (gf 35 (some 38) (.bin .geq (.t 37) (.c (.int .u8 8))))<|tg 35<|tP 1 3 1<|EG 40 2 3<|pF 40 1<|N (gf 40 (some 45) (.eq .int (.t 42) (.t 44)))<|tg 40<|tP 0 3 1<|N (gf 47 (some 50) (.eq .int (.t 49) (.c (.int .u32 0))))<|tg 47<|Y 31<|E) 32
     (.cond (.t 31) (H (gJ 2<|E) 4
       .ret) (H (tC 4 3 1<|uY 0<|gV 0 5 1<|yR 56 0 3<|pM 56 1<|N (gt 56 (some 61) (.ne .int (.t 58) (.t 60)))<|wP 56<|E3 2 5 1<|EG 62 1 3<|pF 62 1<|N (gf 62 (some 67) (.ne .int (.t 64) (.t 66)))<|wO 56 62<|wP 56<|E3 3 3 1<|sk 69<|sq 3 5<|EI 1<|sr 72<|sy 69 72<|wO 56 69<|tI 56 52<|E) 53
       (.cond (.t 52) (H (gJ 12<|E) 4
         .ret) (H (Z 8<|tP 3 3 1<|sk 81<|Q9 7<|N (gt 84 (some 86) (.bin .gtr (.t 85) (ci 0)))<|sy 81 84<|tg 81<|Y 79<|E) 80
         (.cond (.t 79) (H (gJ 5<|E) 4
           .ret) .skip)))))))))
 (H (J<|E) 4
 .ret)))))⟩
def agH:PC:=
 (H (ij 32<|E) 10
 (.seq (.cond (.t 10) .skip (.exit 0))
 (.seq (.block 1 (H (gI<|N (o 12 (.idxa true 32 3 (.t 8) (.t 9)))<|yX (o 6 (.alloc [(.int .u32 0),(.bool false),(.bool false)] none))<|yX (o 5 (.mov (.t 11)))<|td 3 6<|E) 11
   (.seq (H (tB 6<|tP 2 6 1<|tg 15<|E) 13
   (.cond (.t 18) (.exit 1) .skip))
   (H (Z 5<|tc 0 1<|ka 32 3<|tq 1<|y7 1<|E) 19
   (yU (jC 96 1<|F 5<|tk 0 6<|iJ 1 0<|pC IJ 24 0<|su 96 2 23<|to 3<|KC 4<|E) 23
   .ret)))))
 (G (tx 9 9<|E) 28))))
def Th:PF:=⟨30,[.cell 2 true 96,.t 3,.t 4],
 (H (tD<|N (o 2 (.alloc Bl none))<|pK 0<|V<|E) 1
 (.seq (H (tc 0 1<|m6<|J<|E) 7
 (.block 0 (.loop agH)))
 (H (ts 96 1 96 2<|wL 3 0<|nZ 4<|E) 29
 .ret)))⟩
def agI:PC:=
 (H (tE<|E) 14
 (.seq (.cond (.t 14) .skip (.exit 0))
 (.seq (.block 1 (H (il 1 11<|tY 6<|E) 15
   (G (A 3<|Z 6<|wN<|E) 17)))
 (G (tx 13 13<|E) 20))))
def Ti:PF:=⟨21,[],
 (H (te 0<|E) 4
 (H (A 1<|A 4<|yX (u (.oV .int (.t 7) (.t 8) (.c (.bool true))))<|E) 7
 (H (C 176 2<|pA JC 4<|ik yE<|tK<|E) 9
 (.block 0 (.loop agI)))))⟩
def Tj:PF:=⟨8,[.t 3],
 (H (tb<|V<|E) 2
 (H (mF 4<|tv<|A 1<|eA<|Y 3<|E) 4
 .ret))⟩
def agJ:PC:=
 (H (tE<|E) 10
 (.seq (.cond (.t 10) .skip (.exit 0))
 (.seq (.block 1 (H (il 1 7<|tY 6<|E) 11
   (G (tc 0 2<|m6<|B 6 JJ<|ta 13 13 13<|tc 0 2<|tl 96 18<|E) 14)))
 (G (tx 9 9<|E) 21))))
def Tk:PF:=⟨23,[.cell 4 true 176],
 (H (tb<|yJ 4<|EE<|E) 2
 (.seq (H (Z 1<|tK<|E) 7
 (.block 0 (.loop agJ)))
 (H (ts 176 2 176 4<|E) 22
 .ret)))⟩
def Tl:PF:=⟨10,[.t 4],
 (H (tb<|yJ 4<|J<|E) 2
 (H (tC 16 2 1<|Z 1<|y4<|JT 4<|Y 4<|E) 5
 .ret))⟩
def qZ:uG:=⟨56,[.cell 10 true 480,.cell 11 false 1],
 (.later (G (te 0<|yJ 10<|qT<|wV 0<|E) 5)
 (.here [] (cf yG) [(.t 11)]
 (H (k6 5<|B 1 lM<|tz 3<|N (gt 18 (some 20) (.eq .int (.t 19) (.c (.int .u32 0))))<|wP 18<|uX 0 5<|yY 0<|Bz 21 96<|pD 21 3<|wK 21 lM<|wO 18 21<|tw 18<|lP kY 4<|E) 13
 (H (tp 5<|U 1 2<|tR Bj 30<|pG 12 0 0 0 0 0 0 0 0 0 0 0<|td 12 12<|E) 30
 (H (Z 3<|wQ 0<|tG 4<|N (o 38 (.pick (.t 36) (.c (.bool true)) (.t 37)))<|tX<|BA 480 5<|uR 3<|pD 39 1<|N (gf 39 (some 43) (.call (cf El) [(.t 40),(.t 41),(.t 42)]))<|tg 39<|lP kY 5<|E) 34
 (H (U 2 3<|tc 4 12<|k0 8 1 46<|tl 1 47<|E) 46
 (H (tp 5<|tN 1 12 12<|tR Ej 50<|Bm 0<|BI 1<|uQ 480 10<|td 1 11<|E) 50
 .ret)))))))⟩
def w9:wq:=⟨5,⟨19,[],
 (H (Z 5<|E) 2
 (H (Z 2<|N (o 7 (.ne .c9 (.t 6) (.c .ew)))<|E) 6
 (.cond (.t 7) (H (Z 2<|N (o 10 (.ta (.int .i64 0) (.t 9) si true))<|ta 8 8 8<|tm 3 4<|E) 9
   (.seq (H (Z 4<|tr<|E) 13
   (.cond (.t 14) (G (Z 2<|Bt<|E) 15) .skip))
   (G (U 0 3<|tU<|jD 1<|E) 16))) .skip)))⟩⟩
def zk:PF:=⟨27,[.cell 6 true 12],
 (H (te 0<|yJ 6<|KA 0 0 0 0 0 0 0 0 0 0 0<|E) 3
 (H (tp 3<|B 1 uJ<|ta 9 9 9<|pG 7 0 0 0 0 0 0 0 0 0 0 0<|tA 12 7 8<|E) 10
 (H (Z 8<|lU 0<|B 8 kY<|E) 15
 (H (Z 2<|kZ 0<|tz 2<|wU 8<|tw 21<|lP kY 2<|E) 19
 (H (ts 12 7 12 6<|E) 26
 .ret)))))⟩
def FR:PF:=⟨8,[],
 (H (Z 0<|tr<|E) 4
 (.cond (.t 5) (G (Z 1<|N (o 7 (.mki si (.t 6)))<|Bt<|E) 6) .skip))⟩
def agK:PC:=
 (.block 1 (G (A 3<|C 4 4<|N (o 10 (.bslice [(.int .u8 0),(.int .u64 0),(.int .u32 0),(.bool false)] 1 [(0,4,(.t 9))]))<|N (o 11 (.append Eu 4 24 (.t 8) (.t 10)))<|td 1 3<|E) 8))
def Tm:PF:=⟨14,[.t 2],
 (H (tD<|ti<|E) 1
 (H (y6<|E) 3
 (.seq (H (C 19 1<|tn Q7<|E) 5
 (.block 0 (.hZ (.t 6) [7] (G (N (o 4 (.alloc [(.int .u8 0),(.int .u64 0),(.int .u32 0),(.bool false)] none))<|tl 4 7<|E) 4) agK)))
 (H (A 3<|tn JK<|Y 2<|E) 12
 .ret))))⟩
def LM:PF:=⟨14,[.t 3],
 (H (tb<|V<|E) 2
 (H (mF 0<|tv<|y8 1<|gV 1 2 1<|KD 7<|yO 7 1 1<|N (gt 7 (some 12) (.eq .int (.t 10) (.t 11)))<|tI 7 3<|E) 4
 .ret))⟩
def Tn:PF:=⟨15,[.t 8],
 (H (te 0<|te 1<|te 2<|te 3<|V<|E) 4
 (H (tc 608 4<|tj 176<|A 6<|ik Eo<|N (o 13 (.mkf (.func JL) [] [(.t 4),(.t 5),(.t 7),(.t 6)]))<|ik JG<|Y 8<|E) 9
 .ret))⟩
def To:PF:=⟨7,[.t 2],
 (H (V<|E) 2
 (H (tc 608 0<|tj 176<|A 1<|Kd Em 0<|Y 2<|E) 3
 .ret))⟩
def LN:PF:=⟨23,[.t 6],
 (H (te 0<|yJ 6<|V<|E) 3
 (H (C 176 3<|U 1 2<|tR Es 10<|ta 9 9 9<|tm 7 8<|E) 10
 (H (C 176 3<|B 2 Et<|tz 8<|tid<|tI 19 6<|E) 16
 .ret)))⟩
def Tp:PF:=⟨7,[.t 2],
 (H (V<|E) 2
 (H (tc 608 0<|tj 176<|A 1<|Kd En 0<|Y 2<|E) 3
 .ret))⟩
def LO:PF:=⟨23,[.t 6],
 (H (te 0<|yJ 6<|V<|E) 3
 (H (C 176 3<|U 1 2<|tR Es 10<|ta 9 9 9<|tm 7 8<|E) 10
 (H (C 176 3<|B 2 Et<|tz 7<|Bu 0<|tI 19 6<|E) 16
 .ret)))⟩
def Tq:PF:=⟨10,[.t 2],
 (H (V<|E) 2
 (H (tc 0 0<|tj 480<|A 1<|ik pq<|pA JH 0<|ik JG<|tr<|Y 2<|E) 3
 .ret))⟩
def Tr:PF:=⟨9,[.t 4],
 (H (V<|E) 4
 (H (Z 0<|B 1 I2<|kZ 0<|Y 4<|E) 5
 .ret))⟩
def Ts:PF:=⟨10,[.t 3],
 (H (V<|E) 3
 (H (tc 608 1<|tj 176<|B 0 Eo<|oc<|oh 0<|Y 3<|E) 4
 .ret))⟩
def Tt:PF:=⟨8,[.t 4],
 (H (tb<|tb<|ti<|E) 2
 (H (C 176 2<|pA JM 3<|ik yE<|Y 4<|E) 5
 .ret))⟩
def Tu:PF:=⟨9,[.t 2],
 (H (V<|E) 2
 (H (Z 0<|kZ 0<|tz 0<|N (gt 5 (some 7) (.bin .leq (.t 6) (ci 64)))<|tI 5 2<|E) 3
 .ret))⟩
def Tv:PF:=⟨9,[.t 4],
 (H (V<|E) 4
 (H (Z 0<|B 1 Q8<|kZ 0<|Y 4<|E) 5
 .ret))⟩
def LP:PF:=⟨34,[.cell 4 true 480,.t 5],
 (H (tb<|yJ 4<|qT<|J<|E) 2
 (H (k6 2<|B 1 JJ<|ta 10 10 10<|KB 6<|tA 96 6 7<|E) 11
 (.seq (H (Z 7<|tr<|E) 18
 (.cond (.t 19) (H (tp 2<|tJ 480 4 5 4<|E) 20
   .ret) .skip))
 (H (C 96 6<|tc 0 2<|ty<|tl 96 21<|E) 21
 (H (tu 1 lO<|ta 24 24 24<|tm 8 9<|E) 25
 (H (Z 8<|N (o 30 (.build [(.int .u32 0),(.int .i64 0),.ai,(.int .i64 0),(.int .u32 0),(.int .u32 0),(.int .u32 0),(.int .u32 0),(.int .u32 0),(.int .u32 0),(.int .u32 0),(.int .u32 0)] []))<|tc 96 2<|k0 32 12 29<|tl 12 30<|E) 29
 (H (tp 2<|tJ 480 4 5 0<|E) 33
 .ret)))))))⟩
def FT:PC:=
 (.block 1 (H (tp 1<|A 2<|ik uJ<|ta 6 6 6<|pG 4 0 0 0 0 0 0 0 0 0 0 0<|tA 12 4 5<|E) 7
   (.seq (H (Z 5<|jf 0<|tP 0 4 1<|N (gf 14 (some 17) (.eq .int (.t 16) (.c (.int .u32 0))))<|tg 14<|tG 0<|J9 0 4<|pF 19 1<|N (gf 19 (some 23) (.call (.t 20) [(.t 22)]))<|qS 19<|tg 19<|E) 12
   (.cond (.t 25) .ret .skip))
   (G (tt 4<|td 1 2<|E) 26))))
def Tw:PF:=⟨28,[],
 (.block 0 (.loop FT))⟩
def LQ:PF:=⟨14,[.t 4],
 (H (V<|E) 4
 (H (Z 0<|A 1<|EF<|tX<|Bx 480 2<|og 0<|yO 8 1 1<|yN 8 El 9<|tI 8 4<|E) 5
 .ret))⟩
def Tx:PF:=⟨6,[.t 2],
 (H (J<|E) 2
 (H (Z 0<|N (o 4 (.idxs (.c (S JO)) (.t 3)))<|jE<|Y 2<|E) 3
 .ret))⟩
def Ty:PF:=⟨16,[.t 6,.t 7],
 (H (te 0<|te 1<|te 2<|J<|V<|E) 3
 (H (BJ<|y9 1<|E) 8
 (H (C 176 3<|uU JN 4 5 8<|ik yE<|Y 9<|E) 10
 (yU (F 9<|KE<|Kc 1 8 1<|sw 6<|to 7<|E) 13
 .ret))))⟩
def LR:PF:=⟨13,[.t 4],
 (H (tb<|yJ 4<|V<|E) 2
 (H (Z 1<|wQ 0<|tX<|uX 0 2<|N (gf 7 (some 9) (.load true 96 (.t 8)))<|pD 7 1<|wK 7 lM<|tg 7<|Y 4<|E) 5
 .ret))⟩
def LS:PF:=⟨41,[.cell 4 true 96,.t 5],
 (H (tb<|yJ 4<|N (o 4 (.alloc Bl none))<|V<|E) 2
 (.seq (H (C 96 2<|Z 1<|k5<|E) 9
 (.cond (.t 12) (H (ts 96 2 96 4<|nZ 5<|E) 13
   .ret) .skip))
 (H (tu 1 lO<|ta 14 14 14<|tm 6 7<|E) 15
 (H (Z 6<|tc 0 2<|ka 32 3<|Y 8<|E) 19
 (H (m7 8<|tq 1<|y9 1<|E) 22
 (.seq (H (gL 8 0 1<|wQ 8388607<|E) 25
 (.cond (.t 29) (G (m7 8<|tq 2<|y7 1<|E) 30) (G (gL 8 0 1<|N (o 37 (.bin .add (.t 36) (.c (.int .u32 1))))<|tT 33<|ty<|tl 1 37<|E) 33)))
 (H (ts 96 2 96 4<|od 5<|E) 40
 .ret)))))))⟩
def Tz:PF:=⟨4,[.t 2],
 (H (tD<|za<|E) 1
 (H (KG Bk<|Y 2<|E) 3
 .ret))⟩
def FU:PF:=⟨9,[.t 2],
 (H (ti<|E) 2
 (H (Z 0<|jB 0<|jB 0<|J4 4 3 5<|Y 2<|E) 3
 .ret))⟩
def xa:PF:=⟨47,[.t 6],
 (H (V<|E) 6
 (H (tc 608 1<|tj 176<|B 0 wC<|ta 9 9 9<|EO 7 0 0 0 0<|tA 5 7 8<|E) 10
 (H (tC 2 7 1<|jE<|A 2<|eA<|tX<|ED 1 3<|ES 0<|wP 21<|sq 608 1<|Kn 176<|yO 24 1 4<|pL 24 0<|yN 24 Em 26<|N (gt 21 (some 30) (.pick (.t 24) (.t 29) (.c (.bool false))))<|wP 21<|N (gf 31 (some 32) (.load false 1 (.t 3)))<|N (gf 31 (some 33) (.eq .int (.t 32) (.c (.int .u8 1))))<|sk 31<|sq 3 7<|EI 1<|sy 31 34<|sk 31<|sq 608 1<|Kn 176<|yO 38 1 4<|pL 38 0<|yN 38 En 40<|sy 31 38<|wO 21 31<|tI 21 6<|E) 16
 .ret)))⟩
def TA:PF:=⟨8,[.t 3],
 (H (tb<|V<|E) 2
 (H (mF 0<|tv<|A 1<|eA<|Y 3<|E) 4
 .ret))⟩
def agL:PC:=
 (H (tE<|E) 9
 (.seq (.cond (.t 9) .skip (.exit 0))
 (.seq (.block 1 (H (gI<|Y 5<|E) 10
   (H (Z 1<|U 0 5<|m5 1<|tv<|EN 11<|E) 11
   (.cond (.t 16) (H (tH 5 4<|E) 17
     .ret) .skip))))
 (G (tx 8 8<|E) 18))))
def TB:PF:=⟨19,[.t 4],
 (H (J<|E) 4
 (.seq (H (Z 0<|tK<|E) 6
 (.block 0 (.loop agL)))
 (H (uT 1<|E) 4
 .ret)))⟩
def xb:PF:=⟨26,[.t 5],
 (H (te 0<|V<|E) 4
 (H (tt 4<|A 1<|eA<|gV 4 4 1<|yO 11 1 2<|N (gt 11 (some 15) (.eq .int (.t 13) (.t 14)))<|tI 11 6<|E) 7
 (H (A 3<|tG 6<|N (gf 18 (some 20) (.mov (.t 19)))<|sq 3 4<|EI 1<|sy 18 20<|tg 18<|td 1 3<|E) 17
 (H (tH 6 5<|E) 25
 .ret))))⟩
def agM:PC:=
 (H (tE<|E) 7
 (.seq (.cond (.t 7) .skip (.exit 0))
 (.seq (.block 1 (H (gI<|Y 3<|E) 8
   (H (tN 0 19 1<|B 3 Bi<|tc 0 1<|ka 4 4<|tj 4<|uV 9<|tr<|E) 9
   (.cond (.t 17) .ret .skip))))
 (G (tx 6 6<|E) 18))))
def TC:PF:=⟨19,[],
 (H (tC 17 1 1<|J<|E) 4
 (.block 0 (.loop agM)))⟩
def xc:List (Nat×List UInt8×Nat):=[(0,[98,97,105,108,105,119,105,99,107,47,115,99,104,101,100,46,107,105,110,100,115,36,49],Eb),(1,[98,97,105,108,105,119,105,99,107,47,115,99,104,101,100,46,107,105,110,100,115,36,50],Ec),(2,[98,97,105,108,105,119,105,99,107,47,115,99,104,101,100,46,107,105,110,100,115,36,51],Ed)]
def xd:List (Nat×List UInt8×Nat):=[(1,[40,42,98,97,105,108,105,119,105,99,107,47,109,111,100,101,108,46,99,97,108,108,101,114,41,46,110,101,119],I6),(2,[40,42,98,97,105,108,105,119,105,99,107,47,109,111,100,101,108,46,99,97,108,108,101,114,41,46,97,108,108,111,99],I7),(3,[40,42,98,97,105,108,105,119,105,99,107,47,109,111,100,101,108,46,99,97,108,108,101,114,41,46,108,111,97,100],I8),(4,[40,42,98,97,105,108,105,119,105,99,107,47,109,111,100,101,108,46,99,97,108,108,101,114,41,46,115,116,111,114,101],I9),(5,[40,42,98,97,105,108,105,119,105,99,107,47,109,111,100,101,108,46,99,97,108,108,101,114,41,46,114,101,115,101,116],Ja),(6,[40,42,98,97,105,108,105,119,105,99,107,47,109,111,100,101,108,46,99,97,108,108,101,114,41,46,100,101,108,101,116,101],Jb),(7,[40,42,98,97,105,108,105,119,105,99,107,47,109,111,100,101,108,46,99,97,108,108,101,114,41,46,99,117,116],Jc),(8,[40,42,98,97,105,108,105,119,105,99,107,47,109,111,100,101,108,46,99,97,108,108,101,114,41,46,103,114,97,102,116],Jd),(9,[40,42,98,97,105,108,105,119,105,99,107,47,109,111,100,101,108,46,99,97,108,108,101,114,41,46,102,114,101,101,122,101],Je),(10,[40,42,98,97,105,108,105,119,105,99,107,47,109,111,100,101,108,46,99,97,108,108,101,114,41,46,115,104,97,114,101],Jf),(11,[40,42,98,97,105,108,105,119,105,99,107,47,109,111,100,101,108,46,99,97,108,108,101,114,41,46,100,114,111,112],Jg),(12,[40,42,98,97,105,108,105,119,105,99,107,47,109,111,100,101,108,46,99,97,108,108,101,114,41,46,108,101,110,100],Jh),(13,[40,42,98,97,105,108,105,119,105,99,107,47,109,111,100,101,108,46,99,97,108,108,101,114,41,46,103,105,118,101,66,97,99,107],Ji),(14,[40,42,98,97,105,108,105,119,105,99,107,47,109,111,100,101,108,46,99,97,108,108,101,114,41,46,115,101,110,100],Jj),(15,[40,42,98,97,105,108,105,119,105,99,107,47,109,111,100,101,108,46,99,97,108,108,101,114,41,46,114,101,99,118],Ba),(16,[40,42,98,97,105,108,105,119,105,99,107,47,109,111,100,101,108,46,99,97,108,108,101,114,41,46,114,101,99,118],Ba),(17,[40,42,98,97,105,108,105,119,105,99,107,47,109,111,100,101,108,46,99,97,108,108,101,114,41,46,99,108,111,115,101],Jl),(18,[40,42,98,97,105,108,105,119,105,99,107,47,109,111,100,101,108,46,99,97,108,108,101,114,41,46,114,101,102],Jm),(19,[40,42,98,97,105,108,105,119,105,99,107,47,109,111,100,101,108,46,99,97,108,108,101,114,41,46,100,101,114,101,102],Jn),(20,[40,42,98,97,105,108,105,119,105,99,107,47,109,111,100,101,108,46,99,97,108,108,101,114,41,46,101,120,105,116],Jo),(21,[40,42,98,97,105,108,105,119,105,99,107,47,109,111,100,101,108,46,99,97,108,108,101,114,41,46,107,105,108,108],Jp),(22,[40,42,98,97,105,108,105,119,105,99,107,47,109,111,100,101,108,46,99,97,108,108,101,114,41,46,115,112,97,119,110],Jq)]
def BZ:List (Nat×List (Nat×List UInt8×Nat)):=[(uN,xc),(uO,xd)]
def aDl:List (Nat×wq):=[(AY,w4),(yG,w9)]
def TD:List (Nat×PF):=[(PA,BL),(PB,KI),(PD,Rb),(PE,Rc),(PG,Re),(Is,Rf),(j5,KJ),(PH,KK),(AT,Rg),(PI,Rh)]
def TE:List (Nat×PF):=[(yz,wY),(pn,Fa),(yA,sA),(DQ,Fb),(DR,Ri),(PJ,KM),(uJ,KN),(AU,Rj),(PK,zb),(PM,Fc)]
def TF:List (Nat×PF):=[(It,Rk),(lM,Rl),(PN,Rm),(DS,Fe),(AW,Ff),(PO,zd),(iG,KO),(Iu,Rn),(PQ,KP),(AX,KQ)]
def TG:List (Nat×PF):=[(PR,Ro),(PT,Fg),(Iv,Rp),(Iw,KR),(PU,BM),(PV,Rq),(PW,Rr),(PX,Fh),(Ix,Rs),(Iy,KT)]
def TH:List (Nat×PF):=[(DT,Rt),(PY,Ru),(Iz,Rw),(IA,Fi),(lO,Rx),(IB,KU),(IC,Ry),(PZ,ze),(P0,KV),(P2,Fj)]
def TI:List (Nat×PF):=[(P3,KW),(DU,BN),(ID,BO),(P4,KX),(IE,Rz),(IF,KY),(DV,Fk),(P5,RA),(P6,RC),(IG,RE)]
def TJ:List (Nat×PF):=[(P7,RF),(P8,RG),(P9,RH),(IH,KZ),(II,RI),(nX,RJ),(DW,RK),(cQ,Fl),(IJ,RL),(DX,Fo)]
def TL:List (Nat×PF):=[(IK,K0),(AZ,K1),(DY,K2),(uK,RM),(Qa,RN),(Qb,RP),(D0,BP),(A0,RQ),(A1,RR),(A2,RS)]
def TM:List (Nat×PF):=[(A3,RT),(A4,RU),(A5,K3),(D1,RW),(Qc,RX),(Qd,K4),(Qe,RY),(D2,Fp),(Qf,R0),(qK,Fs)]
def TN:List (Nat×PF):=[(D3,K5),(A6,BQ),(A7,Ft),(A8,BR),(A9,K6),(uL,oi),(IM,Fu),(Qg,Fv),(IN,K7),(Qh,R5)]
def TO:List (Nat×PF):=[(Qi,R6),(Qj,R7),(yB,R8),(IP,R9),(Qk,sB),(Qm,BS),(IQ,K8),(IS,Fw),(IT,Sa),(IU,Sb)]
def TP:List (Nat×PF):=[(Qn,K9),(IV,Sc),(Qo,La),(IW,Se),(Qp,Sf),(D4,Sg),(IX,Lb),(po,Lc),(pq,Fx),(D5,BT)]
def TQ:List (Nat×PF):=[(Qq,Sh),(D6,Ld),(wC,Le),(D7,Lf),(Qr,Si),(Qs,Fy),(IY,Sj),(Qt,Sk),(IZ,FA),(I0,Lk)]
def TR:List (Nat×PF):=[(Qu,Sl),(Qv,Sm),(D8,FB),(sh,Ll),(D9,So),(Qw,Sp),(I1,Sq),(Qx,Sr),(Qy,Ss),(qL,Lm)]
def TS:List (Nat×PF):=[(yC,St),(m4,Ln),(Qz,Su),(mv,FC),(Ea,Sv),(I2,Sw),(I3,Sx),(QA,Sy),(QB,Sz),(QC,FD)]
def TT:List (Nat×PF):=[(I4,SA),(Eb,SB),(I5,SC),(Ec,SD),(QD,SF),(Ed,SG),(I6,Lo),(I7,zg),(I8,SH),(I9,SI)]
def TU:List (Nat×PF):=[(Ja,SJ),(Jb,SM),(Jc,SN),(Jd,SO),(Je,SP),(Jf,Lp),(Jg,Lq),(Jh,zh),(Ji,SQ),(Jj,zi)]
def TV:List (Nat×PF):=[(Ba,FE),(Jl,SR),(Jm,Lr),(Jn,SS),(Jo,Ls),(Jp,FF),(Jq,Lt),(jw,SU),(QE,zj),(gU,FG)]
def TW:List (Nat×PF):=[(Bb,SW),(QF,Lu),(Bc,SX),(Jr,FH),(QG,SY),(QH,Lv),(Js,SZ),(Jt,FI),(Ee,Lx),(wD,S0)]
def TX:List (Nat×PF):=[(uM,Ly),(Ef,S1),(QI,w5),(QJ,S2),(Bd,Lz),(Eg,BU),(Ju,S3),(Jv,LA),(wE,FJ),(QK,BV)]
def TY:List (Nat×PF):=[(Eh,LB),(QL,S4),(QM,FK),(QN,FL),(QO,LC),(QP,LD),(QQ,S5),(QR,S6),(Ei,S7),(Jw,FM)]
def TZ:List (Nat×PF):=[(Be,S8),(yE,S9),(Jx,Ta),(QS,m8),(QT,vc),(Bf,LF),(QU,Tb),(Jy,FN),(QV,Tc),(QW,LG)]
def T0:List (Nat×PF):=[(Ej,BW),(QX,Td),(Jz,LH),(Ek,Te),(QY,LJ),(El,FO),(QZ,Tf),(Bg,BX),(wF,BY),(JA,qY)]
def T1:List (Nat×PF):=[(Q0,Tg),(Q2,jF),(JB,Th),(Bh,Ti),(JC,Tj),(JD,Tk),(Bi,Tl),(Bj,zk),(kY,FR),(JE,Tm)]
def T2:List (Nat×PF):=[(JF,LM),(Q3,Tn),(wG,To),(Em,LN),(wH,Tp),(En,LO),(yH,Tq),(JG,Tr),(JH,Ts),(Eo,Tt)]
def T3:List (Nat×PF):=[(JI,Tu),(Q4,Tv),(Q5,LP),(Ep,Tw),(Er,LQ),(Q6,Tx),(Es,Ty),(Et,LR),(JJ,LS),(Q7,Tz)]
def T4:List (Nat×PF):=[(JK,FU),(JL,xa),(JM,TA),(Q8,TB),(JN,xb),(Bk,TC)]
def zl:List (Nat×PF):=TD++(TE++(TF++(TG++(TH++(TI++(TJ++(TL++(TM++(TN++(TO++(TP++(TQ++(TR++(TS++(TT++(TU++(TV++(TW++(TX++(TY++(TZ++(T0++(T1++(T2++(T3++(T4))))))))))))))))))))))))))
end Go.Proofs.YteplichagkpciaaGreatDoor
