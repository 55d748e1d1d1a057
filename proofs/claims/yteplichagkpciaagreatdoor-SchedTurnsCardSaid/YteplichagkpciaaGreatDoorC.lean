/- Compact code; no condition. -/
import Derived.Test.YteplichagkpciaaGreatDoorD2
import Derived.Test.YteplichagkpciaaGreatDoorProg
import Derived.KernelRfl
set_option linter.all false
set_option maxRecDepth 10000
set_option maxHeartbeats 1000000
namespace Go.Proofs.YteplichagkpciaaGreatDoor
open Go Go.Den
def P3:Nat:=6
def P4:Nat:=10
def P5:Nat:=11
def P6:Nat:=13
def P7:Nat:=14
def P8:Nat:=17
def j9:Nat:=19
def P9:Nat:=21
def A2:Nat:=22
def A3:Nat:=25
def py:Nat:=27
def yD:Nat:=30
def IH:Nat:=31
def D3:Nat:=33
def Qa:Nat:=43
def uN:Nat:=44
def A4:Nat:=45
def Qb:Nat:=46
def Qc:Nat:=47
def II:Nat:=48
def lS:Nat:=50
def Qd:Nat:=52
def D4:Nat:=53
def A5:Nat:=54
def Qe:Nat:=55
def iH:Nat:=56
def IJ:Nat:=57
def Qf:Nat:=59
def A6:Nat:=60
def Qg:Nat:=61
def Qh:Nat:=62
def IK:Nat:=63
def IM:Nat:=64
def Qi:Nat:=65
def Qj:Nat:=66
def Qk:Nat:=67
def Qm:Nat:=68
def IN:Nat:=74
def IP:Nat:=76
def D5:Nat:=78
def Qn:Nat:=79
def IQ:Nat:=80
def IS:Nat:=81
def lT:Nat:=82
def IT:Nat:=83
def IU:Nat:=84
def Qo:Nat:=85
def Qp:Nat:=86
def wD:Nat:=91
def Qq:Nat:=92
def Qr:Nat:=93
def D6:Nat:=94
def IV:Nat:=95
def Qs:Nat:=96
def IW:Nat:=97
def IX:Nat:=98
def D7:Nat:=99
def Qt:Nat:=100
def Qu:Nat:=101
def IY:Nat:=102
def Qv:Nat:=103
def Qw:Nat:=104
def Qx:Nat:=108
def IZ:Nat:=110
def I0:Nat:=112
def oi:Nat:=113
def D8:Nat:=114
def A7:Nat:=115
def cQ:Nat:=116
def I1:Nat:=117
def D9:Nat:=118
def I2:Nat:=119
def A8:Nat:=120
def Ea:Nat:=121
def uO:Nat:=122
def Qy:Nat:=123
def Qz:Nat:=124
def Eb:Nat:=125
def A9:Nat:=126
def Ba:Nat:=127
def Bb:Nat:=128
def Bc:Nat:=129
def Bd:Nat:=130
def Be:Nat:=131
def Ec:Nat:=132
def QA:Nat:=133
def QB:Nat:=134
def QC:Nat:=135
def Ed:Nat:=136
def QD:Nat:=137
def qO:Nat:=138
def Ee:Nat:=139
def Bf:Nat:=140
def Bg:Nat:=141
def Bh:Nat:=142
def Bi:Nat:=143
def uP:Nat:=144
def I3:Nat:=145
def QE:Nat:=146
def I4:Nat:=147
def QF:Nat:=148
def QG:Nat:=149
def QH:Nat:=150
def yE:Nat:=151
def I5:Nat:=152
def QI:Nat:=153
def QJ:Nat:=154
def I6:Nat:=155
def I7:Nat:=156
def I8:Nat:=157
def I9:Nat:=158
def QK:Nat:=159
def Ja:Nat:=160
def QL:Nat:=161
def Jb:Nat:=162
def QM:Nat:=163
def Ef:Nat:=164
def Jc:Nat:=165
def pA:Nat:=166
def pC:Nat:=167
def Eg:Nat:=168
def QN:Nat:=169
def Eh:Nat:=170
def wE:Nat:=171
def Ei:Nat:=172
def QO:Nat:=173
def QP:Nat:=174
def Jd:Nat:=175
def QQ:Nat:=176
def Je:Nat:=177
def Jf:Nat:=178
def QR:Nat:=179
def QS:Nat:=180
def Ej:Nat:=181
def sr:Nat:=182
def Ek:Nat:=183
def QT:Nat:=184
def Jg:Nat:=185
def QU:Nat:=186
def QV:Nat:=187
def qP:Nat:=188
def yF:Nat:=189
def m6:Nat:=190
def QW:Nat:=191
def qQ:Nat:=192
def mw:Nat:=193
def El:Nat:=194
def Jh:Nat:=195
def Ji:Nat:=212
def QX:Nat:=213
def QY:Nat:=214
def QZ:Nat:=215
def Jj:Nat:=218
def Em:Nat:=220
def Jl:Nat:=221
def En:Nat:=222
def Q0:Nat:=223
def Eo:Nat:=224
def Jm:Nat:=225
def Jn:Nat:=226
def Jo:Nat:=227
def Jp:Nat:=228
def Jq:Nat:=229
def Jr:Nat:=230
def Js:Nat:=231
def Jt:Nat:=232
def Ju:Nat:=233
def Jv:Nat:=234
def Jw:Nat:=235
def Jx:Nat:=236
def Jy:Nat:=237
def Jz:Nat:=238
def Bj:Nat:=239
def JA:Nat:=240
def JB:Nat:=241
def JC:Nat:=242
def JD:Nat:=243
def JE:Nat:=244
def JF:Nat:=245
def jC:Nat:=246
def Q2:Nat:=247
def gU:Nat:=248
def Bk:Nat:=249
def Q3:Nat:=250
def Bl:Nat:=251
def JG:Nat:=252
def Q4:Nat:=253
def Q5:Nat:=254
def JH:Nat:=255
def JI:Nat:=256
def Ep:Nat:=257
def wF:Nat:=258
def uQ:Nat:=259
def Er:Nat:=260
def Q6:Nat:=261
def Q7:Nat:=262
def Bm:Nat:=263
def Es:Nat:=264
def JJ:Nat:=265
def JK:Nat:=266
def wG:Nat:=267
def Q8:Nat:=268
def Et:Nat:=269
def Q9:Nat:=270
def Ra:Nat:=271
def Rb:Nat:=272
def Rc:Nat:=273
def Re:Nat:=274
def yG:Nat:=275
def Rf:Nat:=276
def Rg:Nat:=277
def Eu:Nat:=278
def JL:Nat:=279
def Bn:Nat:=280
def yH:Nat:=281
def JM:Nat:=282
def Rh:Nat:=283
def Ri:Nat:=284
def Bo:Nat:=285
def Rj:Nat:=286
def JN:Nat:=287
def Rk:Nat:=288
def Rl:Nat:=289
def Ev:Nat:=290
def Rm:Nat:=291
def JO:Nat:=292
def Ew:Nat:=293
def Rn:Nat:=294
def Ey:Nat:=295
def Ro:Nat:=296
def Bp:Nat:=297
def wH:Nat:=298
def JP:Nat:=299
def Rp:Nat:=300
def Rq:Nat:=301
def JQ:Nat:=302
def Bq:Nat:=303
def JR:Nat:=304
def JS:Nat:=305
def Br:Nat:=306
def yI:Nat:=307
def yK:Nat:=308
def Bt:Nat:=309
def k7:Nat:=310
def JT:Nat:=311
def JU:Nat:=312
def Rr:Nat:=313
def wI:Nat:=314
def Ez:Nat:=315
def wJ:Nat:=316
def EA:Nat:=317
def yL:Nat:=318
def JV:Nat:=319
def JW:Nat:=320
def EB:Nat:=321
def JX:Nat:=322
def Rs:Nat:=323
def Rt:Nat:=324
def EC:Nat:=325
def ED:Nat:=326
def Ru:Nat:=327
def EE:Nat:=328
def EF:Nat:=329
def JY:Nat:=330
def Rw:Nat:=331
def JZ:Nat:=332
def J0:Nat:=333
def J1:Nat:=334
def Rx:Nat:=335
def J2:Nat:=336
def Bu:Nat:=337
def my:Nat:=3
def af2:Nat:=5
def asn:Nat:=9
def ss:Nat:=29
def bZ:Nat:=46
def EG:Nat:=72
def fg:Nat:=100
def pD:Nat:=104
def af3:Nat:=202
def af4:Nat:=237
def uR:Nat:=0
def uS:Nat:=1
def J3:List UInt8:=[0,1,1,2,1,2,2,3,1,2,2,3,2,3,3,4,1,2,2,3,2,3,3,4,2,3,3,4,3,4,4,5,1,2,2,3,2,3,3,4,2,3,3,4,3,4,4,5,2,3,3,4,3,4,4,5,3,4,4,5,4,5,5,6,1,2,2,3,2,3,3,4,2,3,3,4,3,4,4,5,2,3,3,4,3,4,4,5,3,4,4,5,4,5,5,6,2,3,3,4,3,4,4,5,3,4,4,5,4,5,5,6,3,4,4,5,4,5,5,6,4,5,5,6,5,6,6,7,1,2,2,3,2,3,3,4,2,3,3,4,3,4,4,5,2,3,3,4,3,4,4,5,3,4,4,5,4,5,5,6,2,3,3,4,3,4,4,5,3,4,4,5,4,5,5,6,3,4,4,5,4,5,5,6,4,5,5,6,5,6,6,7,2,3,3,4,3,4,4,5,3,4,4,5,4,5,5,6,3,4,4,5,4,5,5,6,4,5,5,6,5,6,6,7,3,4,4,5,4,5,5,6,4,5,5,6,5,6,6,7,4,5,5,6,5,6,6,7,5,6,6,7,6,7,7,8]
def br(n:Nat)(l:List AV):List AV:=(List.replicate n l).flatten
def mz:List AV:=br 32 [(.int .u32 0),(.bool false),(.bool false)]++br 32 [(.int .u32 0),(.int .i64 0),.ai,(.int .i64 0),(.int .u32 0),(.int .u32 0),(.int .u32 0),(.int .u32 0),(.int .u32 0),(.int .u32 0),(.int .u32 0),(.int .u32 0)]++br 32 [(.int .u32 0),(.int .u8 0),(.int .u8 0),(.int .u8 0)]++br 32 [(.int .u32 0),(.bool false),(.bool false)]++br 16 [(.int .u32 0),(.int .u8 0),(.int .u8 0),(.bool false),(.int .u32 0)]++br 4 [(.int .u8 0),(.int .u64 0),(.int .u32 0),(.bool false)]++[(.int .i64 0),(.int .i64 0)]++br 4 [(.bool false),(.int .u8 0),(.int .u64 0),(.int .u32 0)]++[(.bool false),(.int .i64 0),(.int .i64 0)]++br 4 [(.bool false),(.int .u8 0),(.int .u64 0),(.int .u32 0)]++[(.bool false),(.int .i64 0),(.int .i64 0)]++br 4 [(.bool false),(.int .u8 0),(.int .u64 0),(.int .u32 0)]++[(.bool false),(.int .i64 0),(.int .i64 0)]++br 4 [(.bool false),(.int .u8 0),(.int .u64 0),(.int .u32 0)]++[(.bool false),(.int .i64 0),(.int .i64 0)]++br 4 [(.bool false),(.int .u8 0),(.int .u64 0),(.int .u32 0)]++[(.bool false),(.int .i64 0),(.int .i64 0)]++br 4 [(.bool false),(.int .u8 0),(.int .u64 0),(.int .u32 0)]++[(.bool false),(.int .i64 0),(.int .i64 0)]++br 4 [(.bool false),(.int .u8 0),(.int .u64 0),(.int .u32 0)]++[(.bool false),(.int .i64 0),(.int .i64 0)]++br 17 [(.bool false)]++[.dZ]++br 32 [(.int .u8 0),(.int .i64 0),(.int .u8 0),(.int .u8 0),(.int .u8 0),(.int .u8 0),(.int .u8 0),(.int .u8 0),(.int .u8 0),(.int .u8 0)]++[.ai]
def wK:List AV:=br 32 [(.int .u32 0),(.int .u8 0),(.int .u8 0),(.int .u8 0)]
def uT:List AV:=br 32 [(.int .u32 0),(.bool false),(.bool false)]++br 16 [(.int .u32 0),(.int .u8 0),(.int .u8 0),(.bool false),(.int .u32 0)]
def J4:List AV:=[.dZ,.ai,(.int .i64 0)]++br 8 [(.int .u64 0)]++[(.int .i64 0),(.int .u8 0)]++br 4 [(.int .u32 0)]++[(.int .u64 0),(.bool false),.ai]++br 3 [(.int .i64 0)]++[(.bool false),(.int .i64 0),.ai,(.int .i64 0)]++br 8 [(.int .u64 0)]++[(.int .i64 0),(.int .u8 0)]++br 4 [(.int .u32 0)]++[(.int .u64 0),(.bool false),.ai]++br 3 [(.int .i64 0)]++[(.bool false),(.int .i64 0),.ai,(.int .i64 0)]++br 8 [(.int .u64 0)]++[(.int .i64 0),(.int .u8 0)]++br 4 [(.int .u32 0)]++[(.int .u64 0),(.bool false),.ai]++br 3 [(.int .i64 0)]++[(.bool false),(.int .i64 0),.ai,(.int .i64 0)]++br 8 [(.int .u64 0)]++[(.int .i64 0),(.int .u8 0)]++br 4 [(.int .u32 0)]++[(.int .u64 0),(.bool false),.ai]++br 3 [(.int .i64 0)]++[(.bool false),(.int .i64 0),.ai,(.int .i64 0)]++br 8 [(.int .u64 0)]++[(.int .i64 0),(.int .u8 0)]++br 4 [(.int .u32 0)]++[(.int .u64 0),(.bool false),.ai]++br 3 [(.int .i64 0)]++[(.bool false),(.int .i64 0),.ai,(.int .i64 0)]++br 8 [(.int .u64 0)]++[(.int .i64 0),(.int .u8 0)]++br 4 [(.int .u32 0)]++[(.int .u64 0),(.bool false),.ai]++br 3 [(.int .i64 0)]++[(.bool false),(.int .i64 0),.ai,(.int .i64 0)]++br 8 [(.int .u64 0)]++[(.int .i64 0),(.int .u8 0)]++br 4 [(.int .u32 0)]++[(.int .u64 0),(.bool false),.ai]++br 3 [(.int .i64 0)]++[(.bool false),(.int .i64 0),.ai,(.int .i64 0)]++br 8 [(.int .u64 0)]++[(.int .i64 0),(.int .u8 0)]++br 4 [(.int .u32 0)]++[(.int .u64 0),(.bool false),.ai]++br 3 [(.int .i64 0)]++[(.bool false),(.int .i64 0),(.int .i64 0),.ai]
def af5:List AV:=[(.int .i64 0),.ai]++br 2048 [(.int .u8 0)]
def qR:List AV:=br 32 [(.int .u8 0),(.int .i64 0),(.int .u8 0),(.int .u8 0),(.int .u8 0),(.int .u8 0),(.int .u8 0),(.int .u8 0),(.int .u8 0),(.int .u8 0)]
def jD:List AV:=br 32 [(.int .u32 0),(.bool false),(.bool false)]++br 32 [(.int .u32 0),(.int .i64 0),.ai,(.int .i64 0),(.int .u32 0),(.int .u32 0),(.int .u32 0),(.int .u32 0),(.int .u32 0),(.int .u32 0),(.int .u32 0),(.int .u32 0)]
def pE:List AV:=br 32 [(.int .u32 0),(.bool false),(.bool false)]++br 32 [(.int .u32 0),(.int .i64 0),.ai,(.int .i64 0),(.int .u32 0),(.int .u32 0),(.int .u32 0),(.int .u32 0),(.int .u32 0),(.int .u32 0),(.int .u32 0),(.int .u32 0)]++br 32 [(.int .u32 0),(.int .u8 0),(.int .u8 0),(.int .u8 0)]++br 32 [(.int .u32 0),(.bool false),(.bool false)]++br 16 [(.int .u32 0),(.int .u8 0),(.int .u8 0),(.bool false),(.int .u32 0)]++br 4 [(.int .u8 0),(.int .u64 0),(.int .u32 0),(.bool false)]++[(.int .i64 0),(.int .i64 0)]++br 4 [(.bool false),(.int .u8 0),(.int .u64 0),(.int .u32 0)]++[(.bool false),(.int .i64 0),(.int .i64 0)]++br 4 [(.bool false),(.int .u8 0),(.int .u64 0),(.int .u32 0)]++[(.bool false),(.int .i64 0),(.int .i64 0)]++br 4 [(.bool false),(.int .u8 0),(.int .u64 0),(.int .u32 0)]++[(.bool false),(.int .i64 0),(.int .i64 0)]++br 4 [(.bool false),(.int .u8 0),(.int .u64 0),(.int .u32 0)]++[(.bool false),(.int .i64 0),(.int .i64 0)]++br 4 [(.bool false),(.int .u8 0),(.int .u64 0),(.int .u32 0)]++[(.bool false),(.int .i64 0),(.int .i64 0)]++br 4 [(.bool false),(.int .u8 0),(.int .u64 0),(.int .u32 0)]++[(.bool false),(.int .i64 0),(.int .i64 0)]++br 4 [(.bool false),(.int .u8 0),(.int .u64 0),(.int .u32 0)]++[(.bool false),(.int .i64 0),(.int .i64 0)]++br 17 [(.bool false)]
def J5:List AV:=br 32 [(.int .u32 0),(.bool false),(.bool false)]++br 32 [(.int .u32 0),(.int .i64 0),.ai,(.int .i64 0),(.int .u32 0),(.int .u32 0),(.int .u32 0),(.int .u32 0),(.int .u32 0),(.int .u32 0),(.int .u32 0),(.int .u32 0)]++br 32 [(.int .u32 0),(.int .u8 0),(.int .u8 0),(.int .u8 0)]++br 32 [(.int .u32 0),(.bool false),(.bool false)]++br 16 [(.int .u32 0),(.int .u8 0),(.int .u8 0),(.bool false),(.int .u32 0)]++br 4 [(.int .u8 0),(.int .u64 0),(.int .u32 0),(.bool false)]++[(.int .i64 0),(.int .i64 0)]++br 4 [(.bool false),(.int .u8 0),(.int .u64 0),(.int .u32 0)]++[(.bool false),(.int .i64 0),(.int .i64 0)]++br 4 [(.bool false),(.int .u8 0),(.int .u64 0),(.int .u32 0)]++[(.bool false),(.int .i64 0),(.int .i64 0)]++br 4 [(.bool false),(.int .u8 0),(.int .u64 0),(.int .u32 0)]++[(.bool false),(.int .i64 0),(.int .i64 0)]++br 4 [(.bool false),(.int .u8 0),(.int .u64 0),(.int .u32 0)]++[(.bool false),(.int .i64 0),(.int .i64 0)]++br 4 [(.bool false),(.int .u8 0),(.int .u64 0),(.int .u32 0)]++[(.bool false),(.int .i64 0),(.int .i64 0)]++br 4 [(.bool false),(.int .u8 0),(.int .u64 0),(.int .u32 0)]++[(.bool false),(.int .i64 0),(.int .i64 0)]++br 4 [(.bool false),(.int .u8 0),(.int .u64 0),(.int .u32 0)]++[(.bool false),(.int .i64 0),(.int .i64 0)]++br 17 [(.bool false)]++[(.int .i64 0),(.int .u8 0)]++br 4 [(.int .u32 0)]++[(.int .u64 0)]++br 3 [(.int .i64 0)]++[(.bool false),.ai]
def Bv:List AV:=br 32 [(.int .u32 0),(.bool false),(.bool false)]
section
variable(p q r t v w x y z a c d e f n0 n1 n2 n3 n4 n5 n6 n7 n8 n9 n10 n11 n12 n13 n14 n15 n16 n17 n18 n19:Nat)(i j k m n i0 i1 i2 i3 i4 i5 i6 i7 i8 i9 i10 i11 i12 i13 i14 i15 i16 i17 i18 i19:Int)(l:Nat->List aO)(h:Nat->List (aO×List Nat))(b:Nat)
def Z:=o b (.mov (.t p))::l (b+1)
def Y:=o p (.mov (.t (b-1)))::l b
def U:=o b (.mov (.t p))::o (b+1) (.mov (.t q))::l (b+2)
def V:=o b (.mov (.c (.bool false)))::l (b+1)
def J:=o b (.mov (ci 0))::l (b+1)
def F:=(o b (.mov (.t p)),[])::h (b+1)
def C:=o b (.load false 1 (.t p))::l (b+1)
def A:=o b (.load true p (.t q))::l (b+1)
def B:=o b (.mov (.t p))::o (b+1) (.call (cf q) [(.t (b-1)),(.t b)])::l (b+2)
def L:=(o b (.mov (.t p)),[]):: (o (b+1) (.nilck (.t b)),[]):: (o (b+2) (.faddr q (.t (b+1))),[])::h (b+3)
def ta:=o p (.mov (.t (b-1)))::o b (.ext (.t q) 0)::o (b+1) (.ext (.t r) 1)::l (b+2)
def tb:=o b (.box (.t (b-2)) none)::l (b+1)
def tc:=u (.store p (.t q) (.t (b-1)))::l b
def td:=o b (.faddr p (.t q))::l (b+1)
def te:=o b (.box (.t p) none)::l (b+1)
def tf:=(o b (.load false 1 (.t (b-1))),[])::h (b+1)
def tg:=o b (.pick (.t p) (.c (.bool true)) (.t (b-1)))::l (b+1)
def th:=(o b (.mov (.t p)),[]):: (o (b+1) (.nilck (.t b)),[]):: (o (b+2) (.faddr q (.t (b+1))),[]):: (o (b+3) (.faddr r (.t (b+2))),[])::h (b+4)
def ti:=o b (.mov (.c .ai))::l (b+1)
def tj:=o b (.load true p (.t (b-1)))::l (b+1)
def tk:=(o b (.faddr p (.t q)),[])::h (b+1)
def tl:=u (.store p (.t (b-1)) (.t q))::l b
def tm:=o p (.mov (.t (b-2)))::o q (.mov (.t (b-1)))::l b
def tn:=(o p (.mov (.t (b-1))),[])::h b
def to:=o b (.load true 480 (.t p))::l (b+1)
def tp:=o b (.call (cf p) [(.t (b-1))])::l (b+1)
def tq:=o b (.load false 1 (.t (b-1)))::l (b+1)
def tr:=o b (.un .not (.t (b-1)))::l (b+1)
def ts:=o b (.faddr p (.t (b-1)))::l (b+1)
def tt:=o b (.load true p (.t q))::u (.store r (.t t) (.t b))::l (b+1)
def tu:=o b (.faddr 0 (.t p))::o (b+1) (.load false 1 (.t b))::l (b+2)
def tv:=o b (.bin .add (.t p) (ci 1))::o q (.mov (.t b))::l (b+1)
def tw:=o b (.mov (.t p))::o (b+1) (.call (cf q) [(.t b)])::l (b+2)
def tx:=o b (.faddr 0 (.t (b-1)))::l (b+1)
def ty:=o b (.pick (.t p) (.t (b-1)) (.c (.bool false)))::l (b+1)
def tz:=o b (.faddr p (.t q))::o (b+1) (.load false r (.t b))::l (b+2)
def tA:=u (.store p (.t q) (.t (b-2)))::o r (.mov (.t (b-1)))::l b
def tB:=o b (.mov (.t (b-1)))::gt b (some (b+1)) (.mov (.t p))::l (b+2)
def tC:=o b (.faddr 1 (.t p))::o (b+1) (.load false 1 (.t b))::l (b+2)
def tD:=o b (.box (.t (b-1)) none)::l (b+1)
def tE:=o b (.bin .lss (.t (b-1)) (.t (b-2)))::l (b+1)
def tF:=o b (.call (cf p) [(.t q),(.t (b-1))])::l (b+1)
def tG:=o b (.mov (.t p))::o q (.mov (.t b))::l (b+1)
def tH:=o b (.pick (.t p) (.t (b-1)) (.c (.bool false)))::o q (.mov (.t b))::l (b+1)
def tI:=o b (.mov (.t (b-1)))::gf b (some (b+1)) (.mov (.t p))::l (b+2)
def tJ:=u (.store p (.t q) (.t (b-1)))::o r (.mov (ci i))::l b
def tK:=o b (.len .sl (.t (b-1)))::o (b+1) (.mov (ci 0))::l (b+2)
def tL:=(u (.store p (.t (b-1)) (.t q)),[])::h b
def tM:=(o b (.load false p (.t (b-1))),[q,r])::h (b+1)
def tN:=o b (.mov (.t p))::o (b+1) (.load true q (.t r))::l (b+2)
def tO:=o b (.bin .add (.t (b-1)) (ci i))::l (b+1)
def tP:=o p (.mov (ci i))::l b
def tQ:=o b (.mov (.t (b-1)))::gf b (some (b+1)) (.faddr p (.t q))::gf b (some (b+2)) (.load false r (.t (b+1)))::l (b+3)
def tR:=(o p (.mov (.t (b-1))),[]):: (o b (.ext (.t q) 0),[]):: (o (b+1) (.ext (.t r) 1),[])::h (b+2)
def tS:=o b (.call (cf p) [(.t q),(.t (b-2)),(.t (b-1))])::l (b+1)
def tT:=o b (.nilck (.t p))::l (b+1)
def tU:=o b (.nilck (.t (b-2)))::l (b+1)
def tV:=o b (.faddr p (.t (b-1)))::o (b+1) (.faddr q (.t b))::l (b+2)
def tW:=(o b (.load true p (.t q)),[r])::h (b+1)
def tX:=o b (.load false 1 (.t (b-1)))::o p (.mov (.t b))::l (b+1)
def tY:=o b (.mov (ci i))::l (b+1)
def tZ:=o b (.alloc [(.int .i64 0),(.int .u64 0),(.int .u32 0)] none)::l (b+1)
def gq:=o b (.nilck (.t (b-1)))::o (b+1) (.faddr 953 (.t b))::o (b+2) (.faddr 1 (.t (b+1)))::o (b+3) (.load false 1 (.t (b+2)))::l (b+4)
def gH:=o b (.mov (.t (b-2)))::l (b+1)
def gI:=o b (.mov (.t p))::o (b+1) (.nilck (.t b))::o (b+2) (.faddr q (.t (b+1)))::o (b+3) (.load false r (.t (b+2)))::l (b+4)
def gJ:=o b (.mov (.t (b-1)))::l (b+1)
def gV:=u (.oW .int (.t p) (.c (.int .u8 i)) (.t (b-1)))::l b
def gW:=(gt p (some b) (.faddr q (.t (b-1))),[])::h (b+1)
def gX:=o b (.mov (.t (b-1)))::gt b (some (b+1)) (.faddr p (.t q))::gt b (some (b+2)) (.load false r (.t (b+1)))::l (b+3)
def ik:=o b (.call (cf p) [(.t (b-2)),(.t (b-1))])::l (b+1)
def il:=o b (.bin .lss (.t (b-1)) (ci i))::l (b+1)
def im:=o b (.iaddrs p (.t q) (.t (b-2)))::l (b+1)
def iI:=(o b (.nilck (.t (b-1))),[]):: (o (b+1) (.faddr p (.t b)),[])::h (b+2)
def iJ:=o b (.ext (.t p) q)::l (b+1)
def iK:=u (.store p (.t (b-1)) (.t (b-2)))::l b
def iL:=(o b (.load false p (.t (b-1))),[q])::h (b+1)
def ji:=o b (.ne .int (.t (b-1)) (ci i))::l (b+1)
def jk:=o b (.conv .i64 (.t (b-1)))::l (b+1)
def jE:=(o b (.load true p (.t q)),[])::h (b+1)
def jF:=(u (.store p (.t q) (.t (b-2))),[])::h b
def jG:=(o b (.load true p (.t (b-1))),[])::h (b+1)
def jH:=(o b (.call (cf p) [(.t q),(.t (b-1))]),[])::h (b+1)
def jI:=o b (.mov (.t p))::o (b+1) (.len .sl (.t b))::l (b+2)
def ka:=o b (.mov (.t p))::o (b+1) (.nilck (.t b))::o (b+2) (.faddr q (.t (b+1)))::o (b+3) (.faddr r (.t (b+2)))::o (b+4) (.load false t (.t (b+3)))::l (b+5)
def kb:=(o b (.nilck (.t p)),[])::h (b+1)
def kc:=(o b (.faddr p (.t (b-1))),[]):: (o (b+1) (.load false q (.t b)),[r])::h (b+2)
def ke:=o b (.iaddra p q (.t (b-1)) (.t (b-2)))::l (b+1)
def kf:=o b (.build [(.int .i64 0),(.int .u64 0),(.int .u32 0)] [])::u (.store 3 (.t p) (.t b))::l (b+1)
def kg:=(o b (.load true p (.t (b-1))),[q])::h (b+1)
def k9:=o b (.bin .geq (.t (b-1)) (ci i))::l (b+1)
def la:=o b (.call (cf lS) [(.t (b-2)),(.t (b-1))])::o (b+1) (.un .not (.t b))::l (b+2)
def lb:=(o b (.faddr p (.t (b-1))),[]):: (o (b+1) (.faddr q (.t b)),[])::h (b+2)
def ld:=o b (.faddr 0 (.t p))::o (b+1) (.faddr 0 (.t b))::o (b+2) (.load true 96 (.t (b+1)))::l (b+3)
def lg:=(o b (.nilck (.t p)),[]):: (o (b+1) (.faddr q (.t b)),[])::h (b+2)
def lh:=o b (.iaddra p q (.t (b-1)) (.t r))::l (b+1)
def lU:=(o b (.faddr 0 (.t (b-1))),[])::h (b+1)
def lV:=(o b (.conv .i64 (.t (b-1))),[])::h (b+1)
def lW:=(o b (.mov (.t (b-1))),[])::h (b+1)
def lY:=u (.store p (.t q) (.t r))::l b
def lZ:=o b (.eq .int (.t (b-1)) (ci i))::l (b+1)
def l0:=o b (.call (cf p) [(.t (b-1)),(ci i)])::l (b+1)
def mA:=gf p (some b) (.bin .gtr (.t (b-1)) (ci i))::l (b+1)
def mB:=o b (.call (cf p) [(.t q),(.t (b-1)),(.c (.int .u8 i))])::l (b+1)
def mC:=(o b (.call (cf p) [(.t q),(.t r),(.t (b-1))]),[])::h (b+1)
def mD:=o b (.mkf (.func p) [] [(.t q),(.t r)])::l (b+1)
def mE:=(o b (.iaddra p q (.t (b-1)) (.t r)),[])::h (b+1)
def mF:=o b (.mov (.c (.bool true)))::l (b+1)
def mG:=(o b (.pick (.t p) (.t (b-1)) (.c (.bool false))),[])::h (b+1)
def m7:=gf p (some b) (.mov (.t q))::l (b+1)
def m8:=o b (.iaddrs p (.t (b-2)) (.t (b-1)))::l (b+1)
def m9:=o b (.load true 96 (.t (b-1)))::l (b+1)
def na:=o b (.faddr p (.t (b-2)))::l (b+1)
def nb:=o b (.bin .gtr (.t (b-1)) (ci i))::l (b+1)
def nc:=o b (.mov (.t p))::o (b+1) (.nilck (.t b))::l (b+2)
def eB:=(o b (.load false p (.t (b-1))),[q,r,t])::h (b+1)
def om:=o p (.mov (.c (.bool false)))::l b
def oo:=o b (.eq .int (.t (b-2)) (.t (b-1)))::l (b+1)
def oq:=gf p (some b) (.load false q (.t (b-1)))::l (b+1)
def ot:=o p (.mov (.c (.bool true)))::l b
def pF:=(o b (.call (cf p) [(.t q),(.t (b-1))]),[r])::h (b+1)
def pG:=o b (.len .sl (.t (b-1)))::l (b+1)
def pJ:=o p (.alloc [(.int .u32 i),(.int .i64 j),.ai,(.int .i64 k),(.int .u32 m),(.int .u32 n),(.int .u32 i0),(.int .u32 i1),(.int .u32 i2),(.int .u32 i3),(.int .u32 i4),(.int .u32 i5)] none)::l b
def pK:=o b (.nilck (.t (b-1)))::o (b+1) (.faddr p (.t b))::o (b+2) (.faddr q (.t (b+1)))::l (b+3)
def pL:=gt (b-2) (some b) (.mov (.t p))::l (b+1)
def pM:=(o b (.call (cf p) [(.t (b-1))]),[])::h (b+1)
def pN:=o b (.mov (.c (.int .u32 i)))::l (b+1)
def pO:=gt p (some b) (.mov (.t q))::l (b+1)
def pP:=gt p (some b) (.load false q (.t (b-1)))::l (b+1)
def pQ:=(o b (.faddr p (.t (b-1))),[]):: (o (b+1) (.faddr q (.t b)),[]):: (o (b+2) (.load true r (.t (b+1))),[])::h (b+3)
def pR:=o b (.mkf (.func p) [] [(.t q)])::l (b+1)
def qS:=gt p (some b) (.call (cf q) [(.t (b-2)),(.t (b-1))])::l (b+1)
def qT:=o p (.mov (.t q))::l b
def qU:=(o b (.call (cf p) [(.t (b-1)),(ci i)]),[])::h (b+1)
def qV:=(o b (.faddr 480 (.t (b-1))),[]):: (o (b+1) (.load true 128 (.t b)),[])::h (b+2)
def qW:=(o b (.load false p (.t q)),[])::h (b+1)
def qX:=o b (.alloc jD none)::l (b+1)
def qY:=o p (.alloc [(.int .i64 i),(.int .i64 j)] none)::l b
def qZ:=gf p (some b) (.faddr q (.t (b-1)))::l (b+1)
def ra:=(u (.store p (.t q) (.t (b-1))),[])::h b
def su:=(u (.store p (.t q) (.t r)),[])::h b
def sv:=o b (.load true 128 (.t p))::o (b+1) (.load true 480 (.t q))::l (b+2)
def sw:=gf p (some b) (.mov (.t (b-1)))::l (b+1)
def sx:=gt (b-1) (some b) (.faddr p (.t q))::l (b+1)
def sy:=(o b (.call (cf p) [(.t (b-1))]),[q])::h (b+1)
def sA:=o p (.mov (.c (.int .u8 i)))::l b
def sB:=gf p (some b) (.un .not (.t (b-1)))::l (b+1)
def sD:=(o p (.mov (.t (b-2))),[])::h b
def sE:=(o b (.load true p (.t q)),[r,t])::h (b+1)
def sF:=gf p (some b) (.pick (.t q) (.t (b-1)) (.c (.bool false)))::l (b+1)
def uU:=u (.store p (.t q) (.t (b-2)))::l b
def uV:=(gt p (some b) (.nilck (.t (b-1))),[])::h (b+1)
def uW:=o b (.mov (ci (-p)))::l (b+1)
def uX:=o b (.mkf (.func p) [] [(.t q),(.t r),(.t t)])::l (b+1)
def uY:=o b (.call (.t p) [(.t (b-1))])::l (b+1)
def uZ:=gt p (some b) (.un .not (.t (b-1)))::l (b+1)
def u9:=(o b (.ext (.t p) q),[])::h (b+1)
def vc:=gf (b-1) (some b) (.faddr p (.t q))::l (b+1)
def vd:=o b (.bin .sub (.t (b-1)) (ci i))::l (b+1)
def vf:=o b (.ne .int (.t (b-1)) (.c (.int .u32 i)))::l (b+1)
def vg:=o b (.nilck (.t (b-1)))::l (b+1)
def wL:=o b (.build [(.int .i64 i),(.int .u64 j),(.int .u32 k)] [(p,q,(.t (b-1)))])::l (b+1)
def wN:=o p (.mov (.c (.int .u32 i)))::l b
def wO:=o b (.call (.t (b-2)) [(.t (b-1))])::l (b+1)
def wP:=gt p (some b) (.pick (.t q) (.c (.bool true)) (.t (b-1)))::l (b+1)
def wQ:=gt p (some b) (.mov (.t (b-1)))::l (b+1)
def wR:=o b (.eq .int (.t (b-1)) (.c (.int .u32 i)))::l (b+1)
def wS:=(gt p (some b) (.load false q (.t (b-1))),[])::h (b+1)
def wT:=gt p (some b) (.faddr q (.t (b-1)))::l (b+1)
def wU:=o b (.mov (.c (.int .u8 i)))::l (b+1)
def wV:=gt (b-2) (some b) (.bin .lss (.t (b-1)) (ci i))::l (b+1)
def wW:=o b (.alloc [(.int .i64 i)] none)::l (b+1)
def wX:=o b (.bslice [(.int .u32 i)] p [(q,r,(.t (b-1)))])::l (b+1)
def wY:=o b (.eq .int (.t (b-1)) (.c (.int .u8 i)))::l (b+1)
def wZ:=o b (.alloc wK none)::l (b+1)
def yM:=o b (.call (.t (b-1)) [])::l (b+1)
def yN:=o b (.mov (.c .dZ))::l (b+1)
def yO:=o b (.eq .ptr (.t (b-1)) (.c .dZ))::l (b+1)
def yP:=o b (.bin .add (.t p) (.t (b-1)))::l (b+1)
def yQ:=(u (.store p (.t (b-1)) (.t (b-2))),[])::h b
def yR:=gt p (some b) (.call (cf q) [(.t r),(.t (b-2)),(.t (b-1))])::l (b+1)
def yS:=gt p (some b) (.load false q (.t r))::l (b+1)
def yT:=(o b (.idxs (.t (b-1)) (ci i)),[])::h (b+1)
def yY:=gt p (some b) (.faddr q (.t r))::l (b+1)
def yZ:=(gt (b-1) (some b) (.mov (.t p)),[])::h (b+1)
def y0:=o b (.len .str (.t (b-1)))::l (b+1)
def y3:=gf (b-2) (some b) (.faddr p (.t (b-1)))::l (b+1)
def y4:=o b (.bin .lss (.t p) (.t (b-1)))::l (b+1)
def y5:=o b (.bslice [(.int .i64 i),(.int .i64 j)] p [(q,r,(.t (b-1)))])::l (b+1)
def y6:=o b (.iaddra p q (.t r) (ci i))::l (b+1)
def y7:=o b (.bin .add (.t (b-2)) (.t (b-1)))::l (b+1)
def y8:=o b (.append bZ p q (.t r) (.t (b-1)))::l (b+1)
def y9:=u (.store p (.t (b-1)) (ci i))::l b
def za:=o b (.alloc [.ai] none)::l (b+1)
def zb:=u (.store p (.t (b-1)) (.c (.bool true)))::l b
def zd:=u (.store p (.t (b-1)) (.c (.bool false)))::l b
def ze:=o b (.mov (.c .cJ))::l (b+1)
def Bw:=o b (.ext (.t (b-1)) p)::l (b+1)
def Bx:=gf p (some b) (.len .sl (.t (b-1)))::l (b+1)
def By:=gf (b-2) (some b) (.mov (.t p))::l (b+1)
def Bz:=gt (b-1) (some b) (.load true p (.t q))::l (b+1)
def BA:=(gt (b-1) (some b) (.faddr p (.t q)),[])::h (b+1)
def BB:=o b (.mkf (.func p) [(.t (b-1))] [])::l (b+1)
def BC:=o p (.alloc [(.int .u8 i),(.int .u32 j),(.int .u32 k),(.int .u32 m),(.int .u32 n),(.int .u64 i0)] none)::l b
def BD:=u (.panic (.t (b-1)))::l b
def BE:=gt (b-2) (some b) (.eq .int (.t (b-1)) (ci i))::l (b+1)
def BF:=o b (.conv .u64 (.t (b-1)))::l (b+1)
def BG:=(gt (b-2) (some b) (.load false p (.t (b-1))),[])::h (b+1)
def BH:=(o b (.load true p (.t q)),[r,t,v])::h (b+1)
def BI:=gf p (some b) (.load true q (.t (b-1)))::l (b+1)
def BJ:=o p (.alloc [(.int .u8 i),.ai,(.int .u64 j),(.int .i64 k),(.int .u8 m),(.int .i64 n)] none)::l b
def BK:=gf p (some b) (.call (cf q) [(.t (b-2)),(.t (b-1))])::l (b+1)
def BL:=(o b (.conv .u8 (.t (b-1))),[])::h (b+1)
def BM:=(o b (.call (cf p) [(.t (b-2)),(.t (b-1))]),[])::h (b+1)
def BN:=o b (.append fg p q (.t r) (.t (b-1)))::l (b+1)
def BO:=(o b (.load true p (.t q)),[r,t,v,w])::h (b+1)
def BP:=(o b (.min [(.t (b-1)),(.c (.int .u32 i))]),[])::h (b+1)
def BQ:=o b (.alloc [(.int .i64 i),(.int .i64 j)] none)::l (b+1)
def BR:=o b (.ext (.t (b-2)) p)::l (b+1)
def BS:=o b (.alloc [(.bool false)] none)::l (b+1)
def BT:=(o b (.call (cf p) [(.t q),(.t (b-2)),(.t (b-1))]),[])::h (b+1)
def BU:=(o b (.load false p (.t (b-1))),[q,r,t,v,w])::h (b+1)
def EH:=o b (.bin .rem (.t (b-1)) (ci i))::l (b+1)
def EI:=(o b (.eq .int (.t p) (.t (b-1))),[])::h (b+1)
def EJ:=u (.store p (.t q) (.c (.bool true)))::l b
def EL:=(u (.store p (.t (b-1)) (.c (.bool true))),[])::h b
def EM:=gt (b-2) (some b) (.un .not (.t (b-1)))::l (b+1)
def tid:=o p (.mov (.c .ai))::l b
def EN:=o b (.load true p (.t (b-2)))::l (b+1)
def EO:=gt (b-1) (some b) (.load false p (.t q))::l (b+1)
def ER:=o b (.alloc uT none)::l (b+1)
def ES:=o b (.ne .int (.t (b-2)) (.t (b-1)))::l (b+1)
def ET:=gf p (some b) (.faddr q (.t r))::l (b+1)
def EU:=o b (.bin .rem (.t (b-1)) (.c (.int .u8 i)))::l (b+1)
def EV:=gf (b-1) (some b) (.faddr p (.t q))::gf (b-1) (some (b+1)) (.load false r (.t b))::l (b+2)
def EW:=gt (b-2) (some b) (.load false p (.t (b-1)))::l (b+1)
def EX:=(o b (.conv .u32 (.t (b-1))),[])::h (b+1)
def EY:=o b (.eq .int (.t p) (.t (b-1)))::l (b+1)
def E0:=gf (b-1) (some b) (.load true p (.t q))::l (b+1)
def E2:=o p (.alloc [(.int .u32 i),(.int .u8 j),(.int .u8 k),(.bool false),(.int .u32 m)] none)::l b
def E3:=(o b (.eq .int (.t (b-1)) (.c (.int .u8 i))),[])::h (b+1)
def E4:=gt (b-2) (some b) (.eq .int (.t (b-1)) (.c (.int .u8 i)))::l (b+1)
def E5:=(o b (.load false p (.t (b-1))),[q,r,t,v])::h (b+1)
def E6:=(o b (.call (cf p) [(.t q),(.t r),(.t (b-2)),(.t (b-1))]),[])::h (b+1)
def E7:=(o b (.call (cf p) [(.t (b-2)),(.t (b-1))]),[q])::h (b+1)
def E8:=(o b (.append fg p q (.t r) (.t (b-1))),[])::h (b+1)
def E9:=(o b (.bin .add (.t p) (.t (b-1))),[])::h (b+1)
def Fa:=u (.store p (.t q) (.c (.bool false)))::l b
def Fb:=o b (.iaddrs p (.t q) (.t (b-1)))::l (b+1)
def Fc:=o b (.call (cf p) [(.t q),(.t r),(.t (b-1))])::l (b+1)
def Fe:=(o b (.load true p (.t (b-1))),[q,r])::h (b+1)
def Ff:=o b (.alloc [(.int .u8 i),(.int .u64 j),(.int .u32 k),(.bool false),(.int .u8 m),(.int .u64 n),(.int .u32 i0),(.bool false),(.int .u8 i1),(.int .u64 i2),(.int .u32 i3),(.bool false),(.int .u8 i4),(.int .u64 i5),(.int .u32 i6),(.bool false),(.int .i64 i7),(.int .i64 i8),(.bool false)] none)::l (b+1)
def Fg:=(o b (.call (cf p) [(.t q),(.t r),(.t t),(.t (b-1))]),[])::h (b+1)
def Fh:=o b (.iaddra p q (.t (b-1)) (ci i))::l (b+1)
def Fi:=o p (.alloc jD none)::l b
def Fj:=o b (.build [(.int .i64 i),(.int .i64 j)] [])::l (b+1)
def Fk:=(gt (b-2) (some b) (.nilck (.t (b-1))),[])::h (b+1)
def J6:=gf (b-2) (some b) (.call (cf p) [(.t (b-1))])::l (b+1)
def J7:=o b (.iaddrs p (.t q) (.t r))::l (b+1)
def J8:=o b (.call (.t p) [(.t (b-2)),(.t (b-1))])::l (b+1)
def J9:=(o b (.nilck (.t (b-1))),[]):: (o (b+1) (.faddr p (.t b)),[]):: (o (b+2) (.faddr q (.t (b+1))),[])::h (b+3)
def Ka:=o p (.alloc [.cJ] none)::l b
def Kb:=gt p (some b) (.bin .geq (.t (b-1)) (ci i))::l (b+1)
def Kc:=gt (b-2) (some b) (.bin .geq (.t (b-1)) (ci i))::l (b+1)
def Kd:=(gt p (some b) (.mov (.t q)),[])::h (b+1)
def Ke:=o b (.bin .gtr (.t p) (.t (b-1)))::l (b+1)
def Kf:=o p (.alloc wK none)::l b
def Kg:=o b (.alloc qR none)::l (b+1)
def Kh:=gt (b-2) (some b) (.bin .lss (.t (b-1)) (.c (.int .u8 i)))::l (b+1)
def Ki:=o b (.slsl p (.t q) none (some (.t r)) (some (.t (b-1))))::l (b+1)
def Kj:=o b (.alloc pE none)::l (b+1)
def Kk:=o p (.alloc [(.int .u8 i),(.int .u8 j),(.int .u8 k),(.int .u8 m),(.int .u16 n)] none)::l b
def Kl:=(u (.store p (.t q) (.t r)),[t])::h b
def Km:=gf (b-2) (some b) (.bin .geq (.t (b-1)) (ci i))::l (b+1)
def Kn:=gf (b-2) (some b) (.faddr p (.t q))::l (b+1)
def Ko:=(gt (b-2) (some b) (.mov (.t p)),[])::h (b+1)
def Kq:=(gt (b-1) (some b) (.load false p (.t q)),[])::h (b+1)
def Kr:=(o b (.bin .mul (ci i) (.t (b-1))),[])::h (b+1)
def Ks:=o b (.bin .gtr (.t (b-1)) (.c (.int .u8 i)))::l (b+1)
def Kt:=o b (.lookup .int .cJ (.t p) (.t (b-1)) true)::l (b+1)
def Ku:=(o b (.load false p (.t q)),[r])::h (b+1)
def Kv:=o b (.call (cf p) [(.t (b-2)),(.t (b-1)),(.c (.int .u32 i))])::l (b+1)
def Kw:=gf p (some b) (.len .str (.t (b-1)))::l (b+1)
def Kx:=(o b (.load true p (.t (b-1))),[q,r,t])::h (b+1)
def Ky:=o b (.ne .int (.t (b-1)) (.c (.int .u8 i)))::l (b+1)
def Kz:=o p (.alloc Bv none)::l b
def KA:=o b (.bin .sub (.t p) (.t (b-1)))::l (b+1)
def KB:=(o b (.build [(.int .i64 i),(.int .i64 j)] []),[])::h (b+1)
def KC:=o b (.pick (.t (b-2)) (.t (b-1)) (.c (.bool false)))::l (b+1)
def KD:=o b (.build [(.int .i64 i),(.int .i64 j)] [(p,q,(.t (b-2))),(r,t,(.t (b-1)))])::l (b+1)
def KE:=(o p (.alloc wK none),[q,r,t,v,w])::h b
def KF:=o b (.call (cf p) [])::l (b+1)
def KG:=gt (b-2) (some b) (.load true p (.t (b-1)))::l (b+1)
def KH:=gt p (some b) (.eq .int (.t (b-1)) (ci i))::l (b+1)
def KI:=o b (.iaddra p q (.t r) (.t (b-1)))::l (b+1)
def KJ:=u (.store p (.t q) (ci i))::l b
def KK:=(o b (.bin .add (.t (b-1)) (ci i)),[])::h (b+1)
def KM:=o b (.conv .u8 (.t (b-1)))::l (b+1)
def KN:=(o b (.bin .add (.t (b-2)) (.t (b-1))),[])::h (b+1)
def KO:=o b (.build [(.int .i64 i),(.int .u8 j),(.int .u32 k),(.int .u32 m),(.int .u32 n),(.int .u32 i0),(.int .u64 i1),(.bool false),.ai,(.int .i64 i2),(.int .i64 i3),(.int .i64 i4)] [])::l (b+1)
def KP:=(o b (.bin .sub (.t p) (.t (b-1))),[])::h (b+1)
def KQ:=gf p (some b) (.eq .int (.t (b-1)) (ci i))::l (b+1)
def KR:=o b (.bin .mul (.t (b-1)) (ci i))::l (b+1)
def KT:=o b (.alloc [(.int .u32 i),(.int .i64 j),.ai,(.int .i64 k),(.int .u32 m),(.int .u32 n),(.int .u32 i0),(.int .u32 i1),(.int .u32 i2),(.int .u32 i3),(.int .u32 i4),(.int .u32 i5)] none)::l (b+1)
def KU:=(o p (.mov (.c (.bool true))),[])::h b
def KV:=(o b (.len .sl (.t (b-1))),[])::h (b+1)
def KW:=o b (.call (cf p) [(.t q),(.t r),(.t t),(.t (b-2)),(.t (b-1))])::l (b+1)
def KX:=o b (.mkf (.func p) [] [(.t (b-2))])::l (b+1)
def KY:=o b (.alloc [.ai,(.int .i64 i),(.int .u64 j),(.int .u64 k),(.int .u64 m),(.int .u64 n),(.int .u64 i0),(.int .u64 i1),(.int .u64 i2),(.int .u64 i3)] none)::l (b+1)
def KZ:=u (.oW .int (.t (b-2)) (.c (.int .u8 i)) (.t (b-1)))::l b
def Ry:=gt (b-1) (some b) (.mov (.t p))::l (b+1)
def Rz:=gf (b-1) (some b) (.mov (.t p))::l (b+1)
end
def yJ{α:Type}(k:Nat)(l:Nat->List α)(_:Nat):List α:=l k
def E{α:Type}(_:Nat):List α:=[]
def yX{α:Type}(a:α)(l:Nat->List α)(b:Nat):List α:=a::l b
def N{α:Type}(a:α)(l:Nat->List α)(b:Nat):List α:=a::l (b+1)
def H(l:Nat->List aO)(b:Nat)(p:PC):PC:=.seq (.aL (l b)) p
def yU(l:Nat->List (aO×List Nat))(b:Nat)(p:PC):PC:=.seq (.uq (l b)) p
def G(l:Nat->List aO)(b:Nat):PC:=.aL (l b)
def yW(l:Nat->List (aO×List Nat))(b:Nat):PC:=.uq (l b)
attribute [go_sem] Z Y U V J F C A B L ta tb tc td te tf tg th ti tj tk tl tm tn to tp tq tr ts tt tu tv tw tx ty tz tA tB tC tD tE tF tG tH tI tJ tK tL tM tN tO tP tQ tR tS tT tU tV tW tX tY tZ gq gH gI gJ gV gW gX ik il im iI iJ iK iL ji jk jE jF jG jH jI ka kb kc ke kf kg k9 la lb ld lg lh lU lV lW lY lZ l0 mA mB mC mD mE mF mG m7 m8 m9 na nb nc eB om oo oq ot pF pG pJ pK pL pM pN pO pP pQ pR qS qT qU qV qW qX qY qZ ra su sv sw sx sy sA sB sD sE sF uU uV uW uX uY uZ u9 vc vd vf vg wL wN wO wP wQ wR wS wT wU wV wW wX wY wZ yM yN yO yP yQ yR yS yT yY yZ y0 y3 y4 y5 y6 y7 y8 y9 za zb zd ze Bw Bx By Bz BA BB BC BD BE BF BG BH BI BJ BK BL BM BN BO BP BQ BR BS BT BU EH EI EJ EL EM tid EN EO ER ES ET EU EV EW EX EY E0 E2 E3 E4 E5 E6 E7 E8 E9 Fa Fb Fc Fe Ff Fg Fh Fi Fj Fk J6 J7 J8 J9 Ka Kb Kc Kd Ke Kf Kg Kh Ki Kj Kk Kl Km Kn Ko Kq Kr Ks Kt Ku Kv Kw Kx Ky Kz KA KB KC KD KE KF KG KH KI KJ KK KM KN KO KP KQ KR KT KU KV KW KX KY KZ Ry Rz yJ E yX N H yU G yW
def af6:PC:=
 (.seq (H (Z 18<|il 8<|E) 65
 (.cond (.t 66) .skip (.exit 2)))
 (.seq (.block 3 (.seq (H (Z 8<|B 18 IH<|tr<|tI 15<|N (gf 73 (some 75) (.conv .i64 (.t 74)))<|m7 73 18<|N (gf 73 (some 77) (.eq .int (.t 75) (.t 76)))<|tg 73<|E) 69
   (.cond (.t 78) (G (U 18 18<|N (o 81 (.iaddra 8 1 (.t 11) (.t 79)))<|y9 1 0<|N (o 82 (.iaddra 8 1 (.t 12) (.t 80)))<|y9 1 0<|E) 79) (H (Z 15<|wY 8<|E) 83
     (.cond (.t 84) (G (Z 18<|KI 8 1 12<|tq<|tO 1<|N (o 89 (.iaddra 8 1 (.t 12) (.t 85)))<|iK 1<|E) 85) (G (Z 18<|KI 8 1 11<|tq<|tO 1<|N (o 94 (.iaddra 8 1 (.t 11) (.t 90)))<|iK 1<|E) 90)))))
   (H (tY 2<|E) 19
   (.seq (H (tz 3 7 1<|nb 0<|E) 95
   (.cond (.t 97) (G (tz 3 7 1<|N (o 100 (.bin .quo (ci 7) (.t 99)))<|N (o 101 (.bin .add (ci 2) (.t 100)))<|Y 19<|E) 98) .skip))
   (H (Z 18<|KI 8 1 11<|tq<|nb 7<|tI 18<|N (gf 106 (some 108) (.iaddra 8 1 (.t 12) (.t 107)))<|oq 106 1<|m7 106 19<|N (gf 106 (some 111) (.bin .gtr (.t 109) (.t 110)))<|tg 106<|E) 102
   (.cond (.t 112) (H (V<|E) 6
     .ret) .skip))))))
 (G (Z 18<|tO 1<|Y 18<|E) 67)))
def af7:PC:=
 (.seq (H (U 13 2<|jk<|EH 400<|y4 46<|E) 46
 (.cond (.t 50) .skip (.exit 0)))
 (.seq (.block 1 (H (A 6 7<|B 8 py<|ta 53 53 53<|iJ 53 2<|iJ 53 3<|BJ 14 0 0 0 0 0<|lY 6 14 57<|qT 15 58<|tm 16 17<|E) 54
   (.seq (H (Z 17<|ji 0<|E) 61
   (.cond (.t 62) (H (V<|E) 6
     .ret) .skip))
   (.seq (H (Z 16<|tr<|E) 63
   (.cond (.t 64) (.exit 0) .skip))
   (.seq (H (J<|E) 18
   (.block 2 (.loop af6)))
   (H (Z 8<|B 15 yD<|E) 113
   (G (tt 6 14 6 7<|E) 116)))))))
 (G (Z 13<|tO 1<|Y 13<|E) 51)))
def Fl:PF:=⟨118,[.t 6],
 (H (te 0<|yJ 6<|V<|E) 3
 (H (Z 1<|jk<|EH 101<|N (o 23 (.build [(.int .u8 0),.ai,(.int .u64 0),(.int .i64 0),(.int .u8 0),(.int .i64 0)] [(3,1,(.t 22))]))<|BJ 7 0 0 0 0 0<|tc 6 7<|E) 20
 (.seq (H (A 3 3<|A 6 7<|ik P9<|gJ<|E0 3 3<|J6 P5<|sB 27<|tg 27<|E) 24
 (.cond (.t 31) (H (KF A2<|Y 6<|E) 32
   .ret) .skip))
 (H (A 3 3<|tp P7<|tp P6<|ta 33 33 33<|iJ 33 2<|qT 8 37<|tm 9 10<|E) 34
 (.seq (H (Z 8<|yO<|tI 10<|N (gf 42 (some 44) (.ne .int (.t 43) (ci 0)))<|tg 42<|E) 40
 (.cond (.t 45) (H (V<|E) 6
   .ret) .skip))
 (H (N (o 11 (.alloc [(.int .i64 0),(.int .i64 0),(.int .i64 0),(.int .i64 0),(.int .i64 0),(.int .i64 0),(.int .i64 0),(.int .i64 0)] none))<|N (o 12 (.alloc [(.int .i64 0),(.int .i64 0),(.int .i64 0),(.int .i64 0),(.int .i64 0),(.int .i64 0),(.int .i64 0),(.int .i64 0)] none))<|E) 11
 (.seq (H (J<|E) 13
 (.block 0 (.loop af7)))
 (H (KF A2<|Y 6<|E) 117
 .ret))))))))⟩
def K0:PF:=⟨11,[.t 2],
 (H (tD<|V<|E) 1
 (H (EN 3<|tp Qc<|tQ 2 1 1<|Kw 5<|mA 5 1500<|tg 5<|Y 2<|E) 3
 .ret))⟩
def af8:PC:=
 (.seq (H (Z 6<|tz 2 1 1<|y0<|y4 52<|E) 52
 (.cond (.t 56) .skip (.exit 2)))
 (.seq (.block 3 (H (tz 2 1 1<|Z 6<|N (o 62 (.idxs (.t 60) (.t 61)))<|Y 7<|E) 59
   (H (Z 7<|Ks 8<|tB 7<|Kh 16<|ty 65<|tI 7<|N (gf 69 (some 71) (.bin .gtr (.t 70) (.c (.int .u8 23))))<|tg 69<|E) 63
   (.cond (.t 72) (H (V<|E) 2
     .ret) .skip))))
 (G (Z 6<|tO 1<|Y 6<|E) 57)))
def af9:PC:=
 (.seq (H (Z 3<|tC 1<|pG<|y4 34<|E) 34
 (.cond (.t 38) .skip (.exit 0)))
 (.seq (.block 1 (H (tC 1<|Z 3<|m8 1<|tq<|tp II<|ta 41 41 41<|tm 4 5<|E) 42
   (H (Z 5<|tr<|E) 50
   (.cond (.t 51) (H (V<|E) 2
     .ret) .skip))))
 (G (Z 3<|tO 1<|Y 3<|E) 39)))
def RA:PF:=⟨73,[.t 2],
 (H (tD<|V<|E) 1
 (.seq (H (tu 1<|il 1<|tQ 0 1 1<|mA 11 64<|tg 11<|tQ 1 1 1<|Bx 16<|N (gf 16 (some 20) (.bin .lss (.t 19) (ci 1)))<|tg 16<|tQ 1 1 1<|Bx 22<|mA 22 8<|tg 22<|tQ 2 1 1<|Kw 28<|mA 28 4000<|tg 28<|E) 8
 (.cond (.t 33) (H (V<|E) 2
   .ret) .skip))
 (.seq (H (J<|E) 3
 (.block 0 (.loop af9)))
 (.seq (H (J<|E) 6
 (.block 2 (.loop af8)))
 (H (mF<|E) 2
 .ret)))))⟩
def aga:PC:=
 (H (tE<|E) 22
 (.seq (.cond (.t 22) .skip (.exit 0))
 (.seq (.block 1 (H (im 1 19<|tX 9<|E) 23
   (G (U 7 5<|B 9 yD<|N (o 29 (.bslice [(.int .i64 0)] 1 [(0,1,(.t 28))]))<|N (o 30 (.append ss 1 8 (.t 25) (.t 29)))<|Y 7<|E) 25)))
 (G (tv 21 21<|E) 31))))
def RC:PF:=⟨34,[.t 2,.t 3,.t 4],
 (H (tD<|yN<|ti<|J<|E) 1
 (H (A 3 1<|tp D3<|ta 10 10 10<|tm 5 6<|E) 11
 (.seq (H (Z 6<|ji 0<|E) 15
 (.cond (.t 16) (H (Z 6<|yX (o 2 (.mov (.c .dZ)))<|tid 3<|Y 4<|E) 17
   .ret) .skip))
 (H (ti<|E) 7
 (.seq (H (tz 2 1 1<|tK<|E) 18
 (.block 0 (.loop aga)))
 (H (U 5 7<|tm 2 3<|tP 4 0<|E) 32
 .ret))))))⟩
def RE:PF:=⟨11,[.cell 2 true 3],
 (H (tD<|N (o 2 (.alloc [(.int .i64 0),.ai,.ai] none))<|E) 1
 (H (na 0<|tq<|tC 1<|tz 2 1 1<|N (o 9 (.s2b (.t 8)))<|N (o 10 (.build [(.int .i64 0),.ai,.ai] [(0,1,(.t 4)),(1,1,(.t 6)),(2,1,(.t 9))]))<|tc 3 2<|E) 3
 .ret))⟩
def RF:PF:=⟨18,[.cell 2 true 1274],
 (H (N (o 2 (.alloc mz none))<|E) 2
 (.seq (H (Z 0<|yO<|E) 4
 (.cond (.t 5) (H (N (o 6 (.build mz []))<|tc 1274 2<|E) 6
   .ret) .skip))
 (H (gI 0 0 1<|vg<|tj 1274<|yX (o 3 (.alloc mz none))<|tc 1274 3<|E) 7
 (H (tz 1273 3 1<|tp Qe<|td 1273 3<|iK 1<|E) 13
 (H (tt 1274 3 1274 2<|E) 17
 .ret)))))⟩
def K1:PF:=⟨6,[.t 2],
 (H (tD<|ti<|E) 1
 (H (na 0<|m9<|tp iH<|Y 2<|E) 3
 .ret))⟩
def K2:PF:=⟨13,[.t 4],
 (H (tb<|tb<|V<|E) 2
 (H (A 3 2<|tp P4<|tQ 1 3 1<|Bx 7<|mA 7 100<|tg 7<|Y 4<|E) 5
 .ret))⟩
def agb:PC:=
 (.seq (H (Z 3<|il 3<|E) 31
 (.cond (.t 32) .skip (.exit 0)))
 (.seq (.block 1 (H (Z 1<|N (o 36 (.call (cf yD) [(.t 35),(.c (.int .u8 0))]))<|ji 0<|E) 35
   (.cond (.t 37) (H (V<|E) 0
     .ret) .skip)))
 (G (Z 3<|tO 1<|Y 3<|E) 33)))
def RG:PF:=⟨115,[.t 0],
 (H (V<|E) 0
 (H (N (o 20 (.bslice [(S [])] 1 [(0,1,(.c (S [1,6,0,0,2,0,38,0,0,0,0,0])))]))<|N (o 21 (.build [(.int .i64 0),.ai,.ai] [(0,1,(ci 2)),(1,1,(.t 20))]))<|tp D3<|ta 19 19 19<|tm 1 2<|E) 20
 (.seq (H (Z 2<|ji 0<|tI 1<|N (gf 27 (some 29) (.eq .ptr (.t 28) (.c .dZ)))<|tg 27<|E) 25
 (.cond (.t 30) (H (V<|E) 0
   .ret) .skip))
 (.seq (H (J<|E) 3
 (.block 0 (.loop agb)))
 (H (N (o 38 (.build [(.int .u8 0),.ai,(.int .u64 0),(.int .i64 0),(.int .u8 0),(.int .i64 0)] []))<|BJ 4 0 0 0 0 0<|tc 6 4<|E) 38
 (H (A 6 4<|B 1 py<|ta 39 39 39<|iJ 39 2<|iJ 39 3<|lY 6 4 43<|qT 5 44<|tm 6 7<|E) 40
 (H (A 6 4<|B 1 py<|ta 47 47 47<|iJ 47 2<|iJ 47 3<|lY 6 4 51<|qT 8 52<|tm 9 10<|E) 48
 (H (A 6 4<|B 1 py<|ta 55 55 55<|iJ 55 2<|iJ 55 3<|BJ 11 0 0 0 0 0<|lY 6 11 59<|qT 12 60<|tm 13 14<|E) 56
 (H (N (o 64 (.build [(.int .u8 0),.ai,(.int .u64 0),(.int .i64 0),(.int .u8 0),(.int .i64 0)] [(0,1,(.c (.int .u8 3)))]))<|B 1 py<|ta 63 63 63<|iJ 63 2<|iJ 63 3<|BJ 15 0 0 0 0 0<|lY 6 15 67<|qT 16 68<|tm 17 18<|E) 64
 (H (Z 6<|tB 7<|BE 0<|ty 72<|tB 5<|E4 0<|ty 76<|tB 9<|KC<|tB 10<|BE 0<|ty 83<|tB 8<|E4 2<|ty 87<|tB 13<|KC<|tB 14<|BE 0<|ty 94<|tB 12<|E4 0<|ty 98<|tB 17<|EM<|ty 102<|tB 18<|BE 2<|ty 106<|gJ<|N (gt 110 (some 111) (.bslice [(.int .u8 0)] 5 [(0,1,(.c (.int .u8 1))),(1,1,(.c (.int .u8 0))),(2,1,(.c (.int .u8 1))),(3,1,(.c (.int .u8 1))),(4,1,(.c (.int .u8 0)))]))<|N (gt 110 (some 112) (.call (cf IJ) [(.t 111),(.c (.int .u8 0))]))<|KH 110 2<|tH 110 0<|E) 71
 .ret))))))))))⟩
def w4:PF:=⟨29,[.t 2],
 (H (tD<|V<|E) 1
 (H (N (o 6 (.load false 1 (.c (.dg uR))))<|tu 1<|Kt 6<|ta 5 5 5<|tm 3 4<|E) 6
 (H (Z 4<|gX 1 1 1<|N (gt 13 (some 16) (.len .sl (.t 15)))<|N (gt 13 (some 17) (.bin .leq (.t 16) (ci 16)))<|ty 13<|gX 3 1 1<|Kb 19 0<|ty 19<|gX 3 1 1<|N (gt 24 (some 27) (.bin .leq (.t 26) (ci 100)))<|tH 24 2<|E) 12
 .ret)))⟩
def agc:PC:=
 (H (N (o 23 (.bin .lss (.t 22) (.c (.int .u8 8))))<|E) 23
 (.seq (.cond (.t 23) .skip (.exit 1))
 (.seq (.block 2 (H (gH<|Y 9<|E) 24
   (H (U 1 9<|jk<|tF IH 25<|E) 25
   (.cond (.t 28) (G (U 8 9<|N (o 31 (.bslice [(.int .u8 0)] 1 [(0,1,(.t 30))]))<|N (o 32 (.append af2 1 1 (.t 29) (.t 31)))<|Y 8<|E) 29) .skip))))
 (G (N (o 33 (.bin .add (.t 22) (.c (.int .u8 1))))<|Y 22<|E) 33))))
def Fo:PF:=⟨82,[.cell 4 true 6,.t 5,.t 6,.t 7],
 (H (tb<|yJ 4<|N (o 4 (.alloc [(.int .u8 0),.ai,(.int .u64 0),(.int .i64 0),(.int .u8 0),(.int .i64 0)] none))<|wU 0<|V<|J<|E) 2
 (.seq (.block 0 (H (Z 1<|yO<|Y 13<|E) 14
   (.cond (.t 13) (H (tt 6 2 6 4<|sA 5 0<|om 6<|tP 7 1<|E) 16
     .ret) (H (A 6 2<|tp A3<|tr<|Y 17<|E) 18
     (.cond (.t 17) (H (tt 6 2 6 4<|sA 5 0<|om 6<|tP 7 2<|E) 21
       .ret) .skip)))))
 (H (ti<|E) 8
 (.seq (H (wU 0<|E) 22
 (.block 1 (.loop agc)))
 (H (tw 1 P8<|N (o 36 (.fld false 1 1273 (.t 35)))<|pG<|nb 0<|Y 10<|E) 34
 (H (tz 3 2 1<|nb 0<|gX 5 2 1<|yY 42 3 2<|pP 42 1<|N (gt 42 (some 47) (.bin .geq (.t 44) (.t 46)))<|tH 42 11<|E) 39
 (.seq (.block 3 (H (Z 10<|tB 11<|N (gt 51 (some 53) (.mov (.t 52)))<|Rz 8<|N (gf 53 (some 55) (.len .sl (.t 54)))<|KQ 53 0<|wP 51 53<|tH 51 49<|E) 50
   (.cond (.t 49) (H (td 5 2<|y9 1 0<|E) 59
     (H (tt 6 2 6 4<|sA 5 8<|ot 6<|tP 7 0<|E) 60
     .ret)) (H (jI 8<|lZ 0<|Y 61<|E) 62
     (.cond (.t 61) (H (tt 6 2 6 4<|sA 5 0<|om 6<|tP 7 0<|E) 65
       .ret) .skip)))))
 (H (N (o 66 (.load false 1 (.c (.dg uR))))<|tu 2<|N (o 69 (.lookup .int .cJ (.t 66) (.t 68) false))<|Z 8<|N (o 71 (.call (.t 69) [(.t 2),(.t 70)]))<|Y 12<|E) 66
 (H (Z 12<|N (o 73 (.bin .add (.t 72) (.c (.int .u8 1))))<|td 4 2<|iK 1<|E) 72
 (H (tz 5 2 1<|tO 1<|N (o 78 (.min [(.t 77),(ci 100)]))<|td 5 2<|iK 1<|E) 75
 (H (A 6 2<|Z 12<|tA 6 4 5<|ot 6<|tP 7 0<|E) 80
 .ret)))))))))))⟩
def sG:PF:=⟨69,[.t 4],
 (H (J<|E) 4
 (.seq (H (Z 1<|EU 8<|jk<|Y 5<|E) 6
 (.block 0 (H (Z 0<|yO<|Y 19<|E) 20
   (.cond (.t 19) (H (tY 1<|E) 4
     .ret) (H (Z 1<|Ks 8<|tB 1<|Kh 16<|ty 25<|tI 1<|N (gf 29 (some 31) (.bin .geq (.t 30) (.c (.int .u8 24))))<|tg 29<|Y 22<|E) 23
     (.cond (.t 22) (H (tY 2<|E) 4
       .ret) (H (Z 1<|wY 8<|Y 33<|E) 34
       (.cond (.t 33) (.seq (H (gI 0 0 1<|tp Qf<|tr<|E) 36
         (.cond (.t 41) (H (tY 10<|E) 4
           .ret) .skip))
         (G (gI 0 193 1<|tO 1<|tT 42<|ts 193<|tl 1 46<|E) 42)) (H (Z 0<|B 5 A6<|tr<|Y 49<|E) 50
         (.cond (.t 49) (H (tY 12<|E) 4
           .ret) (H (Z 1<|N (o 56 (.bin .geq (.t 55) (.c (.int .u8 16))))<|Y 54<|E) 55
           (.cond (.t 54) (H (gI 0 193 1<|tO 1<|tT 57<|ts 193<|tl 1 61<|E) 57
             (G (Z 0<|B 5 Qg<|E) 64)) (H (gI 0 193 1<|tO 1<|tT 9<|ts 193<|tl 1 13<|E) 9
             (G (Z 0<|B 5 Qh<|E) 16))))))))))))))
 (H (tw 0 IK<|E) 67
 (H (J<|E) 4
 .ret))))⟩
def Fp:PF:=⟨19,[.t 4],
 (H (V<|E) 4
 (H (Z 0<|B 1 IM<|tB 0<|pL 1<|qS 8 A6<|ty 8<|tB 0<|pL 1<|qS 13 Qi<|uZ 13<|tH 13 4<|E) 5
 .ret))⟩
def agd:PC:=
 (H (tE<|E) 25
 (.seq (.cond (.t 25) .skip (.exit 0))
 (.seq (.block 1 (H (gH<|J7 1 22 24<|tq<|qT 5 26<|Y 6<|E) 26
   (yW (F 4<|F 5<|F 6<|sy Qm 0<|tR 29 29 29<|lg 30 1<|mE 8 24 31<|lU<|tL 10 34<|E) 30)))
 (G (tv 24 24<|E) 40))))
def RH:PF:=⟨42,[.t 2,.t 3],
 (H (tD<|yN<|J<|E) 1
 (.seq (H (A 3 1<|tp Qj<|tr<|E) 7
 (.cond (.t 9) (H (yN<|tY 3<|E) 2
   .ret) .skip))
 (H (N (o 10 (.build J4 []))<|tD<|Y 4<|E) 10
 (H (Z 4<|tu 1<|tp Qk<|ta 12 12 12<|tT 13<|tx<|tl 1 17<|E) 13
 (.seq (H (tC 1<|tK<|E) 21
 (.block 0 (.loop agd)))
 (H (tG 4 2<|tP 3 0<|E) 41
 .ret))))))⟩
def K3:PF:=⟨16,[.t 4],
 (H (tb<|yJ 4<|V<|E) 2
 (H (Z 1<|N (o 7 (.build [(.int .i64 0),(.int .i64 0)] [(0,1,(.t 6)),(1,1,(ci 1))]))<|qY 5 0 0<|tc 2 5<|E) 6
 (H (A 2 5<|tp D5<|gX 0 2 1<|N (gt 10 (some 13) (.mkf (.func IQ) [] [(.t 5)]))<|qS 10 Qn<|tH 10 4<|E) 8
 .ret)))⟩
def K4:PF:=⟨30,[.cell 4 true 12,.t 5],
 (H (tb<|yJ 4<|KT 0 0 0 0 0 0 0 0 0 0 0<|J<|E) 2
 (.seq (H (ld 2<|Z 1<|la<|E) 9
 (.cond (.t 14) (H (N (o 15 (.build [(.int .u32 0),(.int .i64 0),.ai,(.int .i64 0),(.int .u32 0),(.int .u32 0),(.int .u32 0),(.int .u32 0),(.int .u32 0),(.int .u32 0),(.int .u32 0),(.int .u32 0)] []))<|tJ 12 4 5 4<|E) 15
   .ret) .skip))
 (H (tw 1 lT<|ta 16 16 16<|tm 6 7<|E) 17
 (H (Z 6<|td 96 2<|ke 32 12<|tj 12<|pJ 8 0 0 0 0 0 0 0 0 0 0 0<|tc 12 8<|E) 21
 (H (to 2<|B 1 IT<|td 0 8<|iK 1<|E) 25
 (H (A 12 8<|tJ 12 4 5 0<|E) 29
 .ret))))))⟩
def age:PC:=
 (.block 1 (G (C 3<|tC 5<|yP 10<|tc 1 3<|E) 10))
def RI:PF:=⟨15,[.t 2],
 (H (tD<|J<|E) 1
 (H (wW 0<|y9 1 0<|E) 3
 (.seq (H (A 2 1<|tp IU<|E) 6
 (.block 0 (.ia (.t 7) [8,9] (G (BQ 0 0<|tl 2 9<|E) 5) age)))
 (H (C 3<|Y 2<|E) 14
 .ret))))⟩
def zf:PF:=⟨34,[.cell 4 true 12,.t 5],
 (H (N (o 4 (.alloc [(.int .i64 0),(.int .u8 0),(.int .u32 0),(.int .u32 0),(.int .u32 0),(.int .u32 0),(.int .u64 0),(.bool false),.ai,(.int .i64 0),(.int .i64 0),(.int .i64 0)] none))<|V<|E) 4
 (.seq (H (Z 0<|B 1 IM<|tr<|tI 0<|By 1<|N (gf 11 (some 14) (.nilck (.t 12)))<|qZ 11 1<|N (gf 11 (some 16) (.iaddra 8 24 (.t 15) (.t 13)))<|qZ 11 22<|oq 11 1<|sB 11<|tg 11<|E) 7
 (.cond (.t 20) (H (KO 0 0 0 0 0 0 0 0 0 0<|tc 12 4<|om 5<|E) 21
   .ret) .skip))
 (H (U 0 1<|tU<|ts 1<|lh 8 24 23<|ts 10<|tj 12<|yX (o 6 (.alloc [(.int .i64 0),(.int .u8 0),(.int .u32 0),(.int .u32 0),(.int .u32 0),(.int .u32 0),(.int .u64 0),(.bool false),.ai,(.int .i64 0),(.int .i64 0),(.int .i64 0)] none))<|tc 12 6<|E) 22
 (H (tz 8 6 1<|tp Qo<|td 8 6<|iK 1<|E) 29
 (H (tt 12 6 12 4<|ot 5<|E) 33
 .ret)))))⟩
def agf:PC:=
 (.seq (H (Z 3<|tC 1<|pG<|y4 14<|E) 14
 (.cond (.t 18) .skip (.exit 0)))
 (.seq (.block 1 (H (tC 1<|Z 3<|m8 1<|tq<|y0<|nb 1000<|E) 21
   (.cond (.t 27) (H (mF<|E) 2
     .ret) .skip)))
 (G (Z 3<|tO 1<|Y 3<|E) 19)))
def Fs:PF:=⟨28,[.t 2],
 (H (tD<|V<|E) 1
 (.seq (H (tC 1<|pG<|nb 20<|tQ 2 1 1<|Kw 8<|mA 8 6000<|tg 8<|E) 4
 (.cond (.t 13) (H (mF<|E) 2
   .ret) .skip))
 (.seq (H (J<|E) 3
 (.block 0 (.loop agf)))
 (H (V<|E) 2
 .ret))))⟩
def agh:PC:=
 (.seq (H (Z 0<|y0<|k9 6<|E) 5
 (.cond (.t 7) .skip (.exit 0)))
 (.block 1 (yU (F 4<|F 0<|yT 0<|lV<|F 0<|yT 1<|lV<|F 0<|yT 2<|lV<|F 0<|yT 3<|lV<|F 0<|yT 4<|lV<|F 0<|yT 5<|lV<|Kr 256<|E9 23<|N (o 29 (.build [(.int .i64 0),(.int .i64 0),(.int .i64 0),(.int .i64 0),(.int .i64 0)] [(0,1,(.t 11)),(1,1,(.t 14)),(2,1,(.t 17)),(3,1,(.t 20)),(4,1,(.t 28))]),[])<|N (o 30 (.bslice [(.int .i64 0),(.int .i64 0),(.int .i64 0),(.int .i64 0),(.int .i64 0)] 1 [(0,5,(.t 29))]),[])<|N (o 31 (.append af3 5 40 (.t 8) (.t 30)),[])<|tn 4<|E) 8
   (G (Z 0<|N (o 33 (.slstr (.t 32) (some (ci 6)) none))<|Y 0<|E) 32))))
def RJ:PF:=⟨43,[.t 2,.t 3],
 (H (ti<|V<|E) 2
 (H (ti<|E) 4
 (.seq (.block 0 (.loop agh))
 (.seq (H (Z 0<|y0<|nb 0<|tI 4<|J6 Qp<|sB 37<|tg 37<|E) 34
 (.cond (.t 41) (H (ti<|V<|E) 2
   .ret) .skip))
 (H (tG 4 2<|ot 3<|E) 42
 .ret)))))⟩
def RK:PF:=⟨23,[.t 4],
 (.seq (.aL [o 2 (.box (.t 0) none),o 4 (.mov (.c (.bool false)))])
 (.seq (.aL [o 8 (.mov (.t 1)),o 9 (.call (cf lT) [(.t 8)]),o 7 (.mov (.t 9)),o 10 (.ext (.t 7) 0),o 11 (.ext (.t 7) 1),o 5 (.mov (.t 10)),o 6 (.mov (.t 11))])
 (.seq (.aL [o 12 (.mov (.t 6)),o 13 (.mov (.t 12)),gt 13 (some 14) (.mov (.t 5)),gt 13 (some 15) (.faddr 0 (.t 2)),gt 13 (some 16) (.iaddra 32 3 (.t 15) (.t 14)),gt 13 (some 17) (.load true 3 (.t 16)),gt 13 (some 18) (.mov (.t 1)),gt 13 (some 19) (.shf .shr (.t 18) (.c (.int .u64 8))),gt 13 (some 20) (.build [(.int .u32 0),(.bool false),(.bool false)] [(0,1,(.t 19)),(1,1,(.c (.bool true)))]),gt 13 (some 21) (.eq (.agg [.int,.bool,.bool]) (.t 17) (.t 20)),o 22 (.pick (.t 13) (.t 21) (.c (.bool false))),o 4 (.mov (.t 22))])
 .ret)))⟩
def RL:PF:=⟨7,[.cell 0 true 952],
 (H (Kj<|E) 0
 (H (Kj<|E) 1
 (H (ts 936<|Fh 8 1 0<|zb 1<|td 944 1<|Fh 8 1 0<|zb 1<|E) 2
 (H (tt 952 1 952 0<|E) 6
 .ret))))⟩
def Ft:PF:=⟨26,[.t 6],
 (H (te 0<|yJ 5<|te 2<|J<|E) 3
 (H (A 952 3<|tN 1 6 5<|N (o 11 (.build J5 [(0,952,(.t 8)),(952,1,(.t 9)),(953,6,(.t 10)),(962,1,(.c (.bool true)))]))<|tD<|Y 7<|E) 8
 (.seq (H (tu 5<|Ky 2<|tI 7<|J6 wD<|N (gf 16 (some 19) (.fld false 1 0 (.t 18)))<|N (gf 16 (some 20) (.ne .int (.t 19) (ci 0)))<|tg 16<|E) 13
 (.cond (.t 21) (H (J<|E) 6
   .ret) .skip))
 (H (gI 7 961 1<|Y 6<|E) 22
 .ret))))⟩
def Fu:PF:=⟨35,[.cell 8 true 952,.cell 9 true 3,.t 10],
 (H (te 0<|yJ 6<|te 2<|te 3<|Kj<|tZ<|ti<|E) 4
 (H (A 952 4<|tN 1 6 6<|A 2 7<|N (o 17 (.build J5 [(0,952,(.t 13)),(952,1,(.t 14)),(953,6,(.t 15)),(959,2,(.t 16))]))<|tD<|Y 11<|E) 13
 (H (tw 11 wD<|yX (o 12 (.alloc [(.int .i64 0),(.int .u64 0),(.int .u32 0)] none))<|tc 3 12<|E) 19
 (.seq (H (tu 12<|ji 0<|E) 21
 (.cond (.t 23) (yU (jE 952 4<|tW 3 12 0<|yX (u (.store 952 (.t 8) (.t 24)),[1])<|ra 3 9<|yX (o 10 (.mov (.c .ai)),[])<|E) 24
   .ret) .skip))
 (yU (L 11 0<|jG 952<|tW 3 12 3<|L 11 963<|tM 1 3 4<|yX (u (.store 952 (.t 8) (.t 29)),[4,8])<|Kl 3 9 30 8<|tn 10<|E) 26
 .ret)))))⟩
def zg:PF:=⟨8,[.t 2],
 (H (ti<|E) 2
 (.seq (H (Z 0<|N (o 4 (.eq .sl (.t 3) (.c .ai)))<|E) 3
 (.cond (.t 4) (H (ti<|E) 2
   .ret) .skip))
 (H (N (o 5 (.bslice [(.int .i64 0)] 0 []))<|Z 0<|N (o 7 (.append my 1 8 (.t 5) (.t 6)))<|Y 2<|E) 5
 .ret)))⟩
def agi:PC:=
 (H (il 32<|E) 8
 (.seq (.cond (.t 8) .skip (.exit 0))
 (.seq (.block 1 (H (gH<|Y 4<|E) 9
   (H (A 96 1<|B 4 Qq<|ta 10 10 10<|tm 5 6<|E) 11
   (H (Z 6<|E) 16
   (.cond (.t 16) (G (U 3 5<|wX 1 0 1 0<|y8 1 4 17<|Y 3<|E) 17) .skip)))))
 (G (tv 7 7<|E) 21))))
def K5:PF:=⟨23,[.t 2],
 (H (tD<|ti<|E) 1
 (H (ti<|E) 3
 (.seq (H (J<|E) 7
 (.block 0 (.loop agi)))
 (H (tG 3 2<|E) 22
 .ret))))⟩
def agj:PC:=
 (H (tE<|E) 12
 (.seq (.cond (.t 12) .skip (.exit 0))
 (.seq (.block 1 (H (im 1 9<|tX 8<|E) 13
   (H (Z 6<|tO 1<|Y 6<|E) 15
   (.seq (H (U 8 1<|oo<|E) 17
   (.cond (.t 19) (G (J<|E) 6) .skip))
   (G (U 5 6<|N (o 22 (.max [(.t 20),(.t 21)]))<|Y 5<|E) 20)))))
 (G (tv 11 11<|E) 23))))
def RM:PF:=⟨25,[.t 4],
 (H (J<|E) 4
 (H (J<|J<|E) 5
 (.seq (H (Z 0<|tK<|E) 9
 (.block 0 (.loop agj)))
 (H (tG 5 4<|E) 24
 .ret))))⟩
def K6:PF:=⟨28,[.t 2],
 (H (V<|E) 2
 (.seq (H (gI 0 1273 1<|pG<|lZ 0<|E) 3
 (.cond (.t 8) (H (V<|E) 2
   .ret) .skip))
 (yU (L 0 952<|tf<|L 0 1273<|iL 1 3<|N (o 17 (.iaddrs 1 (.t 16) (ci 0)),[])<|iL 1 3<|jH Qr 12<|E) 9
 (H (Z 0<|gI 0 1273 1<|N (o 25 (.slsl 1 (.t 24) (some (ci 1)) none none))<|tT 20<|ts 1273<|tl 1 25<|E) 20
 (H (mF<|E) 2
 .ret)))))⟩
def K7:PF:=⟨23,[.t 4],
 (H (V<|E) 4
 (H (Z 1<|k9 0<|tB 1<|wV 8<|ty 7<|tB 0<|N (gt 11 (some 13) (.nilck (.t 12)))<|wT 11 0<|pP 11 1<|pO 11 1<|N (gt 11 (some 17) (.nilck (.t 15)))<|wT 11 0<|wT 11 936<|N (gt 11 (some 20) (.iaddra 8 1 (.t 19) (.t 16)))<|pP 11 1<|tH 11 4<|E) 5
 .ret))⟩
def agk:PC:=
 (H (tE<|E) 43
 (.seq (.cond (.t 43) .skip (.exit 2))
 (.seq (.block 3 (H (gH<|Y 10<|E) 44
   (yW (L 0 0<|tf<|L 0 0<|iL 1 3<|iI 1273<|iL 1 3<|tk 0 9<|eB 1 3 7 10<|F 10<|KN<|N (o 60 (.bslice [(.int .i64 0)] 1 [(0,1,(.t 59))]),[])<|N (o 61 (.append my 1 8 (.t 55) (.t 60)),[3])<|lg 48 1273<|tL 1 61<|E) 45)))
 (G (tv 42 42<|E) 64))))
def agl:PC:=
 (H (tE<|E) 37
 (.seq (.cond (.t 37) .skip (.exit 0))
 (.seq (.block 1 (H (im 2 34<|tj 2<|qY 9 0 0<|tc 2 9<|E) 38
   (H (tC 9<|J<|E) 40
   (.block 2 (.loop agk)))))
 (G (tv 36 36<|E) 65))))
def RN:PF:=⟨88,[],
 (H (N (o 11 (.build [(.int .u8 0),(.int .u32 0),(.int .u32 0),(.int .u32 0),(.int .u32 0),(.int .u64 0)] [(0,1,(.c (.int .u8 20)))]))<|BC 4 0 0 0 0 0 0<|tc 6 4<|E) 11
 (yU (L 0 0<|tf<|iI 0<|jG 952<|F 1<|sE 6 4 3 6<|KB 0 0<|E6 A5 19 20<|tR 12 12 12<|u9 12 2<|yX (o 5 (.alloc pE none),[3,6,8,10])<|yX (o 6 (.alloc [(.int .i64 0),(.int .u64 0),(.int .u32 0)] none),[3,6,8,10,15])<|su 952 5 24<|jF 3 6<|tn 7<|E) 13
 (yU (L 0 0<|tf<|tW 952 5 3<|N (o 32 (.nilck (.t 30)),[])<|lU<|tL 952 31<|E) 27
 (.seq (H (Z 7<|tK<|E) 34
 (.block 0 (.loop agl)))
 (yW (F 0<|L 0 194<|tf<|F 1<|tW 6 4 4<|KB 0 0<|sE 3 6 4 6<|L 0 193<|eB 1 4 6 8<|L 0 193<|E5 1 4 6 8 12<|N (o 83 (.build [(.int .i64 0),(.int .u8 0),(.int .u32 0),(.int .u32 0),(.int .u32 0),(.int .u32 0),(.int .u64 0),(.int .i64 0),(.int .i64 0),(.int .i64 0),(.int .u64 0),(.int .u32 0),(.int .i64 0),(.int .i64 0)] [(0,1,(.t 71)),(1,6,(.t 72)),(7,2,(.t 73)),(9,3,(.t 74)),(12,1,(.t 78)),(13,1,(.t 82))]),[])<|N (o 84 (.bslice [(.int .i64 0),(.int .u8 0),(.int .u32 0),(.int .u32 0),(.int .u32 0),(.int .u32 0),(.int .u64 0),(.int .i64 0),(.int .i64 0),(.int .i64 0),(.int .u64 0),(.int .u32 0),(.int .i64 0),(.int .i64 0)] 1 [(0,14,(.t 83))]),[])<|N (o 85 (.append pD 14 96 (.t 70) (.t 84)),[])<|lg 66 194<|tL 1 85<|E) 66)))))⟩
def Fv:PF:=⟨57,[],
 (H (U 0 1<|tU<|ts 1<|lh 8 24 8<|Y 4<|E) 7
 (H (nc 4<|tx<|tj 10<|tp D6<|ta 12 12 12<|BC 5 0 0 0 0 0 0<|tA 6 5 6<|E) 13
 (.block 0 (H (gI 4 22 1<|Y 28<|E) 29
   (.cond (.t 28) (G (Z 0<|B 1 IV<|E) 33) (H (tG 6 36<|E) 37
     (.cond (.t 36) (yU (F 4<|F 4<|F 4<|F 1<|jE 6 5<|N (o 43 (.build [(.int .i64 0),(.int .u8 0),(.int .u32 0),(.int .u32 0),(.int .u32 0),(.int .u32 0),(.int .u64 0),(.bool false),.ai,(.int .i64 0),(.int .i64 0),(.int .i64 0)] [(0,1,(.t 41)),(1,6,(.t 42))]),[])<|L 0 193<|iL 1 4<|lg 38 10<|tL 12 43<|lg 39 22<|EL 1<|lg 40 23<|tL 1 47<|E) 38
       (G (Z 0<|B 1 IV<|E) 54)) (G (Z 4<|nc 4<|tx<|tj 10<|tp Qs<|tT 20<|tx<|tl 10 25<|E) 20))))))))⟩
def agm:PC:=
 (H (il 8<|E) 5
 (.seq (.cond (.t 5) .skip (.exit 0))
 (.seq (.block 1 (H (gH<|Y 2<|E) 6
   (H (U 0 2<|tU<|ts 1<|lh 8 24 8<|Y 3<|E) 7
   (H (gI 3 22 1<|tB 0<|pL 2<|qS 16 A6<|uZ 16<|ty 16<|E) 12
   (.cond (.t 21) (yU (L 0 0<|tf<|L 3 10<|kg 12 3<|jH IW 25<|E) 22
     (G (U 3 3<|KO 0 0 0 0 0 0 0 0 0 0<|tT 31<|ts 22<|zd 1<|tT 32<|ts 10<|tl 12 33<|E) 31)) .skip)))))
 (G (tv 4 4<|E) 38))))
def RP:PF:=⟨39,[],
 (H (J<|E) 4
 (.block 0 (.loop agm)))⟩
def K8:PF:=⟨15,[.t 4],
 (H (V<|E) 4
 (H (Z 0<|N (o 6 (.ne .ptr (.t 5) (.c .dZ)))<|tB 1<|Kc 0<|ty 7<|tB 1<|wV 8<|tH 11 4<|E) 5
 .ret))⟩
def BV:PF:=⟨37,[.t 4],
 (H (V<|E) 4
 (H (Z 0<|B 1 Qb<|ta 7 7 7<|yX (o 5 (.alloc [(.int .i64 0),(.int .u8 0),(.int .u32 0),(.int .u32 0),(.int .u32 0),(.int .u32 0),(.int .u64 0),(.bool false),.ai,(.int .i64 0),(.int .i64 0),(.int .i64 0)] none))<|tA 12 5 6<|E) 8
 (yU (F 6<|lW<|yZ 0<|Ko 1<|N (gt 14 (some 17) (.call (cf A6) [(.t 15),(.t 16)]),[])<|mG 14<|lW<|BA 7 5<|BG 1<|N (gt 19 (some 22) (.un .not (.t 21)),[])<|mG 19<|lW<|yZ 0<|Fk<|gW 24 0<|wS 24 1<|uV 24<|gW 24 0<|N (gt 24 (some 31) (.load true 952 (.t 30)),[])<|Kd 24 1<|N (gt 24 (some 33) (.faddr 1 (.t 5)),[])<|N (gt 24 (some 34) (.load true 6 (.t 33)),[15,18])<|N (gt 24 (some 35) (.call (cf IP) [(.t 31),(.t 32),(.t 34)]),[])<|mG 24<|tn 4<|E) 13
 .ret)))⟩
def RQ:PF:=⟨41,[.t 2],
 (H (tD<|V<|E) 1
 (H (tC 1<|pG<|Y 3<|E) 5
 (.seq (H (tu 1<|il 1<|tQ 0 1 1<|mA 11 64<|tg 11<|tI 3<|N (gf 16 (some 18) (.bin .lss (.t 17) (ci 1)))<|tg 16<|tI 3<|N (gf 20 (some 22) (.bin .gtr (.t 21) (ci 8)))<|tg 20<|tQ 2 1 1<|Bx 24<|mA 24 4000<|tg 24<|E) 8
 (.cond (.t 29) (H (V<|E) 2
   .ret) .skip))
 (H (N (o 4 (.mov (cf IX)))<|E) 4
 (H (tC 1<|B 4 Qt<|tr<|gX 2 1 1<|N (gt 35 (some 38) (.call (cf Qu) [(.t 37),(cf IY)]))<|uZ 35<|tH 35 2<|E) 30
 .ret)))))⟩
def RR:PF:=⟨18,[.t 2,.t 3],
 (H (yN<|J<|E) 2
 (H (tw 0 Qw<|ta 6 6 6<|tm 4 5<|E) 7
 (.seq (H (Z 5<|ji 0<|E) 11
 (.cond (.t 12) (H (Z 5<|yX (o 2 (.mov (.c .dZ)))<|Y 3<|E) 13
   .ret) .skip))
 (H (KF Qd<|Z 4<|N (o 16 (.build mz [(0,952,(.t 14)),(952,1,(.t 15))]))<|tD<|Y 2<|tP 3 0<|E) 14
 .ret))))⟩
def Fw:PF:=⟨17,[.cell 2 true 10,.t 3],
 (H (KY 0 0 0 0 0 0 0 0 0<|J<|E) 2
 (H (tw 0 D7<|ta 6 6 6<|tm 4 5<|E) 7
 (.seq (H (Z 5<|ji 0<|E) 11
 (.cond (.t 12) (H (N (o 13 (.build [.ai,(.int .i64 0),(.int .u64 0),(.int .u64 0),(.int .u64 0),(.int .u64 0),(.int .u64 0),(.int .u64 0),(.int .u64 0),(.int .u64 0)] []))<|Z 5<|tA 10 2 3<|E) 13
   .ret) .skip))
 (H (Z 4<|N (o 16 (.build [.ai,(.int .i64 0),(.int .u64 0),(.int .u64 0),(.int .u64 0),(.int .u64 0),(.int .u64 0),(.int .u64 0),(.int .u64 0),(.int .u64 0)] [(0,1,(.t 15))]))<|tJ 10 2 3 0<|E) 15
 .ret))))⟩
def RS:PF:=⟨6,[.t 2],
 (H (tD<|ze<|E) 1
 (H (na 0<|tq<|tp Qx<|Y 2<|E) 3
 .ret))⟩
def K9:PF:=⟨17,[.t 6],
 (H (te 0<|yJ 5<|te 2<|V<|E) 3
 (H (na 0<|tq<|wY 15<|gJ<|Bz 952 3<|pL 1<|N (gt 10 (some 13) (.load true 6 (.t 5)))<|yR 10 IZ 11<|KH 10 10<|tH 10 6<|E) 7
 .ret))⟩
def RT:PF:=⟨19,[.t 2],
 (H (tD<|V<|E) 1
 (H (na 1<|tq<|k9 1<|gX 0 1 1<|Kb 6 0<|ty 6<|gX 0 1 1<|yY 11 1 1<|pP 11 1<|N (gt 11 (some 16) (.bin .sub (ci 64) (.t 15)))<|N (gt 11 (some 17) (.bin .leq (.t 13) (.t 16)))<|tH 11 2<|E) 3
 .ret))⟩
def RU:PF:=⟨9,[.t 4],
 (H (V<|E) 4
 (H (Z 0<|B 1 I0<|k9 0<|Y 4<|E) 5
 .ret))⟩
def RW:PF:=⟨7,[.t 3],
 (H (tb<|V<|E) 2
 (H (EN 2<|A 2 1<|ik IS<|Y 3<|E) 4
 .ret))⟩
def Fx:PF:=⟨22,[.t 4],
 (H (tb<|tb<|V<|E) 2
 (yU (N (o 5 (.load true 2 (.t 3)),[])<|tW 2 2 0<|N (o 7 (.eq (.agg [.int,.int]) (.t 5) (.t 6)),[])<|lW<|N (gf 8 (some 9) (.faddr 0 (.t 3)),[])<|N (gf 8 (some 10) (.load false 1 (.t 9)),[])<|N (gf 8 (some 11) (.faddr 0 (.t 2)),[])<|N (gf 8 (some 12) (.load false 1 (.t 11)),[5])<|N (gf 8 (some 13) (.bin .geq (.t 10) (.t 12)),[])<|N (gf 8 (some 14) (.mov (.t 13)),[])<|N (gt 14 (some 15) (.load true 2 (.t 3)),[])<|N (gt 14 (some 16) (.call (cf oi) [(.t 15)]),[])<|N (gt 14 (some 17) (.load true 2 (.t 2)),[10,11])<|N (gt 14 (some 18) (.call (cf oi) [(.t 17)]),[])<|N (gt 14 (some 19) (.bin .leq (.t 16) (.t 18)),[])<|N (gf 8 (some 20) (.pick (.t 14) (.t 19) (.c (.bool false))),[])<|N (o 21 (.pick (.t 8) (.c (.bool true)) (.t 20)),[])<|tn 4<|E) 5
 .ret))⟩
def RX:PF:=⟨21,[.t 2,.t 3],
 (.seq (.aL [o 2 (.mov (ci 0)),o 3 (.mov (.c (.bool false)))])
 (.seq (.aL [o 5 (.mov (.t 0)),o 6 (.bin .and (.t 5) (.c (.int .u32 255))),o 7 (.conv .i64 (.t 6)),o 8 (.bin .sub (.t 7) (ci 1)),o 4 (.mov (.t 8))])
 (.seq (.seq (.aL [o 9 (.mov (.t 4)),o 10 (.bin .lss (.t 9) (ci 0)),o 11 (.mov (.t 10)),gf 11 (some 12) (.mov (.t 4)),gf 11 (some 13) (.bin .geq (.t 12) (ci 32)),o 14 (.pick (.t 11) (.c (.bool true)) (.t 13)),o 15 (.mov (.t 14)),gf 15 (some 16) (.mov (.t 0)),gf 15 (some 17) (.shf .shr (.t 16) (.c (.int .u64 8))),gf 15 (some 18) (.bin .gtr (.t 17) (.c (.int .u32 8388607))),o 19 (.pick (.t 15) (.c (.bool true)) (.t 18))])
 (.cond (.t 19) (.seq (.aL [o 2 (.mov (ci 0)),o 3 (.mov (.c (.bool false)))])
   .ret) .skip))
 (.seq (.aL [o 20 (.mov (.t 4)),o 2 (.mov (.t 20)),o 3 (.mov (.c (.bool true)))])
 .ret))))⟩
def La:PF:=⟨24,[.t 4],
 (H (tb<|yJ 4<|pN 0<|E) 2
 (H (tw 1 lT<|ta 8 8 8<|tm 5 6<|E) 9
 (.seq (H (Z 5<|td 96 2<|ke 32 12<|tx<|tX 7<|E) 13
 (H (ld 2<|B 7 lS<|E) 18
 (.cond (.t 22) (H (tG 7 4<|E) 23
   .ret) .skip)))
 (H (pN 0<|E) 4
 .ret))))⟩
def RY:PF:=⟨4,[.t 2],
 (H (tD<|ze<|E) 1
 (H (KX D8<|Y 2<|E) 3
 .ret))⟩
def zh:PF:=⟨8,[.t 2],
 (H (ti<|E) 2
 (.seq (H (Z 0<|N (o 4 (.eq .sl (.t 3) (.c .ai)))<|E) 3
 (.cond (.t 4) (H (ti<|E) 2
   .ret) .skip))
 (H (N (o 5 (.bslice [(.int .u32 0)] 0 []))<|Z 0<|N (o 7 (.append bZ 1 4 (.t 5) (.t 6)))<|Y 2<|E) 5
 .ret)))⟩
def agn:PC:=
 (.seq (H (Z 3<|jI 0<|y4 8<|E) 8
 (.cond (.t 11) .skip (.exit 0)))
 (.seq (.block 1 (H (U 0 3<|m8 5<|tj 5<|yX (o 4 (.alloc [(.int .i64 0),(.int .i64 0),(.int .i64 0),(.int .i64 0),(.int .i64 0)] none))<|tc 5 4<|E) 14
   (H (tu 4<|nb 6<|gX 0 4 1<|N (gt 21 (some 24) (.bin .lss (.t 23) (ci 17)))<|ty 21<|tQ 0 4 1<|mA 26 38<|tg 26<|tQ 1 4 1<|mA 31 7<|tg 31<|tQ 2 4 1<|mA 36 7<|tg 36<|tQ 3 4 1<|mA 41 7<|tg 41<|tQ 0 4 1<|KQ 46 5<|sw 46<|EV 0 4 1<|KQ 50 6<|N (gf 46 (some 54) (.pick (.t 50) (.c (.bool true)) (.t 53)))<|sw 46<|sx 4 4<|EW 1<|pO 55 0<|N (gt 55 (some 59) (.len .sl (.t 58)))<|N (gt 55 (some 60) (.bin .geq (.t 57) (.t 59)))<|sF 46 55<|tg 46<|E) 18
   (.cond (.t 62) (H (V<|E) 2
     .ret) .skip))))
 (G (Z 3<|tO 1<|Y 3<|E) 12)))
def Lb:PF:=⟨63,[.t 2],
 (H (V<|E) 2
 (.seq (H (jI 0<|nb 64<|E) 5
 (.cond (.t 7) (H (V<|E) 2
   .ret) .skip))
 (.seq (H (J<|E) 3
 (.block 0 (.loop agn)))
 (H (mF<|E) 2
 .ret))))⟩
def w5:uK:=⟨47,[.cell 2 true 3],
 (.later (G (tZ<|E) 2)
 (.here [o 5 (.mkf (.func A7) [] [(.t 2)])] (.t 5) []
 (yU (L 0 952<|tf<|N (o 10 (.bin .geq (.t 9) (ci 0)),[])<|lW<|yZ 0<|Fk<|gW 11 952<|wS 11 1<|N (gt 11 (some 16) (.bin .lss (.t 15) (ci 8)),[])<|mG 11<|lW<|yZ 0<|Ko 0<|uV 18<|gW 18 952<|wS 18 1<|N (gt 18 (some 24) (.bin .and (.t 23) (ci 7)),[])<|N (gt 18 (some 25) (.nilck (.t 19)),[])<|gW 18 0<|gW 18 936<|N (gt 18 (some 28) (.iaddra 8 1 (.t 27) (.t 24)),[])<|wS 18 1<|mG 18<|qU cQ 12<|E) 6
 (yU (N (o 33 (.load false 1 (.c (.dg uS))),[])<|L 0 953<|kc 0 1 0<|N (o 39 (.lookup .int .cJ (.t 33) (.t 38) true),[])<|tR 32 32 32<|sD 3<|tn 4<|E) 33
 (H (Z 4<|l0 cQ 2<|E) 42
 (H (U 3 0<|wO<|tc 3 2<|E) 44
 .ret))))))⟩
def Fy:PF:=⟨27,[.t 4,.t 5],
 (H (tb<|yJ 4<|pN 0<|V<|E) 2
 (.seq (H (Z 1<|il 0<|tI 1<|Km 32<|tg 8<|tI 1<|Kn 0 2<|N (gf 12 (some 15) (.iaddra 32 3 (.t 14) (.t 13)))<|qZ 12 1<|oq 12 1<|sB 12<|tg 12<|E) 6
 (.cond (.t 19) (H (pN 0<|V<|E) 4
   .ret) .skip))
 (H (U 1 1<|td 0 2<|ke 32 3<|tx<|tq<|tF I1 20<|Y 4<|ot 5<|E) 20
 .ret)))⟩
def Lc:PF:=⟨9,[.t 4],
 (H (tb<|tb<|J<|E) 2
 (H (C 2<|C 3<|mD I2 2 3<|tS D9 5<|Y 4<|E) 5
 .ret))⟩
def BW:PF:=⟨49,[.cell 2 true 6,.t 3],
 (H (tD<|N (o 2 (.alloc [(.int .u8 0),(.int .u32 0),(.int .u32 0),(.int .u32 0),(.int .u32 0),(.int .u64 0)] none))<|V<|E) 1
 (H (A 10 1<|tp Ea<|ta 6 6 6<|Kk 4 0 0 0 0 0<|tA 5 4 5<|E) 7
 (.seq (.block 0 (H (Z 5<|tr<|tQ 0 4 1<|N (gf 14 (some 17) (.eq .int (.t 16) (.c (.int .u8 0))))<|tg 14<|Y 11<|E) 12
   (.cond (.t 11) (H (N (o 19 (.build [(.int .u8 0),(.int .u32 0),(.int .u32 0),(.int .u32 0),(.int .u32 0),(.int .u64 0)] [(0,1,(.c (.int .u8 20)))]))<|tc 6 2<|ot 3<|E) 19
     .ret) (H (tu 4<|N (o 23 (.bin .leq (.t 22) (.c (.int .u8 16))))<|Y 20<|E) 21
     (.cond (.t 20) (H (N (o 24 (.build [(.int .u8 0),(.int .u32 0),(.int .u32 0),(.int .u32 0),(.int .u32 0),(.int .u64 0)] []))<|tc 6 2<|om 3<|E) 24
       .ret) .skip)))))
 (yU (tk 0 4<|tf<|N (o 27 (.bin .sub (.t 26) (.c (.int .u8 16))),[])<|tW 10 1 1<|tk 2 4<|tM 1 1 3<|pF uO 28 1<|EX<|BO 10 1 1 3 5 6<|tk 3 4<|BU 1 1 3 5 6 8<|pF uO 33 1<|EX<|tk 2 1<|N (o 39 (.iaddra 8 1 (.t 38) (ci 6)),[])<|N (o 40 (.load false 1 (.t 39)),[1,3,5,6,8,10,11])<|EX<|tk 4 4<|N (o 43 (.load false 1 (.t 42)),[1,3,5,6,8,10,11,15])<|EX<|tk 2 1<|N (o 46 (.iaddra 8 1 (.t 45) (ci 5)),[])<|N (o 47 (.load false 1 (.t 46)),[1,3,5,6,8,10,11,15,18])<|N (o 48 (.build [(.int .u8 0),(.int .u32 0),(.int .u32 0),(.int .u32 0),(.int .u32 0),(.int .u64 0)] [(0,1,(.t 27)),(1,1,(.t 32)),(2,1,(.t 37)),(3,1,(.t 41)),(4,1,(.t 44)),(5,1,(.t 47))]),[])<|ra 6 2<|KU 3<|E) 25
 .ret))))⟩
def BX:PF:=⟨72,[],
 (H (U 0 1<|tU<|ts 1<|lh 8 24 11<|Y 4<|E) 10
 (H (gI 0 0 1<|vg<|ts 1273<|tq<|pG<|Y 5<|E) 15
 (H (Z 4<|pK 10 9<|tj 2<|qY 6 0 0<|tc 2 6<|E) 23
 (yU (L 0 0<|tf<|L 4 10<|kg 12 3<|jH Qy 32<|tR 28 28 28<|u9 28 2<|yX (o 7 (.alloc [(.int .i64 0),(.int .u8 0),(.int .u32 0),(.int .u32 0),(.int .u32 0),(.int .u32 0),(.int .u64 0),(.bool false),.ai,(.int .i64 0),(.int .i64 0),(.int .i64 0)] none),[3,7,8])<|yX (o 8 (.alloc [(.int .i64 0),(.int .u64 0),(.int .u32 0)] none),[3,7,8,13])<|su 12 7 38<|jF 3 8<|tn 9<|E) 29
 (H (tN 4 12 7<|tU<|ts 10<|tl 12 42<|E) 41
 (H (Z 9<|E) 45
 (.cond (.t 45) (.seq (H (tu 8<|ji 0<|gJ<|vc 1 7<|y3 0<|oq 49 1<|N (gf 49 (some 53) (.ne .int (.t 52) (.c (.int .u8 2))))<|tg 49<|E) 46
   (.cond (.t 54) (G (Fj 0 0<|tc 2 6<|E) 55) .skip))
   (yW (F 0<|F 1<|jE 12 7<|tW 2 6 2<|F 5<|L 0 0<|tM 1 2 3<|iI 1273<|tM 1 2 3<|N (o 68 (.len .sl (.t 67)),[2,3])<|N (o 69 (.call (cf Eb) [(.t 59),(.t 60),(.t 68)]),[2])<|N (o 70 (.load true 3 (.t 8)),[2,3,8,11,12,13])<|N (o 71 (.call (cf Qz) [(.t 56),(.t 57),(.t 58),(.t 69),(.t 70)]),[])<|E) 56)) .skip)))))))⟩
def Ld:PF:=⟨53,[.cell 2 true 10],
 (H (tD<|KY 0 0 0 0 0 0 0 0 0<|E) 1
 (.seq (H (A 10 1<|tp D6<|ta 12 12 12<|BC 3 0 0 0 0 0 0<|tA 6 3 4<|E) 13
 (H (Z 4<|E) 17
 (.cond (.t 17) (H (tt 10 1 10 2<|E) 18
   .ret) .skip)))
 (H (A 10 1<|tp Ea<|ta 19 19 19<|Kk 5 0 0 0 0 0<|tA 5 5 6<|E) 20
 (H (tC 5<|EU 8<|td 2 1<|ke 8 1<|yX (o 7 (.alloc [.dZ] none))<|tc 1 7<|E) 24
 (H (tC 1<|tO 1<|yX (o 8 (.alloc [(.int .i64 0)] none))<|tc 1 8<|E) 29
 (H (N (o 32 .nS)<|mD A9 5 7<|KZ 1<|uX Ba 1 5 7<|gV 32 2<|uX Bb 1 5 7<|gV 32 3<|uX Bc 1 5 7<|gV 32 4<|mD Bd 5 8<|gV 32 5<|uX Be 7 5 8<|gV 32 6<|tG 32 9<|E) 32
 (.seq (H (Z 9<|tu 5<|Kt 41<|ta 40 40 40<|tm 10 11<|E) 41
 (H (Z 11<|E) 47
 (.cond (.t 47) (G (Z 10<|yM<|E) 48) .skip)))
 (H (C 8<|td 1 1<|iK 1<|E) 50
 (H (tt 10 1 10 2<|E) 52
 .ret)))))))))⟩
def RZ:PF:=⟨18,[],
 (H (tb<|E) 3
 (H (Z 0<|na 9<|tj 2<|tF Ec 4<|E) 4
 (yW (F 0<|L 0 953<|jG 320<|tk 0 3<|iL 1 4<|pF QA 12 0<|lg 8 953<|tL 320 15<|E) 8)))⟩
def Le:PF:=⟨12,[.t 2],
 (H (V<|E) 2
 (H (tw 0 D7<|ta 5 5 5<|tm 3 4<|E) 6
 (H (Z 4<|ji 0<|Y 2<|E) 10
 .ret)))⟩
def ago:PC:=
 (.seq (H (Z 0<|y0<|nb 0<|E) 15
 (.cond (.t 17) .skip (.exit 0)))
 (.seq (.block 1 (H (N (o 5 (.alloc [(.int .u8 0),(.int .u8 0),(.int .u8 0),(.int .u8 0),(.int .u8 0),(.int .u8 0)] none))<|E) 5
   (H (N (o 20 (.slarr 6 1 (.t 5) none none))<|Z 0<|N (o 22 (.copy 1 (.t 20) (.t 21)))<|E) 20
   (G (Z 4<|y6 6 1 5 0<|tq<|y6 6 1 5 1<|tq<|y6 6 1 5 2<|tq<|y6 6 1 5 3<|tq<|y6 6 1 5 4<|tq<|N (o 34 (.conv .u16 (.t 33)))<|y6 6 1 5 5<|tq<|N (o 37 (.conv .u16 (.t 36)))<|N (o 38 (.shf .shl (.t 37) (.c (.int .u64 8))))<|N (o 39 (.bin .or (.t 34) (.t 38)))<|N (o 40 (.build [(.int .u8 0),(.int .u8 0),(.int .u8 0),(.int .u8 0),(.int .u16 0)] [(0,1,(.t 25)),(1,1,(.t 27)),(2,1,(.t 29)),(3,1,(.t 31)),(4,1,(.t 39))]))<|N (o 41 (.bslice [(.int .u8 0),(.int .u8 0),(.int .u8 0),(.int .u8 0),(.int .u16 0)] 1 [(0,5,(.t 40))]))<|N (o 42 (.append af4 5 6 (.t 23) (.t 41)))<|Y 4<|E) 23))))
 (G (Z 0<|N (o 19 (.slstr (.t 18) (some (ci 6)) none))<|Y 0<|E) 18)))
def FA:PF:=⟨47,[.t 2,.t 3],
 (H (ti<|J<|E) 2
 (.seq (H (Z 0<|y0<|EH 6<|ji 0<|tI 0<|N (gf 10 (some 12) (.len .str (.t 11)))<|mA 10 384<|tg 10<|E) 6
 (.cond (.t 14) (H (ti<|tY 3<|E) 2
   .ret) .skip))
 (H (ti<|E) 4
 (.seq (.block 0 (.loop ago))
 (.seq (H (tw 4 QB<|tr<|E) 43
 (.cond (.t 45) (H (ti<|tY 3<|E) 2
   .ret) .skip))
 (H (tG 4 2<|tP 3 0<|E) 46
 .ret))))))⟩
def R0:PF:=⟨9,[.t 4],
 (H (V<|E) 4
 (H (Z 0<|B 1 QC<|k9 0<|Y 4<|E) 5
 .ret))⟩
def R3:PF:=⟨9,[.t 4],
 (H (V<|E) 4
 (H (Z 0<|B 1 Ed<|k9 0<|Y 4<|E) 5
 .ret))⟩
def R5:PF:=⟨6,[.t 2],
 (H (V<|E) 2
 (H (tw 0 Qv<|tr<|Y 2<|E) 3
 .ret))⟩
def R6:PF:=⟨17,[.t 2],
 (H (V<|E) 2
 (H (Z 0<|N (o 4 (.bin .lss (.t 3) (.c (.int .u8 8))))<|tI 0<|N (gf 5 (some 7) (.eq .int (.t 6) (.c (.int .u8 8))))<|tg 5<|tI 0<|N (gf 9 (some 11) (.bin .geq (.t 10) (.c (.int .u8 16))))<|sw 9<|Ry 0<|Kh 24<|sF 9 12<|tg 9<|Y 2<|E) 3
 .ret))⟩
def R7:PF:=⟨15,[.t 2,.t 3],
 (H (yN<|J<|E) 2
 (.seq (H (Z 0<|il 1<|tI 0<|N (gf 6 (some 8) (.bin .gtr (.t 7) (ci 64)))<|tg 6<|E) 4
 (.cond (.t 9) (H (yN<|tY 2<|E) 2
   .ret) .skip))
 (H (Z 0<|tw 0 QD<|N (o 13 (.build af5 [(0,1,(.t 10)),(1,1,(.t 12))]))<|tD<|Y 2<|tP 3 0<|E) 10
 .ret)))⟩
def R8:PF:=⟨4,[.t 2],
 (H (tD<|ze<|E) 1
 (H (KX qO<|Y 2<|E) 3
 .ret))⟩
def Lf:PF:=⟨26,[.t 6],
 (H (te 0<|yJ 5<|te 2<|J<|E) 3
 (.seq (H (A 952 3<|tN 1 6 5<|tS D4 10<|nb 0<|E) 10
 (.cond (.t 14) (H (J<|E) 6
   .ret) .skip))
 (H (A 952 3<|tN 1 6 5<|Fj 0 0<|N (o 20 (.call (cf A5) [(.t 16),(.t 17),(.t 18),(.t 19)]))<|ta 15 15 15<|iJ 15 2<|yX (o 7 (.alloc pE none))<|yX (o 8 (.alloc [(.int .i64 0),(.int .u64 0),(.int .u32 0)] none))<|lY 952 7 21<|tA 3 8 9<|E) 16
 (H (tu 8<|Y 6<|E) 24
 .ret))))⟩
def agp:PC:=
 (H (tE<|E) 9
 (.seq (.cond (.t 9) .skip (.exit 0))
 (.seq (.block 1 (H (gH<|Y 5<|E) 10
   (H (Z 1<|U 0 5<|m8 2<|tj 2<|uY 11<|E) 11
   (.cond (.t 16) (H (tG 5 4<|E) 17
     .ret) .skip))))
 (G (tv 8 8<|E) 18))))
def R9:PF:=⟨19,[.t 4],
 (H (J<|E) 4
 (.seq (H (Z 0<|tK<|E) 6
 (.block 0 (.loop agp)))
 (H (uW 1<|E) 4
 .ret)))⟩
def Sa:PF:=⟨8,[.t 2],
 (H (tD<|J<|E) 1
 (H (na 0<|tq<|tC 1<|yP 4<|Y 2<|E) 3
 .ret))⟩
def agq:PC:=
 (H (tE<|E) 10
 (.seq (.cond (.t 10) .skip (.exit 0))
 (.seq (.block 1 (H (im 2 7<|tj 2<|qY 5 0 0<|tc 2 5<|E) 11
   (.seq (H (Z 0<|tN 3 2 5<|J8 13<|tr<|E) 13
   (.cond (.t 17) .ret .skip))
   (G (Z 3<|tC 5<|KR 32<|yP 18<|Y 3<|E) 18))))
 (G (tv 9 9<|E) 23))))
def Sb:PF:=⟨24,[],
 (H (J<|E) 3
 (H (tu 1<|tK<|E) 6
 (.block 0 (.loop agq))))⟩
def w8:wv:=⟨4,⟨17,[],
 (H (Z 4<|E) 1
 (H (Z 1<|N (o 6 (.ne .c9 (.t 5) (.c .ez)))<|E) 5
 (.cond (.t 6) (H (Z 1<|N (o 9 (.ta (.int .i64 0) (.t 8) ss true))<|ta 7 7 7<|tm 2 3<|E) 8
   (.seq (H (Z 3<|tr<|E) 12
   (.cond (.t 13) (G (Z 1<|BD<|E) 14) .skip))
   (G (Z 2<|wL 0 1 0 0 0<|tc 3 0<|E) 15))) .skip)))⟩⟩
def FB:PF:=⟨8,[],
 (H (Z 0<|tr<|E) 4
 (.cond (.t 5) (G (Z 1<|N (o 7 (.mki ss (.t 6)))<|BD<|E) 6) .skip))⟩
def Sc:PF:=⟨11,[.t 4],
 (.seq (.aL [o 4 (.mov (.c (.int .u32 0)))])
 (.seq (.aL [o 5 (.mov (.t 1)),o 6 (.shf .shl (.t 5) (.c (.int .u64 8))),o 7 (.mov (.t 0)),o 8 (.conv .u32 (.t 7)),o 9 (.bin .add (.t 6) (.t 8)),o 10 (.bin .add (.t 9) (.c (.int .u32 1))),o 4 (.mov (.t 10))])
 .ret))⟩
def FC:PF:=⟨35,[.t 6],
 (H (J<|E) 6
 (.seq (.block 0 (H (Z 0<|yO<|Y 7<|E) 8
   (.cond (.t 7) (H (tY 1<|E) 6
     .ret) (H (Z 1<|il 0<|tI 1<|By 0<|N (gf 13 (some 16) (.nilck (.t 15)))<|qZ 13 0<|oq 13 1<|N (gf 13 (some 19) (.bin .geq (.t 14) (.t 18)))<|tg 13<|Y 10<|E) 11
     (.cond (.t 10) (H (tY 2<|E) 6
       .ret) (H (nc 0<|ts 1<|tj 1<|B 1 Qa<|Y 21<|E) 22
       (.cond (.t 21) (H (tY 12<|E) 6
         .ret) .skip)))))))
 (H (Z 2<|U 0 1<|tU<|ts 2<|lh 64 32 30<|uY 28<|E) 28
 (H (J<|E) 6
 .ret))))⟩
def Lg:PF:=⟨16,[],
 (yW (qW 1 1<|Ku 1 1 0<|iI 1<|kg 1 0<|N (o 10 (.load false 1 (.t 2)),[0,1,4])<|N (o 11 (.call (cf A8) [(.t 9),(.t 10),(ci 1)]),[0])<|tR 4 4 4<|lg 5 1<|tL 1 12<|E) 5)⟩
def zi:PC:=
 (.block 1 (.block 2 (yU (jE 2 12<|pM oi<|tk 0 8<|tM 1 0 1<|N (o 30 (.bin .lss (.t 27) (.t 29)),[])<|tn 25<|E) 26
   (.cond (.t 25) (G (C 9<|A 2 12<|y5 1 0 2 0 0<|BN 2 16 31<|tc 1 9<|E) 31) (yU (tk 0 12<|tf<|tW 2 8 1<|sy oi 1<|N (o 40 (.bin .gtr (.t 37) (.t 39)),[])<|tn 35<|E) 36
     (.cond (.t 35) (.seq (H (C 10<|tr<|E) 41
       (.cond (.t 42) (H (C 9<|A 2 8<|y5 1 0 2 0 0<|BN 2 16 43<|tc 1 9<|E) 43
         (G (EJ 1 10<|E) 0)) .skip))
       (G (C 9<|A 2 12<|y5 1 0 2 0 0<|BN 2 16 47<|tc 1 9<|E) 47)) (yU (jE 2 12<|pM oi<|tk 0 8<|tM 1 0 1<|EI 53<|tn 51<|E) 52
       (.cond (.t 51) (G (tu 12<|tC 12<|tC 8<|yP 60<|N (o 64 (.build [(.int .i64 0),(.int .i64 0)] [(0,1,(.t 58)),(1,1,(.t 63))]))<|tc 2 8<|E) 57) (yU (tk 0 12<|tf<|tW 2 8 1<|sy oi 1<|EI 67<|tn 65<|E) 66
         (.cond (.t 65) (G (tC 8<|tC 12<|yP 72<|td 1 8<|iK 1<|E) 71) (H (tt 1 3 1 6<|Fa 1 7<|E) 24
           .ret)))))))))))
def Lh:PF:=⟨85,[.cell 6 true 1,.cell 7 false 1],
 (H (te 0<|yJ 6<|za<|BS<|E) 3
 (H (U 1 2<|KD 0 1 1 1 0 0<|qY 8 0 0<|tc 2 8<|E) 13
 (.seq (H (A 2 8<|tp D5<|tr<|E) 16
 (.cond (.t 18) (H (tt 1 3 1 6<|Fa 1 7<|E) 19
   .ret) .skip))
 (H (za<|E) 9
 (H (BS<|zd 1<|E) 10
 (.seq (H (A 1 3<|tp IN<|E) 20
 (.block 0 (.ia (.t 21) [22,23] (G (BQ 0 0<|tl 2 23<|E) 12) zi)))
 (.seq (H (C 10<|tr<|E) 77
 (.cond (.t 78) (G (C 9<|A 2 8<|y5 1 0 2 0 0<|BN 2 16 79<|tc 1 9<|E) 79) .skip))
 (H (C 9<|N (o 84 (.build [.ai] [(0,1,(.t 83))]))<|tc 1 6<|EJ 1 7<|E) 83
 .ret))))))))⟩
def Lk:PF:=⟨22,[.cell 2 true 5,.t 3],
 (H (tD<|N (o 2 (.alloc [(.int .u8 0),(.int .u8 0),(.int .u8 0),(.int .u8 0),(.int .u16 0)] none))<|V<|E) 1
 (.seq (H (tC 1<|il 0<|tQ 1 1 1<|ET 7 0 1<|oq 7 1<|Bx 7<|N (gf 7 (some 13) (.bin .geq (.t 9) (.t 12)))<|tg 7<|E) 4
 (.cond (.t 14) (H (N (o 15 (.build [(.int .u8 0),(.int .u8 0),(.int .u8 0),(.int .u8 0),(.int .u16 0)] []))<|tc 5 2<|om 3<|E) 15
   .ret) .skip))
 (H (tu 1<|tC 1<|Fb 5 17<|tj 5<|tc 5 2<|ot 3<|E) 16
 .ret)))⟩
def Se:PF:=⟨10,[.t 4],
 (H (tb<|yJ 4<|N (o 4 (.mov (.c (.int .u64 0))))<|E) 2
 (H (Z 1<|EU 8<|td 2 2<|ke 8 1<|tX 4<|E) 5
 .ret))⟩
def agr:PC:=
 (H (il 5<|E) 26
 (.seq (.cond (.t 26) .skip (.exit 0))
 (.seq (.block 1 (H (N (o 27 (.idxa false 5 1 (.t 24) (.t 25)))<|Y 9<|E) 27
   (H (Z 9<|yM<|E) 28
   (.cond (.t 29) (.exit 0) .skip))))
 (G (tv 25 25<|E) 30))))
def Sf:PF:=⟨43,[.cell 4 true 12,.cell 5 true 3,.t 6],
 (H (tb<|N (o 4 (.alloc [(.int .i64 0),(.int .u8 0),(.int .u32 0),(.int .u32 0),(.int .u32 0),(.int .u32 0),(.int .u64 0),(.bool false),.ai,(.int .i64 0),(.int .i64 0),(.int .i64 0)] none))<|tZ<|V<|E) 3
 (H (tN 0 12 3<|N (o 12 (.build [.dZ,(.int .i64 0),(.int .u8 0),(.int .u32 0),(.int .u32 0),(.int .u32 0),(.int .u32 0),(.int .u64 0),(.bool false),.ai,(.int .i64 0),(.int .i64 0),(.int .i64 0),(.int .i64 0),(.int .u64 0),(.int .u32 0),(.bool false)] [(0,1,(.t 10)),(1,12,(.t 11))]))<|tD<|Y 7<|E) 10
 (.seq (H (Z 7<|BB Bf<|Z 7<|BB Bg<|Z 7<|BB Bh<|Z 7<|BB Bi<|Z 7<|BB uP<|N (o 24 (.build [.cJ,.cJ,.cJ,.cJ,.cJ] [(0,1,(.t 15)),(1,1,(.t 17)),(2,1,(.t 19)),(3,1,(.t 21)),(4,1,(.t 23))]))<|J<|E) 14
 (.block 0 (.loop agr)))
 (yU (L 7 1<|jG 12<|L 7 13<|kg 3 3<|L 7 16<|tM 1 3 7<|yX (u (.store 12 (.t 4) (.t 34)),[7,11])<|Kl 3 5 38 11<|tn 6<|E) 31
 .ret))))⟩
def Sg:PF:=⟨55,[],
 (H (te 2<|te 3<|te 4<|E) 7
 (H (U 0 1<|tU<|ts 1<|lh 8 24 12<|Y 10<|E) 11
 (yU (F 0<|L 0 194<|tf<|F 1<|tk 1 7<|kg 6 4<|sE 2 8 4 7<|BH 3 9 4 7 8<|L 10 23<|E5 1 4 7 8 9<|L 0 193<|BU 1 4 7 8 9 13<|N (o 34 (.build [(.int .i64 0),(.int .u8 0),(.int .u32 0),(.int .u32 0),(.int .u32 0),(.int .u32 0),(.int .u64 0),(.int .i64 0),(.int .i64 0),(.int .i64 0),(.int .u64 0),(.int .u32 0),(.int .i64 0),(.int .i64 0)] [(0,1,(.t 21)),(1,6,(.t 23)),(7,2,(.t 24)),(9,3,(.t 25)),(12,1,(.t 29)),(13,1,(.t 33))]),[])<|N (o 35 (.bslice [(.int .i64 0),(.int .u8 0),(.int .u32 0),(.int .u32 0),(.int .u32 0),(.int .u32 0),(.int .u64 0),(.int .i64 0),(.int .i64 0),(.int .i64 0),(.int .u64 0),(.int .u32 0),(.int .i64 0),(.int .i64 0)] 1 [(0,14,(.t 34))]),[])<|N (o 36 (.append pD 14 96 (.t 20) (.t 35)),[])<|lg 16 194<|tL 1 36<|E) 16
 (yU (F 10<|L 10 0<|jG 10<|tW 3 9 4<|E7 I3 0<|lg 39 0<|tL 10 45<|E) 39
 (G (U 10 10<|KO 0 0 0 0 0 0 0 0 0 0<|tT 48<|ts 22<|zd 1<|tT 49<|ts 10<|tl 12 50<|E) 48)))))⟩
def BY:PF:=⟨20,[.cell 6 true 2],
 (H (te 0<|yJ 6<|BQ 0 0<|E) 3
 (.seq (H (U 2 1<|N (o 9 (.bin .sub (.t 7) (.t 8)))<|tC 3<|N (o 12 (.bin .geq (.t 9) (.t 11)))<|gX 1 3 1<|N (gt 13 (some 16) (.bin .gtr (.t 15) (ci 0)))<|ty 13<|E) 7
 (.cond (.t 17) (H (Fj 0 0<|tc 2 6<|E) 18
   .ret) .skip))
 (H (tt 2 3 2 6<|E) 19
 .ret)))⟩
def Sh:PF:=⟨7,[],
 (G (tq<|tz 4 0 1<|BF<|tT 2<|iK 1<|E) 2)⟩
def Si:PF:=⟨14,[],
 (yW (tf<|tW 10 0 0<|tk 2 1<|tM 1 0 1<|pF uO 4 0<|BO 10 0 0 1 3 4<|tk 3 1<|BU 1 0 1 3 4 5<|pF uO 8 0<|E9 7<|kb 3<|yQ 1<|E) 3)⟩
def Sj:PF:=⟨14,[],
 (yW (tf<|tW 10 0 0<|tk 2 1<|tM 1 0 1<|pF uO 4 0<|BO 10 0 0 1 3 4<|tk 3 1<|BU 1 0 1 3 4 5<|pF uO 8 0<|KP 7<|kb 3<|yQ 1<|E) 3)⟩
def Sk:PF:=⟨12,[],
 (yW (tf<|tW 10 0 0<|tk 2 1<|tM 1 0 1<|pF uO 4 0<|tk 4 1<|E5 1 0 1 3 4<|N (o 10 (.shf .shl (.t 7) (.t 9)),[])<|kb 3<|yQ 1<|E) 3)⟩
def Sl:PF:=⟨5,[],
 (G (na 4<|tq<|jk<|tc 1 1<|E) 2)⟩
def Ll:PF:=⟨10,[],
 (H (C 0<|vg<|tq<|N (o 6 (.ne .int (.t 5) (.c (.int .u64 0))))<|E) 3
 (.cond (.t 6) (G (tz 4 1 1<|jk<|tc 1 2<|E) 7) .skip))⟩
def ags:PC:=
 (H (tE<|E) 8
 (.seq (.cond (.t 8) .skip (.exit 0))
 (.seq (.block 1 (H (gH<|Y 4<|E) 9
   (yW (F 0<|L 0 1273<|tf<|tk 0 3<|iL 1 4<|F 4<|KN<|N (o 19 (.bslice [(.int .i64 0)] 1 [(0,1,(.t 18))]),[])<|N (o 20 (.append my 1 8 (.t 14) (.t 19)),[])<|lg 10 1273<|tL 1 20<|E) 10)))
 (G (tv 7 7<|E) 23))))
def Sm:PF:=⟨24,[],
 (H (tb<|E) 3
 (H (na 1<|tq<|J<|E) 5
 (.block 0 (.loop ags))))⟩
def agt:PC:=
 (H (il 32<|E) 7
 (.seq (.cond (.t 7) .skip (.exit 0))
 (.seq (.block 1 (H (gH<|Y 5<|E) 8
   (H (A 320 2<|U 5 1<|tS QE 9<|tc 320 2<|E) 9
   (H (Z 5<|B 1 Ee<|E) 13
   (.cond (.t 15) (G (U 5 5<|td 0 2<|ke 32 10<|tj 10<|B 1 I4<|td 0 2<|lh 32 10 16<|tl 10 22<|E) 16) .skip)))))
 (G (tv 6 6<|E) 25))))
def Sn:PF:=⟨27,[.cell 4 true 320],
 (H (tb<|yJ 4<|Kg<|E) 2
 (.seq (H (J<|E) 6
 (.block 0 (.loop agt)))
 (H (tt 320 2 320 4<|E) 26
 .ret)))⟩
def Lm:PF:=⟨12,[.t 2],
 (H (tD<|V<|E) 1
 (H (N (o 3 (.load false 1 (.t 1)))<|pG<|N (o 5 (.bin .leq (.t 4) (ci 64)))<|gJ<|EO 1 1<|N (gt 6 (some 8) (.mkf (.func QG) [] [(.t 1)]))<|qS 6 QF<|uZ 6<|tH 6 2<|E) 3
 .ret))⟩
def agu:PC:=
 (H (tE<|E) 9
 (.seq (.cond (.t 9) .skip (.exit 0))
 (.seq (.block 1 (H (gH<|Y 5<|E) 10
   (H (Z 1<|U 0 5<|m8 1<|tq<|uY 11<|E) 11
   (.cond (.t 16) (H (tG 5 4<|E) 17
     .ret) .skip))))
 (G (tv 8 8<|E) 18))))
def So:PF:=⟨19,[.t 4],
 (H (J<|E) 4
 (.seq (H (Z 0<|tK<|E) 6
 (.block 0 (.loop agu)))
 (H (uW 1<|E) 4
 .ret)))⟩
def Sp:PC:=
 (H (tE<|E) 9
 (.seq (.cond (.t 9) .skip (.exit 0))
 (.seq (.block 1 (H (gH<|Y 5<|E) 10
   (H (Z 1<|U 0 5<|m8 1<|tq<|uY 11<|E) 11
   (.cond (.t 16) (H (tG 5 4<|E) 17
     .ret) .skip))))
 (G (tv 8 8<|E) 18))))
def FD:PF:=⟨19,[.t 4],
 (H (J<|E) 4
 (.seq (H (Z 0<|tK<|E) 6
 (.block 0 (.loop Sp)))
 (H (uW 1<|E) 4
 .ret)))⟩
def Sq:PF:=⟨13,[.cell 2 true 1],
 (H (za<|E) 2
 (H (Z 0<|N (o 5 (.min [(.t 4),(ci 64)]))<|Y 3<|E) 4
 (.seq (H (Z 3<|il 1<|E) 6
 (.cond (.t 7) (H (N (o 8 (.build [.ai] []))<|tc 1 2<|E) 8
   .ret) .skip))
 (H (Z 3<|N (o 10 (.build [(.int .i64 0),(.int .i64 0)] [(0,1,(ci 0)),(1,1,(.t 9))]))<|y5 1 0 2 0 0<|N (o 12 (.build [.ai] [(0,1,(.t 11))]))<|tc 1 2<|E) 9
 .ret))))⟩
def Sr:PC:=
 (H (tE<|E) 8
 (.seq (.cond (.t 8) .skip (.exit 0))
 (.seq (.block 1 (H (gH<|J7 2 5 7<|tj 2<|qY 4 0 0<|qT 3 9<|tc 2 4<|E) 9
   (H (Z 0<|tN 3 2 4<|J8 12<|tr<|E) 12
   (.cond (.t 16) .ret .skip))))
 (G (tv 7 7<|E) 17))))
def FE:PF:=⟨18,[],
 (H (C 1<|tK<|E) 5
 (.block 0 (.loop Sr)))⟩
def Ln:PF:=⟨19,[.t 4],
 (H (V<|E) 4
 (H (Z 0<|k9 0<|tB 0<|wV 32<|ty 7<|tB 1<|Kc 0<|ty 11<|tB 1<|wV 8<|tH 15 4<|E) 5
 .ret))⟩
def BZ:PF:=⟨72,[.t 2],
 (H (V<|E) 2
 (.seq (H (ka 0 1 7 1<|E) 4
 (.cond (.t 8) (H (V<|E) 2
   .ret) .skip))
 (.seq (yU (L 0 0<|tf<|iI 0<|jG 952<|th 0 1 0<|tM 1 3 6<|th 0 1 1<|Kx 6 3 6 11<|mC IP 15 20<|E) 9
 (.cond (.t 26) (H (mF<|E) 2
   .ret) .skip))
 (.seq (yU (L 0 0<|tf<|iI 0<|jG 952<|th 0 1 0<|tM 1 3 6<|th 0 1 1<|Kx 6 3 6 11<|mC IZ 33 38<|tn 3<|E) 27
 (H (Z 3<|ji 0<|E) 45
 (.cond (.t 46) (H (U 0 3<|wL 0 1 0 0 0<|tF yE 47<|E) 47
   (H (mF<|E) 2
   .ret)) .skip)))
 (yU (F 0<|F 0<|L 0 0<|tf<|iI 0<|jG 952<|th 0 1 1<|Fe 6 5 8<|pF I5 59 0<|kb 51<|lb 1 7<|EL 1<|kb 52<|lb 1 8<|tL 1 65<|E) 51
 (H (mF<|E) 2
 .ret))))))⟩
def FF:PF:=⟨60,[.t 2],
 (H (V<|E) 2
 (.seq (H (ka 0 1 8 1<|pG<|lZ 0<|E) 7
 (.cond (.t 13) (H (V<|E) 2
   .ret) .skip))
 (H (ka 0 1 8 1<|N (o 20 (.iaddrs 1 (.t 19) (ci 0)))<|tq<|tp lT<|ta 14 14 14<|tm 3 4<|E) 15
 (yU (L 0 0<|tf<|iI 953<|jG 320<|F 3<|th 0 1 0<|tM 1 3 6<|mC QI 32 33<|tR 25 25 25<|yX (o 5 (.alloc qR none),[3,6,12,13])<|jF 320 5<|tn 6<|E) 26
 (yU (L 0 0<|tf<|tW 320 5 3<|N (o 47 (.nilck (.t 45)),[])<|N (o 48 (.faddr 953 (.t 47)),[])<|tL 320 46<|E) 42
 (.seq (H (Z 6<|E) 49
 (.cond (.t 49) (G (Z 0<|ka 0 1 8 1<|N (o 56 (.slsl 1 (.t 55) (some (ci 1)) none none))<|tT 50<|tV 1 8<|tl 1 56<|E) 50) .skip))
 (H (mF<|E) 2
 .ret)))))))⟩
def B0:PF:=⟨60,[.t 2],
 (H (V<|E) 2
 (yU (L 0 0<|tf<|iI 0<|jG 952<|th 0 1 0<|tM 1 3 6<|th 0 1 1<|Kx 6 3 6 11<|mC D4 12 17<|tn 3<|E) 6
 (.seq (H (Z 3<|lZ 0<|tI 0<|N (gf 26 (some 28) (.nilck (.t 27)))<|qZ 26 1<|qZ 26 9<|qZ 26 1<|oq 26 1<|mA 26 0<|tg 26<|E) 24
 (.cond (.t 34) (H (V<|E) 2
   .ret) .skip))
 (H (gI 0 0 1<|vg<|ts 952<|tq<|B 3 QJ<|ta 35 35 35<|tm 4 5<|E) 36
 (.seq (H (Z 5<|ji 0<|E) 47
 (.cond (.t 48) (H (U 0 5<|wL 0 1 0 0 0<|tF yE 49<|E) 49
   (H (mF<|E) 2
   .ret)) .skip))
 (H (Z 0<|U 4 3<|KD 0 1 1 1 0 0<|tT 53<|tV 1 9<|tl 2 56<|E) 53
 (H (mF<|E) 2
 .ret)))))))⟩
def Lo:PF:=⟨44,[.t 2],
 (H (V<|E) 2
 (.seq (yU (th 0 1 11<|tf<|th 0 1 9<|kc 1 1 4<|N (o 14 (.bin .geq (.t 7) (.t 13)),[])<|E) 3
 (.cond (.t 14) (H (V<|E) 2
   .ret) .skip))
 (yU (L 0 0<|tf<|iI 952<|tf<|th 0 1 9<|lU<|tM 1 3 6<|th 0 1 11<|eB 1 3 6 12<|E9 27<|jH I6 21<|E) 15
 (H (ka 0 1 11 1<|tO 1<|tT 35<|tV 1 11<|tl 1 40<|E) 35
 (H (mF<|E) 2
 .ret)))))⟩
def agv:PC:=
 (H (tE<|E) 131
 (.seq (.cond (.t 131) .skip (.exit 1))
 (.seq (.block 2 (H (im 2 128<|tj 2<|qY 10 0 0<|tc 2 10<|E) 132
   (yW (qW 1 1<|iI 0<|tf<|sE 2 10 0 3<|BM Ec<|E) 134)))
 (G (tv 130 130<|E) 140))))
def ou:PF:=⟨144,[.t 2],
 (H (tD<|V<|E) 1
 (H (C 1<|pK 1 1<|tj 6<|BC 3 0 0 0 0 0 0<|tc 6 3<|E) 11
 (.seq (yU (qW 1 1<|iI 1<|lb 9 1<|tf<|N (o 22 (.bin .gtr (.t 21) (ci 0)),[])<|lW<|Kq 1 1<|Fk<|gW 23 0<|wS 23 1<|uV 23<|gW 23 0<|N (gt 23 (some 30) (.load true 952 (.t 29)),[])<|N (gt 23 (some 31) (.load false 1 (.t 1)),[8,11,14])<|uV 23<|gW 23 1<|gW 23 0<|N (gt 23 (some 35) (.load false 1 (.t 34)),[8,11,14])<|N (gt 23 (some 36) (.load true 6 (.t 3)),[8,11,14,15,19])<|N (gt 23 (some 37) (.call (cf D4) [(.t 30),(.t 35),(.t 36)]),[])<|N (gt 23 (some 38) (.load false 1 (.t 1)),[8,11,14,15,19,20,21])<|uV 23<|gW 23 1<|gW 23 9<|gW 23 1<|N (gt 23 (some 43) (.load false 1 (.t 42)),[8,11,14,15,19,20,21])<|N (gt 23 (some 44) (.ne .int (.t 37) (.t 43)),[])<|mG 23<|E) 16
 (.cond (.t 45) (yU (qW 1 1<|iI 0<|tf<|N (o 50 (.load false 1 (.t 1)),[0,3])<|J9 1 9<|Fe 2 0 3<|jH Ec 49<|E) 46
   (G (C 1<|Fj 0 0<|tU<|tV 1 9<|tl 2 57<|E) 56)) .skip))
 (yU (qW 1 1<|iI 0<|tf<|iI 0<|jG 952<|BH 6 3 0 3 6<|BM I7<|tR 61 61 61<|sD 4<|tn 5<|E) 62
 (yU (qW 1 1<|iI 0<|tf<|iI 0<|jG 952<|N (o 81 (.load false 1 (.t 1)),[0,3,6])<|J9 1 0<|eB 1 0 3 6<|N (o 86 (.load true 6 (.t 3)),[0,3,6,7,11])<|N (o 87 (.load false 1 (.t 1)),[0,3,6,7,11,12])<|J9 1 9<|N (o 91 (.load true 2 (.t 90)),[0,3,6,7,11,12])<|Fg A5 80 85 86<|tR 73 73 73<|u9 73 2<|yX (o 6 (.alloc pE none),[0,3,6,7,11,12,13,17,18])<|yX (o 7 (.alloc [(.int .i64 0),(.int .u64 0),(.int .u32 0)] none),[0,3,6,7,11,12,13,17,18,23])<|su 952 6 93<|jF 3 7<|tn 8<|E) 74
 (.seq (H (tu 7<|ji 0<|E) 96
 (.cond (.t 98) (H (C 1<|A 3 7<|ik yE<|E) 99
   (H (mF<|E) 2
   .ret)) .skip))
 (.seq (H (tu 3<|E) 102
 (.block 0 (H (N (o 105 (.eq .int (.t 103) (.c (.int .u8 4))))<|Y 104<|E) 105
   (.cond (.t 104) (G (C 1<|Z 4<|mD I9 1 3<|tS I8 106<|E) 106) (H (N (o 111 (.eq .int (.t 103) (.c (.int .u8 3))))<|Y 110<|E) 111
     (.cond (.t 110) (G (C 1<|Z 4<|mD Ja 1 7<|tS I8 112<|E) 112) .skip))))))
 (yU (qW 1 1<|iI 0<|tf<|N (o 120 (.load false 1 (.t 1)),[0,3])<|BH 952 6 0 3 4<|KB 0 0<|lg 119 0<|yX (u (.store 952 (.t 124) (.t 121)),[4])<|kb 120<|lb 1 9<|tL 2 122<|E) 116
 (.seq (H (Z 8<|tK<|E) 128
 (.block 1 (.loop agv)))
 (H (C 1<|A 3 7<|ik yE<|E) 141
 (H (mF<|E) 2
 .ret)))))))))))⟩
def FG:PF:=⟨48,[.cell 4 true 10],
 (H (tb<|tb<|KY 0 0 0 0 0 0 0 0 0<|E) 2
 (H (A 10 2<|tp Ea<|ta 9 9 9<|Kk 5 0 0 0 0 0<|tA 5 5 6<|E) 10
 (.seq (H (A 10 2<|tp D6<|ta 14 14 14<|BC 7 0 0 0 0 0 0<|tA 6 7 8<|E) 15
 (H (Z 6<|tr<|tI 8<|N (gf 21 (some 23) (.un .not (.t 22)))<|tg 21<|E) 19
 (.cond (.t 24) (H (tt 10 2 10 4<|E) 25
   .ret) .skip)))
 (H (tC 5<|EU 8<|tC 3<|td 2 2<|lh 8 1 28<|tl 1 30<|E) 26
 (H (tz 2 3 1<|BF<|td 2 2<|Fh 8 1 4<|tl 1 35<|E) 33
 (H (tu 3<|BF<|td 2 2<|Fh 8 1 7<|tl 1 40<|E) 38
 (H (tC 2<|tO 1<|td 1 2<|iK 1<|E) 43
 (H (tt 10 2 10 4<|E) 47
 .ret))))))))⟩
def FH:PF:=⟨26,[.cell 6 true 320],
 (H (te 0<|yJ 6<|Kg<|E) 3
 (.seq (H (Z 1<|B 2 Ee<|tB 1<|N (gt 10 (some 12) (.faddr 0 (.t 3)))<|N (gt 10 (some 13) (.iaddra 32 10 (.t 12) (.t 11)))<|wT 10 0<|pP 10 1<|N (gt 10 (some 16) (.conv .i64 (.t 15)))<|pO 10 2<|N (gt 10 (some 18) (.bin .add (.t 17) (ci 1)))<|N (gt 10 (some 19) (.eq .int (.t 16) (.t 18)))<|ty 10<|E) 7
 (.cond (.t 20) (G (Z 1<|td 0 3<|ke 32 10<|tx<|yX (u (.store 1 (.t 24) (.c (.int .u8 0))))<|E) 21) .skip))
 (H (tt 320 3 320 6<|E) 25
 .ret)))⟩
def Lp:PF:=⟨29,[.cell 4 true 10],
 (H (tb<|yJ 4<|N (o 4 (.alloc [(.int .u8 0),(.int .i64 0),(.int .u8 0),(.int .u8 0),(.int .u8 0),(.int .u8 0),(.int .u8 0),(.int .u8 0),(.int .u8 0),(.int .u8 0)] none))<|E) 2
 (H (A 10 2<|B 1 Jb<|Y 5<|E) 6
 (.seq (H (Z 5<|il 0<|E) 9
 (.cond (.t 10) (H (tt 10 2 10 4<|E) 11
   .ret) .skip))
 (yU (tk 2 2<|F 5<|N (o 14 (.slarr 8 1 (.t 12) (some (.t 13)) none),[])<|tk 2 2<|F 5<|KK 1<|N (o 18 (.slarr 8 1 (.t 15) (some (.t 17)) none),[])<|N (o 19 (.copy 1 (.t 14) (.t 18)),[])<|E) 12
 (H (tC 2<|vd 1<|td 1 2<|iK 1<|E) 20
 (H (tC 2<|td 2 2<|ke 8 1<|yX (u (.store 1 (.t 27) (.c (.int .u8 0))))<|E) 24
 (H (tt 10 2 10 4<|E) 28
 .ret)))))))⟩
def Ss:PF:=⟨9,[.t 4],
 (H (V<|E) 4
 (H (Z 0<|B 1 QM<|k9 0<|Y 4<|E) 5
 .ret))⟩
def St:PF:=⟨9,[.t 3],
 (H (tb<|V<|E) 2
 (H (EN 5<|C 1<|pG<|tF QH 4<|tr<|Y 3<|E) 4
 .ret))⟩
def Su:PF:=⟨50,[.t 4],
 (H (tb<|yJ 4<|V<|E) 2
 (H (tu 2<|Ks 16<|gX 0 2 1<|N (gt 10 (some 13) (.bin .leq (.t 12) (.c (.int .u8 38))))<|tH 10 5<|E) 7
 (H (tu 2<|wY 5<|tQ 0 2 1<|N (gf 18 (some 21) (.eq .int (.t 20) (.c (.int .u8 6))))<|tg 18<|Y 6<|E) 15
 (H (tu 2<|N (o 25 (.bin .leq (.t 24) (.c (.int .u8 6))))<|tI 5<|N (o 28 (.pick (.t 26) (.c (.bool true)) (.t 27)))<|gX 1 2 1<|yY 29 2 2<|pP 29 1<|yY 29 3 2<|pP 29 1<|N (gt 29 (some 36) (.max [(.t 31),(.t 33),(.t 35)]))<|N (gt 29 (some 37) (.bin .lss (.t 36) (.c (.int .u8 8))))<|ty 29<|tB 6<|EM<|wQ 39<|EV 4 2 1<|N (gf 42 (some 45) (.conv .i64 (.t 44)))<|m7 42 1<|N (gf 42 (some 47) (.bin .lss (.t 45) (.t 46)))<|wP 39 42<|tH 39 4<|E) 23
 .ret))))⟩
def Sv:PF:=⟨20,[],
 (H (tb<|E) 3
 (H (U 0 0<|A 3 3<|tT 4<|ts 13<|tl 3 6<|tT 5<|ts 16<|zb 1<|E) 4
 (yW (L 0 0<|tf<|L 0 1<|kg 12 3<|jH IW 14<|E) 11)))⟩
def Sw:PF:=⟨41,[.t 4],
 (H (tb<|tb<|ti<|E) 2
 (H (mD Ef 2 3<|Ka 5<|tc 1 5<|E) 10
 (H (mD pA 2 3<|Ka 6<|tc 1 6<|E) 11
 (H (N (o 12 .nS)<|C 5<|KZ 1<|C 5<|gV 12 2<|C 5<|gV 12 3<|C 5<|gV 12 4<|C 5<|gV 12 5<|C 5<|gV 12 10<|C 5<|gV 12 12<|C 5<|gV 12 18<|C 5<|gV 12 19<|C 6<|gV 12 6<|C 6<|gV 12 7<|C 6<|gV 12 9<|C 6<|gV 12 11<|uX Eg 6 2 3<|gV 12 8<|mD Eh 2 3<|gV 12 13<|uX Ei 3 5 6<|gV 12 14<|tG 12 7<|E) 12
 (H (Z 7<|tu 3<|Kt 31<|ta 30 30 30<|tm 8 9<|E) 31
 (.seq (H (Z 9<|tr<|E) 37
 (.cond (.t 38) (H (ti<|E) 4
   .ret) .skip))
 (H (Z 8<|yM<|Y 4<|E) 39
 .ret)))))))⟩
def sH:PF:=⟨85,[.cell 6 true 320,.t 7],
 (H (te 0<|yJ 6<|Kg<|V<|E) 3
 (.seq (H (Z 1<|B 2 Ee<|tr<|E) 10
 (.cond (.t 13) (H (tt 320 3 320 6<|om 7<|E) 14
   .ret) .skip))
 (H (Z 1<|td 0 3<|ke 32 10<|Y 8<|E) 15
 (.seq (H (nc 8<|tj 10<|B 2 Jb<|Y 9<|E) 18
 (.block 0 (H (gI 8 0 1<|jk<|Z 2<|tO 1<|EY 28<|Y 23<|E) 24
   (.cond (.t 23) (H (tt 320 3 320 6<|ot 7<|E) 32
     .ret) (H (gI 8 0 1<|wY 0<|tB 8<|N (gt 39 (some 41) (.nilck (.t 40)))<|wT 39 1<|pP 39 1<|KH 39 0<|wQ 39<|Rz 9<|N (gf 45 (some 47) (.eq .int (.t 46) (ci 0)))<|wP 39 45<|tH 39 33<|E) 34
     (.cond (.t 33) (H (Z 8<|nc 8<|tj 10<|B 2 I4<|tT 50<|iK 10<|E) 50
       (H (U 8 2<|tO 1<|KM<|tT 57<|tx<|tl 1 60<|E) 57
       (H (tt 320 3 320 6<|ot 7<|E) 63
       .ret))) (H (Z 9<|il 0<|Y 64<|E) 65
       (.cond (.t 64) (yU (F 8<|L 8 1<|tf<|F 2<|BL<|lg 67 2<|mE 8 1 71<|tL 1 73<|E) 67
         (G (gI 8 1 1<|tO 1<|tT 77<|ts 1<|tl 1 81<|E) 77)) .skip))))))))
 (H (tt 320 3 320 6<|om 7<|E) 84
 .ret)))))⟩
def B1:PF:=⟨39,[.t 4,.t 5],
 (H (J<|J<|E) 4
 (.seq (.block 0 (H (Z 0<|yO<|Y 8<|E) 9
   (.cond (.t 8) (H (J<|tY 1<|E) 4
     .ret) (H (Z 1<|il 1<|Y 11<|E) 12
     (.cond (.t 11) (H (J<|tY 2<|E) 4
       .ret) .skip)))))
 (H (nc 0<|ts 1<|tj 1<|B 1 QO<|ta 14 14 14<|tm 6 7<|E) 15
 (.seq (H (Z 7<|tr<|E) 23
 (.cond (.t 24) (H (J<|tY 6<|E) 4
   .ret) .skip))
 (H (Z 0<|nc 0<|ts 1<|tj 1<|U 6 1<|tS QP 30<|ta 25 25 25<|tT 26<|ts 1<|tl 1 34<|E) 26
 (H (tG 6 4<|tP 5 0<|E) 38
 .ret))))))⟩
def Lq:PF:=⟨8,[.t 4],
 (H (J<|E) 4
 (H (U 0 1<|N (o 7 (.call (cf D9) [(.t 5),(.t 6),(cf Jd)]))<|Y 4<|E) 5
 .ret))⟩
def agw:PC:=
 (H (tE<|E) 60
 (.seq (.cond (.t 60) .skip (.exit 1))
 (.seq (.block 2 (H (gH<|Y 9<|E) 61
   (H (td 2 6<|tj 2<|tz 3 3 1<|jk<|Z 9<|y7<|tF QQ 64<|ta 62 62 62<|tm 10 11<|E) 63
   (G (U 8 10<|N (o 75 (.bslice [(.int .i64 0)] 1 [(0,1,(.t 74))]))<|N (o 76 (.append my 1 8 (.t 73) (.t 75)))<|Y 8<|E) 73))))
 (G (tv 59 59<|E) 77))))
def FI:PF:=⟨80,[.t 4,.t 5],
 (H (tb<|tb<|ti<|J<|E) 2
 (H (td 0 2<|tx<|tj 480<|tC 3<|tF uN 15<|ta 12 12 12<|pJ 6 0 0 0 0 0 0 0 0 0 0 0<|tA 12 6 7<|E) 13
 (.seq (.block 0 (H (Z 7<|ji 0<|Y 21<|E) 22
   (.cond (.t 21) (H (Z 7<|tid 4<|Y 5<|E) 24
     .ret) (H (tu 3<|Ky 3<|gX 0 3 1<|N (gt 29 (some 32) (.ne .int (.t 31) (.c (.int .u8 4))))<|ty 29<|tQ 4 3 1<|N (gf 34 (some 37) (.bin .lss (.t 36) (.c (.int .u32 1))))<|tg 34<|tQ 4 3 1<|N (gf 39 (some 42) (.bin .gtr (.t 41) (.c (.int .u32 8))))<|tg 39<|Y 25<|E) 26
     (.cond (.t 25) (H (ti<|tY 2<|E) 4
       .ret) (H (tz 3 3 1<|jk<|td 2 6<|ts 1<|tq<|tz 4 3 1<|jk<|KA 50<|Ke 47<|Y 44<|E) 45
       (.cond (.t 44) (H (ti<|tY 9<|E) 4
         .ret) .skip)))))))
 (H (ti<|E) 8
 (.seq (H (tz 4 3 1<|jk<|J<|E) 56
 (.block 1 (.loop agw)))
 (H (tw 8 Je<|Y 4<|tP 5 0<|E) 78
 .ret))))))⟩
def agx:PC:=
 (H (tE<|E) 11
 (.seq (.cond (.t 11) .skip (.exit 0))
 (.seq (.block 1 (H (gH<|J7 1 8 10<|tq<|qT 6 12<|Y 7<|E) 12
   (G (Z 2<|U 7 6<|J8 15<|E) 15)))
 (G (tv 10 10<|E) 19))))
def Sx:PF:=⟨20,[],
 (H (Z 1<|tK<|E) 8
 (.block 0 (.loop agx)))⟩
def Sy:PF:=⟨21,[],
 (yW (qW 1 2<|iI 0<|tf<|iI 952<|tf<|F 0<|tk 5 3<|eB 1 0 3 6<|F 1<|Kr 8<|N (o 18 (.shf .shr (.t 15) (.t 17)),[])<|BL<|mC QK 12 13<|E) 6)⟩
def Lr:PF:=⟨11,[.t 6],
 (H (te 2<|J<|E) 5
 (H (U 0 1<|pR QR 5<|tS Jf 7<|Y 6<|E) 7
 .ret))⟩
def Sz:PF:=⟨29,[],
 (H (C 2<|vg<|tx<|tq<|vg<|ts 952<|tq<|B 0 QL<|ta 8 8 8<|tm 6 7<|E) 9
 (yW (tk 1 3<|tf<|F 6<|N (o 23 (.conv .u64 (.t 22)),[])<|F 1<|Kr 8<|N (o 26 (.shf .shl (.t 23) (.t 25)),[])<|N (o 27 (.bin .or (.t 21) (.t 26)),[])<|tk 1 3<|yQ 1<|E) 20))⟩
def Ls:PF:=⟨12,[.cell 4 false 1,.t 5],
 (H (N (o 4 (.alloc [(.int .u8 0)] none))<|J<|E) 4
 (H (U 0 1<|pR QS 4<|tS Jf 6<|Y 5<|E) 6
 (H (C 4<|Z 5<|tA 1 4 5<|E) 10
 .ret)))⟩
def SA:PF:=⟨12,[.t 4],
 (H (tb<|yJ 4<|J<|E) 2
 (H (td 2 2<|tC 2<|N (o 8 (.slarr 8 1 (.t 5) none (some (.t 7))))<|Z 1<|KM<|tF Ej 8<|Y 4<|E) 5
 .ret))⟩
def agy:PC:=
 (H (tE<|E) 9
 (.seq (.cond (.t 9) .skip (.exit 0))
 (.seq (.block 1 (H (gH<|Y 5<|E) 10
   (H (Z 1<|U 0 5<|m8 5<|tj 5<|uY 11<|E) 11
   (.cond (.t 16) (H (tG 5 4<|E) 17
     .ret) .skip))))
 (G (tv 8 8<|E) 18))))
def SB:PF:=⟨19,[.t 4],
 (H (J<|E) 4
 (.seq (H (Z 0<|tK<|E) 6
 (.block 0 (.loop agy)))
 (H (uW 1<|E) 4
 .ret)))⟩
def SC:PF:=⟨7,[.t 2],
 (H (ti<|E) 2
 (H (A 952 0<|tC 1<|tF Jc 3<|Y 2<|E) 3
 .ret))⟩
def Lt:PF:=⟨15,[.t 4],
 (H (tb<|yJ 4<|ti<|E) 2
 (.seq (H (td 0 2<|tx<|tV 0 0<|m9<|Z 1<|la<|E) 5
 (.cond (.t 12) (H (ti<|E) 4
   .ret) .skip))
 (H (Z 1<|wX 1 0 1 0<|Y 4<|E) 13
 .ret)))⟩
def Lu:PF:=⟨9,[.t 2],
 (H (ti<|E) 2
 (H (td 0 0<|tx<|tj 480<|tC 1<|tF pC 5<|Y 2<|E) 3
 .ret))⟩
def FJ:PF:=⟨15,[.t 4],
 (H (tb<|yJ 4<|ti<|E) 2
 (.seq (H (ld 2<|Z 1<|la<|E) 5
 (.cond (.t 10) (H (ti<|E) 4
   .ret) .skip))
 (H (to 2<|B 1 Ek<|tp sr<|Y 4<|E) 11
 .ret)))⟩
def B2:PF:=⟨31,[.t 3],
 (H (ti<|E) 3
 (H (C 0<|yM<|Y 4<|E) 5
 (.seq (H (jI 4<|lZ 0<|gJ<|vc 0 1<|y3 0<|qZ 10 0<|qZ 10 0<|BI 10 96<|ET 10 2 2<|oq 10 1<|N (gf 10 (some 18) (.call (cf lS) [(.t 15),(.t 17)]))<|sB 10<|tg 10<|E) 7
 (.cond (.t 20) (H (ti<|E) 3
   .ret) .skip))
 (.seq (H (Z 4<|tz 2 2 1<|tF QN 21<|E) 21
 (.cond (.t 24) (H (tG 4 3<|E) 25
   .ret) .skip))
 (H (Z 4<|tz 2 2 1<|wX 1 0 1 0<|y8 1 4 26<|Y 3<|E) 26
 .ret)))))⟩
def SD:PF:=⟨9,[.t 4],
 (H (V<|E) 4
 (H (Z 0<|B 1 QT<|k9 0<|Y 4<|E) 5
 .ret))⟩
def Lv:PF:=⟨20,[.t 2],
 (H (ti<|E) 2
 (H (td 0 0<|ts 608<|tj 176<|tz 2 1 1<|tF wE 8<|ta 5 5 5<|E2 3 0 0 0 0<|tA 5 3 4<|E) 6
 (.seq (H (Z 4<|ji 0<|E) 14
 (.cond (.t 15) (H (ti<|E) 2
   .ret) .skip))
 (H (A 952 0<|tu 3<|tF Jc 16<|Y 2<|E) 16
 .ret))))⟩
def Lx:PF:=⟨23,[.cell 4 true 5,.t 5],
 (H (tb<|yJ 4<|N (o 4 (.alloc [(.int .u32 0),(.int .u8 0),(.int .u8 0),(.bool false),(.int .u32 0)] none))<|J<|E) 2
 (.seq (H (td 0 2<|m9<|Z 1<|la<|E) 8
 (.cond (.t 12) (H (N (o 13 (.build [(.int .u32 0),(.int .u8 0),(.int .u8 0),(.bool false),(.int .u32 0)] []))<|tJ 5 4 5 4<|E) 13
   .ret) .skip))
 (H (tw 1 lT<|ta 14 14 14<|tm 6 7<|E) 15
 (H (Z 6<|td 96 2<|ke 16 5<|tj 5<|tJ 5 4 5 0<|E) 19
 .ret))))⟩
def Ly:PF:=⟨11,[.t 3],
 (H (ti<|E) 3
 (.seq (H (tz 4 0 1<|wR 1<|E) 4
 (.cond (.t 6) (H (C 1<|yM<|Y 3<|E) 7
   .ret) .skip))
 (H (C 2<|yM<|Y 3<|E) 9
 .ret)))⟩
def Lz:PC:=
 (.block 1 (H (C 3<|k9 1<|gX 1 7 1<|yS 14 1 3<|N (gt 14 (some 18) (.bin .geq (.t 16) (.t 17)))<|ty 14<|E) 12
   (.cond (.t 19) (H (tu 7<|tc 1 4<|EJ 1 5<|E) 20
     .ret) .skip)))
def SF:PF:=⟨22,[.cell 4 false 1,.cell 5 false 1],
 (H (tb<|tb<|wW 0<|BS<|E) 2
 (.seq (H (A 1 2<|tp IN<|E) 8
 (.block 0 (.ia (.t 9) [10,11] (G (BQ 0 0<|tl 2 11<|E) 7) Lz)))
 (H (KJ 1 4 0<|Fa 1 5<|E) 0
 .ret)))⟩
def FK:PF:=⟨78,[.cell 6 true 1,.t 7],
 (H (te 0<|yJ 6<|za<|V<|E) 3
 (H (U 1 2<|KD 0 1 1 1 0 0<|qY 8 0 0<|tc 2 8<|E) 13
 (.seq (H (A 2 8<|tp D5<|tr<|E) 16
 (.cond (.t 18) (H (tt 1 3 1 6<|om 7<|E) 19
   .ret) .skip))
 (H (pR Jg 8<|Y 9<|E) 20
 (H (tu 3<|B 9 I0<|Y 10<|E) 21
 (.seq (H (Z 10<|il 0<|E) 25
 (.cond (.t 26) (H (tt 1 3 1 6<|om 7<|E) 27
   .ret) .skip))
 (H (tu 3<|Z 10<|m8 2<|tj 2<|qY 11 0 0<|tc 2 11<|E) 28
 (H (ti<|E) 12
 (.seq (H (tu 8<|tu 11<|Ke 34<|E) 33
 (.cond (.t 37) (G (Z 12<|tu 11<|tu 8<|tu 11<|KA 42<|N (o 46 (.build [(.int .i64 0),(.int .i64 0)] [(0,1,(.t 40)),(1,1,(.t 45))]))<|y5 1 0 2 0 0<|BN 2 16 38<|Y 12<|E) 38) .skip))
 (.seq (yU (jE 2 8<|pM oi<|sE 2 11 0 1<|pM oi<|N (o 53 (.bin .lss (.t 50) (.t 52)),[])<|E) 49
 (.cond (.t 53) (yW (F 12<|jE 2 8<|sy oi 0<|sE 2 11 1 2<|sy oi 0<|BO 2 8 1 2 3 4<|sy oi 0<|KP 58<|N (o 62 (.build [(.int .i64 0),(.int .i64 0)] [(0,1,(.t 56)),(1,1,(.t 61))]),[])<|N (o 63 (.bslice [(.int .i64 0),(.int .i64 0)] 1 [(0,2,(.t 62))]),[])<|E8 2 16 54<|tn 12<|E) 54) .skip))
 (yU (tk 0 3<|tf<|F 10<|N (o 68 (.slsl 2 (.t 66) none (some (.t 67)) none),[])<|F 12<|tk 0 3<|iL 1 1<|F 10<|KK 1<|N (o 74 (.slsl 2 (.t 71) (some (.t 73)) none none),[])<|N (o 75 (.bslice [.ai] 3 [(0,1,(.t 68)),(1,1,(.t 69)),(2,1,(.t 74))]),[])<|pM QU<|N (o 77 (.build [.ai] [(0,1,(.t 76))]),[])<|ra 1 6<|KU 7<|E) 65
 .ret)))))))))))⟩
def SG:PF:=⟨5,[],
 (G (gH<|vg<|N (o 4 (.slarr 32 1 (.t 3) none none))<|yX (u (.clear [(.int .u8 0)] (.t 4)))<|E) 2)⟩
def LA:PC:=
 (.block 1 (H (C 3<|Z 6<|N (o 14 (.bin .geq (.t 12) (.t 13)))<|gJ<|EO 1 3<|pL 6<|yY 15 1 7<|pP 15 1<|N (gt 15 (some 20) (.bin .mul (.t 19) (ci 32)))<|N (gt 15 (some 21) (.bin .add (.t 17) (.t 20)))<|N (gt 15 (some 22) (.bin .lss (.t 16) (.t 21)))<|ty 15<|E) 12
   (.cond (.t 23) (H (tu 7<|KR 32<|C 3<|y7<|Z 6<|N (o 30 (.bin .sub (.t 28) (.t 29)))<|tc 1 4<|EJ 1 5<|E) 24
     .ret) .skip)))
def SH:PF:=⟨31,[.cell 4 false 1,.cell 5 false 1],
 (H (tb<|tb<|wW 0<|BS<|E) 2
 (.seq (H (A 2 2<|tp IU<|E) 8
 (.block 0 (.ia (.t 9) [10,11] (H (Z 10<|E) 6
   (G (BQ 0 0<|tl 2 11<|E) 7)) LA)))
 (H (KJ 1 4 0<|Fa 1 5<|E) 0
 .ret)))⟩
def FL:PF:=⟨9,[.t 2],
 (H (ti<|E) 2
 (H (Z 0<|jI 0<|jI 0<|Ki 1 3 5<|Y 2<|E) 3
 .ret))⟩
def LB:PF:=⟨18,[.t 6],
 (H (te 1<|te 2<|J<|E) 4
 (.seq (H (Z 0<|N (o 8 (.ne .ptr (.t 7) (.c .dZ)))<|gJ<|EO 1 4<|wV 0<|ty 9<|E) 7
 (.cond (.t 12) (H (tY 2<|E) 6
   .ret) .skip))
 (H (Z 0<|C 4<|N (o 15 (.bin .quo (.t 14) (ci 32)))<|mD QV 5 4<|tS D9 13<|Y 6<|E) 13
 .ret)))⟩
def SI:PF:=⟨6,[],
 (G (Z 0<|C 1<|tU<|iK 1<|E) 3)⟩
def SJ:PF:=⟨6,[],
 (G (nc 0<|tq<|tc 1 1<|E) 3)⟩
def SM:PC:=
 (H (tE<|E) 9
 (.seq (.cond (.t 9) .skip (.exit 0))
 (.seq (.block 1 (H (gH<|Y 5<|E) 10
   (H (Z 1<|U 0 5<|m8 1<|tq<|EY 11<|E) 11
   (.cond (.t 16) (H (tG 5 4<|E) 17
     .ret) .skip))))
 (G (tv 8 8<|E) 18))))
def FM:PF:=⟨19,[.t 4],
 (H (J<|E) 4
 (.seq (H (Z 0<|tK<|E) 6
 (.block 0 (.loop SM)))
 (H (uW 1<|E) 4
 .ret)))⟩
def LC:PF:=⟨5,[.t 2],
 (H (ti<|E) 2
 (H (Z 0<|N (o 4 (.call (cf qP) [(.c .ai),(.t 3)]))<|Y 2<|E) 3
 .ret))⟩
def SN:PF:=⟨6,[.t 4],
 (H (tb<|tb<|ze<|E) 2
 (H (N (o 5 (.mkf (.func yF) [] [(.t 3),(.t 2)]))<|Y 4<|E) 5
 .ret))⟩
def agz:PC:=
 (H (tE<|E) 9
 (.seq (.cond (.t 9) .skip (.exit 0))
 (.seq (.block 1 (H (gH<|Y 5<|E) 10
   (H (Z 1<|U 0 5<|m8 1<|tq<|EY 11<|E) 11
   (.cond (.t 16) (H (tG 5 4<|E) 17
     .ret) .skip))))
 (G (tv 8 8<|E) 18))))
def SO:PF:=⟨19,[.t 4],
 (H (J<|E) 4
 (.seq (H (Z 0<|tK<|E) 6
 (.block 0 (.loop agz)))
 (H (uW 1<|E) 4
 .ret)))⟩
def SP:PF:=⟨7,[.t 3],
 (H (tb<|V<|E) 2
 (H (EN 2<|A 2 1<|ik IS<|Y 3<|E) 4
 .ret))⟩
def agA:PC:=
 (H (tE<|E) 28
 (.seq (.cond (.t 28) .skip (.exit 2))
 (.seq (.block 3 (H (im 1 25<|tX 8<|E) 29
   (G (U 6 8<|N (o 33 (.append fg 2 16 (.t 31) (.t 32)))<|Y 6<|E) 31)))
 (G (tv 27 27<|E) 34))))
def agB:PC:=
 (H (tE<|E) 12
 (.seq (.cond (.t 12) .skip (.exit 0))
 (.seq (.block 1 (H (im 1 9<|tX 5<|E) 13
   (H (Z 3<|jI 5<|yP 15<|Y 3<|E) 15
   (H (Z 3<|il 0<|E) 19
   (.cond (.t 20) (G (N (o 21 (.mki asn (.c (S [108,101,110,32,111,117,116,32,111,102,32,114,97,110,103,101]))))<|BD<|E) 21) .skip)))))
 (G (tv 11 11<|E) 22))))
def SQ:PF:=⟨36,[.t 2],
 (H (ti<|E) 2
 (H (J<|E) 3
 (.seq (H (Z 0<|tK<|E) 9
 (.block 0 (.loop agB)))
 (H (Z 3<|N (o 24 (.call (cf qQ) [(.c .ai),(.t 23)]))<|Y 6<|E) 23
 (.seq (H (Z 0<|tK<|E) 25
 (.block 2 (.loop agA)))
 (H (tG 6 2<|E) 35
 .ret))))))⟩
def SR:PF:=⟨11,[],
 (yW (qW 1 1<|F 0<|Ku 1 2 0<|N (o 7 (.bin .rem (.t 6) (ci 32)),[])<|kb 5<|N (o 9 (.iaddra 32 1 (.t 8) (.t 7)),[])<|N (o 10 (.call (.t 4) [(.t 9)]),[])<|E) 4)⟩
def agC:PC:=
 (.block 1 (G (C 2<|Z 5<|wX 1 0 1 0<|y8 1 4 8<|tc 1 2<|E) 8))
def LD:PF:=⟨13,[.t 4],
 (H (tb<|yJ 4<|ti<|E) 2
 (.seq (H (Z 1<|E) 6
 (.block 0 (.ia (.t 6) [7] (G (Z 7<|E) 5) agC)))
 (H (C 2<|Y 4<|E) 12
 .ret)))⟩
def agD:PC:=
 (.seq (H (jI 4<|nb 0<|E) 9
 (.cond (.t 11) .skip (.exit 0)))
 (.block 1 (H (Z 4<|jI 4<|vd 1<|Fb 1 12<|tX 5<|E) 12
   (.seq (H (U 0 5<|wO<|tr<|E) 18
   (.cond (.t 21) .ret .skip))
   (H (to 2<|B 5 m6<|Y 6<|E) 22
   (H (tw 6 QW<|E) 25
   (G (Z 4<|jI 4<|vd 1<|N (o 31 (.slsl 1 (.t 27) none (some (.t 30)) none))<|Z 6<|N (o 33 (.append bZ 1 4 (.t 31) (.t 32)))<|Y 4<|E) 27)))))))
def SS:PF:=⟨34,[],
 (H (C 1<|N (o 8 (.rT bZ [(.int .u32 0)] 1 [(0,1,(.t 7))]))<|Y 4<|E) 7
 (.block 0 (.loop agD)))⟩
def LF:PF:=⟨16,[.t 4],
 (H (tb<|tb<|ti<|E) 2
 (.seq (H (ld 2<|C 3<|la<|E) 5
 (.cond (.t 10) (H (ti<|E) 4
   .ret) .skip))
 (H (td 0 2<|m9<|tp j9<|mD El 2 3<|ik mw<|Y 4<|E) 11
 .ret)))⟩
def agE:PC:=
 (.seq (H (U 2 3<|N (o 9 (.bin .lss (.t 7) (.t 8)))<|E) 7
 (.cond (.t 9) .skip (.exit 0)))
 (.seq (.block 1 (yW (F 0<|F 2<|F 0<|F 3<|F 0<|F 3<|N (o 20 (.iaddrs 1 (.t 18) (.t 19)),[])<|tf<|F 0<|F 2<|N (o 24 (.iaddrs 1 (.t 22) (.t 23)),[])<|iL 1 7<|N (o 26 (.iaddrs 1 (.t 14) (.t 15)),[])<|tL 1 21<|N (o 27 (.iaddrs 1 (.t 16) (.t 17)),[])<|tL 1 25<|E) 14))
 (G (Z 2<|tO 1<|Z 3<|vd 1<|qT 2 11<|Y 3<|E) 10)))
def SU:PF:=⟨28,[],
 (H (jI 0<|vd 1<|tP 2 0<|Y 3<|E) 4
 (.block 0 (.loop agE)))⟩
def agF:PC:=
 (.seq (H (Z 6<|jI 0<|y4 16<|E) 16
 (.cond (.t 19) .skip (.exit 0)))
 (.seq (.block 1 (H (U 0 6<|m8 1<|tX 7<|E) 22
   (H (U 1 7<|wO<|tr<|E) 26
   (.cond (.t 29) (H (Z 0<|U 5 7<|im 1 30<|iK 1<|E) 30
     (G (Z 5<|tO 1<|Y 5<|E) 34)) .skip))))
 (G (Z 6<|tO 1<|Y 6<|E) 20)))
def FN:PF:=⟨42,[.t 4],
 (H (ti<|E) 4
 (H (Z 0<|B 1 Jh<|Y 5<|E) 8
 (.seq (H (Z 5<|N (o 12 (.eq .int (.t 11) (ci (-1))))<|E) 11
 (.cond (.t 12) (H (tG 0 4<|E) 13
   .ret) .skip))
 (.seq (H (Z 5<|tO 1<|Y 6<|E) 14
 (.block 0 (.loop agF)))
 (H (U 0 5<|N (o 38 (.slsl 1 (.t 36) (some (.t 37)) none none))<|yX (u (.clear [(.int .u32 0)] (.t 38)))<|E) 36
 (H (U 0 5<|N (o 41 (.slsl 1 (.t 39) none (some (.t 40)) none))<|Y 4<|E) 39
 .ret))))))⟩
def SW:PF:=⟨17,[.t 4],
 (H (V<|E) 4
 (H (to 1<|B 0 uN<|ta 7 7 7<|pJ 5 0 0 0 0 0 0 0 0 0 0 0<|tA 12 5 6<|E) 8
 (H (tu 5<|C 2<|ES<|Y 4<|E) 13
 .ret)))⟩
def agG:PC:=
 (H (tE<|E) 9
 (.seq (.cond (.t 9) .skip (.exit 0))
 (.seq (.block 1 (H (gH<|Y 5<|E) 10
   (H (Z 1<|U 0 5<|m8 1<|tq<|uY 11<|E) 11
   (.cond (.t 16) (H (tG 5 4<|E) 17
     .ret) .skip))))
 (G (tv 8 8<|E) 18))))
def SX:PF:=⟨19,[.t 4],
 (H (J<|E) 4
 (.seq (H (Z 0<|tK<|E) 6
 (.block 0 (.loop agG)))
 (H (uW 1<|E) 4
 .ret)))⟩
def agH:PC:=
 (H (tE<|E) 12
 (.seq (.cond (.t 12) .skip (.exit 0))
 (.seq (.block 1 (H (im 2 9<|tj 2<|qY 5 0 0<|tc 2 5<|E) 13
   (H (A 1 3<|tu 5<|tC 5<|Fc A8 16 18<|ta 15 15 15<|yX (o 6 (.alloc [.ai] none))<|tA 1 6 7<|E) 16
   (.seq (H (Z 7<|tr<|E) 24
   (.cond (.t 25) (H (V<|E) 2
     .ret) .skip))
   (G (tt 1 6 1 3<|E) 26)))))
 (G (tv 11 11<|E) 27))))
def SY:PF:=⟨39,[.t 2],
 (H (tD<|V<|E) 1
 (H (za<|E) 3
 (.seq (H (tu 1<|tK<|E) 8
 (.block 0 (.loop agH)))
 (yU (tk 1 1<|tf<|N (o 30 (.bin .geq (.t 29) (ci 0)),[])<|lW<|BA 1 1<|BG 1<|N (gt 31 (some 34) (.load true 2 (.t 1)),[5])<|N (gt 31 (some 35) (.call (cf A4) [(.t 34)]),[5])<|N (gt 31 (some 36) (.bin .mul (.t 35) (ci 32)),[])<|N (gt 31 (some 37) (.bin .leq (.t 33) (.t 36)),[])<|mG 31<|tn 2<|E) 28
 .ret))))⟩
def SZ:PF:=⟨11,[.t 6],
 (H (te 0<|te 1<|te 2<|ti<|E) 3
 (H (sv 3 4<|pR JL 5<|tS Eu 7<|Y 6<|E) 7
 .ret))⟩
def S0:PF:=⟨8,[.t 4],
 (H (tb<|tb<|ti<|E) 2
 (H (A 176 2<|pR JM 3<|ik yH<|Y 4<|E) 5
 .ret))⟩
def FO:PF:=⟨26,[.t 6],
 (H (te 0<|te 1<|yJ 6<|V<|E) 3
 (H (N (o 10 .nS)<|mD wI 3 4<|KZ 0<|mD wJ 3 4<|gV 10 1<|mD yL 3 4<|gV 10 2<|tG 10 7<|E) 10
 (H (U 7 2<|N (o 18 (.lookup .int .cJ (.t 16) (.t 17) true))<|ta 15 15 15<|tm 8 9<|E) 16
 (H (Z 9<|tB 8<|N (gt 22 (some 24) (.call (.t 23) []))<|tH 22 6<|E) 21
 .ret))))⟩
def agI:PC:=
 (H (tE<|E) 143
 (.seq (.cond (.t 143) .skip (.exit 7))
 (.seq (.block 8 (H (im 1 140<|tX 13<|E) 144
   (G (Z 0<|U 13 1<|tS JK 146<|E) 146)))
 (G (tv 142 142<|E) 150))))
def agJ:PC:=
 (H (tE<|E) 120
 (.seq (.cond (.t 120) .skip (.exit 5))
 (.seq (.block 6 (H (im 1 117<|tX 11<|E) 121
   (G (Z 0<|B 11 wF<|E) 123)))
 (G (tv 119 119<|E) 126))))
def agK:PC:=
 (H (tE<|E) 83
 (.seq (.cond (.t 83) .skip (.exit 3))
 (.seq (.block 4 (H (im 1 80<|tX 9<|E) 84
   (G (U 0 0<|pK 0 0<|ts 608<|tj 176<|B 9 Et<|ta 86 86 86<|iJ 86 2<|tT 87<|tx<|tV 0 608<|tl 176 96<|E) 87)))
 (G (tv 82 82<|E) 103))))
def agL:PC:=
 (H (tE<|E) 41
 (.seq (.cond (.t 41) .skip (.exit 0))
 (.seq (.block 1 (H (im 4 38<|tj 4<|yX (o 7 (.alloc [(.int .u8 0),(.int .u64 0),(.int .u32 0),(.bool false)] none))<|tc 4 7<|E) 42
   (.block 2 (H (tz 2 7 1<|wR 0<|tQ 3 7 1<|tg 52<|Y 48<|E) 49
     (.cond (.t 48) .skip (yU (F 0<|tk 0 7<|tf<|kb 57<|lb 0 936<|mE 8 1 59<|tf<|tn 56<|E) 57
       (.cond (.t 56) (G (Z 0<|tz 2 7 1<|tu 7<|jk<|Fc Bk 65 67<|E) 65) (G (Z 0<|tz 2 7 1<|tF wF 44<|E) 44))))))))
 (G (tv 40 40<|E) 72))))
def S1:PF:=⟨151,[],
 (H (U 0 1<|tU<|tV 0 784<|lh 8 19 16<|tj 19<|tp Rf<|ta 14 14 14<|yX (o 4 (.alloc [(.int .u8 0),(.int .u64 0),(.int .u32 0),(.bool false),(.int .u8 0),(.int .u64 0),(.int .u32 0),(.bool false),(.int .u8 0),(.int .u64 0),(.int .u32 0),(.bool false),(.int .u8 0),(.int .u64 0),(.int .u32 0),(.bool false),(.int .i64 0),(.int .i64 0),(.bool false)] none))<|tA 19 4 5<|E) 15
 (yU (F 0<|F 1<|jE 19 4<|kb 25<|lb 0 784<|mE 8 19 26<|tL 19 27<|E) 25
 (H (U 0 1<|tU<|tV 0 936<|lh 8 1 33<|zd 1<|E) 32
 (.seq (H (Z 5<|tK<|E) 38
 (.block 0 (.loop agL)))
 (.seq (H (nc 0<|tx<|tV 0 608<|tj 176<|B 1 QY<|tK<|E) 73
 (.block 3 (.loop agK)))
 (.seq (yU (th 0 0 0<|qV<|th 0 0 0<|lU<|kg 480 5<|F 1<|BT Rg 109<|KV<|N (o 119 (.mov (ci 0)),[])<|E) 104
 (.block 5 (.loop agJ)))
 (yU (th 0 0 0<|qV<|th 0 0 0<|lU<|kg 480 5<|F 1<|BT QX 132<|KV<|N (o 142 (.mov (ci 0)),[])<|E) 127
 (.block 7 (.loop agI)))))))))⟩
def S2:PF:=⟨14,[.t 4],
 (H (tb<|yJ 4<|wU 0<|E) 2
 (H (Z 1<|pR Jl 2<|ik Ed<|Y 5<|E) 6
 (H (U 1 5<|N (o 11 (.max [(ci 0),(.t 10)]))<|Fb 1 9<|tX 4<|E) 9
 .ret)))⟩
def S3:PF:=⟨10,[.t 3],
 (H (V<|E) 3
 (H (Z 0<|C 1<|vg<|ts 4<|tq<|N (o 9 (.bin .geq (.t 4) (.t 8)))<|Y 3<|E) 4
 .ret))⟩
def agM:PC:=
 (H (tE<|E) 13
 (.seq (.cond (.t 13) .skip (.exit 0))
 (.seq (.block 1 (H (im 1 10<|tX 6<|E) 14
   (H (Z 1<|B 6 Q0<|E) 16
   (.cond (.t 18) (H (tG 6 4<|E) 19
     .ret) .skip))))
 (G (tv 12 12<|E) 20))))
def S4:PF:=⟨24,[.t 4],
 (H (wU 0<|E) 4
 (.seq (H (gI 0 1 1<|tK<|E) 7
 (.block 0 (.loop agM)))
 (H (Z 1<|N (o 22 (.iaddrs 1 (.t 21) (ci 0)))<|tX 4<|E) 21
 .ret)))⟩
def S5:PF:=⟨9,[.t 4],
 (H (V<|E) 4
 (H (Z 0<|B 1 Ej<|k9 0<|Y 4<|E) 5
 .ret))⟩
def S6:PF:=⟨28,[.t 4],
 (H (wU 0<|E) 4
 (H (Z 1<|gI 0 2 1<|N (o 11 (.shf .shr (.t 10) (.c (.int .u64 33))))<|jI 1<|BF<|N (o 15 (.bin .rem (.t 11) (.t 14)))<|Fb 1 6<|tX 5<|E) 6
 (H (Z 0<|gI 0 2 1<|N (o 23 (.bin .mul (.t 22) (.c (.int .u64 6364136223846793005))))<|N (o 24 (.bin .add (.t 23) (.c (.int .u64 1))))<|tT 18<|ts 2<|tl 1 24<|E) 18
 (H (tG 5 4<|E) 27
 .ret))))⟩
def LG:PF:=⟨65,[.cell 2 true 3],
 (H (tZ<|E) 2
 (.seq (H (Z 0<|gq<|vf 0<|E) 6
 (.cond (.t 11) (G (U 0 0<|gq<|mB jC 12 1<|E) 12) .skip))
 (yU (L 0 0<|pQ 0 0 480<|L 0 953<|kc 1 1 5<|th 0 953 3<|tM 1 5 10<|BP 65<|lV<|mC Q2 25 30<|tR 19 19 19<|u9 19 2<|yX (o 3 (.alloc jD none),[5,10,15,18])<|su 480 3 39<|sD 4<|tn 5<|E) 20
 (H (tw 5 gU<|E) 42
 (H (tN 0 480 3<|tU<|tx<|tV 0 0<|tl 480 45<|E) 44
 (.seq (H (Z 0<|gq<|wR 0<|E) 50
 (.cond (.t 55) (G (U 0 4<|gI 0 952 1<|Fc Bk 56 57<|E) 56) .skip))
 (H (Z 4<|wL 2 1 0 0 0<|tc 3 2<|E) 63
 .ret)))))))⟩
def zj:PF:=⟨120,[.cell 2 true 3],
 (H (tZ<|E) 2
 (yU (th 0 953 3<|tf<|BP 129<|lV<|L 0 953<|kc 4 1 4<|BP 9<|lV<|yX (o 3 (.mov (.t 19)),[])<|tn 4<|E) 13
 (H (Z 3<|B 4 Q3<|ta 27 27 27<|tm 5 6<|E) 28
 (H (Z 6<|l0 cQ 2<|E) 33
 (H (U 0 0<|gq<|mB jC 35 1<|E) 35
 (H (U 0 0<|gq<|tF Bl 42<|pJ 7 0 0 0 0 0 0 0 0 0 0 0<|tc 12 7<|E) 42
 (.seq (H (td 2 7<|tj 2<|U 3 4<|tS JG 51<|ta 49 49 49<|tm 8 9<|E) 50
 (H (Z 9<|tr<|E) 57
 (.cond (.t 58) (yU (tk 2 7<|jG 2<|pM A4<|F 5<|KN<|tk 1 7<|tM 1 1 2<|N (o 66 (.bin .leq (.t 63) (.t 65)),[])<|qU cQ 6<|E) 59
   (H (U 0 5<|tU<|ts 961<|tl 1 69<|E) 68
   (.seq (H (gI 0 962 1<|E) 72
   (.cond (.t 75) (H (kf 2<|E) 76
     .ret) .skip))
   (yU (tk 2 7<|jG 2<|L 0 959<|kg 2 1<|jH Q4 78<|tk 2 7<|yQ 2<|E) 77
   (G (ka 0 959 1 1<|Z 5<|oo<|gJ<|sx 2 7<|KG 2<|N (gt 92 (some 95) (.call (cf Ji) [(.t 94)]))<|ty 92<|l0 cQ 2<|E) 85))))) .skip)))
 (H (td 2 7<|tj 2<|U 3 4<|tS Q5 100<|ta 98 98 98<|iJ 98 2<|yX (o 10 (.alloc [.ai,(.int .i64 0)] none))<|lY 2 10 104<|tm 11 12<|E) 99
 (H (A 2 10<|td 2 7<|iK 2<|E) 107
 (yU (F 0<|th 0 953 1<|tf<|tW 12 7 5<|BT JH 109<|E) 109
 (H (Z 11<|BF<|wL 1 1 0 0 0<|tc 3 2<|E) 117
 .ret)))))))))))⟩
def S7:PF:=⟨28,[.cell 2 true 3],
 (H (tZ<|E) 2
 (H (nc 0<|ts 953<|tj 6<|tp JI<|E) 3
 (H (U 0 0<|gq<|mB jC 8 0<|E) 8
 (yU (F 0<|th 0 953 1<|tf<|jH Bl 15<|L 0 953<|Fe 6 5 6<|jH Ep 21<|E) 15
 (H (kf 2<|E) 27
 .ret)))))⟩
def S8:PF:=⟨28,[.cell 2 true 3],
 (H (tZ<|E) 2
 (H (nc 0<|ts 953<|tj 6<|tp JI<|E) 3
 (H (U 0 0<|gq<|mB jC 8 1<|E) 8
 (yU (F 0<|th 0 953 1<|tf<|jH Bl 15<|L 0 953<|Fe 6 5 6<|jH Ep 21<|E) 15
 (H (kf 2<|E) 27
 .ret)))))⟩
def S9:PF:=⟨40,[.cell 2 true 3],
 (H (tZ<|E) 2
 (H (U 0 0<|gq<|mB jC 4 1<|E) 4
 (H (U 0 0<|gq<|tF Bl 11<|pJ 3 0 0 0 0 0 0 0 0 0 0 0<|tc 12 3<|E) 11
 (yU (F 0<|L 0 963<|tf<|tk 2 3<|kc 0 1 4<|E8 2 16 22<|lg 18 963<|tL 1 26<|E) 18
 (yU (F 0<|th 0 953 1<|tf<|tk 1 3<|iL 1 5<|N (o 37 (.build [(.int .u32 0),(.int .i64 0),.ai,(.int .i64 0),(.int .u32 0),(.int .u32 0),(.int .u32 0),(.int .u32 0),(.int .u32 0),(.int .u32 0),(.int .u32 0),(.int .u32 0)] [(1,1,(.t 36))]),[])<|mC JH 29 34<|E) 29
 (H (kf 2<|E) 39
 .ret))))))⟩
def Ta:PF:=⟨18,[.cell 2 true 3],
 (H (tZ<|E) 2
 (H (U 0 0<|gq<|mB jC 3 2<|E) 3
 (H (U 0 0<|gq<|tF wF 10<|E) 10
 (H (kf 2<|E) 17
 .ret))))⟩
def Tb:PF:=⟨48,[.cell 2 true 3],
 (H (tZ<|E) 2
 (H (U 0 0<|gq<|mB jC 3 2<|E) 3
 (yU (L 0 0<|pQ 0 0 480<|L 0 953<|kc 1 1 5<|jH uQ 15<|th 0 953 1<|eB 1 5 10 11<|N (o 27 (.ne .int (.t 21) (.t 26)),[])<|qU cQ 12<|E) 10
 (H (U 0 0<|gq<|tF Er 29<|E) 29
 (yU (F 0<|th 0 953 1<|tf<|L 0 952<|iL 1 5<|mC Bk 36 41<|E) 36
 (H (kf 2<|E) 47
 .ret))))))⟩
def Tc:PF:=⟨48,[.cell 2 true 3],
 (H (tZ<|E) 2
 (H (U 0 0<|gq<|mB jC 5 2<|E) 5
 (H (Z 0<|ka 0 953 2 1<|mB jC 12 1<|E) 12
 (yU (L 0 0<|pQ 0 0 480<|L 0 953<|kc 1 1 5<|th 0 953 2<|tM 1 5 10<|mC Q6 25 30<|tR 19 19 19<|yX (o 3 (.alloc jD none),[5,10,15,16])<|jF 480 3<|tn 4<|E) 20
 (H (tw 4 gU<|E) 39
 (H (tN 0 480 3<|tU<|tx<|tV 0 0<|tl 480 42<|E) 41
 (H (kf 2<|E) 47
 .ret)))))))⟩
def Td:PF:=⟨53,[.cell 2 true 3],
 (H (tZ<|E) 2
 (H (U 0 0<|gq<|mB jC 5 2<|E) 5
 (H (U 0 0<|gq<|tF Er 12<|E) 12
 (yU (th 0 0 0<|qV<|th 0 0 0<|lU<|kg 480 5<|th 0 953 1<|tM 1 5 11<|L 0 952<|eB 1 5 11 16<|Fg Q7 25 31 36<|tR 19 19 19<|KE 3 5 11 16 20 21<|jF 128 3<|tn 4<|E) 20
 (H (tw 4 gU<|E) 44
 (H (tN 0 128 3<|tU<|tx<|tV 0 480<|tl 128 47<|E) 46
 (H (kf 2<|E) 52
 .ret)))))))⟩
def LH:PF:=⟨55,[.cell 2 true 3],
 (H (tZ<|E) 2
 (H (Z 0<|ka 0 953 3 1<|tF Bm 5<|E) 5
 (H (U 0 0<|gq<|tF Es 12<|E) 12
 (yU (th 0 0 0<|qV<|th 0 0 0<|lU<|kg 480 5<|th 0 953 1<|tM 1 5 11<|th 0 953 3<|eB 1 5 11 16<|lV<|Fg JJ 25 31 36<|tR 19 19 19<|KE 3 5 11 16 21 23<|jF 128 3<|tn 4<|E) 20
 (H (tw 4 gU<|E) 46
 (H (tN 0 128 3<|tU<|tx<|tV 0 480<|tl 128 49<|E) 48
 (H (kf 2<|E) 54
 .ret)))))))⟩
def LJ:PF:=⟨22,[.cell 2 true 3],
 (H (tZ<|E) 2
 (H (U 0 0<|gq<|tF Es 3<|E) 3
 (yU (F 0<|th 0 953 1<|tf<|L 0 952<|iL 1 5<|mC JK 10 15<|E) 10
 (H (kf 2<|E) 21
 .ret))))⟩
def zk:PF:=⟨161,[.cell 2 true 3],
 (H (tZ<|E) 2
 (H (Z 0<|ka 0 953 3 1<|tF Bm 9<|E) 9
 (H (ka 0 953 4 1<|N (o 21 (.bin .leq (.t 20) (.c (.int .u32 1))))<|l0 cQ 2<|E) 16
 (yU (th 0 0 0<|lU<|pQ 0 0 96<|L 0 953<|kc 1 1 7<|jH lS 30<|qU cQ 4<|E) 23
 (.seq (H (ka 0 953 2 1<|wR 0<|E) 38
 (.cond (.t 43) (yU (th 0 0 0<|qV<|th 0 0 0<|lU<|kg 480 5<|th 0 953 1<|tM 1 5 11<|mC wG 49 55<|yX (o 3 (.alloc [(.int .u8 0),(.int .u8 0),(.int .u8 0)] none),[5,11,16,17])<|ra 3 3<|E) 44
   (yW (tk 0 3<|tf<|E3 1<|lW<|BA 1 3<|BG 1<|N (gt 65 (some 68) (.conv .i64 (.t 67)),[])<|Kd 65 0<|uV 65<|gW 65 952<|N (gt 65 (some 72) (.load false 1 (.t 71)),[5])<|N (gt 65 (some 73) (.eq .int (.t 68) (.t 72)),[])<|mG 65<|qU cQ 5<|E) 62)) (yU (L 0 0<|pQ 0 608 176<|L 0 953<|kc 2 1 5<|jH wE 82<|tR 76 76 76<|yX (o 4 (.alloc [(.int .u32 0),(.int .u8 0),(.int .u8 0),(.bool false),(.int .u32 0)] none),[5,10,11])<|jF 5 4<|tn 5<|E) 77
   (H (tw 5 gU<|E) 91
   (yW (tk 2 4<|tf<|lV<|L 0 952<|iL 1 1<|EI 95<|lW<|BA 0 4<|BG 1<|Kd 101 0<|uV 101<|gW 101 953<|gW 101 1<|N (gt 101 (some 108) (.load false 1 (.t 107)),[10])<|N (gt 101 (some 109) (.eq .int (.t 103) (.t 108)),[])<|mG 101<|qU cQ 5<|E) 93)))))
 (yU (L 0 0<|pQ 0 608 176<|L 0 953<|kc 1 1 5<|L 0 952<|tM 1 5 10<|BL<|th 0 953 3<|eB 1 5 10 14<|BL<|th 0 953 4<|E5 1 5 10 14 20<|N (o 140 (.eq .int (.t 139) (.c (.int .u32 1))),[])<|th 0 953 2<|BU 1 5 10 14 20 26<|N (o 146 (.build [(.int .u32 0),(.int .u8 0),(.int .u8 0),(.bool false),(.int .u32 0)] [(0,1,(.t 123)),(1,1,(.t 128)),(2,1,(.t 134)),(3,1,(.t 140)),(4,1,(.t 145))]),[])<|jH Q8 118<|tR 112 112 112<|u9 112 2<|yX (o 6 (.alloc uT none),[5,10,14,20,26,32,34])<|su 176 6 148<|sD 7<|tn 8<|E) 113
 (H (tw 8 gU<|E) 151
 (H (tN 0 176 6<|tU<|tx<|tV 0 608<|tl 176 154<|E) 153
 (H (Z 7<|wL 2 1 0 0 0<|tc 3 2<|E) 159
 .ret)))))))))⟩
def Te:PF:=⟨53,[.cell 2 true 3],
 (H (tZ<|E) 2
 (yU (L 0 0<|pQ 0 608 176<|L 0 953<|kc 2 1 5<|jH wE 11<|tR 5 5 5<|yX (o 3 (.alloc [(.int .u32 0),(.int .u8 0),(.int .u8 0),(.bool false),(.int .u32 0)] none),[5,10,11])<|jF 5 3<|tn 4<|E) 6
 (H (tw 4 gU<|E) 20
 (yU (tk 2 3<|tf<|lV<|L 0 952<|iL 1 1<|EI 24<|qU cQ 5<|E) 22
 (yU (F 0<|L 0 0<|pQ 0 608 176<|L 0 953<|kc 2 1 6<|pF Et 38 0<|tR 31 31 31<|u9 31 2<|lg 32 0<|lb 0 608<|tL 176 45<|E) 32
 (H (kf 2<|E) 52
 .ret))))))⟩
def zl:PF:=⟨179,[.cell 2 true 3],
 (H (tZ<|E) 2
 (H (Z 0<|ka 0 953 3 1<|tF Bm 10<|E) 10
 (H (ka 0 953 4 1<|N (o 22 (.bin .leq (.t 21) (.c (.int .u32 1))))<|l0 cQ 2<|E) 17
 (yU (L 0 952<|tf<|BL<|L 0 953<|kc 5 1 3<|th 0 953 1<|tM 1 3 9<|th 0 953 1<|eB 1 3 9 14<|N (o 44 (.ne .int (.t 43) (.c (.int .u32 0))),[])<|lW<|yZ 0<|Fk<|gW 45 953<|gW 45 4<|N (gt 45 (some 50) (.load false 1 (.t 49)),[3,9,14])<|N (gt 45 (some 51) (.eq .int (.t 50) (.c (.int .u32 1))),[])<|mG 45<|N (o 53 (.build [(.int .u8 0),(.int .u64 0),(.int .u32 0),(.bool false)] [(0,1,(.t 28)),(1,1,(.t 33)),(2,1,(.t 38)),(3,1,(.t 52))]),[])<|yX (o 3 (.alloc [(.int .u8 0),(.int .u64 0),(.int .u32 0),(.bool false)] none),[3,9,14,19,26])<|ra 4 3<|E) 24
 (.seq (.block 0 (H (td 3 3<|tX 54<|E) 55
   (.cond (.t 54) (H (U 0 0<|gq<|tF Es 57<|E) 57
     (yU (th 0 0 0<|qV<|th 0 0 0<|lU<|kg 480 5<|th 0 953 1<|tM 1 5 11<|th 0 953 3<|eB 1 5 11 16<|lV<|Fg JJ 70 76 81<|tR 64 64 64<|KE 4 5 11 16 21 23<|jF 128 4<|tn 5<|E) 65
     (H (Z 5<|lZ 0<|E) 91
     (.cond (.t 92) (G (tN 0 128 4<|tU<|tx<|tV 0 480<|tl 128 94<|E) 93) .skip)))) (H (Z 0<|gq<|vf 0<|Y 99<|E) 100
     (.cond (.t 99) (H (U 0 0<|gq<|mB jC 106 2<|E) 106
       (H (U 0 0<|gq<|tF Er 113<|E) 113
       (yU (th 0 0 0<|qV<|th 0 0 0<|lU<|kg 480 5<|th 0 953 1<|tM 1 5 11<|mC Q9 126 132<|tR 120 120 120<|yX (o 6 (.alloc wK none),[5,11,16,17])<|jF 128 6<|tn 7<|E) 121
       (H (tw 7 gU<|E) 141
       (G (tN 0 128 6<|tU<|tx<|tV 0 480<|tl 128 144<|E) 143))))) .skip)))))
 (yU (F 0<|th 0 953 3<|tf<|kb 150<|lb 0 784<|mE 8 19 155<|jG 19<|sE 4 3 5 10<|BM Ra<|tR 149 149 149<|yX (o 8 (.alloc [(.int .u8 0),(.int .u64 0),(.int .u32 0),(.bool false),(.int .u8 0),(.int .u64 0),(.int .u32 0),(.bool false),(.int .u8 0),(.int .u64 0),(.int .u32 0),(.bool false),(.int .u8 0),(.int .u64 0),(.int .u32 0),(.bool false),(.int .i64 0),(.int .i64 0),(.bool false)] none),[5,10,11,12])<|jF 19 8<|tn 9<|E) 150
 (H (tw 9 gU<|E) 165
 (yU (F 0<|th 0 953 3<|tf<|tW 19 8 5<|kb 167<|lb 0 784<|mE 8 19 172<|tL 19 173<|E) 167
 (H (kf 2<|E) 178
 .ret)))))))))⟩
def FQ:PF:=⟨54,[.cell 2 true 3],
 (H (tZ<|E) 2
 (yU (F 0<|L 0 952<|tf<|kb 7<|lb 0 784<|mE 8 19 11<|jG 19<|pM Rb<|tR 6 6 6<|u9 6 2<|yX (o 3 (.alloc [(.int .u8 0),(.int .u64 0),(.int .u32 0),(.bool false),(.int .u8 0),(.int .u64 0),(.int .u32 0),(.bool false),(.int .u8 0),(.int .u64 0),(.int .u32 0),(.bool false),(.int .u8 0),(.int .u64 0),(.int .u32 0),(.bool false),(.int .i64 0),(.int .i64 0),(.bool false)] none),[4,9,10])<|yX (o 4 (.alloc [(.int .u8 0),(.int .u64 0),(.int .u32 0),(.bool false)] none),[4,9,10,15])<|su 19 3 18<|jF 4 4<|tn 5<|E) 7
 (H (tw 5 gU<|E) 21
 (yU (F 0<|L 0 952<|tf<|tW 19 3 4<|kb 23<|lb 0 784<|mE 8 19 27<|tL 19 28<|E) 23
 (.seq (H (tz 2 4 1<|vf 0<|gX 3 4 1<|uZ 36<|ty 36<|E) 33
 (.cond (.t 40) (yW (F 0<|tk 2 4<|tf<|L 0 952<|iL 1 2<|mC Bk 41 43<|E) 41) .skip))
 (H (tC 4<|tz 2 4 1<|N (o 53 (.build [(.int .i64 0),(.int .u64 0),(.int .u32 0)] [(1,1,(.t 50)),(2,1,(.t 52))]))<|tc 3 2<|E) 49
 .ret))))))⟩
def Tf:PF:=⟨32,[.cell 2 true 3],
 (H (tZ<|E) 2
 (yU (F 0<|L 0 952<|tf<|kb 6<|lb 0 784<|mE 8 19 10<|jG 19<|pM Rc<|tR 5 5 5<|yX (o 3 (.alloc [(.int .u8 0),(.int .u64 0),(.int .u32 0),(.bool false),(.int .u8 0),(.int .u64 0),(.int .u32 0),(.bool false),(.int .u8 0),(.int .u64 0),(.int .u32 0),(.bool false),(.int .u8 0),(.int .u64 0),(.int .u32 0),(.bool false),(.int .i64 0),(.int .i64 0),(.bool false)] none),[4,9,10])<|jF 19 3<|tn 4<|E) 6
 (H (tw 4 gU<|E) 19
 (yU (F 0<|L 0 952<|tf<|tW 19 3 4<|kb 21<|lb 0 784<|mE 8 19 25<|tL 19 26<|E) 21
 (H (kf 2<|E) 31
 .ret)))))⟩
def LK:PF:=⟨81,[.cell 2 true 3],
 (H (tZ<|E) 2
 (H (U 0 0<|gq<|mB jC 5 1<|E) 5
 (.seq (H (ka 0 953 2 1<|vf 0<|E) 12
 (.cond (.t 17) (G (Z 0<|ka 0 953 2 1<|mB jC 18 0<|E) 18) .skip))
 (yU (L 0 0<|pQ 0 0 480<|L 0 953<|kc 1 1 5<|th 0 953 3<|tM 1 5 10<|BP 8<|lV<|th 0 953 2<|eB 1 5 10 15<|L 0 0<|lb 0 480<|N (o 54 (.load true 128 (.t 53)),[5,10,15,22])<|th 0 0 0<|lU<|N (o 60 (.load true 480 (.t 59)),[5,10,15,22,28])<|th 0 953 2<|N (o 65 (.load false 1 (.t 64)),[5,10,15,22,28,34])<|N (o 66 (.call (cf wG) [(.t 54),(.t 60),(.t 65)]),[5,10,15,22])<|N (o 67 (.fld false 1 0 (.t 66)),[])<|E3 3<|N (o 69 (.call (cf Re) [(.t 31),(.t 36),(.t 43),(.t 48),(.t 68)]),[])<|tR 25 25 25<|yX (o 3 (.alloc jD none),[5,10,15,22,28,34,39,40,43])<|jF 480 3<|tn 4<|E) 26
 (H (tw 4 gU<|E) 72
 (H (tN 0 480 3<|tU<|tx<|tV 0 0<|tl 480 75<|E) 74
 (H (kf 2<|E) 80
 .ret)))))))⟩
def Tg:PF:=⟨38,[.cell 2 true 3],
 (H (tZ<|E) 2
 (H (U 0 0<|gq<|mB jC 5 0<|E) 5
 (yU (L 0 0<|pQ 0 0 480<|L 0 953<|kc 1 1 5<|th 0 953 3<|tM 1 5 10<|BP 8<|lV<|mC yG 18 23<|tR 12 12 12<|sD 3<|tn 4<|E) 13
 (H (tw 4 gU<|E) 34
 (H (Z 3<|wL 2 1 0 0 0<|tc 3 2<|E) 36
 .ret)))))⟩
def LM:PF:=⟨10,[.cell 2 true 3],
 (H (tZ<|E) 2
 (H (Z 0<|gI 0 952 1<|tF Jj 3<|E) 3
 (H (kf 2<|E) 9
 .ret)))⟩
def FR:PF:=⟨19,[.cell 2 true 3],
 (H (tZ<|E) 2
 (H (Z 0<|ka 0 953 3 1<|tF Bm 3<|E) 3
 (H (Z 0<|ka 0 953 3 1<|jk<|tF Jj 10<|E) 10
 (H (kf 2<|E) 18
 .ret))))⟩
def LN:PF:=⟨46,[.cell 2 true 3],
 (H (tZ<|E) 2
 (yU (th 0 953 3<|tf<|N (o 8 (.bin .lss (.t 7) (.c (.int .u32 8))),[])<|lW<|yZ 0<|Ko 0<|uV 9<|gW 9 953<|gW 9 3<|wS 9 1<|N (gt 9 (some 16) (.bin .rem (.t 15) (.c (.int .u32 8))),[])<|N (gt 9 (some 17) (.nilck (.t 10)),[])<|gW 9 0<|gW 9 944<|N (gt 9 (some 20) (.iaddra 8 1 (.t 19) (.t 16)),[])<|wS 9 1<|N (gt 9 (some 22) (.un .not (.t 21)),[])<|mG 9<|qU cQ 2<|E) 3
 (yU (F 0<|th 0 953 3<|tf<|F 0<|L 0 953<|kc 3 1 5<|kb 25<|lb 0 936<|mE 8 1 30<|EL 1<|kb 31<|lb 0 944<|mE 8 1 36<|EL 1<|E) 25
 (H (kf 2<|E) 45
 .ret))))⟩
def Th:PF:=⟨19,[],
 (yW (th 0 0 0<|jG 784<|L 0 952<|iL 1 4<|F 1<|F 2<|E6 Rh 10 14<|pM gU<|E) 6)⟩
def zm:PF:=⟨36,[.cell 6 true 480,.t 7,.t 8],
 (H (te 0<|yJ 6<|qX<|pN 0<|J<|E) 3
 (H (to 3<|U 1 2<|tS Ri 13<|ta 12 12 12<|iJ 12 2<|Fi 9<|lY 480 9 17<|tm 10 11<|E) 13
 (.seq (H (Z 11<|lZ 0<|tI 11<|N (gf 22 (some 24) (.eq .int (.t 23) (ci 7)))<|tg 22<|gJ<|Bz 480 3<|pL 1<|qS 26 Bo<|Kb 26 6<|ty 26<|E) 20
 (.cond (.t 31) (H (tt 480 3 480 6<|wN 7 0<|tP 8 8<|E) 32
   .ret) .skip))
 (H (to 9<|U 10 11<|lY 480 6 33<|tm 7 8<|E) 33
 .ret))))⟩
def FT:PF:=⟨6,[],
 (G (gH<|lZ 0<|B 0 cQ<|E) 2)⟩
def Ti:PF:=⟨34,[],
 (yU (th 0 0 0<|qV<|th 0 0 0<|lU<|kg 480 5<|F 1<|F 2<|E6 Rj 14 20<|tR 8 8 8<|yX (o 6 (.alloc wK none),[5,11,14])<|jF 128 6<|tn 7<|E) 9
 (H (tw 7 gU<|E) 26
 (G (tN 0 128 6<|tU<|tx<|tV 0 480<|tl 128 29<|E) 28)))⟩
def LO:PF:=⟨14,[.t 4,.t 5],
 (H (J<|V<|E) 4
 (.seq (H (Z 0<|B 1 JN<|tr<|E) 6
 (.cond (.t 9) (H (J<|V<|E) 4
   .ret) .skip))
 (H (Z 0<|tO 32<|vd 1<|N (o 13 (.bin .quo (.t 12) (ci 32)))<|Y 4<|ot 5<|E) 10
 .ret)))⟩
def Tj:PF:=⟨21,[.cell 4 true 12],
 (H (KT 0 0 0 0 0 0 0 0 0 0 0<|E) 4
 (H (Z 0<|pK 0 0<|tx<|tj 480<|B 1 uN<|ta 7 7 7<|pJ 5 0 0 0 0 0 0 0 0 0 0 0<|tA 12 5 6<|E) 8
 (H (tw 6 gU<|E) 18
 (H (tt 12 5 12 4<|E) 20
 .ret))))⟩
def FU:PF:=⟨27,[.t 6,.t 7],
 (H (te 0<|yJ 5<|te 2<|J<|V<|E) 3
 (.seq (H (Z 1<|C 5<|ik JN<|tr<|E) 10
 (.cond (.t 13) (H (J<|V<|E) 6
   .ret) .skip))
 (H (pR Rk 5<|Y 8<|E) 14
 (H (Z 8<|tC 3<|uY 15<|Y 9<|E) 15
 (.seq (H (U 9 1<|y7<|A 2 3<|tp A4<|KR 32<|Ke 21<|E) 19
 (.cond (.t 25) (H (J<|V<|E) 6
   .ret) .skip))
 (H (tG 9 6<|ot 7<|E) 26
 .ret))))))⟩
def Tk:PF:=⟨15,[.cell 4 true 2],
 (H (tb<|tb<|N (o 4 (.alloc [.ai,(.int .i64 0)] none))<|E) 2
 (yU (tk 0 2<|tf<|pM Rl<|sE 2 3 1 2<|N (o 9 (.bslice [(.int .i64 0),(.int .i64 0)] 1 [(0,2,(.t 8))]),[])<|E8 2 16 7<|BO 2 2 1 2 3 5<|pM A4<|N (o 13 (.bin .mul (.t 12) (ci 32)),[])<|N (o 14 (.build [.ai,(.int .i64 0)] [(0,1,(.t 10)),(1,1,(.t 13))]),[])<|ra 2 4<|E) 5
 .ret))⟩
def LP:PF:=⟨26,[.cell 6 true 2,.t 7,.t 8],
 (H (te 0<|yJ 6<|N (o 6 (.alloc [.ai,(.int .i64 0)] none))<|J<|V<|E) 3
 (H (A 2 3<|U 1 2<|tS JG 12<|ta 11 11 11<|tm 9 10<|E) 12
 (.seq (H (Z 10<|E) 18
 (.cond (.t 18) (G (U 9 1<|y7<|td 1 3<|iK 1<|E) 19) .skip))
 (H (A 2 3<|U 9 10<|lY 2 6 23<|tm 7 8<|E) 23
 .ret))))⟩
def Tl:PF:=⟨28,[],
 (H (te 2<|E) 5
 (yU (L 0 0<|pQ 0 0 480<|F 1<|tW 12 5 5<|BT Ev 14<|tR 8 8 8<|yX (o 6 (.alloc jD none),[5,7,8])<|jF 480 6<|tn 7<|E) 9
 (H (tw 7 gU<|E) 20
 (G (tN 0 480 6<|tU<|tx<|tV 0 0<|tl 480 23<|E) 22))))⟩
def FV:PF:=⟨11,[],
 (H (tD<|E) 1
 (G (ts 4<|tq<|N (o 4 (.bin .geq (.t 3) (.c (.int .u32 1))))<|gX 4 1 1<|N (gt 5 (some 8) (.bin .leq (.t 7) (.c (.int .u32 8))))<|ty 5<|l0 cQ 2<|E) 2))⟩
def LQ:PF:=⟨16,[],
 (H (tb<|tb<|E) 2
 (G (ts 3<|tq<|jk<|td 2 2<|ts 1<|tq<|tz 4 3 1<|jk<|KA 9<|N (o 14 (.bin .leq (.t 6) (.t 13)))<|l0 cQ 9<|E) 4))⟩
def agN:PC:=
 (H (tE<|E) 18
 (.seq (.cond (.t 18) .skip (.exit 0))
 (.seq (.block 1 (H (im 1 15<|tX 5<|E) 19
   (H (Z 0<|pK 0 0<|tx<|tj 480<|B 5 uN<|ta 21 21 21<|pJ 6 0 0 0 0 0 0 0 0 0 0 0<|tA 12 6 7<|E) 22
   (yU (F 0<|L 0 963<|tf<|tk 2 6<|kc 0 1 4<|E8 2 16 36<|lg 32 963<|tL 1 40<|E) 32
   (G (U 0 0<|pK 0 0<|ts 608<|tj 176<|B 5 Rm<|tT 43<|tx<|tV 0 608<|tl 176 51<|E) 43)))))
 (G (tv 17 17<|E) 56))))
def Tm:PF:=⟨74,[],
 (.seq (H (Z 0<|pK 0 0<|tx<|tj 480<|B 1 pC<|tK<|E) 8
 (.block 0 (.loop agN)))
 (G (U 0 0<|pK 0 0<|tx<|tj 480<|B 1 JO<|ta 57 57 57<|iJ 57 2<|tT 58<|tx<|tV 0 0<|tl 480 67<|E) 58))⟩
def agO:PC:=
 (.block 1 (G (Z 5<|tc 1 3<|E) 16))
def LR:PF:=⟨18,[.t 4],
 (H (tb<|tb<|pN 0<|E) 2
 (.seq (H (ld 2<|C 3<|la<|E) 6
 (.cond (.t 11) (H (pN 0<|E) 4
   .ret) .skip))
 (.seq (H (to 2<|C 3<|ik Ew<|E) 12
 (.block 0 (.ia (.t 14) [15] (G (Z 15<|E) 5) agO)))
 (H (C 3<|Y 4<|E) 17
 .ret))))⟩
def Tn:PF:=⟨25,[],
 (H (Z 0<|pK 0 0<|tx<|tj 480<|B 1 Rn<|ta 6 6 6<|Fi 4<|tA 480 4 5<|E) 7
 (H (tw 5 gU<|E) 17
 (G (tN 0 480 4<|tU<|tx<|tV 0 0<|tl 480 20<|E) 19)))⟩
def w9:PF:=⟨53,[.cell 6 true 480,.t 7],
 (H (te 0<|yJ 6<|qX<|J<|E) 3
 (.seq (.block 0 (H (ld 3<|Z 1<|la<|gJ<|vc 0 3<|y3 0<|BI 15 96<|m7 15 2<|BK 15 lS<|sB 15<|tg 15<|Y 8<|E) 9
   (.cond (.t 8) (H (to 3<|tJ 480 6 7 4<|E) 23
     .ret) (H (to 3<|B 1 uQ<|Z 1<|ES<|gJ<|E0 480 3<|By 1<|m7 30 2<|N (gf 30 (some 34) (.call (cf Ey) [(.t 31),(.t 32),(.t 33)]))<|tg 30<|Y 24<|E) 25
     (.cond (.t 24) (H (to 3<|tJ 480 6 7 12<|E) 36
       .ret) (yU (jE 480 3<|F 2<|BM Bo<|sE 480 3 0 2<|F 1<|BM Ro<|E9 40<|N (o 45 (.bin .gtr (.t 44) (ci 6)),[])<|tn 37<|E) 38
       (.cond (.t 37) (H (to 3<|tJ 480 6 7 8<|E) 46
         .ret) .skip)))))))
 (H (to 3<|U 1 2<|tS Bp 47<|Bw 0<|BR 1<|tA 480 6 7<|E) 47
 .ret)))⟩
def To:PF:=⟨20,[.cell 8 true 128,.t 9],
 (H (te 0<|te 1<|yJ 8<|wZ<|J<|E) 4
 (yU (jE 128 4<|tW 480 5 0<|F 2<|F 3<|F 3<|N (o 15 (.call (cf Bn) [(.t 14)]),[0,1])<|N (o 16 (.build [(.int .u8 0),(.int .u8 0),(.int .u8 0)] [(0,1,(.c (.int .u8 3))),(2,1,(.t 15))]),[])<|N (o 17 (.call (cf wH) [(.t 10),(.t 11),(.t 12),(.t 13),(.t 16)]),[])<|N (o 18 (.ext (.t 17) 0),[])<|N (o 19 (.ext (.t 17) 1),[])<|jF 128 8<|tn 9<|E) 10
 .ret))⟩
def LS:PF:=⟨16,[],
 (G (Z 1<|N (o 5 (.bin .lss (.t 4) (.c (.int .u32 8))))<|tB 0<|pL 1<|N (gt 6 (some 9) (.nilck (.t 7)))<|wT 6 0<|wT 6 936<|N (gt 6 (some 12) (.iaddra 8 1 (.t 11) (.t 8)))<|pP 6 1<|ty 6<|l0 cQ 2<|E) 4)⟩
def B3:PF:=⟨56,[],
 (H (Z 0<|pK 0 0<|tx<|tV 0 0<|m9<|B 1 lS<|l0 cQ 4<|E) 5
 (yU (th 0 0 0<|qV<|th 0 0 0<|lU<|kg 480 5<|F 1<|BT wG 21<|yX (o 4 (.alloc [(.int .u8 0),(.int .u8 0),(.int .u8 0)] none),[5,11,13])<|ra 3 4<|E) 16
 (H (Z 0<|pK 0 0<|tx<|tj 480<|B 1 uQ<|Z 1<|oo<|gX 0 4 1<|N (gt 40 (some 43) (.eq .int (.t 42) (.c (.int .u8 3))))<|ty 40<|l0 cQ 12<|E) 30
 (yW (tk 2 4<|tf<|L 0 952<|iL 1 1<|N (o 52 (.shf .shr (.t 47) (.t 51)),[])<|N (o 53 (.bin .and (.t 52) (.c (.int .u8 1))),[])<|E3 1<|qU cQ 5<|E) 46))))⟩
def Tp:PF:=⟨24,[.cell 8 true 128,.t 9],
 (H (te 0<|te 1<|yJ 8<|wZ<|J<|E) 4
 (H (sv 4 5<|U 2 3<|N (o 18 (.call (cf JP) [(.t 14),(.t 15),(.t 16),(.t 17),(.c (.bool true))]))<|ta 13 13 13<|iJ 13 2<|Kf 10<|lY 128 10 19<|tm 11 12<|E) 14
 (H (A 128 10<|Z 12<|tA 128 8 9<|E) 22
 .ret)))⟩
def LU:PF:=⟨41,[],
 (yU (th 0 0 0<|qV<|th 0 0 0<|lU<|kg 480 5<|F 1<|F 2<|E6 Rp 15 21<|tR 9 9 9<|u9 9 2<|yX (o 6 (.alloc wK none),[5,11,14])<|su 128 6 25<|sD 7<|tn 8<|E) 10
 (H (tw 8 gU<|E) 28
 (H (tN 0 128 6<|tU<|tx<|tV 0 480<|tl 128 31<|E) 30
 (H (Z 7<|lZ 0<|E) 36
 (.cond (.t 37) (G (Z 0<|B 1 wF<|E) 38) .skip)))))⟩
def FW:PF:=⟨35,[.cell 6 true 3],
 (H (te 0<|te 1<|yJ 6<|N (o 6 (.alloc [(.int .u8 0),(.int .u8 0),(.int .u8 0)] none))<|E) 3
 (H (to 4<|B 2 uQ<|Y 7<|E) 10
 (H (tw 7 lT<|ta 13 13 13<|tm 8 9<|E) 14
 (.seq (H (Z 9<|tr<|tI 8<|Kn 0 3<|N (gf 20 (some 23) (.iaddra 32 4 (.t 22) (.t 21)))<|qZ 20 0<|oq 20 1<|m7 20 7<|N (gf 20 (some 27) (.ne .int (.t 25) (.t 26)))<|tg 20<|E) 18
 (.cond (.t 28) (H (N (o 29 (.build [(.int .u8 0),(.int .u8 0),(.int .u8 0)] []))<|tc 3 6<|E) 29
   .ret) .skip))
 (H (Z 8<|td 0 3<|ke 32 4<|ts 1<|tj 3<|tc 3 6<|E) 30
 .ret)))))⟩
def B4:PF:=⟨47,[.cell 4 true 176,.t 5,.t 6],
 (H (tb<|tb<|ER<|pN 0<|J<|E) 2
 (.seq (H (A 176 2<|A 5 3<|ik Rq<|Y 7<|E) 13
 (H (Z 7<|ji 0<|E) 16
 (.cond (.t 17) (H (A 176 2<|Z 7<|uU 176 4<|wN 5 0<|Y 6<|E) 18
   .ret) .skip)))
 (H (td 0 2<|m9<|tp JQ<|ta 20 20 20<|iJ 20 2<|Kz 8<|lY 96 8 24<|tm 9 10<|E) 21
 (H (tw 9 lT<|ta 27 27 27<|tm 11 12<|E) 28
 (.seq (H (Z 12<|tr<|tI 11<|Km 16<|tg 34<|E) 32
 (.cond (.t 37) (H (tt 176 2 176 4<|wN 5 0<|tP 6 7<|E) 38
   .ret) .skip))
 (yU (F 11<|jE 96 8<|tW 5 3 1<|tk 0 2<|yX (u (.store 96 (.t 42) (.t 40)),[2])<|tk 96 2<|mE 16 5 39<|tL 5 41<|E) 39
 (H (A 176 2<|Z 9<|tA 176 4 5<|tP 6 0<|E) 45
 .ret)))))))⟩
def agP:PC:=
 (H (tE<|E) 28
 (.seq (.cond (.t 28) .skip (.exit 0))
 (.seq (.block 1 (H (im 1 25<|tX 11<|E) 29
   (H (C 7<|Z 11<|N (o 33 (.lookup .int (.bool false) (.t 31) (.t 32) false))<|E) 31
   (.cond (.t 33) (G (U 9 11<|wX 1 0 1 0<|y8 1 4 34<|Y 9<|E) 34) .skip))))
 (G (tv 27 27<|E) 38))))
def LV:PF:=⟨43,[.cell 4 true 176,.t 5,.t 6],
 (H (tb<|yJ 4<|ER<|ti<|J<|E) 2
 (.seq (H (td 0 2<|m9<|Z 1<|la<|E) 12
 (.cond (.t 16) (H (tt 176 2 176 4<|tid 5<|tP 6 4<|E) 17
   .ret) .skip))
 (H (N (o 18 .nS)<|yX (o 7 (.alloc [.mh] none))<|tc 1 7<|E) 18
 (H (N (o 8 (.alloc [.cJ] none))<|E) 8
 (H (uX Bq 7 2 8<|tc 1 8<|E) 19
 (H (C 8<|Z 1<|wO<|E) 20
 (H (ti<|E) 9
 (.seq (H (td 0 2<|m9<|tp iH<|tK<|E) 23
 (.block 0 (.loop agP)))
 (H (A 176 2<|B 9 JS<|Z 9<|tA 176 4 5<|tP 6 0<|E) 39
 .ret)))))))))⟩
def Tq:PF:=⟨15,[.cell 6 true 128,.t 7],
 (H (te 0<|te 1<|yJ 6<|wZ<|J<|E) 3
 (H (sv 3 4<|Z 2<|N (o 11 (.build [(.int .u8 0),(.int .u8 0),(.int .u8 0)] [(0,1,(.c (.int .u8 2)))]))<|N (o 12 (.call (cf wH) [(.t 8),(.t 9),(.t 10),(ci 0),(.t 11)]))<|Bw 0<|BR 1<|tA 128 6 7<|E) 8
 .ret))⟩
def FX:PF:=⟨27,[.cell 4 true 19,.t 5],
 (H (tb<|tb<|Ff 0 0 0 0 0 0 0 0 0 0 0 0 0 0<|J<|E) 2
 (.seq (.block 0 (H (td 18 2<|tX 6<|E) 7
   (.cond (.t 6) (H (A 19 2<|tJ 19 4 5 11<|E) 9
     .ret) (H (tz 17 2 1<|lZ 4<|Y 10<|E) 11
     (.cond (.t 10) (H (A 19 2<|tJ 19 4 5 7<|E) 14
       .ret) .skip)))))
 (yU (jE 19 2<|tk 17 2<|iL 1 0<|jH Br 15<|BH 4 3 0 2 3<|tk 0 2<|mE 4 4 18<|tL 4 19<|E) 15
 (H (tz 17 2 1<|tO 1<|td 17 2<|iK 1<|E) 22
 (H (A 19 2<|tJ 19 4 5 0<|E) 26
 .ret)))))⟩
def FY:PF:=⟨36,[.cell 2 true 19,.cell 3 true 4,.t 4],
 (H (tD<|Ff 0 0 0 0 0 0 0 0 0 0 0 0 0 0<|N (o 3 (.alloc [(.int .u8 0),(.int .u64 0),(.int .u32 0),(.bool false)] none))<|J<|E) 1
 (.seq (.block 0 (H (tz 17 1 1<|lZ 0<|gX 18 1 1<|tH 10 6<|E) 7
   (.cond (.t 6) (H (A 19 1<|N (o 15 (.build [(.int .u8 0),(.int .u64 0),(.int .u32 0),(.bool false)] []))<|uU 19 2<|tJ 4 3 4 11<|E) 14
     .ret) (H (tz 17 1 1<|lZ 0<|Y 16<|E) 17
     (.cond (.t 16) (H (A 19 1<|N (o 21 (.build [(.int .u8 0),(.int .u64 0),(.int .u32 0),(.bool false)] []))<|uU 19 2<|tJ 4 3 4 10<|E) 20
       .ret) .skip)))))
 (H (tz 16 1 1<|td 0 1<|ke 4 4<|tj 4<|yX (o 5 (.alloc [(.int .u8 0),(.int .u64 0),(.int .u32 0),(.bool false)] none))<|tc 4 5<|E) 22
 (yU (jE 19 1<|qU Br 1<|tk 17 1<|tM 1 0 1<|N (o 31 (.bin .sub (.t 30) (ci 1)),[])<|tk 16 1<|tL 1 28<|tk 17 1<|tL 1 31<|E) 27
 (yU (jE 19 1<|tW 4 5 0<|yX (u (.store 19 (.t 2) (.t 34)),[1])<|ra 4 3<|yX (o 4 (.mov (ci 0)),[])<|E) 34
 .ret)))))⟩
def LW:PF:=⟨9,[.cell 2 true 19,.t 3],
 (H (tD<|Ff 0 0 0 0 0 0 0 0 0 0 0 0 0 0<|J<|E) 1
 (.seq (H (tz 18 1 1<|E) 4
 (.cond (.t 5) (H (A 19 1<|tJ 19 2 3 11<|E) 6
   .ret) .skip))
 (H (td 18 1<|zb 1<|E) 7
 (H (A 19 1<|tJ 19 2 3 0<|E) 8
 .ret))))⟩
def LX:PF:=⟨28,[.cell 10 true 480,.t 11],
 (H (te 0<|yJ 10<|qX<|J<|E) 5
 (H (to 5<|U 1 2<|U 3 4<|KW yI 15 16 17<|ta 14 14 14<|Fi 12<|tA 480 12 13<|E) 15
 (.seq (H (Z 13<|ji 0<|E) 23
 (.cond (.t 24) (H (to 5<|Z 13<|tA 480 10 11<|E) 25
   .ret) .skip))
 (H (to 12<|tJ 480 10 11 0<|E) 27
 .ret))))⟩
def xa:uK:=⟨26,[.t 6,.cell 7 false 1],
 (.later (G (te 0<|yJ 6<|pN 0<|wW 0<|E) 3)
 (.here [] (cf yK) [(.t 7)]
 (H (to 3<|U 1 2<|tS Bt 9<|N (o 13 (.fld true 8 4 (.t 12)))<|Z 2<|N (o 15 (.idxa false 8 1 (.t 13) (.t 14)))<|Y 8<|E) 9
 (H (Z 8<|vf 0<|l0 k7 10<|E) 16
 (H (ld 3<|B 8 lS<|l0 k7 4<|E) 19
 (H (tG 8 6<|KJ 1 7 0<|E) 25
 .ret))))))⟩
def Tr:PF:=⟨7,[.cell 2 true 19,.t 3],
 (H (tD<|Ff 0 0 0 0 0 0 0 0 0 0 0 0 0 0<|ti<|E) 1
 (H (N (o 4 (.build [(.int .u8 0),(.int .u64 0),(.int .u32 0),(.bool false),(.int .u8 0),(.int .u64 0),(.int .u32 0),(.bool false),(.int .u8 0),(.int .u64 0),(.int .u32 0),(.bool false),(.int .u8 0),(.int .u64 0),(.int .u32 0),(.bool false),(.int .i64 0),(.int .i64 0),(.bool false)] [(18,1,(.c (.bool true)))]))<|A 19 1<|tp JT<|lY 19 2 4<|Y 3<|E) 4
 .ret))⟩
def Ts:PF:=⟨11,[.t 6],
 (H (te 0<|te 1<|te 2<|ti<|E) 3
 (H (sv 3 4<|pR JU 5<|tS Eu 7<|Y 6<|E) 7
 .ret))⟩
def agQ:PC:=
 (H (tE<|E) 15
 (.seq (.cond (.t 15) .skip (.exit 0))
 (.seq (.block 1 (H (im 1 12<|tX 9<|E) 16
   (H (to 4<|B 9 uQ<|Z 9<|oo<|tB 2<|N (gt 23 (some 25) (.load true 128 (.t 3)))<|N (gt 23 (some 26) (.load true 480 (.t 4)))<|pO 23 9<|yR 23 wG 25<|N (gt 23 (some 29) (.call (.t 24) [(.t 28)]))<|ty 23<|E) 18
   (.cond (.t 30) (G (U 7 9<|wX 1 0 1 0<|y8 1 4 31<|Y 7<|E) 31) .skip))))
 (G (tv 14 14<|E) 35))))
def Tt:PF:=⟨37,[.t 6],
 (H (te 0<|te 1<|yJ 6<|ti<|E) 3
 (H (ti<|E) 7
 (.seq (H (td 0 4<|m9<|tp j9<|tK<|E) 10
 (.block 0 (.loop agQ)))
 (H (tG 7 6<|E) 36
 .ret))))⟩
def FZ:PF:=⟨23,[.t 3],
 (H (tb<|V<|E) 2
 (yU (N (o 4 (.faddr 0 (.t 2)),[])<|tf<|E3 3<|lW<|Kq 1 1<|N (gt 7 (some 9) (.bin .geq (.t 8) (ci 0)),[])<|mG 7<|lW<|Kq 1 1<|N (gt 11 (some 13) (.bin .lss (.t 12) (ci 8)),[])<|mG 11<|lW<|BA 2 2<|BG 1<|N (gt 15 (some 18) (.load false 1 (.t 1)),[13])<|N (gt 15 (some 19) (.call (cf Bn) [(.t 18)]),[13])<|N (gt 15 (some 20) (.bin .and (.t 17) (.t 19)),[])<|N (gt 15 (some 21) (.ne .int (.t 20) (.c (.int .u8 0))),[])<|mG 15<|tn 3<|E) 4
 .ret))⟩
def Tu:PF:=⟨6,[.t 2],
 (H (wU 0<|E) 2
 (H (Z 0<|N (o 4 (.bin .and (.t 3) (ci 7)))<|N (o 5 (.shf .shl (.c (.int .u8 1)) (.t 4)))<|Y 2<|E) 3
 .ret))⟩
def agR:PC:=
 (H (tE<|E) 15
 (.seq (.cond (.t 15) .skip (.exit 0))
 (.seq (.block 1 (H (im 1 12<|tX 7<|E) 16
   (H (A 176 2<|B 7 wE<|ta 18 18 18<|E2 8 0 0 0 0<|tA 5 8 9<|E) 19
   (H (tN 1 5 8<|wO<|E) 24
   (.cond (.t 26) (G (U 5 7<|wX 1 0 1 0<|y8 1 4 27<|Y 5<|E) 27) .skip)))))
 (G (tv 14 14<|E) 31))))
def Tv:PF:=⟨33,[.t 4],
 (H (tb<|yJ 4<|ti<|E) 2
 (H (ti<|E) 5
 (.seq (H (td 0 2<|m9<|tp iH<|tK<|E) 10
 (.block 0 (.loop agR)))
 (H (tG 5 4<|E) 32
 .ret))))⟩
def Tw:PF:=⟨9,[.t 3],
 (H (tb<|V<|E) 2
 (H (na 2<|tq<|jk<|C 1<|oo<|Y 3<|E) 4
 .ret))⟩
def nd:PF:=⟨68,[.t 8],
 (H (te 0<|yJ 8<|J<|E) 4
 (.seq (H (td 0 4<|tV 0 0<|m9<|Z 2<|la<|E) 11
 (.cond (.t 17) (H (tY 4<|E) 8
   .ret) .skip))
 (H (td 480 4<|tj 128<|td 0 4<|tj 480<|Z 2<|tS wG 19<|yX (o 9 (.alloc [(.int .u8 0),(.int .u8 0),(.int .u8 0)] none))<|tc 3 9<|E) 18
 (H (V<|E) 10
 (.seq (H (tu 9<|E) 24
 (.block 0 (H (N (o 27 (.eq .int (.t 25) (.c (.int .u8 3))))<|Y 26<|E) 27
   (.cond (.t 26) (G (Z 3<|wY 0<|tB 1<|Kc 0<|ty 30<|tB 1<|wV 8<|ty 34<|gX 2 9 1<|pO 38 1<|N (gt 38 (some 42) (.shf .shr (.t 40) (.t 41)))<|N (gt 38 (some 43) (.bin .and (.t 42) (.c (.int .u8 1))))<|N (gt 38 (some 44) (.eq .int (.t 43) (.c (.int .u8 1))))<|tH 38 10<|E) 28) (H (N (o 47 (.eq .int (.t 25) (.c (.int .u8 1))))<|Y 46<|E) 47
     (.cond (.t 46) (G (tC 9<|jk<|Z 1<|oo<|gJ<|Bz 784 4<|pL 2<|pO 53 3<|yR 53 QZ 54<|ty 53<|gJ<|E0 784 4<|By 1<|m7 59 2<|m7 59 3<|N (gf 59 (some 64) (.call (cf Rr) [(.t 60),(.t 61),(.t 62),(.t 63)]))<|tg 59<|Y 10<|E) 48) .skip))))))
 (.seq (H (Z 10<|tr<|E) 66
 (.cond (.t 67) (H (tY 5<|E) 8
   .ret) .skip))
 (H (J<|E) 8
 .ret)))))))⟩
def vh:PF:=⟨58,[.cell 6 true 480,.t 7,.t 8],
 (H (te 0<|yJ 6<|qX<|pN 0<|J<|E) 3
 (.seq (.block 0 (H (Z 1<|vf 0<|gJ<|sx 0 3<|N (gt 17 (some 19) (.faddr 0 (.t 18)))<|N (gt 17 (some 20) (.load true 96 (.t 19)))<|pO 17 1<|qS 17 lS<|uZ 17<|tH 17 14<|E) 15
   (.cond (.t 14) (H (tt 480 3 480 6<|wN 7 0<|tP 8 4<|E) 25
     .ret) (H (tw 2 JX<|tr<|Y 26<|E) 27
     (.cond (.t 26) (H (tt 480 3 480 6<|wN 7 0<|tP 8 2<|E) 30
       .ret) .skip)))))
 (H (ld 3<|tp JQ<|ta 31 31 31<|iJ 31 2<|Kz 9<|lY 96 9 36<|tm 10 11<|E) 32
 (.seq (H (Z 11<|tr<|E) 39
 (.cond (.t 40) (H (tt 480 3 480 6<|wN 7 0<|tP 8 7<|E) 41
   .ret) .skip))
 (H (A 96 9<|td 0 3<|tx<|tl 96 42<|E) 42
 (H (tw 10 lT<|ta 45 45 45<|tm 12 13<|E) 46
 (H (Z 12<|U 1 2<|N (o 53 (.build [(.int .u32 0),(.int .i64 0),.ai,(.int .i64 0),(.int .u32 0),(.int .u32 0),(.int .u32 0),(.int .u32 0),(.int .u32 0),(.int .u32 0),(.int .u32 0),(.int .u32 0)] [(0,1,(.t 51)),(1,1,(.t 52))]))<|td 96 3<|lh 32 12 50<|tl 12 53<|E) 50
 (H (to 3<|Z 10<|tA 480 6 7<|tP 8 0<|E) 56
 .ret))))))))⟩
def agS:PC:=
 (.block 1 (G (C 5<|tO 1<|tc 1 5<|E) 16))
def LY:PF:=⟨19,[.t 4],
 (H (tb<|yJ 4<|J<|E) 2
 (.seq (H (ld 2<|Z 1<|la<|E) 6
 (.cond (.t 11) (H (J<|E) 4
   .ret) .skip))
 (H (wW 0<|y9 1 1<|E) 5
 (.seq (H (to 2<|B 1 Ew<|E) 12
 (.block 0 (.ia (.t 14) [15] .skip agS)))
 (H (C 5<|Y 4<|E) 18
 .ret)))))⟩
def Tx:PF:=⟨20,[.cell 8 true 128,.t 9],
 (H (te 0<|te 1<|yJ 8<|wZ<|J<|E) 4
 (H (sv 4 5<|Z 2<|U 3 3<|KM<|N (o 16 (.build [(.int .u8 0),(.int .u8 0),(.int .u8 0)] [(0,1,(.c (.int .u8 1))),(1,1,(.t 15))]))<|N (o 17 (.call (cf wH) [(.t 10),(.t 11),(.t 12),(.t 13),(.t 16)]))<|Bw 0<|BR 1<|tA 128 8 9<|E) 10
 .ret))⟩
def F0:PF:=⟨16,[.t 4],
 (H (V<|E) 4
 (H (Z 0<|k9 1<|tB 0<|N (gt 7 (some 9) (.bin .leq (.t 8) (ci 128)))<|ty 7<|gJ<|N (gt 11 (some 12) (.bslice [(.int .i64 0)] 4 [(0,1,(ci 1)),(1,1,(ci 2)),(2,1,(ci 4)),(3,1,(ci 8))]))<|pL 1<|qS 11 Rs<|tH 11 4<|E) 5
 .ret))⟩
def Ty:PF:=⟨11,[.t 3],
 (H (J<|E) 3
 (H (Z 0<|C 1<|y7<|vd 1<|C 1<|vd 1<|N (o 10 (.bin .andNot (.t 7) (.t 9)))<|Y 3<|E) 4
 .ret))⟩
def LZ:PF:=⟨9,[.t 2],
 (H (ti<|E) 2
 (H (Z 0<|jI 0<|jI 0<|Ki 2 3 5<|Y 2<|E) 3
 .ret))⟩
def B5:PF:=⟨46,[.cell 6 true 480,.t 7],
 (H (te 0<|yJ 5<|te 2<|qX<|J<|E) 3
 (.seq (.block 0 (H (ld 3<|Z 1<|la<|Y 10<|E) 11
   (.cond (.t 10) (H (to 3<|tJ 480 6 7 4<|E) 17
     .ret) (H (tC 5<|tp JX<|tr<|gJ<|vc 2 5<|N (gf 23 (some 25) (.load true 2 (.t 24)))<|N (gf 23 (some 26) (.call (cf Ji) [(.t 25)]))<|sB 23<|tg 23<|Y 18<|E) 19
     (.cond (.t 18) (H (to 3<|tJ 480 6 7 2<|E) 29
       .ret) .skip)))))
 (H (tw 1 lT<|ta 30 30 30<|tm 8 9<|E) 31
 (H (Z 8<|td 96 3<|ke 32 12<|tx<|tq<|td 0 5<|iK 1<|E) 35
 (H (tN 8 12 5<|td 96 3<|lh 32 12 41<|tl 12 42<|E) 41
 (H (to 3<|tJ 480 6 7 0<|E) 45
 .ret))))))⟩
def Tz:PF:=⟨10,[.cell 4 true 176],
 (H (tb<|yJ 4<|ER<|E) 2
 (yU (jE 176 2<|tW 176 2 0<|F 1<|E7 EB 0<|jH JS 5<|ra 176 4<|E) 5
 .ret))⟩
def agT:PC:=
 (H (tE<|E) 20
 (.seq (.cond (.t 20) .skip (.exit 0))
 (.seq (.block 1 (H (im 1 17<|tX 9<|E) 21
   (G (to 2<|B 9 Rt<|ta 23 23 23<|uU 480 2<|E) 24)))
 (G (tv 19 19<|E) 29))))
def L0:PF:=⟨32,[.cell 4 true 480,.t 5,.t 6],
 (H (tb<|yJ 4<|qX<|ti<|J<|E) 2
 (H (to 2<|B 1 pC<|Y 7<|E) 10
 (.seq (H (jI 7<|lZ 0<|E) 13
 (.cond (.t 15) (H (tt 480 2 480 4<|tid 5<|tP 6 4<|E) 16
   .ret) .skip))
 (.seq (H (Z 7<|tK<|E) 17
 (.block 0 (.loop agT)))
 (H (to 2<|Z 7<|tA 480 4 5<|tP 6 0<|E) 30
 .ret)))))⟩
def TA:PF:=⟨6,[.t 4],
 (H (tb<|tb<|ze<|E) 2
 (H (N (o 5 (.mkf (.func EC) [] [(.t 2),(.t 3)]))<|Y 4<|E) 5
 .ret))⟩
def agU:PC:=
 (H (il 8<|E) 35
 (.seq (.cond (.t 35) .skip (.exit 2))
 (.seq (.block 3 (H (gH<|N (o 37 (.idxa false 8 1 (.t 33) (.t 34)))<|tm 11 12<|E) 36
   (H (C 6<|Z 12<|wO<|E) 38
   (.cond (.t 40) (G (Z 11<|td 4 9<|ke 8 1<|yX (u (.store 1 (.t 43) (.c (.int .u32 0))))<|E) 41) .skip))))
 (G (tv 34 34<|E) 44))))
def agV:PC:=
 (.block 1 (H (to 7<|B 8 uN<|ta 26 26 26<|pJ 9 0 0 0 0 0 0 0 0 0 0 0<|tA 12 9 10<|E) 27
   (.seq (H (td 4 9<|tj 8<|J<|E) 32
   (.block 2 (.loop agU)))
   (G (to 7<|tN 8 12 9<|tS Ev 46<|ta 45 45 45<|uU 480 7<|E) 46))))
def L1:PF:=⟨57,[.cell 4 true 480,.t 5],
 (H (tb<|tb<|qX<|J<|E) 2
 (.seq (H (ld 2<|C 3<|la<|E) 13
 (.cond (.t 18) (H (to 2<|tJ 480 4 5 4<|E) 19
   .ret) .skip))
 (H (mD ED 3 2<|Ka 6<|tc 1 6<|E) 20
 (H (to 2<|Fi 7<|tc 480 7<|E) 21
 (.seq (H (to 2<|C 3<|ik Ek<|E) 22
 (.block 0 (.ia (.t 24) [25] (G (Z 25<|E) 8) agV)))
 (H (to 7<|C 3<|Kv Bp 0<|Bw 0<|BR 1<|tA 480 4 5<|E) 52
 .ret))))))⟩
def L3:PC:=
 (.block 1 (G (C 7<|tI 8<|N (gf 31 (some 33) (.load false 1 (.t 4)))<|N (gf 31 (some 34) (.eq .int (.t 32) (.t 33)))<|tg 31<|tc 1 7<|E) 30))
def F2:PF:=⟨37,[.t 6],
 (H (te 0<|te 1<|yJ 6<|V<|E) 3
 (.seq (H (ld 3<|C 4<|la<|gJ<|vc 0 3<|y3 0<|BI 15 96<|m7 15 2<|BK 15 lS<|sB 15<|tg 15<|E) 9
 (.cond (.t 22) (H (V<|E) 6
   .ret) .skip))
 (H (C 4<|Z 2<|oo<|yX (o 7 (.alloc [(.bool false)] none))<|tc 1 7<|E) 23
 (.seq (H (to 3<|B 2 Ew<|E) 26
 (.block 0 (.ia (.t 28) [29] (G (Z 29<|E) 8) L3)))
 (H (C 7<|Y 6<|E) 36
 .ret)))))⟩
def agW:PC:=
 (.block 1 (yW (qW 1 5<|tW 480 2 0<|F 6<|E7 Bo 0<|BH 480 2 0 1 3<|N (o 16 (.load false 1 (.t 3)),[0,1,3,4])<|E7 Bo 0<|KP 14<|KK 1<|N (o 20 (.max [(.t 11),(.t 19)]),[])<|ra 1 5<|E) 11))
def TB:PF:=⟨22,[.t 4],
 (H (tb<|tb<|J<|E) 2
 (H (wW 0<|y9 1 0<|E) 5
 (.seq (H (to 2<|C 3<|ik Ek<|E) 7
 (.block 0 (.ia (.t 9) [10] (G (Z 10<|E) 6) agW)))
 (H (C 5<|Y 4<|E) 21
 .ret))))⟩
def F3:PC:=
 (.seq (H (Z 8<|vf 0<|E) 31
 (.cond (.t 32) .skip (.exit 0)))
 (.seq (.block 1 (H (U 8 1<|oo<|E) 36
   (.cond (.t 38) (H (to 3<|tJ 480 6 7 12<|E) 39
     .ret) .skip)))
 (G (to 3<|B 8 IT<|Y 8<|E) 33)))
def B6:PF:=⟨51,[.cell 6 true 480,.t 7],
 (H (te 0<|yJ 6<|qX<|J<|E) 3
 (.seq (H (ld 3<|Z 1<|la<|tI 2<|N (gf 17 (some 19) (.ne .int (.t 18) (.c (.int .u32 0))))<|sw 17<|sx 0 3<|N (gt 20 (some 22) (.faddr 0 (.t 21)))<|N (gt 20 (some 23) (.load true 96 (.t 22)))<|pO 20 2<|qS 20 lS<|uZ 20<|sF 17 20<|tg 17<|E) 11
 (.cond (.t 28) (H (to 3<|tJ 480 6 7 4<|E) 29
   .ret) .skip))
 (.seq (H (tG 2 8<|E) 30
 (.block 0 (.loop F3)))
 (H (tw 1 lT<|ta 40 40 40<|tm 9 10<|E) 41
 (H (U 9 2<|td 96 3<|lh 32 12 45<|tx<|tl 1 46<|E) 45
 (H (to 3<|tJ 480 6 7 0<|E) 50
 .ret))))))⟩
def B7:PF:=⟨49,[.cell 10 true 128,.t 11],
 (H (te 0<|te 1<|yJ 9<|te 4<|wZ<|J<|E) 5
 (.seq (.block 0 (H (ld 6<|Z 2<|la<|Y 14<|E) 15
   (.cond (.t 14) (H (A 128 5<|tJ 128 10 11 4<|E) 21
     .ret) (H (to 6<|B 2 uQ<|Z 2<|ES<|Y 22<|E) 23
     (.cond (.t 22) (H (A 128 5<|tJ 128 10 11 12<|E) 28
       .ret) (H (Z 3<|il 0<|tI 3<|Km 8<|tg 32<|Y 29<|E) 30
       (.cond (.t 29) (H (A 128 5<|tJ 128 10 11 2<|E) 36
         .ret) .skip)))))))
 (H (tw 2 lT<|ta 37 37 37<|tm 12 13<|E) 38
 (H (Z 12<|tN 2 3 9<|N (o 45 (.build [(.int .u32 0),(.int .u8 0),(.int .u8 0),(.int .u8 0)] [(0,1,(.t 43)),(1,3,(.t 44))]))<|td 0 5<|lh 32 4 42<|tl 4 45<|E) 42
 (H (A 128 5<|tJ 128 10 11 0<|E) 48
 .ret)))))⟩
def re:PF:=⟨98,[.cell 10 true 128,.t 11,.t 12],
 (H (te 0<|te 1<|yJ 10<|wZ<|wU 0<|J<|E) 5
 (H (sv 5 6<|Z 2<|tS wG 17<|yX (o 13 (.alloc [(.int .u8 0),(.int .u8 0),(.int .u8 0)] none))<|tc 3 13<|E) 17
 (H (sv 5 6<|Z 2<|tN 3 3 13<|KW wH 22 23 24<|ta 21 21 21<|Kf 14<|tA 128 14 15<|E) 22
 (yU (tk 2 13<|tf<|F 3<|sy Bn 1<|N (o 34 (.bin .and (.t 31) (.t 33)),[])<|N (o 35 (.ne .int (.t 34) (.c (.int .u8 0))),[])<|tn 16<|E) 30
 (.seq (.block 0 (H (Z 15<|lZ 4<|gJ<|vc 0 6<|y3 0<|BI 39 96<|m7 39 2<|BK 39 lS<|sw 39<|Bz 480 6<|pL 2<|qS 45 uQ<|pO 45 2<|N (gt 45 (some 50) (.ne .int (.t 48) (.t 49)))<|sF 39 45<|tg 39<|Y 36<|E) 37
   (.cond (.t 36) (H (A 128 5<|Z 15<|uU 128 10<|sA 11 0<|Y 12<|E) 53
     .ret) (H (tu 13<|Ky 3<|Y 55<|E) 56
     (.cond (.t 55) (H (tt 128 5 128 10<|sA 11 0<|tP 12 12<|E) 59
       .ret) (H (Z 15<|ji 0<|Y 60<|E) 61
       (.cond (.t 60) (H (A 128 5<|Z 15<|uU 128 10<|sA 11 0<|Y 12<|E) 63
         .ret) (H (Z 16<|tB 4<|KC<|Y 65<|E) 66
         (.cond (.t 65) (H (tt 128 5 128 10<|sA 11 0<|tP 12 7<|E) 70
           .ret) (H (Z 16<|tr<|tB 4<|EM<|tH 74 71<|E) 72
           (.cond (.t 71) (H (tt 128 5 128 10<|sA 11 0<|tP 12 5<|E) 78
             .ret) .skip)))))))))))
 (yU (tk 2 13<|tf<|F 3<|sy Bn 1<|N (o 83 (.bin .xor (.t 80) (.t 82)),[])<|tk 2 13<|yQ 1<|E) 79
 (H (sv 14 6<|Z 2<|tN 3 3 13<|KW wH 86 87 88<|ta 85 85 85<|tA 128 14 15<|E) 86
 (yU (jE 128 14<|tk 2 13<|iL 1 0<|F 15<|Kl 128 10 94 2<|sD 11<|tn 12<|E) 94
 .ret))))))))⟩
def TC:PF:=⟨27,[.cell 8 true 128,.t 9,.t 10],
 (H (te 0<|te 1<|yJ 8<|wZ<|J<|J<|E) 4
 (H (sv 4 5<|U 2 3<|N (o 19 (.call (cf JP) [(.t 15),(.t 16),(.t 17),(.t 18),(.c (.bool false))]))<|ta 14 14 14<|iJ 14 2<|Kf 11<|lY 128 11 20<|tm 12 13<|E) 15
 (yU (jE 128 11<|F 12<|sy Ru 0<|F 13<|su 128 8 23<|sD 9<|tn 10<|E) 23
 .ret)))⟩
def jJ:PF:=⟨89,[.t 4],
 (H (tb<|tb<|J<|E) 2
 (H (A 176 2<|tz 4 3 1<|tF wE 10<|ta 9 9 9<|E2 5 0 0 0 0<|tA 5 5 6<|E) 10
 (H (A 176 2<|tu 3<|tz 4 3 1<|Fc EE 17 19<|ta 16 16 16<|tm 7 8<|E) 17
 (.seq (.block 0 (H (A 176 2<|tz 4 3 1<|tF EF 26<|tr<|Y 25<|E) 26
   (.cond (.t 25) (H (tY 4<|E) 4
     .ret) (H (tC 3<|N (o 34 (.bin .geq (.t 33) (.c (.int .u8 8))))<|tQ 2 3 1<|N (gf 35 (some 38) (.bin .geq (.t 37) (.c (.int .u8 8))))<|tg 35<|tQ 1 3 1<|ET 40 2 3<|oq 40 1<|N (gf 40 (some 45) (.eq .int (.t 42) (.t 44)))<|tg 40<|tQ 0 3 1<|N (gf 47 (some 50) (.eq .int (.t 49) (.c (.int .u32 0))))<|tg 47<|Y 31<|E) 32
     (.cond (.t 31) (H (tY 2<|E) 4
       .ret) (H (tz 4 3 1<|vf 0<|gX 0 5 1<|yY 56 0 3<|pP 56 1<|N (gt 56 (some 61) (.ne .int (.t 58) (.t 60)))<|wQ 56<|EV 2 5 1<|ET 62 1 3<|oq 62 1<|N (gf 62 (some 67) (.ne .int (.t 64) (.t 66)))<|wP 56 62<|wQ 56<|EV 3 3 1<|sw 69<|sx 3 5<|EW 1<|uZ 72<|sF 69 72<|wP 56 69<|tH 56 52<|E) 53
       (.cond (.t 52) (H (tY 12<|E) 4
         .ret) (H (Z 8<|tQ 3 3 1<|sw 81<|Ry 7<|N (gt 84 (some 86) (.bin .gtr (.t 85) (ci 0)))<|sF 81 84<|tg 81<|Y 79<|E) 80
         (.cond (.t 79) (H (tY 5<|E) 4
           .ret) .skip)))))))))
 (H (J<|E) 4
 .ret)))))⟩
def agX:PC:=
 (H (il 32<|E) 10
 (.seq (.cond (.t 10) .skip (.exit 0))
 (.seq (.block 1 (H (gH<|N (o 12 (.idxa true 32 3 (.t 8) (.t 9)))<|yX (o 6 (.alloc [(.int .u32 0),(.bool false),(.bool false)] none))<|yX (o 5 (.mov (.t 11)))<|tc 3 6<|E) 11
   (.seq (H (tC 6<|tQ 2 6 1<|tg 15<|E) 13
   (.cond (.t 18) (.exit 1) .skip))
   (H (Z 5<|td 0 1<|ke 32 3<|ts 1<|zb 1<|E) 19
   (yU (jE 96 1<|F 5<|tk 0 6<|iL 1 0<|pF I1 24 0<|su 96 2 23<|tn 3<|KU 4<|E) 23
   .ret)))))
 (G (tv 9 9<|E) 28))))
def TD:PF:=⟨30,[.cell 2 true 96,.t 3,.t 4],
 (H (tD<|N (o 2 (.alloc Bv none))<|pN 0<|V<|E) 1
 (.seq (H (td 0 1<|m9<|J<|E) 7
 (.block 0 (.loop agX)))
 (H (tt 96 1 96 2<|wN 3 0<|om 4<|E) 29
 .ret)))⟩
def agY:PC:=
 (H (tE<|E) 14
 (.seq (.cond (.t 14) .skip (.exit 0))
 (.seq (.block 1 (H (im 1 11<|tX 6<|E) 15
   (G (C 3<|Z 6<|wO<|E) 17)))
 (G (tv 13 13<|E) 20))))
def TE:PF:=⟨21,[],
 (H (te 0<|E) 4
 (H (C 1<|C 4<|yX (u (.oW .int (.t 7) (.t 8) (.c (.bool true))))<|E) 7
 (H (A 176 2<|pR JR 4<|ik yH<|tK<|E) 9
 (.block 0 (.loop agY)))))⟩
def TF:PF:=⟨8,[.t 3],
 (H (tb<|V<|E) 2
 (H (na 4<|tq<|C 1<|oo<|Y 3<|E) 4
 .ret))⟩
def agZ:PC:=
 (H (tE<|E) 10
 (.seq (.cond (.t 10) .skip (.exit 0))
 (.seq (.block 1 (H (im 1 7<|tX 6<|E) 11
   (G (td 0 2<|m9<|B 6 JY<|ta 13 13 13<|td 0 2<|tl 96 18<|E) 14)))
 (G (tv 9 9<|E) 21))))
def TG:PF:=⟨23,[.cell 4 true 176],
 (H (tb<|yJ 4<|ER<|E) 2
 (.seq (H (Z 1<|tK<|E) 7
 (.block 0 (.loop agZ)))
 (H (tt 176 2 176 4<|E) 22
 .ret)))⟩
def TH:PF:=⟨10,[.t 4],
 (H (tb<|yJ 4<|J<|E) 2
 (H (tz 16 2 1<|Z 1<|y7<|EH 4<|Y 4<|E) 5
 .ret))⟩
def rf:uK:=⟨56,[.cell 10 true 480,.cell 11 false 1],
 (.later (G (te 0<|yJ 10<|qX<|wW 0<|E) 5)
 (.here [] (cf yK) [(.t 11)]
 (H (ld 5<|B 1 lS<|tB 3<|N (gt 18 (some 20) (.eq .int (.t 19) (.c (.int .u32 0))))<|wQ 18<|vc 0 5<|y3 0<|BI 21 96<|m7 21 3<|BK 21 lS<|wP 18 21<|ty 18<|l0 k7 4<|E) 13
 (H (to 5<|U 1 2<|tS Bt 30<|pJ 12 0 0 0 0 0 0 0 0 0 0 0<|tc 12 12<|E) 30
 (H (Z 3<|wR 0<|tI 4<|N (o 38 (.pick (.t 36) (.c (.bool true)) (.t 37)))<|gJ<|E0 480 5<|By 3<|m7 39 1<|N (gf 39 (some 43) (.call (cf Ey) [(.t 40),(.t 41),(.t 42)]))<|tg 39<|l0 k7 5<|E) 34
 (H (U 2 3<|td 4 12<|lh 8 1 46<|tl 1 47<|E) 46
 (H (to 5<|tN 1 12 12<|tS Ev 50<|Bw 0<|BR 1<|uU 480 10<|tc 1 11<|E) 50
 .ret)))))))⟩
def xb:wv:=⟨5,⟨19,[],
 (H (Z 5<|E) 2
 (H (Z 2<|N (o 7 (.ne .c9 (.t 6) (.c .ez)))<|E) 6
 (.cond (.t 7) (H (Z 2<|N (o 10 (.ta (.int .i64 0) (.t 9) ss true))<|ta 8 8 8<|tm 3 4<|E) 9
   (.seq (H (Z 4<|tr<|E) 13
   (.cond (.t 14) (G (Z 2<|BD<|E) 15) .skip))
   (G (U 0 3<|tU<|iK 1<|E) 16))) .skip)))⟩⟩
def zn:PF:=⟨27,[.cell 6 true 12],
 (H (te 0<|yJ 6<|KT 0 0 0 0 0 0 0 0 0 0 0<|E) 3
 (H (to 3<|B 1 uN<|ta 9 9 9<|pJ 7 0 0 0 0 0 0 0 0 0 0 0<|tA 12 7 8<|E) 10
 (H (Z 8<|lZ 0<|B 8 k7<|E) 15
 (H (Z 2<|k9 0<|tB 2<|wV 8<|ty 21<|l0 k7 2<|E) 19
 (H (tt 12 7 12 6<|E) 26
 .ret)))))⟩
def F4:PF:=⟨8,[],
 (H (Z 0<|tr<|E) 4
 (.cond (.t 5) (G (Z 1<|N (o 7 (.mki ss (.t 6)))<|BD<|E) 6) .skip))⟩
def ag0:PC:=
 (.block 1 (G (C 3<|A 4 4<|N (o 10 (.bslice [(.int .u8 0),(.int .u64 0),(.int .u32 0),(.bool false)] 1 [(0,4,(.t 9))]))<|N (o 11 (.append EG 4 24 (.t 8) (.t 10)))<|tc 1 3<|E) 8))
def TI:PF:=⟨14,[.t 2],
 (H (tD<|ti<|E) 1
 (H (za<|E) 3
 (.seq (H (A 19 1<|tp Rw<|E) 5
 (.block 0 (.ia (.t 6) [7] (G (N (o 4 (.alloc [(.int .u8 0),(.int .u64 0),(.int .u32 0),(.bool false)] none))<|tl 4 7<|E) 4) ag0)))
 (H (C 3<|tp JZ<|Y 2<|E) 12
 .ret))))⟩
def L4:PF:=⟨14,[.t 3],
 (H (tb<|V<|E) 2
 (H (na 0<|tq<|wY 1<|gX 1 2 1<|N (gt 7 (some 10) (.conv .i64 (.t 9)))<|yS 7 1 1<|N (gt 7 (some 12) (.eq .int (.t 10) (.t 11)))<|tH 7 3<|E) 4
 .ret))⟩
def TJ:PF:=⟨15,[.t 8],
 (H (te 0<|te 1<|te 2<|te 3<|V<|E) 4
 (H (td 608 4<|tj 176<|C 6<|ik EB<|N (o 13 (.mkf (.func J0) [] [(.t 4),(.t 5),(.t 7),(.t 6)]))<|ik JV<|Y 8<|E) 9
 .ret))⟩
def TL:PF:=⟨7,[.t 2],
 (H (V<|E) 2
 (H (td 608 0<|tj 176<|C 1<|Kv Ez 0<|Y 2<|E) 3
 .ret))⟩
def L5:PF:=⟨23,[.t 6],
 (H (te 0<|yJ 6<|V<|E) 3
 (H (A 176 3<|U 1 2<|tS EE 10<|ta 9 9 9<|tm 7 8<|E) 10
 (H (A 176 3<|B 2 EF<|tB 8<|EM<|tH 19 6<|E) 16
 .ret)))⟩
def TM:PF:=⟨7,[.t 2],
 (H (V<|E) 2
 (H (td 608 0<|tj 176<|C 1<|Kv EA 0<|Y 2<|E) 3
 .ret))⟩
def L6:PF:=⟨23,[.t 6],
 (H (te 0<|yJ 6<|V<|E) 3
 (H (A 176 3<|U 1 2<|tS EE 10<|ta 9 9 9<|tm 7 8<|E) 10
 (H (A 176 3<|B 2 EF<|tB 7<|BE 0<|tH 19 6<|E) 16
 .ret)))⟩
def TN:PF:=⟨10,[.t 2],
 (H (V<|E) 2
 (H (td 0 0<|tj 480<|C 1<|ik pC<|pR JW 0<|ik JV<|tr<|Y 2<|E) 3
 .ret))⟩
def TO:PF:=⟨9,[.t 4],
 (H (V<|E) 4
 (H (Z 0<|B 1 Jh<|k9 0<|Y 4<|E) 5
 .ret))⟩
def TP:PF:=⟨10,[.t 3],
 (H (V<|E) 3
 (H (td 608 1<|tj 176<|B 0 EB<|pG<|nb 0<|Y 3<|E) 4
 .ret))⟩
def TQ:PF:=⟨8,[.t 4],
 (H (tb<|tb<|ti<|E) 2
 (H (A 176 2<|pR J1 3<|ik yH<|Y 4<|E) 5
 .ret))⟩
def TR:PF:=⟨9,[.t 2],
 (H (V<|E) 2
 (H (Z 0<|k9 0<|tB 0<|N (gt 5 (some 7) (.bin .leq (.t 6) (ci 64)))<|tH 5 2<|E) 3
 .ret))⟩
def TS:PF:=⟨9,[.t 4],
 (H (V<|E) 4
 (H (Z 0<|B 1 Rx<|k9 0<|Y 4<|E) 5
 .ret))⟩
def L7:PF:=⟨34,[.cell 4 true 480,.t 5],
 (H (tb<|yJ 4<|qX<|J<|E) 2
 (H (ld 2<|B 1 JY<|ta 10 10 10<|Kz 6<|tA 96 6 7<|E) 11
 (.seq (H (Z 7<|tr<|E) 18
 (.cond (.t 19) (H (to 2<|tJ 480 4 5 4<|E) 20
   .ret) .skip))
 (H (A 96 6<|td 0 2<|tx<|tl 96 21<|E) 21
 (H (tw 1 lT<|ta 24 24 24<|tm 8 9<|E) 25
 (H (Z 8<|N (o 30 (.build [(.int .u32 0),(.int .i64 0),.ai,(.int .i64 0),(.int .u32 0),(.int .u32 0),(.int .u32 0),(.int .u32 0),(.int .u32 0),(.int .u32 0),(.int .u32 0),(.int .u32 0)] []))<|td 96 2<|lh 32 12 29<|tl 12 30<|E) 29
 (H (to 2<|tJ 480 4 5 0<|E) 33
 .ret)))))))⟩
def F5:PC:=
 (.block 1 (H (to 1<|C 2<|ik uN<|ta 6 6 6<|pJ 4 0 0 0 0 0 0 0 0 0 0 0<|tA 12 4 5<|E) 7
   (.seq (H (Z 5<|ji 0<|tQ 0 4 1<|N (gf 14 (some 17) (.eq .int (.t 16) (.c (.int .u32 0))))<|tg 14<|tI 0<|Kn 0 4<|oq 19 1<|N (gf 19 (some 23) (.call (.t 20) [(.t 22)]))<|sB 19<|tg 19<|E) 12
   (.cond (.t 25) .ret .skip))
   (G (tu 4<|tc 1 2<|E) 26))))
def TT:PF:=⟨28,[],
 (.block 0 (.loop F5))⟩
def L8:PF:=⟨14,[.t 4],
 (H (V<|E) 4
 (H (Z 0<|C 1<|ES<|gJ<|Bz 480 2<|pL 0<|yS 8 1 1<|yR 8 Ey 9<|tH 8 4<|E) 5
 .ret))⟩
def TU:PF:=⟨6,[.t 2],
 (H (J<|E) 2
 (H (Z 0<|N (o 4 (.idxs (.c (S J3)) (.t 3)))<|jk<|Y 2<|E) 3
 .ret))⟩
def TV:PF:=⟨16,[.t 6,.t 7],
 (H (te 0<|te 1<|te 2<|J<|V<|E) 3
 (H (BS<|zd 1<|E) 8
 (H (A 176 3<|uX J2 4 5 8<|ik yH<|Y 9<|E) 10
 (yU (F 9<|KV<|Ku 1 8 1<|sD 6<|tn 7<|E) 13
 .ret))))⟩
def L9:PF:=⟨13,[.t 4],
 (H (tb<|yJ 4<|V<|E) 2
 (H (Z 1<|wR 0<|gJ<|vc 0 2<|N (gf 7 (some 9) (.load true 96 (.t 8)))<|m7 7 1<|BK 7 lS<|tg 7<|Y 4<|E) 5
 .ret))⟩
def Ma:PF:=⟨41,[.cell 4 true 96,.t 5],
 (H (tb<|yJ 4<|N (o 4 (.alloc Bv none))<|V<|E) 2
 (.seq (H (A 96 2<|Z 1<|la<|E) 9
 (.cond (.t 12) (H (tt 96 2 96 4<|om 5<|E) 13
   .ret) .skip))
 (H (tw 1 lT<|ta 14 14 14<|tm 6 7<|E) 15
 (H (Z 6<|td 0 2<|ke 32 3<|Y 8<|E) 19
 (H (nc 8<|ts 1<|zd 1<|E) 22
 (.seq (H (gI 8 0 1<|wR 8388607<|E) 25
 (.cond (.t 29) (G (nc 8<|ts 2<|zb 1<|E) 30) (G (gI 8 0 1<|N (o 37 (.bin .add (.t 36) (.c (.int .u32 1))))<|tT 33<|tx<|tl 1 37<|E) 33)))
 (H (tt 96 2 96 4<|ot 5<|E) 40
 .ret)))))))⟩
def TW:PF:=⟨4,[.t 2],
 (H (tD<|ze<|E) 1
 (H (KX Bu<|Y 2<|E) 3
 .ret))⟩
def F6:PF:=⟨9,[.t 2],
 (H (ti<|E) 2
 (H (Z 0<|jI 0<|jI 0<|Ki 4 3 5<|Y 2<|E) 3
 .ret))⟩
def xc:PF:=⟨47,[.t 6],
 (H (V<|E) 6
 (H (td 608 1<|tj 176<|B 0 wE<|ta 9 9 9<|E2 7 0 0 0 0<|tA 5 7 8<|E) 10
 (H (tz 2 7 1<|jk<|C 2<|oo<|gJ<|EO 1 3<|E4 0<|wQ 21<|sx 608 1<|KG 176<|yS 24 1 4<|pO 24 0<|yR 24 Ez 26<|N (gt 21 (some 30) (.pick (.t 24) (.t 29) (.c (.bool false))))<|wQ 21<|N (gf 31 (some 32) (.load false 1 (.t 3)))<|N (gf 31 (some 33) (.eq .int (.t 32) (.c (.int .u8 1))))<|sw 31<|sx 3 7<|EW 1<|sF 31 34<|sw 31<|sx 608 1<|KG 176<|yS 38 1 4<|pO 38 0<|yR 38 EA 40<|sF 31 38<|wP 21 31<|tH 21 6<|E) 16
 .ret)))⟩
def TX:PF:=⟨8,[.t 3],
 (H (tb<|V<|E) 2
 (H (na 0<|tq<|C 1<|oo<|Y 3<|E) 4
 .ret))⟩
def ag1:PC:=
 (H (tE<|E) 9
 (.seq (.cond (.t 9) .skip (.exit 0))
 (.seq (.block 1 (H (gH<|Y 5<|E) 10
   (H (Z 1<|U 0 5<|m8 1<|tq<|EY 11<|E) 11
   (.cond (.t 16) (H (tG 5 4<|E) 17
     .ret) .skip))))
 (G (tv 8 8<|E) 18))))
def TY:PF:=⟨19,[.t 4],
 (H (J<|E) 4
 (.seq (H (Z 0<|tK<|E) 6
 (.block 0 (.loop ag1)))
 (H (uW 1<|E) 4
 .ret)))⟩
def xd:PF:=⟨26,[.t 5],
 (H (te 0<|V<|E) 4
 (H (tu 4<|C 1<|oo<|gX 4 4 1<|yS 11 1 2<|N (gt 11 (some 15) (.eq .int (.t 13) (.t 14)))<|tH 11 6<|E) 7
 (H (C 3<|tI 6<|N (gf 18 (some 20) (.mov (.t 19)))<|sx 3 4<|EW 1<|sF 18 20<|tg 18<|tc 1 3<|E) 17
 (H (tG 6 5<|E) 25
 .ret))))⟩
def ag2:PC:=
 (H (tE<|E) 7
 (.seq (.cond (.t 7) .skip (.exit 0))
 (.seq (.block 1 (H (gH<|Y 3<|E) 8
   (H (tN 0 19 1<|B 3 Br<|td 0 1<|ke 4 4<|tj 4<|uY 9<|tr<|E) 9
   (.cond (.t 17) .ret .skip))))
 (G (tv 6 6<|E) 18))))
def TZ:PF:=⟨19,[],
 (H (tz 17 1 1<|J<|E) 4
 (.block 0 (.loop ag2)))⟩
def xe:List (Nat×List UInt8×Nat):=[(0,[98,97,105,108,105,119,105,99,107,47,115,99,104,101,100,46,107,105,110,100,115,36,49],Em),(1,[98,97,105,108,105,119,105,99,107,47,115,99,104,101,100,46,107,105,110,100,115,36,50],En),(2,[98,97,105,108,105,119,105,99,107,47,115,99,104,101,100,46,107,105,110,100,115,36,51],Eo)]
def xf:List (Nat×List UInt8×Nat):=[(1,[40,42,98,97,105,108,105,119,105,99,107,47,109,111,100,101,108,46,99,97,108,108,101,114,41,46,110,101,119],Jm),(2,[40,42,98,97,105,108,105,119,105,99,107,47,109,111,100,101,108,46,99,97,108,108,101,114,41,46,97,108,108,111,99],Jn),(3,[40,42,98,97,105,108,105,119,105,99,107,47,109,111,100,101,108,46,99,97,108,108,101,114,41,46,108,111,97,100],Jo),(4,[40,42,98,97,105,108,105,119,105,99,107,47,109,111,100,101,108,46,99,97,108,108,101,114,41,46,115,116,111,114,101],Jp),(5,[40,42,98,97,105,108,105,119,105,99,107,47,109,111,100,101,108,46,99,97,108,108,101,114,41,46,114,101,115,101,116],Jq),(6,[40,42,98,97,105,108,105,119,105,99,107,47,109,111,100,101,108,46,99,97,108,108,101,114,41,46,100,101,108,101,116,101],Jr),(7,[40,42,98,97,105,108,105,119,105,99,107,47,109,111,100,101,108,46,99,97,108,108,101,114,41,46,99,117,116],Js),(8,[40,42,98,97,105,108,105,119,105,99,107,47,109,111,100,101,108,46,99,97,108,108,101,114,41,46,103,114,97,102,116],Jt),(9,[40,42,98,97,105,108,105,119,105,99,107,47,109,111,100,101,108,46,99,97,108,108,101,114,41,46,102,114,101,101,122,101],Ju),(10,[40,42,98,97,105,108,105,119,105,99,107,47,109,111,100,101,108,46,99,97,108,108,101,114,41,46,115,104,97,114,101],Jv),(11,[40,42,98,97,105,108,105,119,105,99,107,47,109,111,100,101,108,46,99,97,108,108,101,114,41,46,100,114,111,112],Jw),(12,[40,42,98,97,105,108,105,119,105,99,107,47,109,111,100,101,108,46,99,97,108,108,101,114,41,46,108,101,110,100],Jx),(13,[40,42,98,97,105,108,105,119,105,99,107,47,109,111,100,101,108,46,99,97,108,108,101,114,41,46,103,105,118,101,66,97,99,107],Jy),(14,[40,42,98,97,105,108,105,119,105,99,107,47,109,111,100,101,108,46,99,97,108,108,101,114,41,46,115,101,110,100],Jz),(15,[40,42,98,97,105,108,105,119,105,99,107,47,109,111,100,101,108,46,99,97,108,108,101,114,41,46,114,101,99,118],Bj),(16,[40,42,98,97,105,108,105,119,105,99,107,47,109,111,100,101,108,46,99,97,108,108,101,114,41,46,114,101,99,118],Bj),(17,[40,42,98,97,105,108,105,119,105,99,107,47,109,111,100,101,108,46,99,97,108,108,101,114,41,46,99,108,111,115,101],JA),(18,[40,42,98,97,105,108,105,119,105,99,107,47,109,111,100,101,108,46,99,97,108,108,101,114,41,46,114,101,102],JB),(19,[40,42,98,97,105,108,105,119,105,99,107,47,109,111,100,101,108,46,99,97,108,108,101,114,41,46,100,101,114,101,102],JC),(20,[40,42,98,97,105,108,105,119,105,99,107,47,109,111,100,101,108,46,99,97,108,108,101,114,41,46,101,120,105,116],JD),(21,[40,42,98,97,105,108,105,119,105,99,107,47,109,111,100,101,108,46,99,97,108,108,101,114,41,46,107,105,108,108],JE),(22,[40,42,98,97,105,108,105,119,105,99,107,47,109,111,100,101,108,46,99,97,108,108,101,114,41,46,115,112,97,119,110],JF)]
def B8:List (Nat×List (Nat×List UInt8×Nat)):=[(uR,xe),(uS,xf)]
def aDH:List (Nat×wv):=[(A7,w8),(yK,xb)]
def T0:List (Nat×PF):=[(P3,Fl),(P4,K0),(P5,RA),(P6,RC),(P7,RE),(P8,RF),(j9,K1),(P9,K2),(A2,RG),(A3,w4)]
def T1:List (Nat×PF):=[(py,Fo),(yD,sG),(IH,Fp),(D3,RH),(Qa,K3),(uN,K4),(A4,RI),(Qb,zf),(Qc,Fs),(II,RJ)]
def T2:List (Nat×PF):=[(lS,RK),(Qd,RL),(D4,Ft),(A5,Fu),(Qe,zg),(iH,K5),(IJ,RM),(Qf,K6),(A6,K7),(Qg,RN)]
def T3:List (Nat×PF):=[(Qh,Fv),(IK,RP),(IM,K8),(Qi,BV),(Qj,RQ),(Qk,RR),(Qm,Fw),(IN,RS),(IP,K9),(D5,RT)]
def T4:List (Nat×PF):=[(Qn,RU),(IQ,RW),(IS,Fx),(lT,RX),(IT,La),(IU,RY),(Qo,zh),(Qp,Lb),(Qq,Fy),(Qr,Lc)]
def T5:List (Nat×PF):=[(D6,BW),(IV,BX),(Qs,Ld),(IW,RZ),(IX,Le),(D7,FA),(Qt,R0),(Qu,R3),(IY,R5),(Qv,R6)]
def T6:List (Nat×PF):=[(Qw,R7),(Qx,R8),(IZ,Lf),(I0,R9),(oi,Sa),(D8,Sb),(cQ,FB),(I1,Sc),(D9,FC),(I2,Lg)]
def T7:List (Nat×PF):=[(A8,Lh),(Ea,Lk),(uO,Se),(Qy,Sf),(Qz,Sg),(Eb,BY),(A9,Sh),(Ba,Si),(Bb,Sj),(Bc,Sk)]
def T8:List (Nat×PF):=[(Bd,Sl),(Be,Ll),(Ec,Sm),(QA,Sn),(QB,Lm),(QC,So),(Ed,FD),(QD,Sq),(qO,FE),(Ee,Ln)]
def T9:List (Nat×PF):=[(Bf,BZ),(Bg,FF),(Bh,B0),(Bi,Lo),(uP,ou),(I3,FG),(QE,FH),(I4,Lp),(QF,Ss),(QG,St)]
def Ua:List (Nat×PF):=[(QH,Su),(yE,Sv),(I5,Sw),(QI,sH),(QJ,B1),(I6,Lq),(I7,FI),(I8,Sx),(I9,Sy),(QK,Lr)]
def Ub:List (Nat×PF):=[(Ja,Sz),(QL,Ls),(Jb,SA),(QM,SB),(Ef,SC),(Jc,Lt),(pA,Lu),(pC,FJ),(Eg,B2),(QN,SD)]
def Uc:List (Nat×PF):=[(Eh,Lv),(wE,Lx),(Ei,Ly),(QO,SF),(QP,FK),(Jd,SG),(QQ,SH),(Je,FL),(Jf,LB),(QR,SI)]
def Ud:List (Nat×PF):=[(QS,SJ),(Ej,FM),(sr,LC),(Ek,SN),(QT,SO),(Jg,SP),(QU,SQ),(QV,SR),(qP,LD),(yF,SS)]
def Ue:List (Nat×PF):=[(m6,LF),(QW,SU),(mw,FN),(El,SW),(Jh,SX),(Ji,SY),(QX,SZ),(QY,S0),(QZ,FO),(Jj,S1)]
def Uf:List (Nat×PF):=[(Em,S2),(Jl,S3),(En,S4),(Q0,S5),(Eo,S6),(Jm,LG),(Jn,zj),(Jo,S7),(Jp,S8),(Jq,S9)]
def Ug:List (Nat×PF):=[(Jr,Ta),(Js,Tb),(Jt,Tc),(Ju,Td),(Jv,LH),(Jw,LJ),(Jx,zk),(Jy,Te),(Jz,zl),(Bj,FQ)]
def Uh:List (Nat×PF):=[(JA,Tf),(JB,LK),(JC,Tg),(JD,LM),(JE,FR),(JF,LN),(jC,Th),(Q2,zm),(gU,FT),(Bk,Ti)]
def Ui:List (Nat×PF):=[(Q3,LO),(Bl,Tj),(JG,FU),(Q4,Tk),(Q5,LP),(JH,Tl),(JI,FV),(Ep,LQ),(wF,Tm),(uQ,LR)]
def Uj:List (Nat×PF):=[(Er,Tn),(Q6,w9),(Q7,To),(Bm,LS),(Es,B3),(JJ,Tp),(JK,LU),(wG,FW),(Q8,B4),(Et,LV)]
def Uk:List (Nat×PF):=[(Q9,Tq),(Ra,FX),(Rb,FY),(Rc,LW),(Re,LX),(Rf,Tr),(Rg,Ts),(Eu,Tt),(JL,FZ),(Bn,Tu)]
def Ul:List (Nat×PF):=[(yH,Tv),(JM,Tw),(Rh,nd),(Ri,vh),(Bo,LY),(Rj,Tx),(JN,F0),(Rk,Ty),(Rl,LZ),(Ev,B5)]
def Um:List (Nat×PF):=[(Rm,Tz),(JO,L0),(Ew,TA),(Rn,L1),(Ey,F2),(Ro,TB),(Bp,B6),(wH,B7),(JP,re),(Rp,TC)]
def Un:List (Nat×PF):=[(Rq,jJ),(JQ,TD),(Bq,TE),(JR,TF),(JS,TG),(Br,TH),(Bt,zn),(k7,F4),(JT,TI),(JU,L4)]
def Uo:List (Nat×PF):=[(Rr,TJ),(wI,TL),(Ez,L5),(wJ,TM),(EA,L6),(yL,TN),(JV,TO),(JW,TP),(EB,TQ),(JX,TR)]
def Up:List (Nat×PF):=[(Rs,TS),(Rt,L7),(EC,TT),(ED,L8),(Ru,TU),(EE,TV),(EF,L9),(JY,Ma),(Rw,TW),(JZ,F6)]
def Uq:List (Nat×PF):=[(J0,xc),(J1,TX),(Rx,TY),(J2,xd),(Bu,TZ)]
def zo:List (Nat×PF):=T0++(T1++(T2++(T3++(T4++(T5++(T6++(T7++(T8++(T9++(Ua++(Ub++(Uc++(Ud++(Ue++(Uf++(Ug++(Uh++(Ui++(Uj++(Uk++(Ul++(Um++(Un++(Uo++(Up++(Uq))))))))))))))))))))))))))
end Go.Proofs.YteplichagkpciaaGreatDoor
