import Derived.Test.YtlmfmmclnboglaaGreatRows
import Derived.ProofKit
import Derived.Test.YtlmfmmclnboglaaGreatP1
set_option linter.all false
section
namespace Go.Proofs.YtlmfmmclnboglaaGreat
open Go Go.Proofs.YtlmfmmclnboglaaGreat.Abs
set_option maxRecDepth 100000
set_option maxHeartbeats 0
abbrev HP:=List Zt
abbrev GT:=Nat→Option (List AV)
abbrev KT:=FuncId→List AV→HP→KR
def takes:FuncId→List Nat:=fun _=>[]
abbrev MU:FuncId:=3
abbrev DT:FuncId:=8
abbrev H5:FuncId:=9
abbrev Aq:FuncId:=10
abbrev ZdG:FuncId:=11
abbrev BU:FuncId:=14
abbrev Po:FuncId:=15
abbrev OC:FuncId:=16
abbrev DU:FuncId:=17
abbrev ZbZ:FuncId:=19
abbrev MX:FuncId:=22
abbrev Kv:FuncId:=26
abbrev Vi:FuncId:=27
abbrev XU:FuncId:=28
abbrev U5:FuncId:=29
abbrev Yt:FuncId:=30
abbrev Zab:FuncId:=31
abbrev Au:FuncId:=32
abbrev Qh:FuncId:=33
abbrev H7:FuncId:=34
abbrev YH:FuncId:=35
abbrev A8:FuncId:=36
abbrev KS:FuncId:=37
abbrev Zca:FuncId:=38
abbrev ZdH:FuncId:=39
abbrev QK:FuncId:=42
abbrev BD:FuncId:=43
abbrev Xn:FuncId:=44
abbrev Tu:FuncId:=45
abbrev Tw:FuncId:=46
abbrev BF:FuncId:=54
abbrev Py:FuncId:=55
abbrev Ud:FuncId:=56
abbrev Vy:FuncId:=57
abbrev Qa:FuncId:=58
abbrev Gx:FuncId:=59
abbrev Ar:FuncId:=60
abbrev IQ:FuncId:=61
abbrev IR:FuncId:=62
abbrev Vd:FuncId:=63
abbrev Kl:FuncId:=64
abbrev Ql:FuncId:=65
abbrev Dq:FuncId:=66
abbrev Dp:FuncId:=67
abbrev IU:FuncId:=68
abbrev VA:FuncId:=69
abbrev Km:FuncId:=70
abbrev IV:FuncId:=71
abbrev VT:FuncId:=72
abbrev Kn:FuncId:=73
abbrev IW:FuncId:=74
abbrev IX:FuncId:=75
abbrev IY:FuncId:=76
abbrev IZ:FuncId:=77
abbrev G6:FuncId:=78
abbrev G7:FuncId:=79
abbrev Jt:FuncId:=80
abbrev U1:FuncId:=81
abbrev Px:FuncId:=82
abbrev OE:FuncId:=83
abbrev H6:FuncId:=84
abbrev Tv:FuncId:=85
abbrev Av:FuncId:=86
abbrev OG:FuncId:=87
abbrev Zaa:FuncId:=88
abbrev UV:FuncId:=89
abbrev OD:FuncId:=90
abbrev NG:FuncId:=91
abbrev Ay:FuncId:=92
abbrev Bc:FuncId:=93
abbrev Pn:FuncId:=94
abbrev BH:FuncId:=95
abbrev A7:FuncId:=96
abbrev Zfx:FuncId:=97
abbrev QN:FuncId:=98
abbrev Q9:FuncId:=103
abbrev J5:FuncId:=107
abbrev LV:FuncId:=125
abbrev BV:FuncId:=126
abbrev Pv:FuncId:=127
abbrev XC:FuncId:=128
abbrev Uq:FuncId:=129
abbrev XY:FuncId:=130
abbrev NI:FuncId:=131
abbrev Ku:FuncId:=132
abbrev IP:FuncId:=133
abbrev Og:FuncId:=134
abbrev ML:FuncId:=135
abbrev Zac:FuncId:=136
abbrev ZbX:FuncId:=137
abbrev BG:FuncId:=138
abbrev Aw:FuncId:=139
abbrev Si:FuncId:=140
abbrev Az:FuncId:=141
abbrev Zcb:FuncId:=142
abbrev XH:FuncId:=146
abbrev EG:FuncId:=148
abbrev Ao:FuncId:=151
abbrev Uc:FuncId:=152
abbrev Xu:FuncId:=153
abbrev Us:FuncId:=154
abbrev Ut:FuncId:=155
abbrev Uu:FuncId:=156
abbrev Qp:FuncId:=157
abbrev TZ:FuncId:=158
abbrev Sg:FuncId:=159
abbrev Pz:FuncId:=160
abbrev P5:FuncId:=161
abbrev Oa:FuncId:=164
abbrev Jc:FuncId:=166
abbrev LU:FuncId:=167
abbrev AA:FuncId:=168
abbrev A9:FuncId:=169
abbrev NJ:FuncId:=170
abbrev Zad:FuncId:=171
abbrev VB:FuncId:=172
abbrev ZdC:FuncId:=173
abbrev KP:FuncId:=174
abbrev KQ:FuncId:=175
abbrev Ob:FuncId:=176
abbrev Ap:FuncId:=177
abbrev Ue:FuncId:=179
abbrev Tx:FuncId:=180
abbrev Ur:FuncId:=181
abbrev Zaf:FuncId:=182
abbrev MR:FuncId:=183
abbrev Zlb:FuncId:=184
abbrev Zae:FuncId:=185
abbrev ZdF:FuncId:=186
abbrev OB:FuncId:=187
abbrev OA:FuncId:=188
abbrev Vs:FuncId:=189
abbrev ZbY:FuncId:=190
abbrev OH:FuncId:=191
abbrev LQ:FuncId:=192
abbrev ZdE:FuncId:=193
abbrev MS:FuncId:=194
abbrev Pw:FuncId:=195
abbrev Hz:FuncId:=196
abbrev O9:FuncId:=197
abbrev MW:FuncId:=198
abbrev MV:FuncId:=199
abbrev Bb:FuncId:=200
abbrev DR:FuncId:=201
abbrev ZdD:FuncId:=202
abbrev NH:FuncId:=203
abbrev Zhf:FuncId:=204
abbrev ZdA:TypeId:=3
abbrev QG:TypeId:=9
abbrev ZV:TypeId:=26
abbrev YG:TypeId:=37
abbrev Zf:TypeId:=42
abbrev Jl:TypeId:=49
abbrev I7:TypeId:=54
abbrev Oe:TypeId:=57
abbrev Qm:TypeId:=60
abbrev LH:TypeId:=69
abbrev ZrJ:TypeId:=76
abbrev WH:TypeId:=79
abbrev UU:TypeId:=88
abbrev ZtJ:TypeId:=90
abbrev WA:TypeId:=92
abbrev VQ:TypeId:=95
abbrev UT:TypeId:=97
abbrev Sd:TypeId:=103
abbrev U0:TypeId:=105
abbrev Xt:TypeId:=111
abbrev Jm:TypeId:=113
abbrev JI:TypeId:=127
abbrev Dm:TypeId:=129
abbrev Pm:TypeId:=159
abbrev Yu:TypeId:=179
abbrev Qc:TypeId:=181
abbrev Gq:TypeId:=194
abbrev Wv:TypeId:=202
abbrev WB:TypeId:=204
abbrev Hy:TypeId:=209
abbrev Ww:TypeId:=211
abbrev yI (n:Nat)(o:AOp):Js:=⟨some n,o,none⟩
abbrev yJ (n:Nat) (o:AOp) (g:Nat) (b:Bool):Js:=⟨some n,o,some (g,b)⟩
abbrev yN (o:AOp):Js:=⟨none,o,none⟩
abbrev yV (n:Nat):Vj:=.tmp n
abbrev yK (n:Int):Vj:=.const (.int .i64 n)
abbrev yS (s:List UInt8):Vj:=.const (.str s)
abbrev yT:Vj:=.const (.bool true)
abbrev yF:Vj:=.const (.bool false)
abbrev yG (n:Nat):Vj:=.const (.fn n [] [])
abbrev yA (n:Nat):Nat ⊕ Vj:=.inr (.tmp n)
abbrev yB (o:Vj):Nat ⊕ Vj:=.inr o
abbrev yR (l:List Js):Zh:=.region false l
abbrev yQ (l:List Js) (c:Zh):Zh:=.seq (.region false l) c
abbrev yM (n x:Nat):Js:=⟨some n,.mv (.tmp x),none⟩
abbrev yU (n x:Nat):Js:=⟨some n,.take x,none⟩
abbrev yL (n x:Nat):Js:=⟨some n,.ldc (.tmp x),none⟩
abbrev yH (n k x:Nat):Js:=⟨some n,.fa k (.tmp x),none⟩
abbrev yC (n:Nat) (x:Vj):Js:=⟨some n,.mv x,none⟩
abbrev yD (n k x:Nat):Js:=⟨some n,.lda k (.tmp x),none⟩
abbrev yE (n k x i:Nat):Js:=⟨some n,.ia (.slice k) (.tmp x) (.tmp i),none⟩
abbrev yO (n x:Nat):Js:=⟨some n,.len .slice (.tmp x),none⟩
abbrev yP (n f:Nat) (l:List (Nat ⊕ Vj)):Js:=⟨some n,.call (.const (.fn f [] [])) l,none⟩
abbrev yX (n:Nat) (o:BinOp) (x y:Vj):Js:=⟨some n,.bin o .prim x y,none⟩
def Zed:Zh:=yQ [yI 1 (.box 26 4 (yV 0)),yC 2 yF] (.seq (yQ [yD 3 4 1,yP 4 8 [yA 3],yI 5 (.un .not (yV 4))] (.cond (yV 5) (yQ [yP 6 9 [],yU 2 6] (.ret)) (.skip))) (.seq (.region true [yD 7 4 1,yP 8 10 [yA 7],yD 9 4 1,yP 10 11 [yA 9],yX 11 .eql (yV 8) (yV 10),yM 12 11,yJ 13 (.call (yG 9) []) 12 true,yI 14 (.pick (yV 12) (yV 13) yF),yM 2 14]) (.ret)))
def Ld:AFn:=⟨15,[.tmp 2],Zed,false⟩
def Zft:List Nat:=[13]
def EK:Zh:=.seq (yQ [yM 36 6,yM 37 5,yO 38 37,yX 39 .lss (yV 36) (yV 38)] (.cond (yV 39) (.skip) (.exit 2))) (.seq (.block 3 (yR [yM 42 3,yM 43 5,yM 44 6,yE 45 1 43 44,yL 46 45,yO 47 46,yX 48 .add (yV 42) (yV 47),yU 3 48])) (yR [yM 40 6,yX 41 .add (yV 40) (yK 1),yU 6 41]))
def FZ:Zh:=.loop EK
def FV:Zh:=.region true [yM 49 3,yH 50 2 1,yL 51 50,yM 52 4,yE 53 13 51 52,yH 54 11 53,yL 55 54,yO 56 55,yH 57 2 1,yL 58 57,yM 59 4,yE 60 13 58 59,yH 61 12 60,yL 62 61,yO 63 62,yX 64 .add (yV 56) (yV 63),yX 65 .add (yV 49) (yV 64),yM 3 65]
def FW:Zh:=yR [yM 28 4,yX 29 .add (yV 28) (yK 1),yU 4 29]
def TC:Zh:=.seq (yQ [yM 23 4,yH 24 2 1,yL 25 24,yO 26 25,yX 27 .lss (yV 23) (yV 26)] (.cond (yV 27) (.skip) (.exit 0))) (.seq (.block 1 (yQ [yH 30 2 1,yL 31 30,yM 32 4,yE 33 13 31 32,yD 34 13 33,yP 35 22 [yA 34],yU 5 35] (.seq (yQ [yC 6 (yK 0)] (.block 2 (FZ))) FV))) FW)
def FY:Zh:=.loop TC
def FX:Zh:=yQ [yM 66 3,yX 67 .leq (yV 66) (yK 120),yU 2 67] (.ret)
def Fa:Zh:=yQ [yI 1 (.box 26 4 (yV 0)),yC 2 yF] (.seq (yQ [yH 7 2 1,yL 8 7,yO 9 8,yX 10 .gtr (yV 9) (yK 20),yM 11 10,yJ 12 (.fa 1 (yV 1)) 11 false,yJ 13 (.ldc (yV 12)) 11 false,yJ 14 (.len .slice (yV 13)) 11 false,yJ 15 (.bin .gtr .prim (yV 14) (yK 40)) 11 false,yI 16 (.pick (yV 11) yT (yV 15)),yM 17 16,yJ 18 (.fa 3 (yV 1)) 17 false,yJ 19 (.ldc (yV 18)) 17 false,yJ 20 (.len .slice (yV 19)) 17 false,yJ 21 (.bin .gtr .prim (yV 20) (yK 40)) 17 false,yI 22 (.pick (yV 17) yT (yV 21))] (.cond (yV 22) (yQ [yC 2 yF] (.ret)) (.skip))) (yQ [yC 3 (yK 0)] (.seq (yQ [yC 4 (yK 0)] (.block 0 (FY))) FX)))
def XD:AFn:=⟨68,[.tmp 2],Fa,false⟩
def WS:List Nat:=[12,13,14,15,18,19,20,21]
def Zqf:Zh:=yQ [yI 1 (.box 26 4 (yV 0)),yC 2 (yK 0)] (.seq (yQ [yH 7 0 1,yL 8 7,yP 9 26 [yA 8],yU 3 9] (yQ [yM 10 3,yX 11 .neq (yV 10) (yK 0)] (.cond (yV 11) (yQ [yU 12 3,yU 2 12] (.ret)) (.skip)))) (.seq (yQ [yI 13 (.mkmap),yH 14 1 1,yL 15 14,yP 16 27 [yA 13,yA 15],yU 4 16] (yQ [yM 17 4,yX 18 .neq (yV 17) (yK 0)] (.cond (yV 18) (yQ [yU 19 4,yU 2 19] (.ret)) (.skip)))) (.seq (yQ [yH 20 2 1,yL 21 20,yO 22 21,yX 23 .eql (yV 22) (yK 0)] (.cond (yV 23) (yQ [yC 2 (yK 7)] (.ret)) (.skip))) (yQ [yI 24 (.mkmap),yI 5 (.mk 60 [.nilm]),yN (.stt (yV 5) 24)] (yQ [yH 25 2 1,yL 26 25,yI 27 (.mkfn 29 [] [(yV 5)]),yP 28 28 [yA 26,yB (yK 16),yA 27],yU 6 28] (.seq (yQ [yM 29 6,yX 30 .neq (yV 29) (yK 0)] (.cond (yV 30) (yQ [yU 31 6,yU 2 31] (.ret)) (.skip))) (yQ [yD 32 4 1,yP 33 32 [yA 32],yU 2 33] (.ret))))))))
def AL:AFn:=⟨34,[.tmp 2],Zqf,false⟩
def Zrf:List Nat:=[]
def ZaK:Zh:=.seq (yQ [yM 20 5,yH 21 1 1,yL 22 21,yO 23 22,yX 24 .lss (yV 20) (yV 23)] (.cond (yV 24) (.skip) (.exit 0))) (.seq (.block 1 (yQ [yH 27 1 1,yL 28 27,yM 29 5,yE 30 3 28 29,yD 31 3 30,yM 32 4,yP 33 36 [yA 31,yA 32],yU 3 33] (.seq (yQ [yM 34 3,yX 35 .neq (yV 34) (yK 0)] (.cond (yV 35) (yQ [yU 36 3,yU 2 36] (.ret)) (.skip))) (yR [yU 37 4,yH 38 1 1,yL 39 38,yM 40 5,yE 41 3 39 40,yH 42 0 41,yL 43 42,yI 44 (.lit 9 1 [(yV 43)]),yI 45 (.app 1 16 37 (yV 44)),yU 4 45])))) (yR [yM 25 5,yX 26 .add (yV 25) (yK 1),yU 5 26]))
def ZcO:Zh:=.loop ZaK
def ZaL:Zh:=.seq (yQ [yM 60 7,yH 61 2 1,yL 62 61,yO 63 62,yX 64 .lss (yV 60) (yV 63)] (.cond (yV 64) (.skip) (.exit 2))) (.seq (.block 3 (.seq (.region true [yH 67 2 1,yL 68 67,yM 69 7,yE 70 13 68 69,yH 71 0 70,yL 72 71,yM 73 6,yP 74 37 [yA 72,yA 73],yH 75 2 1,yL 76 75,yM 77 7,yE 78 13 76 77,yD 79 13 78,yP 80 38 [yA 79],yP 81 33 [yA 74,yA 80],yM 3 81]) (.seq (yQ [yM 82 3,yX 83 .neq (yV 82) (yK 0)] (.cond (yV 83) (yQ [yU 84 3,yU 2 84] (.ret)) (.skip))) (yR [yU 85 6,yH 86 2 1,yL 87 86,yM 88 7,yE 89 13 87 88,yH 90 0 89,yL 91 90,yI 92 (.lit 9 1 [(yV 91)]),yI 93 (.app 1 16 85 (yV 92)),yU 6 93])))) (yR [yM 65 7,yX 66 .add (yV 65) (yK 1),yU 7 66]))
def ZcP:Zh:=.loop ZaL
def ZcN:Zh:=yQ [yD 94 4 1,yP 95 39 [yA 94],yU 2 95] (.ret)
def SV:Zh:=.seq (.region true [yH 46 2 1,yL 47 46,yO 48 47,yX 49 .gtr (yV 48) (yK 0),yP 50 35 [yA 49,yB (yK 7)],yH 51 2 1,yL 52 51,yO 53 52,yX 54 .leq (yV 53) (yK 16),yP 55 35 [yA 54,yB (yK 6)],yP 56 33 [yA 50,yA 55],yM 3 56]) (.seq (yQ [yM 57 3,yX 58 .neq (yV 57) (yK 0)] (.cond (yV 58) (yQ [yU 59 3,yU 2 59] (.ret)) (.skip))) (yQ [yI 6 (.mv (.const (.own 1 [])))] (.seq (yQ [yC 7 (yK 0)] (.block 2 (ZcP))) ZcN)))
def Zem:Zh:=yQ [yI 1 (.box 26 4 (yV 0)),yC 2 (yK 0)] (.seq (.region true [yH 8 0 1,yL 9 8,yP 10 34 [yA 9],yH 11 1 1,yL 12 11,yO 13 12,yX 14 .leq (yV 13) (yK 32),yP 15 35 [yA 14,yB (yK 6)],yP 16 33 [yA 10,yA 15],yM 3 16]) (.seq (yQ [yM 17 3,yX 18 .neq (yV 17) (yK 0)] (.cond (yV 18) (yQ [yU 19 3,yU 2 19] (.ret)) (.skip))) (yQ [yI 4 (.mv (.const (.own 1 [])))] (.seq (yQ [yC 5 (yK 0)] (.block 0 (ZcO))) SV))))
def Je:AFn:=⟨96,[.tmp 2],Zem,false⟩
def XB:List Nat:=[]
def Zse:Zh:=yQ [yI 2 (.box 26 4 (yV 0)),yI 3 (.box 9 1 (yV 1)),yC 4 (yK 0)] (yQ [yH 5 2 2,yL 6 5,yI 7 (.mkfn 43 [] [(yV 3)]),yP 8 42 [yA 6,yA 7],yU 4 8] (.ret))
def Zan:AFn:=⟨9,[.tmp 4],Zse,false⟩
def ZsZ:List Nat:=[]
def ZcX:Zh:=.seq (yQ [yM 6 5,yH 7 2 2,yL 8 7,yO 9 8,yX 10 .lss (yV 6) (yV 9)] (.cond (yV 10) (.skip) (.exit 0))) (.seq (.block 1 (yQ [yH 13 2 2,yL 14 13,yM 15 5,yE 16 13 14 15,yH 17 0 16,yL 18 17,yM 19 1,yX 20 .eql (yV 18) (yV 19)] (.cond (yV 20) (yQ [yU 21 5,yU 4 21] (.ret)) (.skip)))) (yR [yM 11 5,yX 12 .add (yV 11) (yK 1),yU 5 12]))
def ZfH:Zh:=.loop ZcX
def ZfG:Zh:=yQ [yI 4 (.mv (.const (.int .i64 (-1))))] (.ret)
def Zhx:Zh:=yQ [yI 2 (.box 26 4 (yV 0)),yC 4 (yK 0)] (.seq (yQ [yC 5 (yK 0)] (.block 0 (ZfH))) ZfG)
def TB:AFn:=⟨22,[.tmp 4],Zhx,false⟩
def GV:List Nat:=[]
def Zlu:Zh:=yQ [yI 2 (.box 42 13 (yV 0)),yI 3 (.box 9 1 (yV 1)),yC 4 (yK 0)] (yQ [yH 5 10 2,yL 6 5,yI 7 (.mkfn 45 [] [(yV 3)]),yP 8 44 [yA 6,yA 7],yU 4 8] (.ret))
def P9:AFn:=⟨9,[.tmp 4],Zlu,false⟩
def ZmO:List Nat:=[]
def Zql:Zh:=yQ [yI 2 (.box 42 13 (yV 0)),yC 4 (yK 0)] (yQ [yD 5 13 2,yP 6 22 [yA 5],yI 7 (.ia (.slice 1) (yV 6) (yK 9)),yL 8 7,yM 9 1,yP 10 46 [yA 8,yA 9],yU 4 10] (.ret))
def AU:AFn:=⟨11,[.tmp 4],Zql,false⟩
def Zrk:List Nat:=[]
def ZcQ:Zh:=.seq (yQ [yM 11 7,yM 12 5,yO 13 12,yX 14 .lss (yV 11) (yV 13)] (.cond (yV 14) (.skip) (.exit 0))) (.seq (.block 1 (yQ [yM 17 5,yM 18 7,yE 19 1 17 18,yL 20 19,yM 21 1,yP 22 46 [yA 20,yA 21],yX 23 .geq (yV 22) (yK 0)] (.cond (yV 23) (yQ [yM 24 6,yM 25 7,yE 26 1 24 25,yL 27 26,yU 4 27] (.ret)) (.skip)))) (yR [yM 15 7,yX 16 .add (yV 15) (yK 1),yU 7 16]))
def ZfF:Zh:=.loop ZcQ
def ZfE:Zh:=yQ [yC 4 (yS [])] (.ret)
def Zhw:Zh:=yQ [yI 2 (.box 42 13 (yV 0)),yC 4 (yS [])] (yQ [yD 8 13 2,yP 9 22 [yA 8],yU 5 9] (yQ [yI 10 (.lit 9 1 [(yS [118,97,114]),(yS [114,101,115,111,117,114,99,101]),(yS [115,116,111,114,101]),(yS [98,101,108,116]),(yS [113,117,101,117,101]),(yS [115,116,114,101,97,109]),(yS [116,97,108,108,121]),(yS [108,101,118,101,108]),(yS [99,111,117,110,116]),(yS [114,111,117,116,105,110,101])]),yU 6 10] (.seq (yQ [yC 7 (yK 0)] (.block 0 (ZfF))) ZfE)))
def TA:AFn:=⟨28,[.tmp 4],Zhw,false⟩
def GU:List Nat:=[]
def ZaM:Zh:=.seq (yQ [yM 10 4,yH 11 1 1,yL 12 11,yO 13 12,yX 14 .lss (yV 10) (yV 13)] (.cond (yV 14) (.skip) (.exit 0))) (.seq (.block 1 (.region true [yM 17 3,yM 18 3,yI 19 (.ia (.slice 1) (yV 18) (yK 0)),yI 20 (.ldt (yV 19)),yH 21 1 1,yL 22 21,yM 23 4,yE 24 3 22 23,yH 25 0 24,yL 26 25,yI 27 (.lit 9 1 [(yV 26)]),yI 28 (.app 1 16 20 (yV 27)),yI 29 (.ia (.slice 1) (yV 17) (yK 0)),yN (.stt (yV 29) 28)])) (yR [yM 15 4,yX 16 .add (yV 15) (yK 1),yU 4 16]))
def ZcS:Zh:=.loop ZaM
def ZaN:Zh:=.seq (yQ [yM 30 5,yH 31 2 1,yL 32 31,yO 33 32,yX 34 .lss (yV 30) (yV 33)] (.cond (yV 34) (.skip) (.exit 2))) (.seq (.block 3 (.region true [yM 37 3,yM 38 3,yI 39 (.ia (.slice 1) (yV 38) (yK 1)),yI 40 (.ldt (yV 39)),yH 41 2 1,yL 42 41,yM 43 5,yE 44 17 42 43,yH 45 0 44,yL 46 45,yI 47 (.lit 9 1 [(yV 46)]),yI 48 (.app 1 16 40 (yV 47)),yI 49 (.ia (.slice 1) (yV 37) (yK 1)),yN (.stt (yV 49) 48)])) (yR [yM 35 5,yX 36 .add (yV 35) (yK 1),yU 5 36]))
def ZcT:Zh:=.loop ZaN
def ZaO:Zh:=.seq (yQ [yM 50 6,yH 51 3 1,yL 52 51,yO 53 52,yX 54 .lss (yV 50) (yV 53)] (.cond (yV 54) (.skip) (.exit 4))) (.seq (.block 5 (.region true [yM 57 3,yM 58 3,yI 59 (.ia (.slice 1) (yV 58) (yK 2)),yI 60 (.ldt (yV 59)),yH 61 3 1,yL 62 61,yM 63 6,yE 64 3 62 63,yH 65 0 64,yL 66 65,yI 67 (.lit 9 1 [(yV 66)]),yI 68 (.app 1 16 60 (yV 67)),yI 69 (.ia (.slice 1) (yV 57) (yK 2)),yN (.stt (yV 69) 68)])) (yR [yM 55 6,yX 56 .add (yV 55) (yK 1),yU 6 56]))
def ZcU:Zh:=.loop ZaO
def ZaP:Zh:=.seq (yQ [yM 70 7,yH 71 4 1,yL 72 71,yO 73 72,yX 74 .lss (yV 70) (yV 73)] (.cond (yV 74) (.skip) (.exit 6))) (.seq (.block 7 (.region true [yM 77 3,yM 78 3,yI 79 (.ia (.slice 1) (yV 78) (yK 3)),yI 80 (.ldt (yV 79)),yH 81 4 1,yL 82 81,yM 83 7,yE 84 3 82 83,yH 85 0 84,yL 86 85,yI 87 (.lit 9 1 [(yV 86)]),yI 88 (.app 1 16 80 (yV 87)),yI 89 (.ia (.slice 1) (yV 77) (yK 3)),yN (.stt (yV 89) 88)])) (yR [yM 75 7,yX 76 .add (yV 75) (yK 1),yU 7 76]))
def ZcV:Zh:=.loop ZaP
def ZaQ:Zh:=.seq (yQ [yM 110 8,yH 111 10 1,yL 112 111,yO 113 112,yX 114 .lss (yV 110) (yV 113)] (.cond (yV 114) (.skip) (.exit 8))) (.seq (.block 9 (.region true [yM 117 3,yM 118 3,yI 119 (.ia (.slice 1) (yV 118) (yK 9)),yI 120 (.ldt (yV 119)),yH 121 10 1,yL 122 121,yM 123 8,yE 124 4 122 123,yH 125 0 124,yL 126 125,yI 127 (.lit 9 1 [(yV 126)]),yI 128 (.app 1 16 120 (yV 127)),yI 129 (.ia (.slice 1) (yV 117) (yK 9)),yN (.stt (yV 129) 128)])) (yR [yM 115 8,yX 116 .add (yV 115) (yK 1),yU 8 116]))
def ZcW:Zh:=.loop ZaQ
def ZcR:Zh:=yQ [yU 130 3,yU 2 130] (.ret)
def Eb:Zh:=yQ [yM 90 3,yH 91 5 1,yL 92 91,yI 93 (.ia (.slice 1) (yV 90) (yK 4)),yN (.stt (yV 93) 92)] (yQ [yM 94 3,yH 95 6 1,yL 96 95,yI 97 (.ia (.slice 1) (yV 94) (yK 5)),yN (.stt (yV 97) 96)] (yQ [yM 98 3,yH 99 7 1,yL 100 99,yI 101 (.ia (.slice 1) (yV 98) (yK 6)),yN (.stt (yV 101) 100)] (yQ [yM 102 3,yH 103 8 1,yL 104 103,yI 105 (.ia (.slice 1) (yV 102) (yK 7)),yN (.stt (yV 105) 104)] (yQ [yM 106 3,yH 107 9 1,yL 108 107,yI 109 (.ia (.slice 1) (yV 106) (yK 8)),yN (.stt (yV 109) 108)] (.seq (yQ [yC 8 (yK 0)] (.block 8 (ZcW))) ZcR)))))
def Ea:Zh:=.seq (yQ [yC 7 (yK 0)] (.block 6 (ZcV))) Eb
def SY:Zh:=.seq (yQ [yC 6 (yK 0)] (.block 4 (ZcU))) Ea
def SX:Zh:=.seq (yQ [yC 5 (yK 0)] (.block 2 (ZcT))) SY
def Zen:Zh:=yQ [yI 1 (.box 42 13 (yV 0)),yI 2 (.mv (.const (.own 1 [])))] (yQ [yI 9 (.mksl 37 [(.own 1 [])] (yK 10)),yU 3 9] (.seq (yQ [yC 4 (yK 0)] (.block 0 (ZcS))) SX))
def Qb:AFn:=⟨131,[.tmp 2],Zen,false⟩
def Yq:List Nat:=[]
def EN:Zh:=yQ [yX 25 .lss (yV 24) (yV 23)] (.seq (.cond (yV 25) (.skip) (.exit 0)) (.seq (.block 1 (yQ [yM 26 24,yU 3 26] (yQ [yM 27 0,yM 28 3,yI 29 (.idx (yV 27) (yV 28)),yU 4 29] (yQ [yM 30 4,yP 31 54 [yA 30],yI 32 (.un .not (yV 31)),yM 33 32,yJ 34 (.mv (yV 4)) 33 true,yJ 35 (.bin .lss .prim (yV 34) (.const (.int .u8 48))) 33 true,yJ 36 (.mv (yV 35)) 33 true,yJ 37 (.mv (yV 4)) 36 false,yJ 38 (.bin .gtr .prim (yV 37) (.const (.int .u8 57))) 36 false,yJ 39 (.pick (yV 36) yT (yV 38)) 33 true,yI 40 (.pick (yV 33) (yV 39) yF),yM 41 40,yJ 42 (.mv (yV 4)) 41 true,yJ 43 (.bin .neq .prim (yV 42) (.const (.int .u8 95))) 41 true,yI 44 (.pick (yV 41) (yV 43) yF)] (.cond (yV 44) (yQ [yC 2 (yK 3)] (.ret)) (.skip)))))) (yR [yX 45 .add (yV 24) (yK 1),yM 24 45])))
def Cg:Zh:=.loop EN
def Cf:Zh:=yQ [yC 2 (yK 0)] (.ret)
def Ff:Zh:=yQ [yC 2 (yK 0)] (.seq (yQ [yM 5 0,yX 6 .eql (yV 5) (yS []),yM 7 6,yJ 8 (.mv (yV 0)) 7 false,yJ 9 (.len .str (yV 8)) 7 false,yJ 10 (.bin .gtr .prim (yV 9) (yK 24)) 7 false,yI 11 (.pick (yV 7) yT (yV 10)),yM 12 11,yJ 13 (.mv (yV 0)) 12 false,yJ 14 (.idx (yV 13) (yK 0)) 12 false,yJ 15 (.call (yG 54) [yA 14]) 12 false,yJ 16 (.un .not (yV 15)) 12 false,yI 17 (.pick (yV 12) yT (yV 16)),yM 18 17,yJ 19 (.mv (yV 0)) 18 false,yJ 20 (.call (yG 55) [yA 19]) 18 false,yI 21 (.pick (yV 18) yT (yV 20))] (.cond (yV 21) (yQ [yC 2 (yK 3)] (.ret)) (.skip))) (.seq (yQ [yM 22 0,yI 23 (.len .str (yV 22)),yC 24 (yK 0)] (.block 0 (Cg))) Cf))
def Uh:AFn:=⟨46,[.tmp 2],Ff,false⟩
def VL:List Nat:=[8,9,10,13,14,15,16,19,20,34,35,36,37,38,39,42,43]
def Cz:Zh:=yQ [yC 4 (yK 0)] (yQ [yM 5 1,yM 6 0,yI 7 (.mkfn 57 [(yV 6)] []),yP 8 56 [yA 5,yB (yK 32),yA 7],yU 4 8] (.ret))
def Oh:AFn:=⟨9,[.tmp 4],Cz,false⟩
def CS:List Nat:=[]
def Zlt:Zh:=yQ [yI 2 (.box 42 13 (yV 0)),yC 3 (yK 0)] (.seq (yQ [yL 5 1,yH 6 0 2,yL 7 6,yP 8 30 [yA 5,yA 7],yU 4 8] (yQ [yM 9 4,yX 10 .neq (yV 9) (yK 0)] (.cond (yV 10) (yQ [yU 11 4,yU 3 11] (.ret)) (.skip)))) (yQ [yD 12 13 2,yP 13 31 [yA 12],yU 3 13] (.ret)))
def P8:AFn:=⟨14,[.tmp 3],Zlt,false⟩
def ZmN:List Nat:=[]
def Hr:Zh:=yQ [yX 17 .lss (yV 16) (yV 15)] (.seq (.cond (yV 17) (.skip) (.exit 0)) (.seq (.block 1 (yQ [yE 18 13 14 16,yD 19 13 18,yI 8 (.mk 42 [(.str []),(.own 3 []),(.own 17 []),(.own 3 []),(.own 3 []),(.own 1 []),(.own 1 []),(.own 1 []),(.own 1 []),(.own 1 []),(.own 4 []),(.own 5 []),(.own 3 [])]),yN (.st 13 (yV 8) (yV 19))] (yQ [yM 20 2,yD 21 13 8,yI 22 (.call (yV 20) [yA 21]),yU 9 22] (yQ [yM 23 9,yX 24 .neq (yV 23) (yK 0)] (.cond (yV 24) (yQ [yU 25 9,yU 6 25] (.ret)) (.skip)))))) (yR [yX 26 .add (yV 16) (yK 1),yM 16 26])))
def IC:Zh:=.loop Hr
def IB:Zh:=yQ [yC 6 (yK 0)] (.ret)
def Ki:Zh:=yQ [yC 6 (yK 0)] (.seq (yQ [yM 10 0,yO 11 10,yM 12 1,yX 13 .gtr (yV 11) (yV 12)] (.cond (yV 13) (yQ [yC 6 (yK 6)] (.ret)) (.skip))) (.seq (yQ [yM 14 0,yO 15 14,yC 16 (yK 0)] (.block 0 (IC))) IB))
def WJ:AFn:=⟨27,[.tmp 6],Ki,false⟩
def Y4:List Nat:=[]
def Zqh:Zh:=yQ [yI 1 (.box 26 4 (yV 0)),yC 2 (yK 0)] (yQ [yI 4 (.mkmap),yI 3 (.mk 127 [.nilm]),yN (.stt (yV 3) 4)] (yQ [yH 5 3 1,yL 6 5,yI 7 (.mkfn 90 [] [(yV 1),(yV 3)]),yP 8 89 [yA 6,yB (yK 32),yA 7],yU 2 8] (.ret)))
def AP:AFn:=⟨9,[.tmp 2],Zqh,false⟩
def Zrh:List Nat:=[]
def ZaE:Zh:=.seq (yQ [yM 22 3,yM 23 0,yI 24 (.len .str (yV 23)),yX 25 .lss (yV 22) (yV 24)] (.cond (yV 25) (.skip) (.exit 0))) (.seq (.block 1 (yQ [yM 28 0,yM 29 3,yI 30 (.idx (yV 28) (yV 29)),yP 31 91 [yA 30],yI 32 (.un .not (yV 31)),yM 33 32,yJ 34 (.mv (yV 0)) 33 true,yJ 35 (.mv (yV 3)) 33 true,yJ 36 (.idx (yV 34) (yV 35)) 33 true,yJ 37 (.bin .neq .prim (yV 36) (.const (.int .u8 95))) 33 true,yI 38 (.pick (yV 33) (yV 37) yF),yM 39 38,yJ 40 (.mv (yV 0)) 39 true,yJ 41 (.mv (yV 3)) 39 true,yJ 42 (.idx (yV 40) (yV 41)) 39 true,yJ 43 (.bin .lss .prim (yV 42) (.const (.int .u8 48))) 39 true,yJ 44 (.mv (yV 43)) 39 true,yJ 45 (.mv (yV 0)) 44 false,yJ 46 (.mv (yV 3)) 44 false,yJ 47 (.idx (yV 45) (yV 46)) 44 false,yJ 48 (.bin .gtr .prim (yV 47) (.const (.int .u8 57))) 44 false,yJ 49 (.pick (yV 44) yT (yV 48)) 39 true,yI 50 (.pick (yV 39) (yV 49) yF)] (.cond (yV 50) (yQ [yC 2 (yK 3)] (.ret)) (.skip)))) (yR [yM 26 3,yX 27 .add (yV 26) (yK 1),yU 3 27]))
def ZcA:Zh:=.loop ZaE
def Zc9:Zh:=yQ [yC 2 (yK 0)] (.ret)
def Zef:Zh:=yQ [yC 2 (yK 0)] (.seq (yQ [yM 4 0,yI 5 (.len .str (yV 4)),yX 6 .lss (yV 5) (yK 1),yM 7 6,yJ 8 (.mv (yV 0)) 7 false,yJ 9 (.len .str (yV 8)) 7 false,yJ 10 (.bin .gtr .prim (yV 9) (yK 24)) 7 false,yI 11 (.pick (yV 7) yT (yV 10)),yM 12 11,yJ 13 (.mv (yV 0)) 12 false,yJ 14 (.idx (yV 13) (yK 0)) 12 false,yJ 15 (.call (yG 91) [yA 14]) 12 false,yJ 16 (.un .not (yV 15)) 12 false,yI 17 (.pick (yV 12) yT (yV 16)),yM 18 17,yJ 19 (.mv (yV 0)) 18 false,yJ 20 (.call (yG 92) [yA 19]) 18 false,yI 21 (.pick (yV 18) yT (yV 20))] (.cond (yV 21) (yQ [yC 2 (yK 3)] (.ret)) (.skip))) (.seq (yQ [yC 3 (yK 0)] (.block 0 (ZcA))) Zc9))
def HY:AFn:=⟨51,[.tmp 2],Zef,false⟩
def UI:List Nat:=[8,9,10,13,14,15,16,19,20,34,35,36,37,40,41,42,43,44,45,46,47,48,49]
def Zsl:Zh:=yQ [yC 4 (yK 0)] (.seq (yQ [yM 5 0] (.cond (yV 5) (yQ [yC 4 (yK 0)] (.ret)) (.skip))) (yQ [yU 6 1,yU 4 6] (.ret)))
def Zau:AFn:=⟨7,[.tmp 4],Zsl,false⟩
def Ztg:List Nat:=[]
def Zua:Zh:=yQ [yC 4 (yK 0)] (.seq (yQ [yM 5 0,yX 6 .neq (yV 5) (yK 0)] (.cond (yV 6) (yQ [yU 7 0,yU 4 7] (.ret)) (.skip))) (yQ [yU 8 1,yU 4 8] (.ret)))
def ZdT:AFn:=⟨9,[.tmp 4],Zua,false⟩
def ZuX:List Nat:=[]
def Zuc:Zh:=yQ [yI 2 (.box 69 3 (yV 0)),yC 4 (yK 0)] (.seq (.region true [yH 6 0 2,yL 7 6,yM 8 1,yP 9 37 [yA 7,yA 8],yH 10 1 2,yL 11 10,yP 12 93 [yA 11],yP 13 35 [yA 12,yB (yK 1)],yP 14 33 [yA 9,yA 13],yM 5 14]) (yQ [yM 15 5,yH 16 1 2,yL 17 16,yH 18 2 2,yL 19 18,yP 20 94 [yA 17,yA 19],yP 21 35 [yA 20,yB (yK 2)],yP 22 33 [yA 15,yA 21],yU 4 22] (.ret)))
def ZdV:AFn:=⟨23,[.tmp 4],Zuc,false⟩
def ZuZ:List Nat:=[]
def Zub:Zh:=yQ [yC 4 (yK 0)] (yQ [yM 5 0,yP 6 34 [yA 5],yM 7 1,yM 8 0,yP 9 46 [yA 7,yA 8],yX 10 .lss (yV 9) (yK 0),yP 11 35 [yA 10,yB (yK 4)],yP 12 33 [yA 6,yA 11],yU 4 12] (.ret))
def ZdU:AFn:=⟨13,[.tmp 4],Zub,false⟩
def ZuY:List Nat:=[]
def Zdc:Zh:=.seq (yQ [yM 39 6,yM 40 4,yM 41 5,yE 42 1 40 41,yL 43 42,yO 44 43,yX 45 .lss (yV 39) (yV 44)] (.cond (yV 45) (.skip) (.exit 2))) (.seq (.block 3 (.seq (.region true [yM 48 4,yM 49 5,yE 50 1 48 49,yL 51 50,yM 52 6,yE 53 1 51 52,yL 54 53,yM 55 3,yP 56 37 [yA 54,yA 55],yD 57 13 1,yM 58 5,yM 59 6,yP 60 95 [yA 57,yA 58,yA 59],yP 61 33 [yA 56,yA 60],yM 7 61]) (.seq (yQ [yM 62 7,yX 63 .neq (yV 62) (yK 0)] (.cond (yV 63) (yQ [yU 64 7,yU 2 64] (.ret)) (.skip))) (yR [yU 65 3,yM 66 4,yM 67 5,yE 68 1 66 67,yL 69 68,yM 70 6,yE 71 1 69 70,yL 72 71,yI 73 (.lit 9 1 [(yV 72)]),yI 74 (.app 1 16 65 (yV 73)),yU 3 74])))) (yR [yM 46 6,yX 47 .add (yV 46) (yK 1),yU 6 47]))
def ZfM:Zh:=.loop Zdc
def ZfJ:Zh:=yR [yM 19 5,yX 20 .add (yV 19) (yK 1),yU 5 20]
def BK:Zh:=.seq (yQ [yM 15 5,yM 16 4,yO 17 16,yX 18 .lss (yV 15) (yV 17)] (.cond (yV 18) (.skip) (.exit 0))) (.seq (.block 1 (.seq (yQ [yM 21 4,yM 22 5,yE 23 1 21 22,yL 24 23,yO 25 24,yX 26 .gtr (yV 25) (yK 32),yM 27 26,yJ 28 (.mv (yV 5)) 27 false,yJ 29 (.bin .eql .prim (yV 28) (yK 9)) 27 false,yJ 30 (.mv (yV 29)) 27 false,yJ 31 (.mv (yV 4)) 30 true,yJ 32 (.mv (yV 5)) 30 true,yJ 33 (.ia (.slice 1) (yV 31) (yV 32)) 30 true,yJ 34 (.ldc (yV 33)) 30 true,yJ 35 (.len .slice (yV 34)) 30 true,yJ 36 (.bin .gtr .prim (yV 35) (yK 16)) 30 true,yJ 37 (.pick (yV 30) (yV 36) yF) 27 false,yI 38 (.pick (yV 27) yT (yV 37))] (.cond (yV 38) (yQ [yC 2 (yK 6)] (.ret)) (.skip))) (yQ [yC 6 (yK 0)] (.block 2 (ZfM))))) ZfJ)
def ZfL:Zh:=.loop BK
def Zdd:Zh:=.seq (yQ [yM 79 8,yH 80 11 1,yL 81 80,yO 82 81,yX 83 .lss (yV 79) (yV 82)] (.cond (yV 83) (.skip) (.exit 4))) (.seq (.block 5 (.seq (.region true [yD 86 13 1,yH 87 11 1,yL 88 87,yM 89 8,yE 90 5 88 89,yD 91 5 90,yP 92 96 [yA 86,yA 91],yM 9 92]) (yQ [yM 93 9,yX 94 .neq (yV 93) (yK 0)] (.cond (yV 94) (yQ [yU 95 9,yU 2 95] (.ret)) (.skip))))) (yR [yM 84 8,yX 85 .add (yV 84) (yK 1),yU 8 85]))
def ZfN:Zh:=.loop Zdd
def Zde:Zh:=.seq (yQ [yM 100 11,yH 101 12 1,yL 102 101,yO 103 102,yX 104 .lss (yV 100) (yV 103)] (.cond (yV 104) (.skip) (.exit 6))) (.seq (.block 7 (.seq (.region true [yD 107 13 1,yH 108 12 1,yL 109 108,yM 110 11,yE 111 3 109 110,yD 112 3 111,yM 113 10,yP 114 97 [yA 107,yA 112,yA 113],yM 12 114]) (.seq (yQ [yM 115 12,yX 116 .neq (yV 115) (yK 0)] (.cond (yV 116) (yQ [yU 117 12,yU 2 117] (.ret)) (.skip))) (yR [yU 118 10,yH 119 12 1,yL 120 119,yM 121 11,yE 122 3 120 121,yH 123 0 122,yL 124 123,yI 125 (.lit 9 1 [(yV 124)]),yI 126 (.app 1 16 118 (yV 125)),yU 10 126])))) (yR [yM 105 11,yX 106 .add (yV 105) (yK 1),yU 11 106]))
def ZfO:Zh:=.loop Zde
def ZfK:Zh:=yQ [yC 2 (yK 0)] (.ret)
def Fj:Zh:=.seq (yQ [yH 96 12 1,yL 97 96,yO 98 97,yX 99 .gtr (yV 98) (yK 32)] (.cond (yV 99) (yQ [yC 2 (yK 6)] (.ret)) (.skip))) (yQ [yI 10 (.mv (.const (.own 1 [])))] (.seq (yQ [yC 11 (yK 0)] (.block 6 (ZfO))) ZfK))
def Fh:Zh:=.seq (yQ [yH 75 11 1,yL 76 75,yO 77 76,yX 78 .gtr (yV 77) (yK 32)] (.cond (yV 78) (yQ [yC 2 (yK 6)] (.ret)) (.skip))) (.seq (yQ [yC 8 (yK 0)] (.block 4 (ZfN))) Fj)
def Zhy:Zh:=yQ [yI 1 (.box 42 13 (yV 0)),yC 2 (yK 0)] (yQ [yI 3 (.mv (.const (.own 1 [])))] (yQ [yD 13 13 1,yP 14 22 [yA 13],yU 4 14] (.seq (yQ [yC 5 (yK 0)] (.block 0 (ZfL))) Fh)))
def X5:AFn:=⟨127,[.tmp 2],Zhy,false⟩
def WC:List Nat:=[28,29,30,31,32,33,34,35,36,37]
def ZaR:Zh:=.seq (yQ [yM 43 5,yM 44 3,yX 45 .lss (yV 43) (yV 44)] (.cond (yV 45) (.skip) (.exit 2))) (.seq (.block 3 (.seq (.region true [yH 48 3 1,yL 49 48,yM 50 5,yE 51 3 49 50,yH 52 0 51,yL 53 52,yH 54 0 4,yL 55 54,yX 56 .eql (yV 53) (yV 55),yM 57 56,yJ 58 (.fa 3 (yV 1)) 57 true,yJ 59 (.ldc (yV 58)) 57 true,yJ 60 (.mv (yV 5)) 57 true,yJ 61 (.ia (.slice 3) (yV 59) (yV 60)) 57 true,yJ 62 (.fa 1 (yV 61)) 57 true,yJ 63 (.ldc (yV 62)) 57 true,yJ 64 (.fa 1 (yV 4)) 57 true,yJ 65 (.ldc (yV 64)) 57 true,yJ 66 (.bin .eql .prim (yV 63) (yV 65)) 57 true,yI 67 (.pick (yV 57) (yV 66) yF)]) (.cond (yV 67) (yQ [yC 2 (yK 4)] (.ret)) (.skip)))) (yR [yM 46 5,yX 47 .add (yV 46) (yK 1),yU 5 47]))
def Zdb:Zh:=.loop ZaR
def ZcY:Zh:=yR [yM 15 3,yX 16 .add (yV 15) (yK 1),yU 3 16]
def Rc:Zh:=.seq (yQ [yM 10 3,yH 11 3 1,yL 12 11,yO 13 12,yX 14 .lss (yV 10) (yV 13)] (.cond (yV 14) (.skip) (.exit 0))) (.seq (.block 1 (yQ [yH 17 3 1,yL 18 17,yM 19 3,yE 20 3 18 19,yD 21 3 20,yI 4 (.mk 49 [(.str []),(.str []),(.int .i64 0)]),yN (.st 3 (yV 4) (yV 21))] (.seq (yQ [yD 22 4 1,yH 23 0 4,yL 24 23,yP 25 15 [yA 22,yA 24],yX 26 .lss (yV 25) (yK 0),yM 27 26,yJ 28 (.lda 4 (yV 1)) 27 false,yJ 29 (.fa 1 (yV 4)) 27 false,yJ 30 (.ldc (yV 29)) 27 false,yJ 31 (.call (yG 15) [yA 28,yA 30]) 27 false,yJ 32 (.bin .lss .prim (yV 31) (yK 0)) 27 false,yI 33 (.pick (yV 27) yT (yV 32))] (.cond (yV 33) (yQ [yC 2 (yK 5)] (.ret)) (.skip))) (.seq (yQ [yH 34 0 4,yL 35 34,yH 36 1 4,yL 37 36,yX 38 .eql (yV 35) (yV 37)] (.cond (yV 38) (yQ [yC 2 (yK 1)] (.ret)) (.skip))) (.seq (yQ [yH 39 2 4,yL 40 39,yP 41 98 [yA 40,yB (yK 1),yB (yK 1000000000)],yI 42 (.un .not (yV 41))] (.cond (yV 42) (yQ [yC 2 (yK 2)] (.ret)) (.skip))) (yQ [yC 5 (yK 0)] (.block 2 (Zdb)))))))) ZcY)
def Zda:Zh:=.loop Rc
def ZcZ:Zh:=yQ [yC 2 (yK 0)] (.ret)
def Zeo:Zh:=yQ [yI 1 (.box 26 4 (yV 0)),yC 2 (yK 0)] (.seq (yQ [yH 6 3 1,yL 7 6,yO 8 7,yX 9 .gtr (yV 8) (yK 32)] (.cond (yV 9) (yQ [yC 2 (yK 6)] (.ret)) (.skip))) (.seq (yQ [yC 3 (yK 0)] (.block 0 (Zda))) ZcZ))
def Jf:AFn:=⟨68,[.tmp 2],Zeo,false⟩
def Xx:List Nat:=[28,29,30,31,32,58,59,60,61,62,63,64,65,66]
def Zny:Zh:=yQ [yI 2 (.box 42 13 (yV 0)),yC 3 yF] (yQ [yH 4 0 2,yL 5 4,yL 6 1,yX 7 .eql (yV 5) (yV 6),yU 3 7] (.ret))
def Sl:AFn:=⟨8,[.tmp 3],Zny,false⟩
def Zo9:List Nat:=[]
def XR:Zh:=yQ [yX 9 .lss (yV 8) (yV 7)] (.seq (.cond (yV 9) (.skip) (.exit 0)) (.seq (.block 1 (yQ [yM 10 8,yU 5 10] (yQ [yM 11 1,yM 12 0,yM 13 5,yE 14 13 12 13,yD 15 13 14,yI 16 (.call (yV 11) [yA 15])] (.cond (yV 16) (yQ [yU 17 5,yU 4 17] (.ret)) (.skip))))) (yR [yX 18 .add (yV 8) (yK 1),yM 8 18])))
def XW:Zh:=.loop XR
def XV:Zh:=yQ [yI 4 (.mv (.const (.int .i64 (-1))))] (.ret)
def QL:Zh:=yQ [yC 4 (yK 0)] (.seq (yQ [yM 6 0,yO 7 6,yC 8 (yK 0)] (.block 0 (XW))) XV)
def ZF:AFn:=⟨19,[.tmp 4],QL,false⟩
def Zy:List Nat:=[]
def Zhq:Zh:=yQ [yI 2 (.box 79 4 (yV 0)),yC 3 yF] (yQ [yH 4 0 2,yL 5 4,yL 6 1,yX 7 .eql (yV 5) (yV 6),yU 3 7] (.ret))
def Bd:AFn:=⟨8,[.tmp 3],Zhq,false⟩
def Zjn:List Nat:=[]
def Ve:Zh:=yQ [yX 9 .lss (yV 8) (yV 7)] (.seq (.cond (yV 9) (.skip) (.exit 0)) (.seq (.block 1 (yQ [yM 10 8,yU 5 10] (yQ [yM 11 1,yM 12 0,yM 13 5,yE 14 4 12 13,yD 15 4 14,yI 16 (.call (yV 11) [yA 15])] (.cond (yV 16) (yQ [yU 17 5,yU 4 17] (.ret)) (.skip))))) (yR [yX 18 .add (yV 8) (yK 1),yM 8 18])))
def Vl:Zh:=.loop Ve
def Vk:Zh:=yQ [yI 4 (.mv (.const (.int .i64 (-1))))] (.ret)
def Xo:Zh:=yQ [yC 4 (yK 0)] (.seq (yQ [yM 6 0,yO 7 6,yC 8 (yK 0)] (.block 0 (Vl))) Vk)
def ZT:AFn:=⟨19,[.tmp 4],Xo,false⟩
def Z6:List Nat:=[]
def ZcB:Zh:=.seq (yQ [yM 6 5,yM 7 0,yO 8 7,yX 9 .lss (yV 6) (yV 8)] (.cond (yV 9) (.skip) (.exit 0))) (.seq (.block 1 (yQ [yM 12 0,yM 13 5,yE 14 1 12 13,yL 15 14,yM 16 1,yX 17 .eql (yV 15) (yV 16)] (.cond (yV 17) (yQ [yU 18 5,yU 4 18] (.ret)) (.skip)))) (yR [yM 10 5,yX 11 .add (yV 10) (yK 1),yU 5 11]))
def Zf7:Zh:=.loop ZcB
def Zf6:Zh:=yQ [yI 4 (.mv (.const (.int .i64 (-1))))] (.ret)
def Zht:Zh:=yQ [yC 4 (yK 0)] (.seq (yQ [yC 5 (yK 0)] (.block 0 (Zf7))) Zf6)
def Tz:AFn:=⟨19,[.tmp 4],Zht,false⟩
def GQ:List Nat:=[]
def ZnB:Zh:=yQ [yC 2 yF] (yQ [yM 3 0,yX 4 .geq (yV 3) (.const (.int .u8 97)),yM 5 4,yJ 6 (.mv (yV 0)) 5 true,yJ 7 (.bin .leq .prim (yV 6) (.const (.int .u8 122))) 5 true,yI 8 (.pick (yV 5) (yV 7) yF),yU 2 8] (.ret))
def SC:AFn:=⟨9,[.tmp 2],ZnB,false⟩
def ZoM:List Nat:=[6,7]
def Zl0:Zh:=yQ [yC 2 yF] (.seq (yQ [yM 3 0] (.block 0 (.seq (yQ [yX 5 .eql (yV 3) (yS [97,100,100]),yU 4 5] (.cond (yV 4) (.skip) (yQ [yX 6 .eql (yV 3) (yS [97,102,116,101,114]),yU 4 6] (.cond (yV 4) (.skip) (yQ [yX 7 .eql (yV 3) (yS [97,110,100]),yU 4 7] (.cond (yV 4) (.skip) (yQ [yX 8 .eql (yV 3) (yS [97,116]),yU 4 8] (.cond (yV 4) (.skip) (yQ [yX 9 .eql (yV 3) (yS [98,101,108,116]),yU 4 9] (.cond (yV 4) (.skip) (yQ [yX 10 .eql (yV 3) (yS [98,111,111,108]),yU 4 10] (.cond (yV 4) (.skip) (yQ [yX 11 .eql (yV 3) (yS [99,111,110,115,101,114,118,101]),yU 4 11] (.cond (yV 4) (.skip) (yQ [yX 12 .eql (yV 3) (yS [99,111,110,115,116]),yU 4 12] (.cond (yV 4) (.skip) (yQ [yX 13 .eql (yV 3) (yS [99,111,117,110,116]),yU 4 13] (.cond (yV 4) (.skip) (yQ [yX 14 .eql (yV 3) (yS [99,121,99,108,101]),yU 4 14] (.cond (yV 4) (.skip) (yQ [yX 15 .eql (yV 3) (yS [100,111,119,110]),yU 4 15] (.cond (yV 4) (.skip) (yQ [yX 16 .eql (yV 3) (yS [100,114,97,119]),yU 4 16] (.cond (yV 4) (.skip) (yQ [yX 17 .eql (yV 3) (yS [100,117,114]),yU 4 17] (.cond (yV 4) (.skip) (yQ [yX 18 .eql (yV 3) (yS [101,108,115,101]),yU 4 18] (.cond (yV 4) (.skip) (yQ [yX 19 .eql (yV 3) (yS [101,110,100]),yU 4 19] (.cond (yV 4) (.skip) (yQ [yX 20 .eql (yV 3) (yS [101,118,101,114,121]),yU 4 20] (.cond (yV 4) (.skip) (yQ [yX 21 .eql (yV 3) (yS [102,97,108,115,101]),yU 4 21] (.cond (yV 4) (.skip) (yQ [yX 22 .eql (yV 3) (yS [102,97,117,108,116]),yU 4 22] (.cond (yV 4) (.skip) (yQ [yX 23 .eql (yV 3) (yS [102,105,102,111]),yU 4 23] (.cond (yV 4) (.skip) (yQ [yX 24 .eql (yV 3) (yS [102,114,101,101]),yU 4 24] (.cond (yV 4) (.skip) (yQ [yX 25 .eql (yV 3) (yS [102,114,111,109]),yU 4 25] (.cond (yV 4) (.skip) (yQ [yX 26 .eql (yV 3) (yS [103,101,111,109]),yU 4 26] (.cond (yV 4) (.skip) (yQ [yX 27 .eql (yV 3) (yS [103,101,116]),yU 4 27] (.cond (yV 4) (.skip) (yQ [yX 28 .eql (yV 3) (yS [104,111,108,100]),yU 4 28] (.cond (yV 4) (.skip) (yQ [yX 29 .eql (yV 3) (yS [105,102]),yU 4 29] (.cond (yV 4) (.skip) (yQ [yX 30 .eql (yV 3) (yS [105,110,116]),yU 4 30] (.cond (yV 4) (.skip) (yQ [yX 31 .eql (yV 3) (yS [105,110,116,111]),yU 4 31] (.cond (yV 4) (.skip) (yQ [yX 32 .eql (yV 3) (yS [108,101,97,115,116]),yU 4 32] (.cond (yV 4) (.skip) (yQ [yX 33 .eql (yV 3) (yS [108,101,118,101,108]),yU 4 33] (.cond (yV 4) (.skip) (yQ [yX 34 .eql (yV 3) (yS [108,105,102,111]),yU 4 34] (.cond (yV 4) (.skip) (yQ [yX 35 .eql (yV 3) (yS [108,105,110,107]),yU 4 35] (.cond (yV 4) (.skip) (yQ [yX 36 .eql (yV 3) (yS [108,111,99,97,108]),yU 4 36] (.cond (yV 4) (.skip) (yQ [yX 37 .eql (yV 3) (yS [109,97,120]),yU 4 37] (.cond (yV 4) (.skip) (yQ [yX 38 .eql (yV 3) (yS [109,105,110]),yU 4 38] (.cond (yV 4) (.skip) (yQ [yX 39 .eql (yV 3) (yS [109,111,100,101,108]),yU 4 39] (.cond (yV 4) (.skip) (yQ [yX 40 .eql (yV 3) (yS [110,111,116]),yU 4 40] (.cond (yV 4) (.skip) (yQ [yX 41 .eql (yV 3) (yS [110,111,119]),yU 4 41] (.cond (yV 4) (.skip) (yQ [yX 42 .eql (yV 3) (yS [111,98,115,101,114,118,101]),yU 4 42] (.cond (yV 4) (.skip) (yQ [yX 43 .eql (yV 3) (yS [111,114]),yU 4 43] (.cond (yV 4) (.skip) (yQ [yX 44 .eql (yV 3) (yS [112,97,114,97,109]),yU 4 44] (.cond (yV 4) (.skip) (yQ [yX 45 .eql (yV 3) (yS [112,114,101,101,109,112,116]),yU 4 45] (.cond (yV 4) (.skip) (yQ [yX 46 .eql (yV 3) (yS [112,114,105,111]),yU 4 46] (.cond (yV 4) (.skip) (yQ [yX 47 .eql (yV 3) (yS [112,117,116]),yU 4 47] (.cond (yV 4) (.skip) (yQ [yX 48 .eql (yV 3) (yS [113,117,101,117,101]),yU 4 48] (.cond (yV 4) (.skip) (yQ [yX 49 .eql (yV 3) (yS [114,101,108,101,97,115,101]),yU 4 49] (.cond (yV 4) (.skip) (yQ [yX 50 .eql (yV 3) (yS [114,101,115,111,117,114,99,101]),yU 4 50] (.cond (yV 4) (.skip) (yQ [yX 51 .eql (yV 3) (yS [114,105,100,101]),yU 4 51] (.cond (yV 4) (.skip) (yQ [yX 52 .eql (yV 3) (yS [114,111,117,116,105,110,101]),yU 4 52] (.cond (yV 4) (.skip) (yQ [yX 53 .eql (yV 3) (yS [115,101,105,122,101]),yU 4 53] (.cond (yV 4) (.skip) (yQ [yX 54 .eql (yV 3) (yS [115,101,110,100]),yU 4 54] (.cond (yV 4) (.skip) (yQ [yX 55 .eql (yV 3) (yS [115,101,116]),yU 4 55] (.cond (yV 4) (.skip) (yQ [yX 56 .eql (yV 3) (yS [115,104,105,102,116]),yU 4 56] (.cond (yV 4) (.skip) (yQ [yX 57 .eql (yV 3) (yS [115,105,103,110,97,108]),yU 4 57] (.cond (yV 4) (.skip) (yQ [yX 58 .eql (yV 3) (yS [115,105,116,101]),yU 4 58] (.cond (yV 4) (.skip) (yQ [yX 59 .eql (yV 3) (yS [115,105,122,101]),yU 4 59] (.cond (yV 4) (.skip) (yQ [yX 60 .eql (yV 3) (yS [115,112,97,119,110]),yU 4 60] (.cond (yV 4) (.skip) (yQ [yX 61 .eql (yV 3) (yS [115,116,97,114,116]),yU 4 61] (.cond (yV 4) (.skip) (yQ [yX 62 .eql (yV 3) (yS [115,116,111,112]),yU 4 62] (.cond (yV 4) (.skip) (yQ [yX 63 .eql (yV 3) (yS [115,116,111,114,101]),yU 4 63] (.cond (yV 4) (.skip) (yQ [yX 64 .eql (yV 3) (yS [115,116,114,101,97,109]),yU 4 64] (.cond (yV 4) (.skip) (yQ [yX 65 .eql (yV 3) (yS [115,117,109]),yU 4 65] (.cond (yV 4) (.skip) (yQ [yX 66 .eql (yV 3) (yS [116,97,98,108,101]),yU 4 66] (.cond (yV 4) (.skip) (yQ [yX 67 .eql (yV 3) (yS [116,97,108,108,121]),yU 4 67] (.cond (yV 4) (.skip) (yQ [yX 68 .eql (yV 3) (yS [116,105,99,107,115]),yU 4 68] (.cond (yV 4) (.skip) (yQ [yX 69 .eql (yV 3) (yS [116,105,109,101]),yU 4 69] (.cond (yV 4) (.skip) (yQ [yX 70 .eql (yV 3) (yS [116,114,117,101]),yU 4 70] (.cond (yV 4) (.skip) (yQ [yX 71 .eql (yV 3) (yS [117,110,105,102,111,114,109]),yU 4 71] (.cond (yV 4) (.skip) (yQ [yX 72 .eql (yV 3) (yS [117,110,116,105,108]),yU 4 72] (.cond (yV 4) (.skip) (yQ [yX 73 .eql (yV 3) (yS [117,112]),yU 4 73] (.cond (yV 4) (.skip) (yQ [yX 74 .eql (yV 3) (yS [118,97,114]),yU 4 74] (.cond (yV 4) (.skip) (yQ [yX 75 .eql (yV 3) (yS [119,97,105,116]),yU 4 75] (.cond (yV 4) (.skip) (yQ [yX 76 .eql (yV 3) (yS [119,97,105,116,105,110,103]),yU 4 76] (.cond (yV 4) (.skip) (yR [yX 77 .eql (yV 3) (yS [119,104,105,108,101]),yU 4 77]))))))))))))))))))))))))))))))))))))))))))))))))))))))))))))))))))))))))))))))))))))))))))))))))))))))))))))))))))))))))))))))))))))))))))))))))) (.cond (yV 4) (yQ [yC 2 yT] (.ret)) (.skip))))) (yQ [yC 2 yF] (.ret)))
def PK:AFn:=⟨78,[.tmp 2],Zl0,false⟩
def ZmU:List Nat:=[]
def Zaz:Zh:=yQ [yI 3 (.box 69 3 (yV 1)),yC 4 (yK 0)] (.seq (yQ [yM 6 0,yH 7 0 3,yL 8 7,yP 9 30 [yA 6,yA 8],yU 5 9] (yQ [yM 10 5,yX 11 .neq (yV 10) (yK 0)] (.cond (yV 11) (yQ [yU 12 5,yU 4 12] (.ret)) (.skip)))) (.seq (.block 0 (yQ [yH 14 1 3,yL 15 14,yP 16 125 [yA 15],yI 17 (.un .not (yV 16)),yU 13 17] (.cond (yV 13) (yQ [yC 4 (yK 1)] (.ret)) (yQ [yH 19 1 3,yL 20 19,yH 21 2 3,yL 22 21,yP 23 126 [yA 20,yA 22],yI 24 (.un .not (yV 23)),yU 18 24] (.cond (yV 18) (yQ [yC 4 (yK 2)] (.ret)) (.skip)))))) (yQ [yC 4 (yK 0)] (.ret))))
def OL:AFn:=⟨25,[.tmp 4],Zaz,false⟩
def ZbQ:List Nat:=[]
def OP:Zh:=yQ [yX 17 .lss (yV 16) (yV 15)] (.seq (.cond (yV 17) (.skip) (.exit 0)) (.seq (.block 1 (yQ [yE 18 3 14 16,yD 19 3 18,yI 8 (.mk 69 [(.str []),(.int .i64 0),(.int .i64 0)]),yN (.st 3 (yV 8) (yV 19))] (yQ [yM 20 2,yD 21 3 8,yI 22 (.call (yV 20) [yA 21]),yU 9 22] (yQ [yM 23 9,yX 24 .neq (yV 23) (yK 0)] (.cond (yV 24) (yQ [yU 25 9,yU 6 25] (.ret)) (.skip)))))) (yR [yX 26 .add (yV 16) (yK 1),yM 16 26])))
def TQ:Zh:=.loop OP
def TP:Zh:=yQ [yC 6 (yK 0)] (.ret)
def Ii:Zh:=yQ [yC 6 (yK 0)] (.seq (yQ [yM 10 0,yO 11 10,yM 12 1,yX 13 .gtr (yV 11) (yV 12)] (.cond (yV 13) (yQ [yC 6 (yK 6)] (.ret)) (.skip))) (.seq (yQ [yM 14 0,yO 15 14,yC 16 (yK 0)] (.block 0 (TQ))) TP))
def Qj:AFn:=⟨27,[.tmp 6],Ii,false⟩
def W9:List Nat:=[]
def Zay:Zh:=yQ [yC 4 (yK 0)] (.seq (yQ [yM 6 1,yP 7 26 [yA 6],yU 5 7] (yQ [yM 8 5,yX 9 .neq (yV 8) (yK 0)] (.cond (yV 9) (yQ [yU 10 5,yU 4 10] (.ret)) (.skip)))) (.seq (yQ [yM 11 0,yM 12 1,yI 13 (.look (.one .str) (.bool false) (yV 11) (yV 12) false)] (.cond (yV 13) (yQ [yC 4 (yK 4)] (.ret)) (.skip))) (yQ [yM 14 0,yM 15 1,yN (.mupd (.one .str) (yV 14) (yV 15) yT)] (yQ [yC 4 (yK 0)] (.ret)))))
def OJ:AFn:=⟨16,[.tmp 4],Zay,false⟩
def ZbP:List Nat:=[]
def Zsh:Zh:=yQ [yI 1 (.box 42 13 (yV 0)),yC 2 (yK 0)] (yQ [yI 5 (.mkmap),yI 3 (.mk 60 [.nilm]),yN (.stt (yV 3) 5)] (yQ [yI 6 (.mkfn 58 [] [(yV 3)]),yI 4 (.mk 111 [.nilf]),yN (.stt (yV 4) 6)] (yQ [yI 7 (.mkfn 61 [] [(yV 3),(yV 1)]),yI 8 (.mkfn 62 [] [(yV 1),(yV 3)]),yI 9 (.mkfn 68 [] [(yV 1),(yV 3)]),yI 10 (.mkfn 71 [] [(yV 1),(yV 3)]),yI 11 (.mkfn 74 [] [(yV 4),(yV 1)]),yI 12 (.mkfn 75 [] [(yV 4),(yV 1)]),yI 13 (.mkfn 76 [] [(yV 4),(yV 1)]),yI 14 (.mkfn 77 [] [(yV 4),(yV 1)]),yI 15 (.mkfn 78 [] [(yV 4),(yV 1)]),yI 16 (.mkfn 79 [] [(yV 1),(yV 3)]),yI 17 (.mkfn 83 [] [(yV 1)]),yI 18 (.mkfn 87 [] [(yV 1)]),yI 19 (.lit 113 1 [(yV 7),(yV 8),(yV 9),(yV 10),(yV 11),(yV 12),(yV 13),(yV 14),(yV 15),(yV 16),(yV 17),(yV 18)]),yP 20 60 [yA 19],yU 2 20] (.ret))))
def Zaq:AFn:=⟨21,[.tmp 2],Zsh,false⟩
def Ztc:List Nat:=[]
def Zlv:Zh:=yQ [yI 3 (.box 49 3 (yV 0)),yC 4 (yK 0)] (yQ [yH 6 0 3,yL 7 6,yH 8 1 3,yL 9 8,yI 10 (.build [(.str []),(.str [])] [(0,1,(yV 7)),(1,1,(yV 9))]),yI 5 (.mk 129 [(.str []),(.str [])]),yN (.st 2 (yV 5) (yV 10))] (.seq (.block 0 (yQ [yD 12 4 1,yH 13 0 3,yL 14 13,yP 15 14 [yA 12,yA 14],yX 16 .lss (yV 15) (yK 0),yM 17 16,yJ 18 (.lda 4 (yV 1)) 17 false,yJ 19 (.fa 1 (yV 3)) 17 false,yJ 20 (.ldc (yV 19)) 17 false,yJ 21 (.call (yG 14) [yA 18,yA 20]) 17 false,yJ 22 (.bin .lss .prim (yV 21) (yK 0)) 17 false,yI 23 (.pick (yV 17) yT (yV 22)),yU 11 23] (.cond (yV 11) (yQ [yC 4 (yK 5)] (.ret)) (yQ [yH 25 0 3,yL 26 25,yH 27 1 3,yL 28 27,yX 29 .eql (yV 26) (yV 28),yU 24 29] (.cond (yV 24) (yQ [yC 4 (yK 1)] (.ret)) (yQ [yH 31 2 3,yL 32 31,yP 33 65 [yA 32,yB (yK 1),yB (yK 1000000000)],yI 34 (.un .not (yV 33)),yU 30 34] (.cond (yV 30) (yQ [yC 4 (yK 2)] (.ret)) (yQ [yL 36 2,yD 37 2 5,yI 38 (.look (.pair .str) (.bool false) (yV 36) (yV 37) false),yU 35 38] (.cond (yV 35) (yQ [yC 4 (yK 4)] (.ret)) (.skip)))))))))) (yQ [yL 39 2,yD 40 2 5,yN (.mupd (.pair .str) (yV 39) (yV 40) yT)] (yQ [yC 4 (yK 0)] (.ret)))))
def PD:AFn:=⟨41,[.tmp 4],Zlv,false⟩
def ZmP:List Nat:=[18,19,20,21,22]
def TK:Zh:=yQ [yX 17 .lss (yV 16) (yV 15)] (.seq (.cond (yV 17) (.skip) (.exit 0)) (.seq (.block 1 (yQ [yE 18 3 14 16,yD 19 3 18,yI 8 (.mk 49 [(.str []),(.str []),(.int .i64 0)]),yN (.st 3 (yV 8) (yV 19))] (yQ [yM 20 2,yD 21 3 8,yI 22 (.call (yV 20) [yA 21]),yU 9 22] (yQ [yM 23 9,yX 24 .neq (yV 23) (yK 0)] (.cond (yV 24) (yQ [yU 25 9,yU 6 25] (.ret)) (.skip)))))) (yR [yX 26 .add (yV 16) (yK 1),yM 16 26])))
def Mg:Zh:=.loop TK
def Mf:Zh:=yQ [yC 6 (yK 0)] (.ret)
def Oi:Zh:=yQ [yC 6 (yK 0)] (.seq (yQ [yM 10 0,yO 11 10,yM 12 1,yX 13 .gtr (yV 11) (yV 12)] (.cond (yV 13) (yQ [yC 6 (yK 6)] (.ret)) (.skip))) (.seq (yQ [yM 14 0,yO 15 14,yC 16 (yK 0)] (.block 0 (Mg))) Mf))
def Qv:AFn:=⟨27,[.tmp 6],Oi,false⟩
def WL:List Nat:=[]
def Zsi:Zh:=yQ [yC 2 yF] (yQ [yM 3 0,yX 4 .geq (yV 3) (.const (.int .u8 97)),yM 5 4,yJ 6 (.mv (yV 0)) 5 true,yJ 7 (.bin .leq .prim (yV 6) (.const (.int .u8 122))) 5 true,yI 8 (.pick (yV 5) (yV 7) yF),yU 2 8] (.ret))
def Zar:AFn:=⟨9,[.tmp 2],Zsi,false⟩
def Ztd:List Nat:=[6,7]
def Zqj:Zh:=yQ [yC 2 yF] (yQ [yP 3 138 [],yM 4 0,yP 5 46 [yA 3,yA 4],yX 6 .geq (yV 5) (yK 0),yU 2 6] (.ret))
def AR:AFn:=⟨7,[.tmp 2],Zqj,false⟩
def Zrj:List Nat:=[]
def ZtZ:Zh:=yQ [yC 2 yF] (yQ [yM 3 0,yX 4 .eql (yV 3) (yK 1),yM 5 4,yJ 6 (.mv (yV 0)) 5 false,yJ 7 (.bin .eql .prim (yV 6) (yK 2)) 5 false,yI 8 (.pick (yV 5) yT (yV 7)),yM 9 8,yJ 10 (.mv (yV 0)) 9 false,yJ 11 (.bin .eql .prim (yV 10) (yK 3)) 9 false,yI 12 (.pick (yV 9) yT (yV 11)),yU 2 12] (.ret))
def ZdS:AFn:=⟨13,[.tmp 2],ZtZ,false⟩
def ZuW:List Nat:=[6,7,10,11]
def Zwi:Zh:=yQ [yC 4 yF] (.seq (yQ [yM 5 0] (.block 0 (yQ [yX 7 .eql (yV 5) (yK 1),yU 6 7] (.cond (yV 6) (yQ [yM 8 1,yP 9 139 [yA 8],yU 4 9] (.ret)) (yQ [yX 11 .eql (yV 5) (yK 2),yU 10 11] (.cond (yV 10) (yQ [yM 12 1,yX 13 .eql (yV 12) (yK 0),yM 14 13,yJ 15 (.mv (yV 1)) 14 false,yJ 16 (.bin .eql .prim (yV 15) (yK 1)) 14 false,yI 17 (.pick (yV 14) yT (yV 16)),yU 4 17] (.ret)) (yQ [yX 19 .eql (yV 5) (yK 3),yU 18 19] (.cond (yV 18) (yQ [yM 20 1,yP 21 98 [yA 20,yB (yK 0),yB (yK 1000000000)],yU 4 21] (.ret)) (.skip))))))))) (yQ [yC 4 yF] (.ret)))
def Zhl:AFn:=⟨22,[.tmp 4],Zwi,false⟩
def ZwI:List Nat:=[15,16]
def ZnD:Zh:=yQ [yI 3 (.box 42 13 (yV 0)),yC 6 (yK 0)] (.seq (yQ [yM 8 1] (.block 0 (yQ [yX 10 .eql (yV 8) (yK 0),yU 9 10] (.cond (yV 9) (.seq (.region true [yH 11 1 3,yL 12 11,yM 13 2,yE 14 3 12 13,yH 15 1 14,yL 16 15,yP 17 93 [yA 16],yP 18 35 [yA 17,yB (yK 1)],yH 19 1 3,yL 20 19,yM 21 2,yE 22 3 20 21,yH 23 1 22,yL 24 23,yH 25 1 3,yL 26 25,yM 27 2,yE 28 3 26 27,yH 29 2 28,yL 30 29,yP 31 94 [yA 24,yA 30],yP 32 35 [yA 31,yB (yK 2)],yP 33 33 [yA 18,yA 32],yM 6 33]) (.ret)) (yQ [yX 35 .eql (yV 8) (yK 1),yU 34 35] (.cond (yV 34) (.seq (.region true [yD 36 13 3,yH 37 2 3,yL 38 37,yM 39 2,yE 40 17 38 39,yD 41 17 40,yP 42 140 [yA 36,yA 41],yM 6 42]) (.ret)) (yQ [yX 44 .eql (yV 8) (yK 2),yU 43 44] (.cond (yV 43) (yQ [yH 45 3 3,yL 46 45,yM 47 2,yE 48 3 46 47,yH 49 2 48,yL 50 49,yU 7 50] (yQ [yH 51 3 3,yL 52 51,yM 53 2,yE 54 3 52 53,yH 55 1 54,yL 56 55,yP 57 98 [yA 56,yB (yK 1),yB (yK 1000)],yP 58 35 [yA 57,yB (yK 2)],yM 59 7,yX 60 .geq (yV 59) (yK 1),yM 61 60,yJ 62 (.mv (yV 7)) 61 true,yJ 63 (.bin .leq .prim (yV 62) (yK 3)) 61 true,yI 64 (.pick (yV 61) (yV 63) yF),yP 65 35 [yA 64,yB (yK 1)],yP 66 33 [yA 58,yA 65],yU 6 66] (.ret))) (yQ [yX 68 .eql (yV 8) (yK 3),yU 67 68] (.cond (yV 67) (yQ [yH 69 4 3,yL 70 69,yM 71 2,yE 72 3 70 71,yH 73 1 72,yL 74 73,yP 75 98 [yA 74,yB (yK 1),yB (yK 1000)],yM 76 75,yJ 77 (.fa 4 (yV 3)) 76 true,yJ 78 (.ldc (yV 77)) 76 true,yJ 79 (.mv (yV 2)) 76 true,yJ 80 (.ia (.slice 3) (yV 78) (yV 79)) 76 true,yJ 81 (.fa 2 (yV 80)) 76 true,yJ 82 (.ldc (yV 81)) 76 true,yJ 83 (.call (yG 98) [yA 82,yB (yK 1),yB (yK 1000)]) 76 true,yI 84 (.pick (yV 76) (yV 83) yF),yP 85 35 [yA 84,yB (yK 2)],yU 6 85] (.ret)) (yQ [yX 87 .eql (yV 8) (yK 9),yU 86 87] (.cond (yV 86) (yQ [yH 88 10 3,yL 89 88,yM 90 2,yE 91 4 89 90,yD 92 4 91,yP 93 141 [yA 92],yU 6 93] (.ret)) (.skip))))))))))))) (yQ [yC 6 (yK 0)] (.ret)))
def SG:AFn:=⟨94,[.tmp 6],ZnD,false⟩
def ZoO:List Nat:=[62,63,77,78,79,80,81,82,83]
def ZaS:Zh:=.seq (yQ [yM 27 7,yM 28 6,yO 29 28,yX 30 .lss (yV 27) (yV 29)] (.cond (yV 30) (.skip) (.exit 0))) (.seq (.block 1 (.seq (.region true [yM 33 6,yM 34 7,yE 35 2 33 34,yH 36 1 35,yL 37 36,yH 38 1 3,yL 39 38,yM 40 7,yE 41 1 39 40,yL 42 41,yP 43 94 [yA 37,yA 42],yI 44 (.un .not (yV 43))]) (.cond (yV 44) (yQ [yC 4 (yK 2)] (.ret)) (.skip)))) (yR [yM 31 7,yX 32 .add (yV 31) (yK 1),yU 7 32]))
def Zdg:Zh:=.loop ZaS
def Zdf:Zh:=yQ [yH 45 2 3,yL 46 45,yP 47 98 [yA 46,yB (yK 0),yB (yK 1000000000)],yM 48 47,yJ 49 (.fa 3 (yV 3)) 48 true,yJ 50 (.ldc (yV 49)) 48 true,yJ 51 (.call (yG 98) [yA 50,yB (yK 0),yB (yK 1000000000)]) 48 true,yI 52 (.pick (yV 48) (yV 51) yF),yM 53 52,yJ 54 (.fa 4 (yV 3)) 53 true,yJ 55 (.ldc (yV 54)) 53 true,yJ 56 (.call (yG 98) [yA 55,yB (yK 0),yB (yK 1000000000)]) 53 true,yI 57 (.pick (yV 53) (yV 56) yF),yU 8 57] (yQ [yM 58 8,yM 59 58,yJ 60 (.fa 3 (yV 3)) 59 true,yJ 61 (.ldc (yV 60)) 59 true,yJ 62 (.bin .neq .prim (yV 61) (yK 0)) 59 true,yJ 63 (.mv (yV 62)) 59 true,yJ 64 (.fa 4 (yV 3)) 63 false,yJ 65 (.ldc (yV 64)) 63 false,yJ 66 (.bin .eql .prim (yV 65) (yK 0)) 63 false,yJ 67 (.pick (yV 63) yT (yV 66)) 59 true,yI 68 (.pick (yV 59) (yV 67) yF),yP 69 35 [yA 68,yB (yK 2)],yU 4 69] (.ret))
def Zep:Zh:=yQ [yI 2 (.box 42 13 (yV 0)),yI 3 (.box 105 5 (yV 1)),yC 4 (yK 0)] (yQ [yD 9 13 2,yH 10 0 3,yL 11 10,yP 12 17 [yA 9,yA 11],yU 5 12] (.seq (yQ [yM 13 5,yX 14 .lss (yV 13) (yK 0)] (.cond (yV 14) (yQ [yC 4 (yK 5)] (.ret)) (.skip))) (yQ [yH 15 10 2,yL 16 15,yM 17 5,yE 18 4 16 17,yH 19 1 18,yL 20 19,yU 6 20] (.seq (yQ [yH 21 1 3,yL 22 21,yO 23 22,yM 24 6,yO 25 24,yX 26 .neq (yV 23) (yV 25)] (.cond (yV 26) (yQ [yC 4 (yK 8)] (.ret)) (.skip))) (.seq (yQ [yC 7 (yK 0)] (.block 0 (Zdg))) Zdf)))))
def Ie:AFn:=⟨70,[.tmp 4],Zep,false⟩
def UN:List Nat:=[49,50,51,54,55,56,60,61,62,63,64,65,66,67]
def ZfI:Zh:=.seq (yQ [yM 27 8,yH 28 1 4,yL 29 28,yO 30 29,yX 31 .lss (yV 27) (yV 30)] (.cond (yV 31) (.skip) (.exit 0))) (.seq (.block 1 (.region true [yM 34 7,yD 35 13 3,yH 36 1 4,yL 37 36,yM 38 8,yE 39 3 37 38,yD 40 3 39,yP 41 142 [yA 35,yA 40],yP 42 33 [yA 34,yA 41],yM 7 42])) (yR [yM 32 8,yX 33 .add (yV 32) (yK 1),yU 8 33]))
def Zju:Zh:=.loop ZfI
def Zjt:Zh:=yQ [yM 43 7,yH 44 2 4,yL 45 44,yP 46 139 [yA 45],yP 47 35 [yA 46,yB (yK 2)],yP 48 33 [yA 43,yA 47],yU 6 48] (.ret)
def Zl3:Zh:=yQ [yI 3 (.box 42 13 (yV 0)),yI 4 (.box 57 3 (yV 1)),yC 6 (yK 0)] (yQ [yH 9 0 4,yL 10 9,yM 11 2,yP 12 37 [yA 10,yA 11],yU 7 12] (yQ [yM 13 7,yH 14 1 4,yL 15 14,yO 16 15,yX 17 .gtr (yV 16) (yK 0),yP 18 35 [yA 17,yB (yK 7)],yP 19 33 [yA 13,yA 18],yU 7 19] (yQ [yM 20 7,yH 21 1 4,yL 22 21,yO 23 22,yX 24 .leq (yV 23) (yK 8),yP 25 35 [yA 24,yB (yK 6)],yP 26 33 [yA 20,yA 25],yU 7 26] (.seq (yQ [yC 8 (yK 0)] (.block 0 (Zju))) Zjt))))
def LY:AFn:=⟨49,[.tmp 6],Zl3,false⟩
def Tn:List Nat:=[]
def Zsm:Zh:=yQ [yC 6 yF] (yQ [yM 7 0,yM 8 1,yX 9 .geq (yV 7) (yV 8),yM 10 9,yJ 11 (.mv (yV 0)) 10 true,yJ 12 (.mv (yV 2)) 10 true,yJ 13 (.bin .leq .prim (yV 11) (yV 12)) 10 true,yI 14 (.pick (yV 10) (yV 13) yF),yU 6 14] (.ret))
def Zav:AFn:=⟨15,[.tmp 6],Zsm,false⟩
def Zth:List Nat:=[11,12,13]
def XI:Zh:=yQ [yX 9 .lss (yV 8) (yV 7)] (.seq (.cond (yV 9) (.skip) (.exit 0)) (.seq (.block 1 (yQ [yM 10 8,yU 5 10] (yQ [yM 11 1,yM 12 0,yM 13 5,yE 14 3 12 13,yD 15 3 14,yI 16 (.call (yV 11) [yA 15])] (.cond (yV 16) (yQ [yU 17 5,yU 4 17] (.ret)) (.skip))))) (yR [yX 18 .add (yV 8) (yK 1),yM 8 18])))
def XM:Zh:=.loop XI
def XL:Zh:=yQ [yI 4 (.mv (.const (.int .i64 (-1))))] (.ret)
def QB:Zh:=yQ [yC 4 (yK 0)] (.seq (yQ [yM 6 0,yO 7 6,yC 8 (yK 0)] (.block 0 (XM))) XL)
def ZA:AFn:=⟨19,[.tmp 4],QB,false⟩
def Zx:List Nat:=[]
def Ke:Zh:=yQ [yX 9 .lss (yV 8) (yV 7)] (.seq (.cond (yV 9) (.skip) (.exit 0)) (.seq (.block 1 (yQ [yM 10 8,yU 5 10] (yQ [yM 11 1,yM 12 0,yM 13 5,yE 14 1 12 13,yL 15 14,yX 16 .eql (yV 11) (yV 15)] (.cond (yV 16) (yQ [yU 17 5,yU 4 17] (.ret)) (.skip))))) (yR [yX 18 .add (yV 8) (yK 1),yM 8 18])))
def KA:Zh:=.loop Ke
def K9:Zh:=yQ [yI 4 (.mv (.const (.int .i64 (-1))))] (.ret)
def J7:Zh:=yQ [yC 4 (yK 0)] (.seq (yQ [yM 6 0,yO 7 6,yC 8 (yK 0)] (.block 0 (KA))) K9)
def Y6:AFn:=⟨19,[.tmp 4],J7,false⟩
def Yn:List Nat:=[]
def Zqg:Zh:=yQ [yC 2 yF] (yQ [yM 3 0,yX 4 .geq (yV 3) (yK 1),yM 5 4,yJ 6 (.mv (yV 0)) 5 true,yJ 7 (.bin .leq .prim (yV 6) (yK 3)) 5 true,yI 8 (.pick (yV 5) (yV 7) yF),yU 2 8] (.ret))
def AO:AFn:=⟨9,[.tmp 2],Zqg,false⟩
def Zrg:List Nat:=[6,7]
def Zsf:Zh:=yQ [yC 4 yF] (.seq (yQ [yM 5 0] (.block 0 (yQ [yX 7 .eql (yV 5) (yK 1),yU 6 7] (.cond (yV 6) (yQ [yM 8 1,yP 9 137 [yA 8],yU 4 9] (.ret)) (yQ [yX 11 .eql (yV 5) (yK 2),yU 10 11] (.cond (yV 10) (yQ [yM 12 1,yX 13 .eql (yV 12) (yK 0),yM 14 13,yJ 15 (.mv (yV 1)) 14 false,yJ 16 (.bin .eql .prim (yV 15) (yK 1)) 14 false,yI 17 (.pick (yV 14) yT (yV 16)),yU 4 17] (.ret)) (yQ [yX 19 .eql (yV 5) (yK 3),yU 18 19] (.cond (yV 18) (yQ [yM 20 1,yP 21 65 [yA 20,yB (yK 0),yB (yK 1000000000)],yU 4 21] (.ret)) (.skip))))))))) (yQ [yC 4 yF] (.ret)))
def Zao:AFn:=⟨22,[.tmp 4],Zsf,false⟩
def Zta:List Nat:=[15,16]
def Zn0:Zh:=yQ [yC 3 (yK 0)] (yQ [yM 4 0,yL 5 1,yI 6 (.mkfn 30 [(yV 5)] []),yP 7 59 [yA 4,yB (yK 32),yA 6],yU 3 7] (.ret))
def Sn:AFn:=⟨8,[.tmp 3],Zn0,false⟩
def ZoB:List Nat:=[]
def Zn1:Zh:=yQ [yC 2 (yK 0)] (yQ [yL 3 0,yH 4 1 1,yL 5 4,yP 6 27 [yA 3,yA 5],yU 2 6] (.ret))
def Sq:AFn:=⟨7,[.tmp 2],Zn1,false⟩
def ZoC:List Nat:=[]
def Zn2:Zh:=yQ [yC 2 (yK 0)] (yQ [yH 3 2 0,yL 4 3,yI 5 (.mkfn 64 [] [(yV 1),(yV 0)]),yP 6 63 [yA 4,yB (yK 32),yA 5],yU 2 6] (.ret))
def Sr:AFn:=⟨7,[.tmp 2],Zn2,false⟩
def ZoD:List Nat:=[]
def Zn3:Zh:=yQ [yC 2 (yK 0)] (yQ [yH 3 3 0,yL 4 3,yI 5 (.mkfn 70 [] [(yV 1)]),yP 6 69 [yA 4,yB (yK 32),yA 5],yU 2 6] (.ret))
def Su:AFn:=⟨7,[.tmp 2],Zn3,false⟩
def ZoE:List Nat:=[]
def Zn4:Zh:=yQ [yC 2 (yK 0)] (yQ [yH 3 4 0,yL 4 3,yI 5 (.mkfn 73 [] [(yV 1)]),yP 6 72 [yA 4,yB (yK 32),yA 5],yU 2 6] (.ret))
def Sv:AFn:=⟨7,[.tmp 2],Zn4,false⟩
def ZoF:List Nat:=[]
def Zn5:Zh:=yQ [yC 2 (yK 0)] (yQ [yL 3 0,yH 4 5 1,yL 5 4,yI 6 (.call (yV 3) [yA 5]),yU 2 6] (.ret))
def Sw:AFn:=⟨7,[.tmp 2],Zn5,false⟩
def ZoG:List Nat:=[]
def Zn6:Zh:=yQ [yC 2 (yK 0)] (yQ [yL 3 0,yH 4 6 1,yL 5 4,yI 6 (.call (yV 3) [yA 5]),yU 2 6] (.ret))
def Sy:AFn:=⟨7,[.tmp 2],Zn6,false⟩
def ZoH:List Nat:=[]
def Zn7:Zh:=yQ [yC 2 (yK 0)] (yQ [yL 3 0,yH 4 7 1,yL 5 4,yI 6 (.call (yV 3) [yA 5]),yU 2 6] (.ret))
def Sz:AFn:=⟨7,[.tmp 2],Zn7,false⟩
def ZoI:List Nat:=[]
def Zn8:Zh:=yQ [yC 2 (yK 0)] (yQ [yL 3 0,yH 4 8 1,yL 5 4,yI 6 (.call (yV 3) [yA 5]),yU 2 6] (.ret))
def S9:AFn:=⟨7,[.tmp 2],Zn8,false⟩
def ZoJ:List Nat:=[]
def Zlw:Zh:=yQ [yC 2 (yK 0)] (yQ [yL 3 0,yH 4 9 1,yL 5 4,yI 6 (.call (yV 3) [yA 5]),yU 2 6] (.ret))
def PE:AFn:=⟨7,[.tmp 2],Zlw,false⟩
def ZmQ:List Nat:=[]
def Zlx:Zh:=yQ [yC 2 (yK 0)] (yQ [yH 3 10 0,yL 4 3,yI 5 (.mkfn 81 [] [(yV 1)]),yP 6 80 [yA 4,yB (yK 16),yA 5],yU 2 6] (.ret))
def PG:AFn:=⟨7,[.tmp 2],Zlx,false⟩
def ZmR:List Nat:=[]
def Zly:Zh:=yQ [yC 1 (yK 0)] (yQ [yH 2 11 0,yL 3 2,yI 4 (.mkfn 85 [] [(yV 0)]),yP 5 84 [yA 3,yB (yK 32),yA 4],yU 1 5] (.ret))
def PH:AFn:=⟨6,[.tmp 1],Zly,false⟩
def ZmS:List Nat:=[]
def Zlz:Zh:=yQ [yC 1 (yK 0)] (yQ [yD 2 13 0,yP 3 88 [yA 2],yU 1 3] (.ret))
def PI:AFn:=⟨4,[.tmp 1],Zlz,false⟩
def ZmT:List Nat:=[]
def EL:Zh:=yQ [yX 9 .lss (yV 8) (yV 7)] (.seq (.cond (yV 9) (.skip) (.exit 0)) (.seq (.block 1 (yQ [yE 10 1 6 8,yL 11 10,yU 4 11] (yQ [yM 12 4,yI 13 (.call (yV 12) []),yU 5 13] (yQ [yM 14 5,yX 15 .neq (yV 14) (yK 0)] (.cond (yV 15) (yQ [yU 16 5,yU 2 16] (.ret)) (.skip)))))) (yR [yX 17 .add (yV 8) (yK 1),yM 8 17])))
def Cb:Zh:=.loop EL
def Ca:Zh:=yQ [yC 2 (yK 0)] (.ret)
def Fb:Zh:=yQ [yC 2 (yK 0)] (.seq (yQ [yM 6 0,yO 7 6,yC 8 (yK 0)] (.block 0 (Cb))) Ca)
def Uf:AFn:=⟨18,[.tmp 2],Fb,false⟩
def VJ:List Nat:=[]
def ZnA:Zh:=yQ [yC 6 yF] (yQ [yM 7 0,yM 8 1,yX 9 .geq (yV 7) (yV 8),yM 10 9,yJ 11 (.mv (yV 0)) 10 true,yJ 12 (.mv (yV 2)) 10 true,yJ 13 (.bin .leq .prim (yV 11) (yV 12)) 10 true,yI 14 (.pick (yV 10) (yV 13) yF),yU 6 14] (.ret))
def SB:AFn:=⟨15,[.tmp 6],ZnA,false⟩
def ZoL:List Nat:=[11,12,13]
def ZnC:Zh:=yQ [yI 0 (.mv (.const (.own 1 [])))] (yQ [yI 1 (.lit 9 1 [(yS [97,100,100]),(yS [97,102,116,101,114]),(yS [97,110,100]),(yS [97,116]),(yS [98,101,108,116]),(yS [98,111,111,108]),(yS [99,111,110,115,101,114,118,101]),(yS [99,111,110,115,116]),(yS [99,111,117,110,116]),(yS [99,121,99,108,101]),(yS [100,111,119,110]),(yS [100,114,97,119]),(yS [100,117,114]),(yS [101,108,115,101]),(yS [101,110,100]),(yS [101,118,101,114,121]),(yS [102,97,108,115,101]),(yS [102,97,117,108,116]),(yS [102,105,102,111]),(yS [102,114,101,101]),(yS [102,114,111,109]),(yS [103,101,111,109]),(yS [103,101,116]),(yS [104,111,108,100]),(yS [105,102]),(yS [105,110,116]),(yS [105,110,116,111]),(yS [108,101,97,115,116]),(yS [108,101,118,101,108]),(yS [108,105,102,111]),(yS [108,105,110,107]),(yS [108,111,99,97,108]),(yS [109,97,120]),(yS [109,105,110]),(yS [109,111,100,101,108]),(yS [110,111,116]),(yS [110,111,119]),(yS [111,98,115,101,114,118,101]),(yS [111,114]),(yS [112,97,114,97,109]),(yS [112,114,101,101,109,112,116]),(yS [112,114,105,111]),(yS [112,117,116]),(yS [113,117,101,117,101]),(yS [114,101,108,101,97,115,101]),(yS [114,101,115,111,117,114,99,101]),(yS [114,105,100,101]),(yS [114,111,117,116,105,110,101]),(yS [115,101,105,122,101]),(yS [115,101,110,100]),(yS [115,101,116]),(yS [115,104,105,102,116]),(yS [115,105,103,110,97,108]),(yS [115,105,116,101]),(yS [115,105,122,101]),(yS [115,112,97,119,110]),(yS [115,116,97,114,116]),(yS [115,116,111,112]),(yS [115,116,111,114,101]),(yS [115,116,114,101,97,109]),(yS [115,117,109]),(yS [116,97,98,108,101]),(yS [116,97,108,108,121]),(yS [116,105,99,107,115]),(yS [116,105,109,101]),(yS [116,114,117,101]),(yS [117,110,105,102,111,114,109]),(yS [117,110,116,105,108]),(yS [117,112]),(yS [118,97,114]),(yS [119,97,105,116]),(yS [119,97,105,116,105,110,103]),(yS [119,104,105,108,101])]),yU 0 1] (.ret))
def SE:AFn:=⟨2,[.tmp 0],ZnC,false⟩
def ZoN:List Nat:=[]
def Zzc:Zh:=yQ [yC 2 yF] (yQ [yM 3 0,yX 4 .geq (yV 3) (.const (.int .i64 (-1000000000000))),yM 5 4,yJ 6 (.mv (yV 0)) 5 true,yJ 7 (.bin .leq .prim (yV 6) (yK 1000000000000)) 5 true,yI 8 (.pick (yV 5) (yV 7) yF),yU 2 8] (.ret))
def ZpX:AFn:=⟨9,[.tmp 2],Zzc,false⟩
def ZzK:List Nat:=[6,7]
def ZnE:Zh:=yQ [yI 2 (.box 42 13 (yV 0)),yI 3 (.box 92 17 (yV 1)),yC 4 (yK 0)] (.seq (.region true [yH 6 1 3,yL 7 6,yP 8 98 [yA 7,yB (yK 0),yB (yK 1000)],yP 9 35 [yA 8,yB (yK 2)],yD 10 17 3,yP 11 159 [yA 10],yP 12 33 [yA 9,yA 11],yM 5 12]) (.seq (yQ [yM 13 5,yX 14 .neq (yV 13) (yK 0)] (.cond (yV 14) (yQ [yU 15 5,yU 4 15] (.ret)) (.skip))) (.seq (yQ [yH 16 4 3,yH 17 0 16,yL 18 17,yX 19 .eql (yV 18) (yS [])] (.cond (yV 19) (yQ [yH 20 4 3,yH 21 1 20,yD 22 6 21,yI 23 (.build [(.int .i64 0),(.int .i64 0),(.int .i64 0),(.int .i64 0),(.own 1 []),(.own 1 [])] []),yP 24 148 [yA 22,yA 23],yM 25 24,yJ 26 (.fa 4 (yV 3)) 25 true,yJ 27 (.fa 7 (yV 26)) 25 true,yJ 28 (.lda 6 (yV 27)) 25 true,yJ 29 (.build [(.int .i64 0),(.int .i64 0),(.int .i64 0),(.int .i64 0),(.own 1 []),(.own 1 [])] []) 25 true,yJ 30 (.call (yG 148) [yA 28,yA 29]) 25 true,yI 31 (.pick (yV 25) (yV 30) yF),yP 32 35 [yA 31,yB (yK 1)],yU 4 32] (.ret)) (.skip))) (.seq (yQ [yH 33 6 2,yL 34 33,yH 35 4 3,yH 36 0 35,yL 37 36,yP 38 46 [yA 34,yA 37],yX 39 .lss (yV 38) (yK 0)] (.cond (yV 39) (yQ [yC 4 (yK 5)] (.ret)) (.skip))) (.seq (.region true [yH 40 4 3,yH 41 1 40,yD 42 6 41,yP 43 160 [yA 42],yH 44 4 3,yH 45 7 44,yD 46 6 45,yP 47 160 [yA 46],yP 48 33 [yA 43,yA 47],yM 4 48]) (.ret))))))
def SH:AFn:=⟨49,[.tmp 4],ZnE,false⟩
def ZoP:List Nat:=[26,27,28,29,30]
def ES:Zh:=.seq (yQ [yM 28 5,yM 29 4,yO 30 29,yX 31 .lss (yV 28) (yV 30)] (.cond (yV 31) (.skip) (.exit 0))) (.seq (.block 1 (.seq (.region true [yM 34 4,yM 35 5,yE 36 2 34 35,yH 37 0 36,yL 38 37,yM 39 3,yP 40 37 [yA 38,yA 39],yM 41 4,yM 42 5,yE 43 2 41 42,yH 44 1 43,yL 45 44,yP 46 93 [yA 45],yP 47 35 [yA 46,yB (yK 1)],yP 48 33 [yA 40,yA 47],yM 6 48]) (.seq (yQ [yM 49 6,yX 50 .neq (yV 49) (yK 0)] (.cond (yV 50) (yQ [yU 51 6,yU 2 51] (.ret)) (.skip))) (yR [yU 52 3,yM 53 4,yM 54 5,yE 55 2 53 54,yH 56 0 55,yL 57 56,yI 58 (.lit 9 1 [(yV 57)]),yI 59 (.app 1 16 52 (yV 58)),yU 3 59])))) (yR [yM 32 5,yX 33 .add (yV 32) (yK 1),yU 5 33]))
def Ci:Zh:=.loop ES
def Ch:Zh:=yQ [yH 60 3 1,yL 61 60,yP 62 161 [yA 61],yU 2 62] (.ret)
def Fg:Zh:=yQ [yI 1 (.box 79 4 (yV 0)),yC 2 (yK 0)] (.seq (yQ [yH 7 1 1,yL 8 7,yO 9 8,yX 10 .gtr (yV 9) (yK 6),yM 11 10,yJ 12 (.fa 1 (yV 1)) 11 false,yJ 13 (.ldc (yV 12)) 11 false,yJ 14 (.len .slice (yV 13)) 11 false,yJ 15 (.fa 2 (yV 1)) 11 false,yJ 16 (.ldc (yV 15)) 11 false,yJ 17 (.len .slice (yV 16)) 11 false,yJ 18 (.bin .add .prim (yV 14) (yV 17)) 11 false,yJ 19 (.bin .gtr .prim (yV 18) (yK 16)) 11 false,yI 20 (.pick (yV 11) yT (yV 19))] (.cond (yV 20) (yQ [yC 2 (yK 6)] (.ret)) (.skip))) (yQ [yI 3 (.mv (.const (.own 1 [])))] (.seq (.region true [yI 21 (.lit 103 2 []),yH 22 1 1,yL 23 22,yI 24 (.app 2 24 21 (yV 23)),yH 25 2 1,yL 26 25,yI 27 (.app 2 24 24 (yV 26)),yU 4 27]) (.seq (yQ [yC 5 (yK 0)] (.block 0 (Ci))) Ch))))
def Ui:AFn:=⟨63,[.tmp 2],Fg,false⟩
def VM:List Nat:=[12,13,14,15,16,17,18,19]
def ZfP:Zh:=.cond (yV 9) (yR [yC 5 (yS [114,111,117,116,105,110,101])]) (.seq (yQ [yX 14 .eql (yV 8) (yS [115,116,111,114,101,100]),yU 13 14] (.cond (yV 13) (.skip) (yQ [yX 15 .eql (yV 8) (yS [101,110,116,101,114,101,100]),yU 13 15] (.cond (yV 13) (.skip) (yR [yX 16 .eql (yV 8) (yS [108,101,102,116]),yU 13 16]))))) (.cond (yV 13) (yR [yC 5 (yS [115,116,111,114,101])]) (yQ [yX 18 .eql (yV 8) (yS [99,111,117,110,116,101,100]),yU 17 18] (.cond (yV 17) (yR [yC 5 (yS [99,111,117,110,116])]) (.skip)))))
def ZfQ:Zh:=.seq (.region true [yM 19 5,yX 20 .neq (yV 19) (yS []),yP 21 35 [yA 20,yB (yK 1)],yD 22 13 2,yH 23 2 3,yL 24 23,yP 25 19 [yA 22,yA 24],yM 26 5,yX 27 .eql (yV 25) (yV 26),yP 28 35 [yA 27,yB (yK 5)],yP 29 33 [yA 21,yA 28],yM 6 29]) (yQ [yM 30 6,yH 31 0 3,yL 32 31,yP 33 98 [yA 32,(.inr (.const (.int .i64 (-1000)))),yB (yK 1000)],yM 34 33,yJ 35 (.fa 0 (yV 3)) 34 true,yJ 36 (.ldc (yV 35)) 34 true,yJ 37 (.bin .neq .prim (yV 36) (yK 0)) 34 true,yI 38 (.pick (yV 34) (yV 37) yF),yP 39 35 [yA 38,yB (yK 2)],yP 40 33 [yA 30,yA 39],yU 4 40] (.ret))
def Zhz:Zh:=yQ [yI 2 (.box 42 13 (yV 0)),yI 3 (.box 54 3 (yV 1)),yC 4 (yK 0)] (yQ [yC 5 (yS [])] (.seq (yQ [yH 7 1 3,yL 8 7] (.block 0 (.seq (yQ [yX 10 .eql (yV 8) (yS [99,114,101,97,116,101,100]),yU 9 10] (.cond (yV 9) (.skip) (yQ [yX 11 .eql (yV 8) (yS [101,110,100,101,100]),yU 9 11] (.cond (yV 9) (.skip) (yR [yX 12 .eql (yV 8) (yS [105,110,115,105,100,101]),yU 9 12]))))) ZfP))) ZfQ))
def Lt:AFn:=⟨41,[.tmp 4],Zhz,false⟩
def TG:List Nat:=[35,36,37]
def ZtS:Zh:=yQ [yI 2 (.box 88 6 (yV 0)),yI 3 (.box 88 6 (yV 1)),yC 4 yF] (yQ [yH 5 0 2,yL 6 5,yH 7 0 3,yL 8 7,yX 9 .eql (yV 6) (yV 8),yM 10 9,yJ 11 (.fa 1 (yV 2)) 10 true,yJ 12 (.ldc (yV 11)) 10 true,yJ 13 (.fa 1 (yV 3)) 10 true,yJ 14 (.ldc (yV 13)) 10 true,yJ 15 (.bin .eql .prim (yV 12) (yV 14)) 10 true,yI 16 (.pick (yV 10) (yV 15) yF),yM 17 16,yJ 18 (.fa 2 (yV 2)) 17 true,yJ 19 (.ldc (yV 18)) 17 true,yJ 20 (.fa 2 (yV 3)) 17 true,yJ 21 (.ldc (yV 20)) 17 true,yJ 22 (.bin .eql .prim (yV 19) (yV 21)) 17 true,yI 23 (.pick (yV 17) (yV 22) yF),yM 24 23,yJ 25 (.fa 3 (yV 2)) 24 true,yJ 26 (.ldc (yV 25)) 24 true,yJ 27 (.fa 3 (yV 3)) 24 true,yJ 28 (.ldc (yV 27)) 24 true,yJ 29 (.bin .eql .prim (yV 26) (yV 28)) 24 true,yI 30 (.pick (yV 24) (yV 29) yF),yM 31 30,yJ 32 (.fa 4 (yV 2)) 31 true,yJ 33 (.ldc (yV 32)) 31 true,yJ 34 (.fa 4 (yV 3)) 31 true,yJ 35 (.ldc (yV 34)) 31 true,yJ 36 (.call (yG 146) [yA 33,yA 35]) 31 true,yI 37 (.pick (yV 31) (yV 36) yF),yM 38 37,yJ 39 (.fa 5 (yV 2)) 38 true,yJ 40 (.ldc (yV 39)) 38 true,yJ 41 (.fa 5 (yV 3)) 38 true,yJ 42 (.ldc (yV 41)) 38 true,yJ 43 (.call (yG 146) [yA 40,yA 42]) 38 true,yI 44 (.pick (yV 38) (yV 43) yF),yU 4 44] (.ret))
def ZdL:AFn:=⟨45,[.tmp 4],ZtS,false⟩
def ZuP:List Nat:=[11,12,13,14,15,18,19,20,21,22,25,26,27,28,29,32,33,34,35,36,39,40,41,42,43]
def Oy:Zh:=yQ [yX 14 .lss (yV 13) (yV 12)] (.seq (.cond (yV 14) (.skip) (.exit 0)) (.seq (.block 1 (yQ [yM 15 13,yU 5 15] (.seq (.region true [yM 16 0,yM 17 5,yE 18 1 16 17,yL 19 18,yM 20 1,yM 21 5,yE 22 1 20 21,yL 23 22,yX 24 .neq (yV 19) (yV 23)]) (.cond (yV 24) (yQ [yC 4 yF] (.ret)) (.skip))))) (yR [yX 25 .add (yV 13) (yK 1),yM 13 25])))
def OT:Zh:=.loop Oy
def OQ:Zh:=yQ [yC 4 yT] (.ret)
def GD:Zh:=yQ [yC 4 yF] (.seq (yQ [yM 6 0,yO 7 6,yM 8 1,yO 9 8,yX 10 .neq (yV 7) (yV 9)] (.cond (yV 10) (yQ [yC 4 yF] (.ret)) (.skip))) (.seq (yQ [yM 11 0,yO 12 11,yC 13 (yK 0)] (.block 0 (OT))) OQ))
def WX:AFn:=⟨26,[.tmp 4],GD,false⟩
def YK:List Nat:=[]
def Zwf:Zh:=yQ [yI 2 (.box 88 6 (yV 0)),yI 3 (.box 88 6 (yV 1)),yC 4 yF] (yQ [yH 5 0 2,yL 6 5,yH 7 0 3,yL 8 7,yX 9 .eql (yV 6) (yV 8),yM 10 9,yJ 11 (.fa 1 (yV 2)) 10 true,yJ 12 (.ldc (yV 11)) 10 true,yJ 13 (.fa 1 (yV 3)) 10 true,yJ 14 (.ldc (yV 13)) 10 true,yJ 15 (.bin .eql .prim (yV 12) (yV 14)) 10 true,yI 16 (.pick (yV 10) (yV 15) yF),yM 17 16,yJ 18 (.fa 2 (yV 2)) 17 true,yJ 19 (.ldc (yV 18)) 17 true,yJ 20 (.fa 2 (yV 3)) 17 true,yJ 21 (.ldc (yV 20)) 17 true,yJ 22 (.bin .eql .prim (yV 19) (yV 21)) 17 true,yI 23 (.pick (yV 17) (yV 22) yF),yM 24 23,yJ 25 (.fa 3 (yV 2)) 24 true,yJ 26 (.ldc (yV 25)) 24 true,yJ 27 (.fa 3 (yV 3)) 24 true,yJ 28 (.ldc (yV 27)) 24 true,yJ 29 (.bin .eql .prim (yV 26) (yV 28)) 24 true,yI 30 (.pick (yV 24) (yV 29) yF),yM 31 30,yJ 32 (.fa 4 (yV 2)) 31 true,yJ 33 (.ldc (yV 32)) 31 true,yJ 34 (.fa 4 (yV 3)) 31 true,yJ 35 (.ldc (yV 34)) 31 true,yJ 36 (.call (yG 164) [yA 33,yA 35]) 31 true,yI 37 (.pick (yV 31) (yV 36) yF),yM 38 37,yJ 39 (.fa 5 (yV 2)) 38 true,yJ 40 (.ldc (yV 39)) 38 true,yJ 41 (.fa 5 (yV 3)) 38 true,yJ 42 (.ldc (yV 41)) 38 true,yJ 43 (.call (yG 164) [yA 40,yA 42]) 38 true,yI 44 (.pick (yV 38) (yV 43) yF),yU 4 44] (.ret))
def Zhi:AFn:=⟨45,[.tmp 4],Zwf,false⟩
def ZwF:List Nat:=[11,12,13,14,15,18,19,20,21,22,25,26,27,28,29,32,33,34,35,36,39,40,41,42,43]
def Zzb:Zh:=yQ [yC 2 yF] (yQ [yM 3 0,yX 4 .geq (yV 3) (.const (.int .i64 (-1000000000000))),yM 5 4,yJ 6 (.mv (yV 0)) 5 true,yJ 7 (.bin .leq .prim (yV 6) (yK 1000000000000)) 5 true,yI 8 (.pick (yV 5) (yV 7) yF),yU 2 8] (.ret))
def ZpW:AFn:=⟨9,[.tmp 2],Zzb,false⟩
def ZzJ:List Nat:=[6,7]
def Lx:Zh:=yQ [yX 17 .lss (yV 16) (yV 15)] (.seq (.cond (yV 17) (.skip) (.exit 0)) (.seq (.block 1 (yQ [yE 18 1 14 16,yL 19 18,yU 8 19] (yQ [yM 20 2,yM 21 8,yI 22 (.call (yV 20) [yA 21]),yU 9 22] (yQ [yM 23 9,yX 24 .neq (yV 23) (yK 0)] (.cond (yV 24) (yQ [yU 25 9,yU 6 25] (.ret)) (.skip)))))) (yR [yX 26 .add (yV 16) (yK 1),yM 16 26])))
def Rb:Zh:=.loop Lx
def Ra:Zh:=yQ [yC 6 (yK 0)] (.ret)
def TT:Zh:=yQ [yC 6 (yK 0)] (.seq (yQ [yM 10 0,yO 11 10,yM 12 1,yX 13 .gtr (yV 11) (yV 12)] (.cond (yV 13) (yQ [yC 6 (yK 6)] (.ret)) (.skip))) (.seq (yQ [yM 14 0,yO 15 14,yC 16 (yK 0)] (.block 0 (Rb))) Ra))
def QO:AFn:=⟨27,[.tmp 6],TT,false⟩
def Qf:List Nat:=[]
def ZjG:Zh:=yQ [yI 3 (.box 92 17 (yV 0)),yC 4 (yK 0)] (.seq (yQ [yL 7 1,yH 8 0 3,yL 9 8,yP 10 30 [yA 7,yA 9],yU 5 10] (yQ [yM 11 5,yX 12 .neq (yV 11) (yK 0)] (.cond (yV 12) (yQ [yU 13 5,yU 4 13] (.ret)) (.skip)))) (.seq (yQ [yH 14 1 3,yL 15 14,yP 16 65 [yA 15,yB (yK 0),yB (yK 1000)],yI 17 (.un .not (yV 16))] (.cond (yV 17) (yQ [yC 4 (yK 2)] (.ret)) (.skip))) (.seq (yQ [yD 18 17 3,yP 19 66 [yA 18],yU 6 19] (yQ [yM 20 6,yX 21 .neq (yV 20) (yK 0)] (.cond (yV 21) (yQ [yU 22 6,yU 4 22] (.ret)) (.skip)))) (yQ [yD 23 13 2,yH 24 4 3,yD 25 13 24,yP 26 67 [yA 23,yA 25],yU 4 26] (.ret)))))
def Du:AFn:=⟨27,[.tmp 4],ZjG,false⟩
def ZkR:List Nat:=[]
def Kc:Zh:=yQ [yX 17 .lss (yV 16) (yV 15)] (.seq (.cond (yV 17) (.skip) (.exit 0)) (.seq (.block 1 (yQ [yE 18 17 14 16,yD 19 17 18,yI 8 (.mk 92 [(.str []),(.int .i64 0),(.own 2 []),(.int .i64 0),(.str []),(.int .i64 0),(.int .i64 0),(.int .i64 0),(.int .i64 0),(.own 1 []),(.own 1 []),(.int .i64 0),(.int .i64 0),(.int .i64 0),(.int .i64 0),(.own 1 []),(.own 1 [])]),yN (.st 17 (yV 8) (yV 19))] (yQ [yM 20 2,yD 21 17 8,yI 22 (.call (yV 20) [yA 21]),yU 9 22] (yQ [yM 23 9,yX 24 .neq (yV 23) (yK 0)] (.cond (yV 24) (yQ [yU 25 9,yU 6 25] (.ret)) (.skip)))))) (yR [yX 26 .add (yV 16) (yK 1),yM 16 26])))
def K8:Zh:=.loop Kc
def K7:Zh:=yQ [yC 6 (yK 0)] (.ret)
def J6:Zh:=yQ [yC 6 (yK 0)] (.seq (yQ [yM 10 0,yO 11 10,yM 12 1,yX 13 .gtr (yV 11) (yV 12)] (.cond (yV 13) (yQ [yC 6 (yK 6)] (.ret)) (.skip))) (.seq (yQ [yM 14 0,yO 15 14,yC 16 (yK 0)] (.block 0 (K8))) K7))
def Y5:AFn:=⟨27,[.tmp 6],J6,false⟩
def Ym:List Nat:=[]
def ZjH:Zh:=yQ [yI 2 (.box 95 3 (yV 0)),yC 3 (yK 0)] (.seq (yQ [yL 5 1,yH 6 0 2,yL 7 6,yP 8 30 [yA 5,yA 7],yU 4 8] (yQ [yM 9 4,yX 10 .neq (yV 9) (yK 0)] (.cond (yV 10) (yQ [yU 11 4,yU 3 11] (.ret)) (.skip)))) (.seq (.block 0 (yQ [yH 13 1 2,yL 14 13,yP 15 65 [yA 14,yB (yK 1),yB (yK 1000)],yI 16 (.un .not (yV 15)),yU 12 16] (.cond (yV 12) (yQ [yC 3 (yK 2)] (.ret)) (yQ [yH 18 2 2,yL 19 18,yX 20 .lss (yV 19) (yK 1),yM 21 20,yJ 22 (.fa 2 (yV 2)) 21 false,yJ 23 (.ldc (yV 22)) 21 false,yJ 24 (.bin .gtr .prim (yV 23) (yK 3)) 21 false,yI 25 (.pick (yV 21) yT (yV 24)),yU 17 25] (.cond (yV 17) (yQ [yC 3 (yK 1)] (.ret)) (.skip)))))) (yQ [yC 3 (yK 0)] (.ret))))
def Dv:AFn:=⟨26,[.tmp 3],ZjH,false⟩
def ZkS:List Nat:=[22,23,24]
def GA:Zh:=yQ [yX 17 .lss (yV 16) (yV 15)] (.seq (.cond (yV 17) (.skip) (.exit 0)) (.seq (.block 1 (yQ [yE 18 3 14 16,yD 19 3 18,yI 8 (.mk 95 [(.str []),(.int .i64 0),(.int .i64 0)]),yN (.st 3 (yV 8) (yV 19))] (yQ [yM 20 2,yD 21 3 8,yI 22 (.call (yV 20) [yA 21]),yU 9 22] (yQ [yM 23 9,yX 24 .neq (yV 23) (yK 0)] (.cond (yV 24) (yQ [yU 25 9,yU 6 25] (.ret)) (.skip)))))) (yR [yX 26 .add (yV 16) (yK 1),yM 16 26])))
def Hu:Zh:=.loop GA
def Ht:Zh:=yQ [yC 6 (yK 0)] (.ret)
def U6:Zh:=yQ [yC 6 (yK 0)] (.seq (yQ [yM 10 0,yO 11 10,yM 12 1,yX 13 .gtr (yV 11) (yV 12)] (.cond (yV 13) (yQ [yC 6 (yK 6)] (.ret)) (.skip))) (.seq (yQ [yM 14 0,yO 15 14,yC 16 (yK 0)] (.block 0 (Hu))) Ht))
def Wy:AFn:=⟨27,[.tmp 6],U6,false⟩
def Y1:List Nat:=[]
def ZjI:Zh:=yQ [yI 2 (.box 97 3 (yV 0)),yC 3 (yK 0)] (.seq (yQ [yL 5 1,yH 6 0 2,yL 7 6,yP 8 30 [yA 5,yA 7],yU 4 8] (yQ [yM 9 4,yX 10 .neq (yV 9) (yK 0)] (.cond (yV 10) (yQ [yU 11 4,yU 3 11] (.ret)) (.skip)))) (.seq (yQ [yH 12 1 2,yL 13 12,yP 14 65 [yA 13,yB (yK 1),yB (yK 1000)],yI 15 (.un .not (yV 14)),yM 16 15,yJ 17 (.fa 2 (yV 2)) 16 false,yJ 18 (.ldc (yV 17)) 16 false,yJ 19 (.call (yG 65) [yA 18,yB (yK 1),yB (yK 1000)]) 16 false,yJ 20 (.un .not (yV 19)) 16 false,yI 21 (.pick (yV 16) yT (yV 20))] (.cond (yV 21) (yQ [yC 3 (yK 2)] (.ret)) (.skip))) (yQ [yC 3 (yK 0)] (.ret))))
def Dw:AFn:=⟨22,[.tmp 3],ZjI,false⟩
def ZkT:List Nat:=[17,18,19,20]
def Hq:Zh:=yQ [yX 17 .lss (yV 16) (yV 15)] (.seq (.cond (yV 17) (.skip) (.exit 0)) (.seq (.block 1 (yQ [yE 18 3 14 16,yD 19 3 18,yI 8 (.mk 97 [(.str []),(.int .i64 0),(.int .i64 0)]),yN (.st 3 (yV 8) (yV 19))] (yQ [yM 20 2,yD 21 3 8,yI 22 (.call (yV 20) [yA 21]),yU 9 22] (yQ [yM 23 9,yX 24 .neq (yV 23) (yK 0)] (.cond (yV 24) (yQ [yU 25 9,yU 6 25] (.ret)) (.skip)))))) (yR [yX 26 .add (yV 16) (yK 1),yM 16 26])))
def I9:Zh:=.loop Hq
def I8:Zh:=yQ [yC 6 (yK 0)] (.ret)
def Kh:Zh:=yQ [yC 6 (yK 0)] (.seq (yQ [yM 10 0,yO 11 10,yM 12 1,yX 13 .gtr (yV 11) (yV 12)] (.cond (yV 13) (yQ [yC 6 (yK 6)] (.ret)) (.skip))) (.seq (yQ [yM 14 0,yO 15 14,yC 16 (yK 0)] (.block 0 (I9))) I8))
def WI:AFn:=⟨27,[.tmp 6],Kh,false⟩
def Y3:List Nat:=[]
def Zhr:Zh:=yQ [yI 2 (.box 79 4 (yV 0)),yC 3 (yK 0)] (.seq (yQ [yL 5 1,yH 6 0 2,yL 7 6,yP 8 30 [yA 5,yA 7],yU 4 8] (yQ [yM 9 4,yX 10 .neq (yV 9) (yK 0)] (.cond (yV 10) (yQ [yU 11 4,yU 3 11] (.ret)) (.skip)))) (yQ [yD 12 4 2,yP 13 82 [yA 12],yU 3 13] (.ret)))
def Be:AFn:=⟨14,[.tmp 3],Zhr,false⟩
def Zjo:List Nat:=[]
def IA:Zh:=yQ [yX 17 .lss (yV 16) (yV 15)] (.seq (.cond (yV 17) (.skip) (.exit 0)) (.seq (.block 1 (yQ [yE 18 4 14 16,yD 19 4 18,yI 8 (.mk 79 [(.str []),(.own 2 []),(.own 2 []),(.own 21 [])]),yN (.st 4 (yV 8) (yV 19))] (yQ [yM 20 2,yD 21 4 8,yI 22 (.call (yV 20) [yA 21]),yU 9 22] (yQ [yM 23 9,yX 24 .neq (yV 23) (yK 0)] (.cond (yV 24) (yQ [yU 25 9,yU 6 25] (.ret)) (.skip)))))) (yR [yX 26 .add (yV 16) (yK 1),yM 16 26])))
def Ox:Zh:=.loop IA
def Ow:Zh:=yQ [yC 6 (yK 0)] (.ret)
def KU:Zh:=yQ [yC 6 (yK 0)] (.seq (yQ [yM 10 0,yO 11 10,yM 12 1,yX 13 .gtr (yV 11) (yV 12)] (.cond (yV 13) (yQ [yC 6 (yK 6)] (.ret)) (.skip))) (.seq (yQ [yM 14 0,yO 15 14,yC 16 (yK 0)] (.block 0 (Ox))) Ow))
def WQ:AFn:=⟨27,[.tmp 6],KU,false⟩
def YB:List Nat:=[]
def Zhs:Zh:=yQ [yI 2 (.box 105 5 (yV 0)),yC 3 (yK 0)] (yQ [yD 4 13 1,yD 5 5 2,yP 6 86 [yA 4,yA 5],yU 3 6] (.ret))
def Bf:AFn:=⟨7,[.tmp 3],Zhs,false⟩
def Zjp:List Nat:=[]
def OO:Zh:=yQ [yX 17 .lss (yV 16) (yV 15)] (.seq (.cond (yV 17) (.skip) (.exit 0)) (.seq (.block 1 (yQ [yE 18 5 14 16,yD 19 5 18,yI 8 (.mk 105 [(.str []),(.own 1 []),(.int .i64 0),(.int .i64 0),(.int .i64 0)]),yN (.st 5 (yV 8) (yV 19))] (yQ [yM 20 2,yD 21 5 8,yI 22 (.call (yV 20) [yA 21]),yU 9 22] (yQ [yM 23 9,yX 24 .neq (yV 23) (yK 0)] (.cond (yV 24) (yQ [yU 25 9,yU 6 25] (.ret)) (.skip)))))) (yR [yX 26 .add (yV 16) (yK 1),yM 16 26])))
def TM:Zh:=.loop OO
def TL:Zh:=yQ [yC 6 (yK 0)] (.ret)
def Ih:Zh:=yQ [yC 6 (yK 0)] (.seq (yQ [yM 10 0,yO 11 10,yM 12 1,yX 13 .gtr (yV 11) (yV 12)] (.cond (yV 13) (yQ [yC 6 (yK 6)] (.ret)) (.skip))) (.seq (yQ [yM 14 0,yO 15 14,yC 16 (yK 0)] (.block 0 (TM))) TL))
def Qi:AFn:=⟨27,[.tmp 6],Ih,false⟩
def Wz:List Nat:=[]
def Zsg:Zh:=yQ [yI 1 (.box 42 13 (yV 0)),yC 2 (yK 0)] (yQ [yI 4 (.mkmap),yI 3 (.mk 60 [.nilm]),yN (.stt (yV 3) 4)] (yQ [yH 5 12 1,yL 6 5,yI 7 (.mkfn 133 [] [(yV 3),(yV 1)]),yP 8 132 [yA 6,yB (yK 32),yA 7],yU 2 8] (.ret)))
def Zap:AFn:=⟨9,[.tmp 2],Zsg,false⟩
def Ztb:List Nat:=[]
def NQ:Zh:=.seq (yQ [yM 21 3,yH 22 2 1,yL 23 22,yO 24 23,yX 25 .lss (yV 21) (yV 24)] (.cond (yV 25) (.skip) (.exit 0))) (.seq (.block 1 (yQ [yH 28 2 1,yL 29 28,yM 30 3,yE 31 2 29 30,yD 32 2 31,yI 4 (.mk 159 [(.int .i64 0),(.int .i64 0)]),yN (.st 2 (yV 4) (yV 32))] (.seq (yQ [yH 33 0 4,yL 34 33,yH 35 3 1,yL 36 35,yX 37 .sub (yV 36) (yK 1),yP 38 98 [yA 34,yB (yK 0),yA 37],yI 39 (.un .not (yV 38)),yM 40 39,yJ 41 (.fa 1 (yV 4)) 40 false,yJ 42 (.ldc (yV 41)) 40 false,yJ 43 (.call (yG 98) [yA 42,yB (yK 0),yB (yK 1000)]) 40 false,yJ 44 (.un .not (yV 43)) 40 false,yI 45 (.pick (yV 40) yT (yV 44))] (.cond (yV 45) (yQ [yC 2 (yK 2)] (.ret)) (.skip))) (.seq (.region true [yM 46 3,yX 47 .gtr (yV 46) (yK 0),yM 48 47,yJ 49 (.fa 0 (yV 4)) 48 true,yJ 50 (.ldc (yV 49)) 48 true,yJ 51 (.fa 2 (yV 1)) 48 true,yJ 52 (.ldc (yV 51)) 48 true,yJ 53 (.mv (yV 3)) 48 true,yJ 54 (.bin .sub .prim (yV 53) (yK 1)) 48 true,yJ 55 (.ia (.slice 2) (yV 52) (yV 54)) 48 true,yJ 56 (.fa 0 (yV 55)) 48 true,yJ 57 (.ldc (yV 56)) 48 true,yJ 58 (.bin .leq .prim (yV 50) (yV 57)) 48 true,yI 59 (.pick (yV 48) (yV 58) yF)]) (.cond (yV 59) (yQ [yC 2 (yK 12)] (.ret)) (.skip)))))) (yR [yM 26 3,yX 27 .add (yV 26) (yK 1),yU 3 27]))
def ER:Zh:=.loop NQ
def EQ:Zh:=yQ [yC 2 (yK 0)] (.ret)
def Ec:Zh:=yQ [yI 1 (.box 92 17 (yV 0)),yC 2 (yK 0)] (.seq (yQ [yH 5 2 1,yL 6 5,yO 7 6,yX 8 .eql (yV 7) (yK 0)] (.cond (yV 8) (yQ [yH 9 3 1,yL 10 9,yX 11 .eql (yV 10) (yK 0),yP 12 35 [yA 11,yB (yK 1)],yU 2 12] (.ret)) (.skip))) (.seq (yQ [yH 13 2 1,yL 14 13,yO 15 14,yX 16 .gtr (yV 15) (yK 20)] (.cond (yV 16) (yQ [yC 2 (yK 6)] (.ret)) (.skip))) (.seq (yQ [yH 17 3 1,yL 18 17,yP 19 98 [yA 18,yB (yK 1),yB (yK 1000000000)],yI 20 (.un .not (yV 19))] (.cond (yV 20) (yQ [yC 2 (yK 2)] (.ret)) (.skip))) (.seq (yQ [yC 3 (yK 0)] (.block 0 (ER))) EQ))))
def Jv:AFn:=⟨60,[.tmp 2],Ec,false⟩
def Vo:List Nat:=[41,42,43,44,49,50,51,52,53,54,55,56,57,58]
def ZtU:Zh:=yQ [yI 1 (.box 88 6 (yV 0)),yC 2 (yK 0)] (.seq (yQ [yD 4 6 1,yP 5 171 [yA 4],yI 6 (.un .not (yV 5))] (.cond (yV 6) (yQ [yC 2 (yK 1)] (.ret)) (.skip))) (yQ [yC 3 yT] (.seq (yQ [yH 7 0 1,yL 8 7] (.block 0 (yQ [yX 10 .eql (yV 8) (yK 1),yU 9 10] (.cond (yV 9) (yR [yH 11 1 1,yL 12 11,yP 13 172 [yA 12,yB (yK 0),yB (yK 1000000000)],yU 3 13]) (yQ [yX 15 .eql (yV 8) (yK 2),yU 14 15] (.cond (yV 14) (yR [yH 16 1 1,yL 17 16,yH 18 2 1,yL 19 18,yP 20 172 [yA 17,yB (yK 0),yA 19],yM 21 20,yJ 22 (.fa 2 (yV 1)) 21 true,yJ 23 (.ldc (yV 22)) 21 true,yJ 24 (.bin .leq .prim (yV 23) (yK 1000000000)) 21 true,yI 25 (.pick (yV 21) (yV 24) yF),yU 3 25]) (yQ [yX 27 .eql (yV 8) (yK 3),yU 26 27] (.cond (yV 26) (yQ [yD 28 6 1,yP 29 173 [yA 28],yU 2 29] (.ret)) (yQ [yX 31 .eql (yV 8) (yK 4),yU 30 31] (.cond (yV 30) (yR [yH 32 3 1,yL 33 32,yP 34 172 [yA 33,yB (yK 1),yB (yK 20)],yM 35 34,yJ 36 (.fa 1 (yV 1)) 35 true,yJ 37 (.ldc (yV 36)) 35 true,yJ 38 (.fa 2 (yV 1)) 35 true,yJ 39 (.ldc (yV 38)) 35 true,yJ 40 (.call (yG 172) [yA 37,yB (yK 0),yA 39]) 35 true,yI 41 (.pick (yV 35) (yV 40) yF),yM 42 41,yJ 43 (.fa 2 (yV 1)) 42 true,yJ 44 (.ldc (yV 43)) 42 true,yJ 45 (.bin .leq .prim (yV 44) (yK 1000000)) 42 true,yI 46 (.pick (yV 42) (yV 45) yF),yU 3 46]) (yQ [yX 48 .eql (yV 8) (yK 5),yU 47 48] (.cond (yV 47) (yR [yH 49 1 1,yL 50 49,yP 51 172 [yA 50,yB (yK 1),yB (yK 1000)],yM 52 51,yJ 53 (.fa 2 (yV 1)) 52 true,yJ 54 (.ldc (yV 53)) 52 true,yJ 55 (.call (yG 172) [yA 54,yB (yK 1),yB (yK 1000)]) 52 true,yI 56 (.pick (yV 52) (yV 55) yF),yU 3 56]) (.skip))))))))))))) (.seq (yQ [yM 57 3,yI 58 (.un .not (yV 57))] (.cond (yV 58) (yQ [yC 2 (yK 2)] (.ret)) (.skip))) (yQ [yC 2 (yK 0)] (.ret))))))
def ZdN:AFn:=⟨59,[.tmp 2],ZtU,false⟩
def ZuR:List Nat:=[22,23,24,36,37,38,39,40,43,44,45,53,54,55]
def ZtY:Zh:=yQ [yC 2 (yK 0)] (.seq (yQ [yM 3 0,yP 4 174 [yA 3],yX 5 .gtr (yV 4) (yK 200)] (.cond (yV 5) (yQ [yC 2 (yK 6)] (.ret)) (.skip))) (.seq (yQ [yM 6 0,yP 7 175 [yA 6],yX 8 .gtr (yV 7) (yK 12)] (.cond (yV 8) (yQ [yC 2 (yK 11)] (.ret)) (.skip))) (yQ [yM 9 0,yP 10 176 [yA 9],yU 2 10] (.ret))))
def ZdR:AFn:=⟨11,[.tmp 2],ZtY,false⟩
def ZuV:List Nat:=[]
def NP:Zh:=.seq (yQ [yM 11 5,yM 12 0,yO 13 12,yX 14 .lss (yV 11) (yV 13)] (.cond (yV 14) (.skip) (.exit 0))) (.seq (.block 1 (.seq (.region true [yM 17 0,yM 18 5,yE 19 1 17 18,yL 20 19,yM 21 1,yM 22 5,yE 23 1 21 22,yL 24 23,yX 25 .neq (yV 20) (yV 24)]) (.cond (yV 25) (yQ [yC 4 yF] (.ret)) (.skip)))) (yR [yM 15 5,yX 16 .add (yV 15) (yK 1),yU 5 16]))
def EP:Zh:=.loop NP
def EO:Zh:=yQ [yC 4 yT] (.ret)
def SK:Zh:=yQ [yC 4 yF] (.seq (yQ [yM 6 0,yO 7 6,yM 8 1,yO 9 8,yX 10 .neq (yV 7) (yV 9)] (.cond (yV 10) (yQ [yC 4 yF] (.ret)) (.skip))) (.seq (yQ [yC 5 (yK 0)] (.block 0 (EP))) EO))
def Ju:AFn:=⟨26,[.tmp 4],SK,false⟩
def Vn:List Nat:=[]
def PN:Zh:=.cond (yV 30) (yQ [yC 2 (yK 2)] (.ret)) (.seq (.region true [yM 43 3,yX 44 .gtr (yV 43) (yK 0),yM 45 44,yJ 46 (.fa 0 (yV 4)) 45 true,yJ 47 (.ldc (yV 46)) 45 true,yJ 48 (.fa 2 (yV 1)) 45 true,yJ 49 (.ldc (yV 48)) 45 true,yJ 50 (.mv (yV 3)) 45 true,yJ 51 (.bin .sub .prim (yV 50) (yK 1)) 45 true,yJ 52 (.ia (.slice 2) (yV 49) (yV 51)) 45 true,yJ 53 (.fa 0 (yV 52)) 45 true,yJ 54 (.ldc (yV 53)) 45 true,yJ 55 (.bin .leq .prim (yV 47) (yV 54)) 45 true,yI 56 (.pick (yV 45) (yV 55) yF),yM 42 56]) (.cond (yV 42) (yQ [yC 2 (yK 12)] (.ret)) (.skip)))
def PO:Zh:=yR [yX 57 .add (yV 25) (yK 1),yM 25 57]
def Gy:Zh:=yQ [yX 26 .lss (yV 25) (yV 24)] (.seq (.cond (yV 26) (.skip) (.exit 1)) (.seq (.block 2 (yQ [yM 27 25,yE 28 2 23 25,yD 29 2 28,yI 4 (.mk 159 [(.int .i64 0),(.int .i64 0)]),yU 3 27,yN (.st 2 (yV 4) (yV 29))] (.block 3 (.seq (yQ [yH 31 0 4,yL 32 31,yH 33 3 1,yL 34 33,yX 35 .sub (yV 34) (yK 1),yP 36 65 [yA 32,yB (yK 0),yA 35],yI 37 (.un .not (yV 36)),yU 30 37] (.cond (yV 30) (.skip) (yR [yH 38 1 4,yL 39 38,yP 40 65 [yA 39,yB (yK 0),yB (yK 1000)],yI 41 (.un .not (yV 40)),yU 30 41]))) PN)))) PO))
def PQ:Zh:=.loop Gy
def PP:Zh:=yQ [yC 2 (yK 0)] (.ret)
def Dx:Zh:=yQ [yI 1 (.box 92 17 (yV 0)),yC 2 (yK 0)] (.seq (yQ [yH 5 2 1,yL 6 5,yO 7 6,yX 8 .eql (yV 7) (yK 0)] (.cond (yV 8) (.seq (yQ [yH 9 3 1,yL 10 9,yX 11 .neq (yV 10) (yK 0)] (.cond (yV 11) (yQ [yC 2 (yK 1)] (.ret)) (.skip))) (yQ [yC 2 (yK 0)] (.ret))) (.skip))) (.seq (.block 0 (yQ [yH 13 2 1,yL 14 13,yO 15 14,yX 16 .gtr (yV 15) (yK 20),yU 12 16] (.cond (yV 12) (yQ [yC 2 (yK 6)] (.ret)) (yQ [yH 18 3 1,yL 19 18,yP 20 65 [yA 19,yB (yK 1),yB (yK 1000000000)],yI 21 (.un .not (yV 20)),yU 17 21] (.cond (yV 17) (yQ [yC 2 (yK 2)] (.ret)) (.skip)))))) (.seq (yQ [yH 22 2 1,yL 23 22,yO 24 23,yC 25 (yK 0)] (.block 1 (PQ))) PP)))
def QP:AFn:=⟨58,[.tmp 2],Dx,false⟩
def WE:List Nat:=[46,47,48,49,50,51,52,53,54,55]
def ZjE:Zh:=yQ [yI 2 (.box 42 13 (yV 0)),yI 3 (.box 90 13 (yV 1)),yC 4 (yK 0)] (.seq (.block 0 (yQ [yH 7 0 3,yL 8 7,yX 9 .eql (yV 8) (yS []),yM 10 9,yJ 11 (.fa 1 (yV 3)) 10 true,yJ 12 (.lda 6 (yV 11)) 10 true,yJ 13 (.build [(.int .i64 0),(.int .i64 0),(.int .i64 0),(.int .i64 0),(.own 1 []),(.own 1 [])] []) 10 true,yJ 14 (.call (yG 127) [yA 12,yA 13]) 10 true,yJ 15 (.un .not (yV 14)) 10 true,yJ 16 (.mv (yV 15)) 10 true,yJ 17 (.fa 7 (yV 3)) 16 false,yJ 18 (.lda 6 (yV 17)) 16 false,yJ 19 (.build [(.int .i64 0),(.int .i64 0),(.int .i64 0),(.int .i64 0),(.own 1 []),(.own 1 [])] []) 16 false,yJ 20 (.call (yG 127) [yA 18,yA 19]) 16 false,yJ 21 (.un .not (yV 20)) 16 false,yJ 22 (.pick (yV 16) yT (yV 21)) 10 true,yI 23 (.pick (yV 10) (yV 22) yF),yU 6 23] (.cond (yV 6) (yQ [yC 4 (yK 1)] (.ret)) (yQ [yH 25 0 3,yL 26 25,yX 27 .eql (yV 26) (yS []),yU 24 27] (.cond (yV 24) (yQ [yC 4 (yK 0)] (.ret)) (yQ [yH 29 6 2,yL 30 29,yH 31 0 3,yL 32 31,yP 33 128 [yA 30,yA 32],yI 34 (.un .not (yV 33)),yU 28 34] (.cond (yV 28) (yQ [yC 4 (yK 5)] (.ret)) (.skip)))))))) (.seq (yQ [yH 35 1 3,yD 36 6 35,yP 37 129 [yA 36],yU 5 37] (yQ [yM 38 5,yX 39 .neq (yV 38) (yK 0)] (.cond (yV 39) (yQ [yU 40 5,yU 4 40] (.ret)) (.skip)))) (yQ [yH 41 7 3,yD 42 6 41,yP 43 129 [yA 42],yU 4 43] (.ret))))
def Dr:AFn:=⟨44,[.tmp 4],ZjE,false⟩
def ZkP:List Nat:=[11,12,13,14,15,16,17,18,19,20,21,22]
def PM:Zh:=yQ [yX 30 .lss (yV 29) (yV 28)] (.seq (.cond (yV 30) (.skip) (.exit 0)) (.seq (.block 1 (yQ [yE 31 2 27 29,yD 32 2 31,yI 5 (.mk 103 [(.str []),(.int .i64 0)]),yN (.st 2 (yV 5) (yV 32))] (.seq (yQ [yM 33 3,yH 34 0 5,yL 35 34,yP 36 30 [yA 33,yA 35],yU 6 36] (yQ [yM 37 6,yX 38 .neq (yV 37) (yK 0)] (.cond (yV 38) (yQ [yU 39 6,yU 2 39] (.ret)) (.skip)))) (yQ [yH 40 1 5,yL 41 40,yP 42 125 [yA 41],yI 43 (.un .not (yV 42))] (.cond (yV 43) (yQ [yC 2 (yK 1)] (.ret)) (.skip)))))) (yR [yX 44 .add (yV 29) (yK 1),yM 29 44])))
def NN:Zh:=.loop PM
def NM:Zh:=yQ [yH 45 3 1,yL 46 45,yP 47 131 [yA 46],yU 2 47] (.ret)
def PL:Zh:=yQ [yI 1 (.box 79 4 (yV 0)),yC 2 (yK 0)] (.seq (yQ [yH 7 1 1,yL 8 7,yO 9 8,yX 10 .gtr (yV 9) (yK 6),yM 11 10,yJ 12 (.fa 1 (yV 1)) 11 false,yJ 13 (.ldc (yV 12)) 11 false,yJ 14 (.len .slice (yV 13)) 11 false,yJ 15 (.fa 2 (yV 1)) 11 false,yJ 16 (.ldc (yV 15)) 11 false,yJ 17 (.len .slice (yV 16)) 11 false,yJ 18 (.bin .add .prim (yV 14) (yV 17)) 11 false,yJ 19 (.bin .gtr .prim (yV 18) (yK 16)) 11 false,yI 20 (.pick (yV 11) yT (yV 19))] (.cond (yV 20) (yQ [yC 2 (yK 6)] (.ret)) (.skip))) (yQ [yI 21 (.mkmap),yU 3 21] (.seq (yQ [yH 22 1 1,yL 23 22,yH 24 2 1,yL 25 24,yI 26 (.lit 76 1 [(yV 23),(yV 25)]),yP 27 130 [yA 26],yO 28 27,yC 29 (yK 0)] (.block 0 (NN))) NM)))
def VC:AFn:=⟨48,[.tmp 2],PL,false⟩
def XP:List Nat:=[12,13,14,15,16,17,18,19]
def EM:Zh:=yQ [yX 31 .lss (yV 30) (yV 29)] (.seq (.cond (yV 31) (.skip) (.exit 0)) (.seq (.block 1 (yQ [yM 32 30,yE 33 1 28 30,yL 34 33,yU 7 32,yU 8 34] (yQ [yM 35 6,yM 36 7,yE 37 2 35 36,yH 38 1 37,yL 39 38,yM 40 8,yP 41 126 [yA 39,yA 40],yI 42 (.un .not (yV 41))] (.cond (yV 42) (yQ [yC 4 (yK 2)] (.ret)) (.skip))))) (yR [yX 43 .add (yV 30) (yK 1),yM 30 43])))
def Ce:Zh:=.loop EM
def Cc:Zh:=.seq (yQ [yH 44 2 3,yL 45 44,yP 46 65 [yA 45,yB (yK 0),yB (yK 1000000000)],yI 47 (.un .not (yV 46)),yM 48 47,yJ 49 (.fa 3 (yV 3)) 48 false,yJ 50 (.ldc (yV 49)) 48 false,yJ 51 (.call (yG 65) [yA 50,yB (yK 0),yB (yK 1000000000)]) 48 false,yJ 52 (.un .not (yV 51)) 48 false,yI 53 (.pick (yV 48) yT (yV 52)),yM 54 53,yJ 55 (.fa 4 (yV 3)) 54 false,yJ 56 (.ldc (yV 55)) 54 false,yJ 57 (.call (yG 65) [yA 56,yB (yK 0),yB (yK 1000000000)]) 54 false,yJ 58 (.un .not (yV 57)) 54 false,yI 59 (.pick (yV 54) yT (yV 58)),yM 60 59,yJ 61 (.fa 3 (yV 3)) 60 false,yJ 62 (.ldc (yV 61)) 60 false,yJ 63 (.bin .eql .prim (yV 62) (yK 0)) 60 false,yJ 64 (.mv (yV 63)) 60 false,yJ 65 (.fa 4 (yV 3)) 64 true,yJ 66 (.ldc (yV 65)) 64 true,yJ 67 (.bin .neq .prim (yV 66) (yK 0)) 64 true,yJ 68 (.pick (yV 64) (yV 67) yF) 60 false,yI 69 (.pick (yV 60) yT (yV 68))] (.cond (yV 69) (yQ [yC 4 (yK 2)] (.ret)) (.skip))) (yQ [yC 4 (yK 0)] (.ret))
def Fe:Zh:=yQ [yI 2 (.box 42 13 (yV 0)),yI 3 (.box 105 5 (yV 1)),yC 4 (yK 0)] (yQ [yD 9 13 2,yH 10 0 3,yL 11 10,yP 12 16 [yA 9,yA 11],yU 5 12] (.seq (yQ [yM 13 5,yX 14 .lss (yV 13) (yK 0)] (.cond (yV 14) (yQ [yC 4 (yK 5)] (.ret)) (.skip))) (yQ [yH 15 10 2,yL 16 15,yM 17 5,yE 18 4 16 17,yH 19 1 18,yL 20 19,yU 6 20] (.seq (yQ [yH 21 1 3,yL 22 21,yO 23 22,yM 24 6,yO 25 24,yX 26 .neq (yV 23) (yV 25)] (.cond (yV 26) (yQ [yC 4 (yK 8)] (.ret)) (.skip))) (.seq (yQ [yH 27 1 3,yL 28 27,yO 29 28,yC 30 (yK 0)] (.block 0 (Ce))) Cc)))))
def Ug:AFn:=⟨70,[.tmp 4],Fe,false⟩
def VK:List Nat:=[49,50,51,52,55,56,57,58,61,62,63,64,65,66,67,68]
def Znz:Zh:=yQ [yI 3 (.box 57 3 (yV 0)),yC 4 (yK 0)] (.seq (yQ [yL 7 1,yH 8 0 3,yL 9 8,yP 10 30 [yA 7,yA 9],yU 5 10] (yQ [yM 11 5,yX 12 .neq (yV 11) (yK 0)] (.cond (yV 12) (yQ [yU 13 5,yU 4 13] (.ret)) (.skip)))) (.seq (yQ [yH 14 1 3,yL 15 14,yO 16 15,yX 17 .eql (yV 16) (yK 0)] (.cond (yV 17) (yQ [yC 4 (yK 7)] (.ret)) (.skip))) (.seq (yQ [yH 18 1 3,yL 19 18,yI 20 (.mkfn 135 [] [(yV 2)]),yP 21 134 [yA 19,yB (yK 8),yA 20],yU 6 21] (yQ [yM 22 6,yX 23 .neq (yV 22) (yK 0)] (.cond (yV 23) (yQ [yU 24 6,yU 4 24] (.ret)) (.skip)))) (.seq (yQ [yH 25 2 3,yL 26 25,yP 27 137 [yA 26],yI 28 (.un .not (yV 27))] (.cond (yV 28) (yQ [yC 4 (yK 2)] (.ret)) (.skip))) (yQ [yC 4 (yK 0)] (.ret))))))
def Sm:AFn:=⟨29,[.tmp 4],Znz,false⟩
def ZoA:List Nat:=[]
def Me:Zh:=yQ [yX 17 .lss (yV 16) (yV 15)] (.seq (.cond (yV 17) (.skip) (.exit 0)) (.seq (.block 1 (yQ [yE 18 3 14 16,yD 19 3 18,yI 8 (.mk 57 [(.str []),(.own 3 []),(.int .i64 0)]),yN (.st 3 (yV 8) (yV 19))] (yQ [yM 20 2,yD 21 3 8,yI 22 (.call (yV 20) [yA 21]),yU 9 22] (yQ [yM 23 9,yX 24 .neq (yV 23) (yK 0)] (.cond (yV 24) (yQ [yU 25 9,yU 6 25] (.ret)) (.skip)))))) (yR [yX 26 .add (yV 16) (yK 1),yM 16 26])))
def Lv:Zh:=.loop Me
def Lu:Zh:=yQ [yC 6 (yK 0)] (.ret)
def OM:Zh:=yQ [yC 6 (yK 0)] (.seq (yQ [yM 10 0,yO 11 10,yM 12 1,yX 13 .gtr (yV 11) (yV 12)] (.cond (yV 13) (yQ [yC 6 (yK 6)] (.ret)) (.skip))) (.seq (yQ [yM 14 0,yO 15 14,yC 16 (yK 0)] (.block 0 (Lv))) Lu))
def QA:AFn:=⟨27,[.tmp 6],OM,false⟩
def WW:List Nat:=[]
def ZaC:Zh:=.cond (yV 29) (yQ [yH 32 3 1,yL 33 32,yX 34 .eql (yV 33) (yK 0),yM 35 34,yJ 36 (.mv (yV 3)) 35 true,yI 37 (.pick (yV 35) (yV 36) yF),yU 2 37] (.ret)) (yQ [yX 39 .eql (yV 15) (yK 3),yU 38 39] (.cond (yV 38) (yQ [yH 40 1 1,yL 41 40,yX 42 .eql (yV 41) (yK 0),yM 43 42,yJ 44 (.fa 2 (yV 1)) 43 true,yJ 45 (.ldc (yV 44)) 43 true,yJ 46 (.bin .eql .prim (yV 45) (yK 0)) 43 true,yI 47 (.pick (yV 43) (yV 46) yF),yM 48 47,yJ 49 (.fa 3 (yV 1)) 48 true,yJ 50 (.ldc (yV 49)) 48 true,yJ 51 (.bin .eql .prim (yV 50) (yK 0)) 48 true,yI 52 (.pick (yV 48) (yV 51) yF),yU 2 52] (.ret)) (yQ [yX 54 .eql (yV 15) (yK 4),yU 53 54] (.cond (yV 53) (yQ [yU 55 3,yU 2 55] (.ret)) (.skip)))))
def ZaD:Zh:=yQ [yC 2 yF] (.ret)
def ZaB:Zh:=yQ [yI 1 (.box 88 6 (yV 0)),yC 2 yF] (yQ [yH 4 4 1,yL 5 4,yO 6 5,yX 7 .eql (yV 6) (yK 0),yM 8 7,yJ 9 (.fa 5 (yV 1)) 8 true,yJ 10 (.ldc (yV 9)) 8 true,yJ 11 (.len .slice (yV 10)) 8 true,yJ 12 (.bin .eql .prim (yV 11) (yK 0)) 8 true,yI 13 (.pick (yV 8) (yV 12) yF),yU 3 13] (.seq (yQ [yH 14 0 1,yL 15 14] (.block 0 (yQ [yX 17 .eql (yV 15) (yK 1),yU 16 17] (.cond (yV 16) (yQ [yH 18 2 1,yL 19 18,yX 20 .eql (yV 19) (yK 0),yM 21 20,yJ 22 (.fa 3 (yV 1)) 21 true,yJ 23 (.ldc (yV 22)) 21 true,yJ 24 (.bin .eql .prim (yV 23) (yK 0)) 21 true,yI 25 (.pick (yV 21) (yV 24) yF),yM 26 25,yJ 27 (.mv (yV 3)) 26 true,yI 28 (.pick (yV 26) (yV 27) yF),yU 2 28] (.ret)) (.seq (yQ [yX 30 .eql (yV 15) (yK 2),yU 29 30] (.cond (yV 29) (.skip) (yR [yX 31 .eql (yV 15) (yK 5),yU 29 31]))) ZaC))))) ZaD))
def Ho:AFn:=⟨56,[.tmp 2],ZaB,false⟩
def KL:List Nat:=[9,10,11,12,22,23,24,27,36,44,45,46,49,50,51]
def Zqi:Zh:=yQ [yC 6 yF] (yQ [yM 7 0,yM 8 1,yX 9 .geq (yV 7) (yV 8),yM 10 9,yJ 11 (.mv (yV 0)) 10 true,yJ 12 (.mv (yV 2)) 10 true,yJ 13 (.bin .leq .prim (yV 11) (yV 12)) 10 true,yI 14 (.pick (yV 10) (yV 13) yF),yU 6 14] (.ret))
def AQ:AFn:=⟨15,[.tmp 6],Zqi,false⟩
def Zri:List Nat:=[11,12,13]
def ZaA:Zh:=.seq (yQ [yM 19 3,yH 20 4 1,yL 21 20,yO 22 21,yX 23 .lss (yV 19) (yV 22)] (.cond (yV 23) (.skip) (.exit 0))) (.seq (.block 1 (yQ [yH 26 4 1,yL 27 26,yM 28 3,yE 29 1 27 28,yL 30 29,yP 31 172 [yA 30,yB (yK 0),yB (yK 1000000000)],yI 32 (.un .not (yV 31)),yM 33 32,yJ 34 (.fa 5 (yV 1)) 33 false,yJ 35 (.ldc (yV 34)) 33 false,yJ 36 (.mv (yV 3)) 33 false,yJ 37 (.ia (.slice 1) (yV 35) (yV 36)) 33 false,yJ 38 (.ldc (yV 37)) 33 false,yJ 39 (.call (yG 172) [yA 38,yB (yK 1),yB (yK 1000)]) 33 false,yJ 40 (.un .not (yV 39)) 33 false,yI 41 (.pick (yV 33) yT (yV 40))] (.cond (yV 41) (yQ [yC 2 (yK 2)] (.ret)) (.skip)))) (yR [yM 24 3,yX 25 .add (yV 24) (yK 1),yU 3 25]))
def Zc8:Zh:=.loop ZaA
def Zc7:Zh:=yQ [yC 2 (yK 0)] (.ret)
def Zee:Zh:=yQ [yI 1 (.box 88 6 (yV 0)),yC 2 (yK 0)] (.seq (yQ [yH 4 4 1,yL 5 4,yO 6 5,yH 7 5 1,yL 8 7,yO 9 8,yX 10 .neq (yV 6) (yV 9)] (.cond (yV 10) (yQ [yC 2 (yK 8)] (.ret)) (.skip))) (.seq (yQ [yH 11 4 1,yL 12 11,yO 13 12,yX 14 .eql (yV 13) (yK 0)] (.cond (yV 14) (yQ [yC 2 (yK 7)] (.ret)) (.skip))) (.seq (yQ [yH 15 4 1,yL 16 15,yO 17 16,yX 18 .gtr (yV 17) (yK 20)] (.cond (yV 18) (yQ [yC 2 (yK 6)] (.ret)) (.skip))) (.seq (yQ [yC 3 (yK 0)] (.block 0 (Zc8))) Zc7))))
def HV:AFn:=⟨42,[.tmp 2],Zee,false⟩
def UH:List Nat:=[34,35,36,37,38,39,40]
def ZaH:Zh:=.seq (yQ [yM 5 4,yM 6 0,yO 7 6,yX 8 .lss (yV 5) (yV 7)] (.cond (yV 8) (.skip) (.exit 0))) (.seq (.block 1 (.region true [yM 11 3,yX 12 .add (yV 11) (yK 1),yM 13 0,yM 14 4,yE 15 21 13 14,yH 16 19 15,yL 17 16,yP 18 174 [yA 17],yX 19 .add (yV 12) (yV 18),yM 20 0,yM 21 4,yE 22 21 20 21,yH 23 20 22,yL 24 23,yP 25 174 [yA 24],yX 26 .add (yV 19) (yV 25),yM 3 26])) (yR [yM 9 4,yX 10 .add (yV 9) (yK 1),yU 4 10]))
def ZcI:Zh:=.loop ZaH
def ZcH:Zh:=yQ [yU 27 3,yU 2 27] (.ret)
def Zei:Zh:=yQ [yC 2 (yK 0)] (yQ [yC 3 (yK 0)] (.seq (yQ [yC 4 (yK 0)] (.block 0 (ZcI))) ZcH))
def Ib:AFn:=⟨28,[.tmp 2],Zei,false⟩
def UL:List Nat:=[]
def ZaI:Zh:=.seq (yQ [yM 5 4,yM 6 0,yO 7 6,yX 8 .lss (yV 5) (yV 7)] (.cond (yV 8) (.skip) (.exit 0))) (.seq (.block 1 (.region true [yM 11 3,yM 12 0,yM 13 4,yE 14 21 12 13,yH 15 19 14,yL 16 15,yP 17 175 [yA 16],yX 18 .add (yK 1) (yV 17),yM 19 0,yM 20 4,yE 21 21 19 20,yH 22 20 21,yL 23 22,yP 24 175 [yA 23],yX 25 .add (yK 1) (yV 24),yI 26 (.max [(yV 11),(yV 18),(yV 25)]),yU 3 26])) (yR [yM 9 4,yX 10 .add (yV 9) (yK 1),yU 4 10]))
def ZcK:Zh:=.loop ZaI
def ZcJ:Zh:=yQ [yU 27 3,yU 2 27] (.ret)
def Zej:Zh:=yQ [yC 2 (yK 0)] (yQ [yC 3 (yK 0)] (.seq (yQ [yC 4 (yK 0)] (.block 0 (ZcK))) ZcJ))
def Ic:AFn:=⟨28,[.tmp 2],Zej,false⟩
def UM:List Nat:=[]
def ZfA:Zh:=.seq (yQ [yM 24 4,yX 25 .eql (yV 24) (yK 0)] (.cond (yV 25) (yR [yM 26 0,yM 27 3,yE 28 21 26 27,yH 29 20 28,yL 30 29,yP 31 176 [yA 30],yU 4 31]) (.skip))) (yQ [yM 32 4,yX 33 .neq (yV 32) (yK 0)] (.cond (yV 33) (yQ [yU 34 4,yU 2 34] (.ret)) (.skip)))
def ZfB:Zh:=yR [yM 9 3,yX 10 .add (yV 9) (yK 1),yU 3 10]
def BJ:Zh:=.seq (yQ [yM 5 3,yM 6 0,yO 7 6,yX 8 .lss (yV 5) (yV 7)] (.cond (yV 8) (.skip) (.exit 0))) (.seq (.block 1 (yQ [yM 11 0,yM 12 3,yE 13 21 11 12,yD 14 21 13,yP 15 182 [yA 14],yU 4 15] (.seq (yQ [yM 16 4,yX 17 .eql (yV 16) (yK 0)] (.cond (yV 17) (yR [yM 18 0,yM 19 3,yE 20 21 18 19,yH 21 19 20,yL 22 21,yP 23 176 [yA 22],yU 4 23]) (.skip))) ZfA))) ZfB)
def ZfD:Zh:=.loop BJ
def ZfC:Zh:=yQ [yC 2 (yK 0)] (.ret)
def Zhv:Zh:=yQ [yC 2 (yK 0)] (.seq (yQ [yC 3 (yK 0)] (.block 0 (ZfD))) ZfC)
def Ko:AFn:=⟨35,[.tmp 2],Zhv,false⟩
def V5:List Nat:=[]
def Za6:Zh:=yQ [yX 39 .lss (yV 38) (yV 37)] (.seq (.cond (yV 39) (.skip) (.exit 0)) (.seq (.block 1 (yQ [yM 40 38,yE 41 4 36 38,yD 42 4 41,yI 6 (.mk 179 [(.int .i64 0),(.str []),(.int .i64 0),(.own 4 [])]),yU 5 40,yN (.st 4 (yV 6) (yV 42))] (.seq (.region true [yD 43 4 6,yH 44 3 3,yL 45 44,yM 46 5,yE 47 4 45 46,yD 48 4 47,yP 49 177 [yA 43,yA 48],yI 50 (.un .not (yV 49))]) (.cond (yV 50) (yQ [yC 4 yF] (.ret)) (.skip))))) (yR [yX 51 .add (yV 38) (yK 1),yM 38 51])))
def Zc6:Zh:=.loop Za6
def Zc5:Zh:=yQ [yC 4 yT] (.ret)
def Zec:Zh:=yQ [yI 2 (.box 179 4 (yV 0)),yI 3 (.box 179 4 (yV 1)),yC 4 yF] (.seq (yQ [yH 7 0 2,yL 8 7,yH 9 0 3,yL 10 9,yX 11 .neq (yV 8) (yV 10),yM 12 11,yJ 13 (.fa 1 (yV 2)) 12 false,yJ 14 (.ldc (yV 13)) 12 false,yJ 15 (.fa 1 (yV 3)) 12 false,yJ 16 (.ldc (yV 15)) 12 false,yJ 17 (.bin .neq .prim (yV 14) (yV 16)) 12 false,yI 18 (.pick (yV 12) yT (yV 17)),yM 19 18,yJ 20 (.fa 2 (yV 2)) 19 false,yJ 21 (.ldc (yV 20)) 19 false,yJ 22 (.fa 2 (yV 3)) 19 false,yJ 23 (.ldc (yV 22)) 19 false,yJ 24 (.bin .neq .prim (yV 21) (yV 23)) 19 false,yI 25 (.pick (yV 19) yT (yV 24)),yM 26 25,yJ 27 (.fa 3 (yV 2)) 26 false,yJ 28 (.ldc (yV 27)) 26 false,yJ 29 (.len .slice (yV 28)) 26 false,yJ 30 (.fa 3 (yV 3)) 26 false,yJ 31 (.ldc (yV 30)) 26 false,yJ 32 (.len .slice (yV 31)) 26 false,yJ 33 (.bin .neq .prim (yV 29) (yV 32)) 26 false,yI 34 (.pick (yV 26) yT (yV 33))] (.cond (yV 34) (yQ [yC 4 yF] (.ret)) (.skip))) (.seq (yQ [yH 35 3 2,yL 36 35,yO 37 36,yC 38 (yK 0)] (.block 0 (Zc6))) Zc5))
def H9:AFn:=⟨52,[.tmp 4],Zec,false⟩
def UG:List Nat:=[13,14,15,16,17,20,21,22,23,24,27,28,29,30,31,32,33]
def Re:Zh:=yQ [yC 4 yF] (yQ [yM 5 0,yM 6 1,yP 7 107 [yA 5,yA 6],yX 8 .geq (yV 7) (yK 0),yU 4 8] (.ret))
def VD:AFn:=⟨9,[.tmp 4],Re,false⟩
def RD:List Nat:=[]
def Zsc:Zh:=yQ [yI 1 (.box 88 6 (yV 0)),yC 2 (yK 0)] (.seq (yQ [yD 5 6 1,yP 6 151 [yA 5],yI 7 (.un .not (yV 6))] (.cond (yV 7) (yQ [yC 2 (yK 1)] (.ret)) (.skip))) (yQ [yC 3 yF] (.seq (yQ [yH 8 0 1,yL 9 8] (.block 0 (yQ [yX 11 .eql (yV 9) (yK 1),yU 10 11] (.cond (yV 10) (yR [yH 12 1 1,yL 13 12,yI 14 (.lit 3 1 [(yV 13)]),yP 15 152 [yB (yK 0),yB (yK 1000000000),yA 14],yU 3 15]) (yQ [yX 17 .eql (yV 9) (yK 2),yU 16 17] (.cond (yV 16) (yR [yH 18 1 1,yL 19 18,yH 20 2 1,yL 21 20,yI 22 (.lit 3 1 [(yV 19),(yV 21)]),yP 23 152 [yB (yK 0),yB (yK 1000000000),yA 22],yM 24 23,yJ 25 (.fa 1 (yV 1)) 24 true,yJ 26 (.ldc (yV 25)) 24 true,yJ 27 (.fa 2 (yV 1)) 24 true,yJ 28 (.ldc (yV 27)) 24 true,yJ 29 (.bin .leq .prim (yV 26) (yV 28)) 24 true,yI 30 (.pick (yV 24) (yV 29) yF),yU 3 30]) (yQ [yX 32 .eql (yV 9) (yK 4),yU 31 32] (.cond (yV 31) (yR [yH 33 3 1,yL 34 33,yI 35 (.lit 3 1 [(yV 34)]),yP 36 152 [yB (yK 1),yB (yK 20),yA 35],yM 37 36,yJ 38 (.fa 1 (yV 1)) 37 true,yJ 39 (.ldc (yV 38)) 37 true,yJ 40 (.fa 2 (yV 1)) 37 true,yJ 41 (.ldc (yV 40)) 37 true,yJ 42 (.lit 3 1 [(yV 39),(yV 41)]) 37 true,yJ 43 (.call (yG 152) [yB (yK 0),yB (yK 1000000),yA 42]) 37 true,yI 44 (.pick (yV 37) (yV 43) yF),yM 45 44,yJ 46 (.fa 1 (yV 1)) 45 true,yJ 47 (.ldc (yV 46)) 45 true,yJ 48 (.fa 2 (yV 1)) 45 true,yJ 49 (.ldc (yV 48)) 45 true,yJ 50 (.bin .leq .prim (yV 47) (yV 49)) 45 true,yI 51 (.pick (yV 45) (yV 50) yF),yU 3 51]) (yQ [yX 53 .eql (yV 9) (yK 5),yU 52 53] (.cond (yV 52) (yR [yH 54 1 1,yL 55 54,yH 56 2 1,yL 57 56,yI 58 (.lit 3 1 [(yV 55),(yV 57)]),yP 59 152 [yB (yK 1),yB (yK 1000),yA 58],yU 3 59]) (yQ [yX 61 .eql (yV 9) (yK 3),yU 60 61] (.cond (yV 60) (.seq (yQ [yH 62 4 1,yL 63 62,yO 64 63,yU 4 64] (.block 1 (yQ [yM 66 4,yH 67 5 1,yL 68 67,yO 69 68,yX 70 .neq (yV 66) (yV 69),yU 65 70] (.cond (yV 65) (yQ [yC 2 (yK 8)] (.ret)) (yQ [yM 72 4,yX 73 .eql (yV 72) (yK 0),yU 71 73] (.cond (yV 71) (yQ [yC 2 (yK 7)] (.ret)) (yQ [yM 75 4,yX 76 .gtr (yV 75) (yK 20),yU 74 76] (.cond (yV 74) (yQ [yC 2 (yK 6)] (.ret)) (.skip))))))))) (yR [yH 77 4 1,yL 78 77,yP 79 152 [yB (yK 0),yB (yK 1000000000),yA 78],yM 80 79,yJ 81 (.fa 5 (yV 1)) 80 true,yJ 82 (.ldc (yV 81)) 80 true,yJ 83 (.call (yG 152) [yB (yK 1),yB (yK 1000),yA 82]) 80 true,yI 84 (.pick (yV 80) (yV 83) yF),yU 3 84])) (.skip))))))))))))) (.seq (yQ [yM 85 3,yI 86 (.un .not (yV 85))] (.cond (yV 86) (yQ [yC 2 (yK 2)] (.ret)) (.skip))) (yQ [yC 2 (yK 0)] (.ret))))))
def Zal:AFn:=⟨87,[.tmp 2],Zsc,false⟩
def ZsX:List Nat:=[25,26,27,28,29,38,39,40,41,42,43,46,47,48,49,50,81,82,83]
def VY:Zh:=yQ [yX 12 .lss (yV 11) (yV 10)] (.seq (.cond (yV 12) (.skip) (.exit 0)) (.seq (.block 1 (yQ [yE 13 1 9 11,yL 14 13,yU 5 14] (yQ [yM 15 3,yM 16 5,yO 17 16,yX 18 .add (yV 15) (yV 17),yU 3 18] (yQ [yM 19 3,yX 20 .lss (yV 19) (yK 0)] (.cond (yV 20) (yR [yI 21 (.bad),yN (.bad)]) (.skip)))))) (yR [yX 22 .add (yV 11) (yK 1),yM 11 22])))
def Jp:Zh:=.loop VY
def VZ:Zh:=yQ [yX 28 .lss (yV 27) (yV 26)] (.seq (.cond (yV 28) (.skip) (.exit 2)) (.seq (.block 3 (yQ [yE 29 1 25 27,yL 30 29,yU 8 30] (yR [yU 31 6,yM 32 8,yI 33 (.app 2 24 31 (yV 32)),yU 6 33]))) (yR [yX 34 .add (yV 27) (yK 1),yM 27 34])))
def Jq:Zh:=.loop VZ
def Jo:Zh:=yQ [yU 35 6,yU 2 35] (.ret)
def XG:Zh:=yQ [yM 23 3,yP 24 153 [(.inr (.const (.own 2 []))),yA 23],yU 6 24] (.seq (yQ [yM 25 0,yO 26 25,yC 27 (yK 0)] (.block 2 (Jq))) Jo)
def XZ:Zh:=yQ [yI 2 (.mv (.const (.own 2 [])))] (yQ [yC 3 (yK 0)] (.seq (yQ [yM 9 0,yO 10 9,yC 11 (yK 0)] (.block 0 (Jp))) XG))
def Z8:AFn:=⟨36,[.tmp 2],XZ,false⟩
def Zn:List Nat:=[]
def Zsn:Zh:=yQ [yC 2 (yK 0)] (.seq (yQ [yM 3 0,yP 4 154 [yA 3],yX 5 .gtr (yV 4) (yK 200)] (.cond (yV 5) (yQ [yC 2 (yK 6)] (.ret)) (.skip))) (.seq (yQ [yM 6 0,yP 7 155 [yA 6],yX 8 .gtr (yV 7) (yK 12)] (.cond (yV 8) (yQ [yC 2 (yK 11)] (.ret)) (.skip))) (yQ [yM 9 0,yP 10 156 [yA 9],yU 2 10] (.ret))))
def Zaw:AFn:=⟨11,[.tmp 2],Zsn,false⟩
def Zti:List Nat:=[]
def ZjF:Zh:=yQ [yI 2 (.box 54 3 (yV 0)),yC 3 (yK 0)] (yQ [yD 4 13 1,yD 5 3 2,yP 6 136 [yA 4,yA 5],yU 3 6] (.ret))
def Dt:AFn:=⟨7,[.tmp 3],ZjF,false⟩
def ZkQ:List Nat:=[]
def TN:Zh:=yQ [yX 17 .lss (yV 16) (yV 15)] (.seq (.cond (yV 17) (.skip) (.exit 0)) (.seq (.block 1 (yQ [yE 18 3 14 16,yD 19 3 18,yI 8 (.mk 54 [(.int .i64 0),(.str []),(.str [])]),yN (.st 3 (yV 8) (yV 19))] (yQ [yM 20 2,yD 21 3 8,yI 22 (.call (yV 20) [yA 21]),yU 9 22] (yQ [yM 23 9,yX 24 .neq (yV 23) (yK 0)] (.cond (yV 24) (yQ [yU 25 9,yU 6 25] (.ret)) (.skip)))))) (yR [yX 26 .add (yV 16) (yK 1),yM 16 26])))
def Mi:Zh:=.loop TN
def Mh:Zh:=yQ [yC 6 (yK 0)] (.ret)
def Oj:Zh:=yQ [yC 6 (yK 0)] (.seq (yQ [yM 10 0,yO 11 10,yM 12 1,yX 13 .gtr (yV 11) (yV 12)] (.cond (yV 13) (yQ [yC 6 (yK 6)] (.ret)) (.skip))) (.seq (yQ [yM 14 0,yO 15 14,yC 16 (yK 0)] (.block 0 (Mi))) Mh))
def Qw:AFn:=⟨27,[.tmp 6],Oj,false⟩
def WM:List Nat:=[]
def Zxm:Zh:=yQ [yI 1 (.box 181 21 (yV 0)),yC 2 (yK 0)] (yQ [yH 7 0 1,yL 8 7,yP 9 184 [yA 8],yM 6 9,yI 10 (.extract (yV 6) 0),yI 11 (.extract (yV 6) 1),yI 3 (.mk 211 [(.bool false),(.bool false),(.bool false),(.bool false),(.bool false),(.bool false),(.bool false),(.bool false),(.bool false)]),yN (.st 9 (yV 3) (yV 10)),yU 4 11] (.seq (yQ [yD 12 21 1,yP 13 185 [yA 12],yI 14 (.un .not (yV 13))] (.cond (yV 14) (yQ [yC 2 (yK 1)] (.ret)) (.skip))) (.seq (yQ [yH 15 0 3,yL 16 15,yM 17 16,yJ 18 (.fa 1 (yV 1)) 17 true,yJ 19 (.ldc (yV 18)) 17 true,yJ 20 (.call (yG 34) [yA 19]) 17 true,yJ 21 (.bin .neq .prim (yV 20) (yK 0)) 17 true,yI 22 (.pick (yV 17) (yV 21) yF),yM 23 22,yJ 24 (.fa 1 (yV 3)) 23 false,yJ 25 (.ldc (yV 24)) 23 false,yJ 26 (.mv (yV 25)) 23 false,yJ 27 (.fa 2 (yV 1)) 26 true,yJ 28 (.ldc (yV 27)) 26 true,yJ 29 (.call (yG 34) [yA 28]) 26 true,yJ 30 (.bin .neq .prim (yV 29) (yK 0)) 26 true,yJ 31 (.pick (yV 26) (yV 30) yF) 23 false,yI 32 (.pick (yV 23) yT (yV 31))] (.cond (yV 32) (yQ [yC 2 (yK 3)] (.ret)) (.skip))) (yQ [yD 33 21 1,yD 34 9 3,yP 35 186 [yA 33,yA 34],yU 5 35] (.seq (yQ [yM 36 5,yX 37 .eql (yV 36) (yK 0),yM 38 37,yJ 39 (.fa 5 (yV 3)) 38 true,yJ 40 (.ldc (yV 39)) 38 true,yI 41 (.pick (yV 38) (yV 40) yF)] (.cond (yV 41) (yR [yH 42 12 1,yD 43 6 42,yP 44 160 [yA 43],yU 5 44]) (.skip))) (yQ [yU 45 5,yU 2 45] (.ret)))))))
def Zlj:AFn:=⟨46,[.tmp 2],Zxm,false⟩
def Zyj:List Nat:=[18,19,20,21,24,25,26,27,28,29,30,31,39,40]
def FQ:Zh:=.cond (yV 27) (yQ [yM 30 3,yM 31 30,yJ 32 (.fa 3 (yV 1)) 31 true,yJ 33 (.ldc (yV 32)) 31 true,yJ 34 (.bin .eql .prim (yV 33) (yK 0)) 31 true,yI 35 (.pick (yV 31) (yV 34) yF),yU 2 35] (.ret)) (yQ [yX 37 .eql (yV 13) (yK 4),yU 36 37] (.cond (yV 36) (yQ [yU 38 3,yU 2 38] (.ret)) (yQ [yX 40 .eql (yV 13) (yK 3),yU 39 40] (.cond (yV 39) (yQ [yH 41 1 1,yL 42 41,yX 43 .eql (yV 42) (yK 0),yM 44 43,yJ 45 (.fa 2 (yV 1)) 44 true,yJ 46 (.ldc (yV 45)) 44 true,yJ 47 (.bin .eql .prim (yV 46) (yK 0)) 44 true,yI 48 (.pick (yV 44) (yV 47) yF),yM 49 48,yJ 50 (.fa 3 (yV 1)) 49 true,yJ 51 (.ldc (yV 50)) 49 true,yJ 52 (.bin .eql .prim (yV 51) (yK 0)) 49 true,yI 53 (.pick (yV 49) (yV 52) yF),yU 2 53] (.ret)) (.skip)))))
def FR:Zh:=yQ [yC 2 yF] (.ret)
def AZ:Zh:=yQ [yI 1 (.box 88 6 (yV 0)),yC 2 yF] (yQ [yH 4 4 1,yL 5 4,yO 6 5,yH 7 5 1,yL 8 7,yO 9 8,yX 10 .add (yV 6) (yV 9),yX 11 .eql (yV 10) (yK 0),yU 3 11] (.seq (yQ [yH 12 0 1,yL 13 12] (.block 0 (yQ [yX 15 .eql (yV 13) (yK 1),yU 14 15] (.cond (yV 14) (yQ [yM 16 3,yM 17 16,yJ 18 (.fa 2 (yV 1)) 17 true,yJ 19 (.ldc (yV 18)) 17 true,yJ 20 (.bin .eql .prim (yV 19) (yK 0)) 17 true,yI 21 (.pick (yV 17) (yV 20) yF),yM 22 21,yJ 23 (.fa 3 (yV 1)) 22 true,yJ 24 (.ldc (yV 23)) 22 true,yJ 25 (.bin .eql .prim (yV 24) (yK 0)) 22 true,yI 26 (.pick (yV 22) (yV 25) yF),yU 2 26] (.ret)) (.seq (yQ [yX 28 .eql (yV 13) (yK 2),yU 27 28] (.cond (yV 27) (.skip) (yR [yX 29 .eql (yV 13) (yK 5),yU 27 29]))) FQ))))) FR))
def Kw:AFn:=⟨54,[.tmp 2],AZ,false⟩
def Um:List Nat:=[18,19,20,23,24,25,32,33,34,45,46,47,50,51,52]
def Zqc:Zh:=yQ [yI 3 (.box 3 1 (yV 0)),yI 4 (.box 3 1 (yV 1)),yC 6 yF] (yQ [yM 7 2,yI 8 (.mkfn 167 [] [(yV 3),(yV 4)]),yP 9 166 [yA 7,yA 8],yI 10 (.un .not (yV 9)),yU 6 10] (.ret))
def AC:AFn:=⟨11,[.tmp 6],Zqc,false⟩
def Zrd:List Nat:=[]
def Cj:Zh:=yQ [yX 11 .lss (yV 10) (yV 9)] (.seq (.cond (yV 11) (.skip) (.exit 0)) (.seq (.block 1 (yQ [yE 12 21 8 10,yD 13 21 12,yI 5 (.mk 181 [(.int .i64 0),(.str []),(.str []),(.int .i64 0),(.str []),(.int .i64 0),(.own 4 []),(.int .i64 0),(.str []),(.int .i64 0),(.own 4 []),(.own 4 []),(.int .i64 0),(.int .i64 0),(.int .i64 0),(.int .i64 0),(.own 1 []),(.own 1 []),(.bool false),(.own 21 []),(.own 21 [])]),yN (.st 21 (yV 5) (yV 13))] (.region true [yM 14 3,yH 15 19 5,yL 16 15,yP 17 154 [yA 16],yH 18 20 5,yL 19 18,yP 20 154 [yA 19],yX 21 .add (yV 17) (yV 20),yX 22 .add (yV 14) (yV 21),yM 3 22]))) (yR [yX 23 .add (yV 10) (yK 1),yM 10 23])))
def ZaV:Zh:=.loop Cj
def ZaU:Zh:=yQ [yU 24 3,yU 2 24] (.ret)
def ZaT:Zh:=yQ [yC 2 (yK 0)] (yQ [yM 6 0,yO 7 6,yU 3 7] (.seq (yQ [yM 8 0,yO 9 8,yC 10 (yK 0)] (.block 0 (ZaV))) ZaU))
def K4:AFn:=⟨25,[.tmp 2],ZaT,false⟩
def JE:List Nat:=[]
def Ck:Zh:=yQ [yX 9 .lss (yV 8) (yV 7)] (.seq (.cond (yV 9) (.skip) (.exit 0)) (.seq (.block 1 (yQ [yE 10 21 6 8,yD 11 21 10,yI 5 (.mk 181 [(.int .i64 0),(.str []),(.str []),(.int .i64 0),(.str []),(.int .i64 0),(.own 4 []),(.int .i64 0),(.str []),(.int .i64 0),(.own 4 []),(.own 4 []),(.int .i64 0),(.int .i64 0),(.int .i64 0),(.int .i64 0),(.own 1 []),(.own 1 []),(.bool false),(.own 21 []),(.own 21 [])]),yN (.st 21 (yV 5) (yV 11))] (.region true [yM 12 3,yH 13 19 5,yL 14 13,yP 15 155 [yA 14],yX 16 .add (yK 1) (yV 15),yH 17 20 5,yL 18 17,yP 19 155 [yA 18],yX 20 .add (yK 1) (yV 19),yI 21 (.max [(yV 12),(yV 16),(yV 20)]),yU 3 21]))) (yR [yX 22 .add (yV 8) (yK 1),yM 8 22])))
def ZaY:Zh:=.loop Ck
def ZaX:Zh:=yQ [yU 23 3,yU 2 23] (.ret)
def ZaW:Zh:=yQ [yC 2 (yK 0)] (yQ [yC 3 (yK 0)] (.seq (yQ [yM 6 0,yO 7 6,yC 8 (yK 0)] (.block 0 (ZaY))) ZaX))
def K5:AFn:=⟨24,[.tmp 2],ZaW,false⟩
def JF:List Nat:=[]
def Cm:Zh:=yQ [yX 13 .lss (yV 12) (yV 11)] (.seq (.cond (yV 13) (.skip) (.exit 0)) (.seq (.block 1 (yQ [yE 14 21 10 12,yD 15 21 14,yI 4 (.mk 181 [(.int .i64 0),(.str []),(.str []),(.int .i64 0),(.str []),(.int .i64 0),(.own 4 []),(.int .i64 0),(.str []),(.int .i64 0),(.own 4 []),(.own 4 []),(.int .i64 0),(.int .i64 0),(.int .i64 0),(.int .i64 0),(.own 1 []),(.own 1 []),(.bool false),(.own 21 []),(.own 21 [])]),yN (.st 21 (yV 4) (yV 15))] (yQ [yH 17 0 4,yL 18 17,yP 19 168 [yA 18],yM 16 19,yI 20 (.extract (yV 16) 0),yI 21 (.extract (yV 16) 1),yI 5 (.mk 194 [(.bool false),(.bool false),(.bool false),(.bool false),(.bool false),(.bool false),(.bool false),(.bool false),(.bool false)]),yN (.st 9 (yV 5) (yV 20)),yU 6 21] (.seq (yQ [yM 22 6,yI 23 (.un .not (yV 22)),yM 24 23,yJ 25 (.lda 21 (yV 4)) 24 false,yJ 26 (.lda 9 (yV 5)) 24 false,yJ 27 (.call (yG 169) [yA 25,yA 26]) 24 false,yJ 28 (.un .not (yV 27)) 24 false,yI 29 (.pick (yV 24) yT (yV 28))] (.cond (yV 29) (yQ [yC 2 (yK 1)] (.ret)) (.skip))) (.seq (yQ [yD 30 21 4,yD 31 9 5,yP 32 170 [yA 30,yA 31],yU 7 32] (yQ [yM 33 7,yX 34 .neq (yV 33) (yK 0)] (.cond (yV 34) (yQ [yU 35 7,yU 2 35] (.ret)) (.skip)))) (.seq (yQ [yH 36 19 4,yL 37 36,yP 38 156 [yA 37],yU 8 38] (yQ [yM 39 8,yX 40 .neq (yV 39) (yK 0)] (.cond (yV 40) (yQ [yU 41 8,yU 2 41] (.ret)) (.skip)))) (yQ [yH 42 20 4,yL 43 42,yP 44 156 [yA 43],yU 9 44] (yQ [yM 45 9,yX 46 .neq (yV 45) (yK 0)] (.cond (yV 46) (yQ [yU 47 9,yU 2 47] (.ret)) (.skip)))))))))) (yR [yX 48 .add (yV 12) (yK 1),yM 12 48])))
def Zbb:Zh:=.loop Cm
def Zba:Zh:=yQ [yC 2 (yK 0)] (.ret)
def ZaZ:Zh:=yQ [yC 2 (yK 0)] (.seq (yQ [yM 10 0,yO 11 10,yC 12 (yK 0)] (.block 0 (Zbb))) Zba)
def K6:AFn:=⟨49,[.tmp 2],ZaZ,false⟩
def JG:List Nat:=[25,26,27,28]
def Za8:Zh:=.cond (yV 17) (yR [yH 21 3 2,yL 22 21,yI 23 (.mkfn 158 [] [(yV 3)]),yP 24 157 [yA 22,yA 23],yU 5 24]) (yQ [yX 26 .eql (yV 7) (yS [99,111,117,110,116,101,100]),yU 25 26] (.cond (yV 25) (yR [yH 27 9 2,yL 28 27,yH 29 2 3,yL 30 29,yP 31 128 [yA 28,yA 30],yU 5 31]) (yQ [yC 4 (yK 1)] (.ret))))
def PR:Zh:=.cond (yV 8) (yR [yD 12 13 2,yH 13 2 3,yL 14 13,yP 15 16 [yA 12,yA 14],yX 16 .geq (yV 15) (yK 0),yU 5 16]) (.seq (yQ [yX 18 .eql (yV 7) (yS [115,116,111,114,101,100]),yU 17 18] (.cond (yV 17) (.skip) (yQ [yX 19 .eql (yV 7) (yS [101,110,116,101,114,101,100]),yU 17 19] (.cond (yV 17) (.skip) (yR [yX 20 .eql (yV 7) (yS [108,101,102,116]),yU 17 20]))))) Za8)
def Za9:Zh:=.seq (.block 1 (yQ [yM 33 5,yI 34 (.un .not (yV 33)),yU 32 34] (.cond (yV 32) (yQ [yC 4 (yK 5)] (.ret)) (yQ [yH 36 0 3,yL 37 36,yP 38 65 [yA 37,(.inr (.const (.int .i64 (-1000)))),yB (yK 1000)],yI 39 (.un .not (yV 38)),yM 40 39,yJ 41 (.fa 0 (yV 3)) 40 false,yJ 42 (.ldc (yV 41)) 40 false,yJ 43 (.bin .eql .prim (yV 42) (yK 0)) 40 false,yI 44 (.pick (yV 40) yT (yV 43)),yU 35 44] (.cond (yV 35) (yQ [yC 4 (yK 2)] (.ret)) (.skip)))))) (yQ [yC 4 (yK 0)] (.ret))
def Za7:Zh:=yQ [yI 2 (.box 42 13 (yV 0)),yI 3 (.box 54 3 (yV 1)),yC 4 (yK 0)] (yQ [yC 5 yF] (.seq (yQ [yH 6 1 3,yL 7 6] (.block 0 (.seq (yQ [yX 9 .eql (yV 7) (yS [99,114,101,97,116,101,100]),yU 8 9] (.cond (yV 8) (.skip) (yQ [yX 10 .eql (yV 7) (yS [101,110,100,101,100]),yU 8 10] (.cond (yV 8) (.skip) (yR [yX 11 .eql (yV 7) (yS [105,110,115,105,100,101]),yU 8 11]))))) PR))) Za9))
def K3:AFn:=⟨45,[.tmp 4],Za7,false⟩
def JD:List Nat:=[41,42,43]
def Zl1:Zh:=.cond (yV 32) (yQ [yI 35 (.build [(.bool false),(.bool false),(.bool false),(.bool false),(.bool false),(.bool false),(.bool false),(.bool false),(.bool false)] [(0,1,yT)]),yN (.st 9 (yV 2) (yV 35)),yC 3 yT] (.ret)) (yQ [yX 37 .eql (yV 4) (yK 13),yU 36 37] (.cond (yV 36) (yQ [yI 38 (.build [(.bool false),(.bool false),(.bool false),(.bool false),(.bool false),(.bool false),(.bool false),(.bool false),(.bool false)] [(0,1,yT),(1,1,yT),(2,1,yT),(4,1,yT)]),yN (.st 9 (yV 2) (yV 38)),yC 3 yT] (.ret)) (yQ [yX 40 .eql (yV 4) (yK 14),yU 39 40] (.cond (yV 39) (yQ [yI 41 (.build [(.bool false),(.bool false),(.bool false),(.bool false),(.bool false),(.bool false),(.bool false),(.bool false),(.bool false)] [(0,1,yT),(2,1,yT),(4,1,yT)]),yN (.st 9 (yV 2) (yV 41)),yC 3 yT] (.ret)) (yQ [yX 43 .eql (yV 4) (yK 18),yU 42 43] (.cond (yV 42) (yQ [yI 44 (.build [(.bool false),(.bool false),(.bool false),(.bool false),(.bool false),(.bool false),(.bool false),(.bool false),(.bool false)] []),yN (.st 9 (yV 2) (yV 44)),yC 3 yT] (.ret)) (.skip)))))))
def Zek:Zh:=.cond (yV 5) (yQ [yI 13 (.build [(.bool false),(.bool false),(.bool false),(.bool false),(.bool false),(.bool false),(.bool false),(.bool false),(.bool false)] [(0,1,yT),(2,1,yT)]),yN (.st 9 (yV 2) (yV 13)),yC 3 yT] (.ret)) (yQ [yX 15 .eql (yV 4) (yK 2),yU 14 15] (.cond (yV 14) (yQ [yI 16 (.build [(.bool false),(.bool false),(.bool false),(.bool false),(.bool false),(.bool false),(.bool false),(.bool false),(.bool false)] [(0,1,yT),(1,1,yT),(5,1,yT)]),yN (.st 9 (yV 2) (yV 16)),yC 3 yT] (.ret)) (yQ [yX 18 .eql (yV 4) (yK 3),yU 17 18] (.cond (yV 17) (yQ [yI 19 (.build [(.bool false),(.bool false),(.bool false),(.bool false),(.bool false),(.bool false),(.bool false),(.bool false),(.bool false)] [(2,1,yT),(7,1,yT),(8,1,yT)]),yN (.st 9 (yV 2) (yV 19)),yC 3 yT] (.ret)) (yQ [yX 21 .eql (yV 4) (yK 4),yU 20 21] (.cond (yV 20) (yQ [yI 22 (.build [(.bool false),(.bool false),(.bool false),(.bool false),(.bool false),(.bool false),(.bool false),(.bool false),(.bool false)] [(2,1,yT),(7,1,yT)]),yN (.st 9 (yV 2) (yV 22)),yC 3 yT] (.ret)) (yQ [yX 24 .eql (yV 4) (yK 5),yU 23 24] (.cond (yV 23) (yQ [yI 25 (.build [(.bool false),(.bool false),(.bool false),(.bool false),(.bool false),(.bool false),(.bool false),(.bool false),(.bool false)] [(2,1,yT)]),yN (.st 9 (yV 2) (yV 25)),yC 3 yT] (.ret)) (yQ [yX 27 .eql (yV 4) (yK 6),yU 26 27] (.cond (yV 26) (yQ [yI 28 (.build [(.bool false),(.bool false),(.bool false),(.bool false),(.bool false),(.bool false),(.bool false),(.bool false),(.bool false)] [(0,1,yT),(2,1,yT),(3,1,yT),(6,1,yT)]),yN (.st 9 (yV 2) (yV 28)),yC 3 yT] (.ret)) (yQ [yX 30 .eql (yV 4) (yK 9),yU 29 30] (.cond (yV 29) (yQ [yI 31 (.build [(.bool false),(.bool false),(.bool false),(.bool false),(.bool false),(.bool false),(.bool false),(.bool false),(.bool false)] [(0,1,yT),(1,1,yT)]),yN (.st 9 (yV 2) (yV 31)),yC 3 yT] (.ret)) (.seq (yQ [yX 33 .eql (yV 4) (yK 10),yU 32 33] (.cond (yV 32) (.skip) (yR [yX 34 .eql (yV 4) (yK 11),yU 32 34]))) Zl1)))))))))))))
def Zl2:Zh:=yQ [yI 45 (.build [(.bool false),(.bool false),(.bool false),(.bool false),(.bool false),(.bool false),(.bool false),(.bool false),(.bool false)] []),yN (.st 9 (yV 2) (yV 45)),yC 3 yF] (.ret)
def Zqk:Zh:=yQ [yI 2 (.mk 211 [(.bool false),(.bool false),(.bool false),(.bool false),(.bool false),(.bool false),(.bool false),(.bool false),(.bool false)]),yC 3 yF] (.seq (yQ [yM 4 0] (.block 0 (.seq (yQ [yX 6 .eql (yV 4) (yK 1),yU 5 6] (.cond (yV 5) (.skip) (yQ [yX 7 .eql (yV 4) (yK 7),yU 5 7] (.cond (yV 5) (.skip) (yQ [yX 8 .eql (yV 4) (yK 8),yU 5 8] (.cond (yV 5) (.skip) (yQ [yX 9 .eql (yV 4) (yK 12),yU 5 9] (.cond (yV 5) (.skip) (yQ [yX 10 .eql (yV 4) (yK 15),yU 5 10] (.cond (yV 5) (.skip) (yQ [yX 11 .eql (yV 4) (yK 16),yU 5 11] (.cond (yV 5) (.skip) (yR [yX 12 .eql (yV 4) (yK 17),yU 5 12]))))))))))))) Zek))) Zl2)
def DW:AFn:=⟨46,[.agg 2 9,.tmp 3],Zqk,false⟩
def RB:List Nat:=[]
def Zsk:Zh:=yQ [yI 1 (.box 181 21 (yV 0)),yC 2 yF] (yQ [yH 9 0 1,yL 10 9,yP 11 184 [yA 10],yM 8 11,yI 12 (.extract (yV 8) 0),yI 13 (.extract (yV 8) 1),yI 3 (.mk 211 [(.bool false),(.bool false),(.bool false),(.bool false),(.bool false),(.bool false),(.bool false),(.bool false),(.bool false)]),yN (.st 9 (yV 3) (yV 12)),yU 4 13] (yQ [yH 14 0 3,yL 15 14,yM 16 15,yJ 17 (.fa 1 (yV 1)) 16 false,yJ 18 (.ldc (yV 17)) 16 false,yJ 19 (.bin .eql .prim (yV 18) (yS [])) 16 false,yI 20 (.pick (yV 16) yT (yV 19)),yM 21 20,yJ 22 (.fa 1 (yV 3)) 21 true,yJ 23 (.ldc (yV 22)) 21 true,yJ 24 (.mv (yV 23)) 21 true,yJ 25 (.fa 2 (yV 1)) 24 false,yJ 26 (.ldc (yV 25)) 24 false,yJ 27 (.bin .eql .prim (yV 26) (yS [])) 24 false,yJ 28 (.pick (yV 24) yT (yV 27)) 21 true,yI 29 (.pick (yV 21) (yV 28) yF),yU 5 29] (yQ [yH 30 2 3,yL 31 30,yM 32 31,yJ 33 (.fa 3 (yV 1)) 32 false,yJ 34 (.lda 4 (yV 33)) 32 false,yJ 35 (.call (yG 190) [yA 34]) 32 false,yI 36 (.pick (yV 32) yT (yV 35)),yM 37 36,yJ 38 (.fa 3 (yV 3)) 37 true,yJ 39 (.ldc (yV 38)) 37 true,yJ 40 (.mv (yV 39)) 37 true,yJ 41 (.fa 7 (yV 1)) 40 false,yJ 42 (.lda 4 (yV 41)) 40 false,yJ 43 (.call (yG 190) [yA 42]) 40 false,yJ 44 (.pick (yV 40) yT (yV 43)) 37 true,yI 45 (.pick (yV 37) (yV 44) yF),yM 46 45,yJ 47 (.fa 4 (yV 3)) 46 true,yJ 48 (.ldc (yV 47)) 46 true,yJ 49 (.mv (yV 48)) 46 true,yJ 50 (.fa 11 (yV 1)) 49 false,yJ 51 (.ldc (yV 50)) 49 false,yJ 52 (.len .slice (yV 51)) 49 false,yJ 53 (.bin .eql .prim (yV 52) (yK 0)) 49 false,yJ 54 (.pick (yV 49) yT (yV 53)) 46 true,yI 55 (.pick (yV 46) (yV 54) yF),yU 6 55] (yQ [yH 56 7 3,yL 57 56,yM 58 57,yJ 59 (.fa 19 (yV 1)) 58 false,yJ 60 (.ldc (yV 59)) 58 false,yJ 61 (.len .slice (yV 60)) 58 false,yJ 62 (.bin .eql .prim (yV 61) (yK 0)) 58 false,yI 63 (.pick (yV 58) yT (yV 62)),yM 64 63,yJ 65 (.fa 8 (yV 3)) 64 true,yJ 66 (.ldc (yV 65)) 64 true,yJ 67 (.mv (yV 66)) 64 true,yJ 68 (.fa 20 (yV 1)) 67 false,yJ 69 (.ldc (yV 68)) 67 false,yJ 70 (.len .slice (yV 69)) 67 false,yJ 71 (.bin .eql .prim (yV 70) (yK 0)) 67 false,yJ 72 (.pick (yV 67) yT (yV 71)) 64 true,yI 73 (.pick (yV 64) (yV 72) yF),yU 7 73] (yQ [yM 74 4,yM 75 74,yJ 76 (.mv (yV 5)) 75 true,yI 77 (.pick (yV 75) (yV 76) yF),yM 78 77,yJ 79 (.mv (yV 6)) 78 true,yI 80 (.pick (yV 78) (yV 79) yF),yM 81 80,yJ 82 (.mv (yV 7)) 81 true,yI 83 (.pick (yV 81) (yV 82) yF),yM 84 83,yJ 85 (.fa 5 (yV 3)) 84 true,yJ 86 (.ldc (yV 85)) 84 true,yJ 87 (.mv (yV 86)) 84 true,yJ 88 (.fa 12 (yV 1)) 87 false,yJ 89 (.lda 6 (yV 88)) 87 false,yJ 90 (.build [(.int .i64 0),(.int .i64 0),(.int .i64 0),(.int .i64 0),(.own 1 []),(.own 1 [])] []) 87 false,yJ 91 (.call (yG 148) [yA 89,yA 90]) 87 false,yJ 92 (.pick (yV 87) yT (yV 91)) 84 true,yI 93 (.pick (yV 84) (yV 92) yF),yM 94 93,yJ 95 (.fa 6 (yV 3)) 94 true,yJ 96 (.ldc (yV 95)) 94 true,yJ 97 (.mv (yV 96)) 94 true,yJ 98 (.fa 18 (yV 1)) 97 false,yJ 99 (.ldc (yV 98)) 97 false,yJ 100 (.un .not (yV 99)) 97 false,yJ 101 (.pick (yV 97) yT (yV 100)) 94 true,yI 102 (.pick (yV 94) (yV 101) yF),yU 2 102] (.ret))))))
def Zat:AFn:=⟨103,[.tmp 2],Zsk,false⟩
def Ztf:List Nat:=[17,18,19,22,23,24,25,26,27,28,33,34,35,38,39,40,41,42,43,44,47,48,49,50,51,52,53,54,59,60,61,62,65,66,67,68,69,70,71,72,76,79,82,85,86,87,88,89,90,91,92,95,96,97,98,99,100,101]
def ZaJ:Zh:=.seq (yQ [yM 29 5,yX 30 .eql (yV 29) (yK 0),yM 31 30,yJ 32 (.mv (yV 6)) 31 true,yJ 33 (.fa 11 (yV 2)) 31 true,yJ 34 (.ldc (yV 33)) 31 true,yJ 35 (.len .slice (yV 34)) 31 true,yJ 36 (.bin .lss .prim (yV 32) (yV 35)) 31 true,yI 37 (.pick (yV 31) (yV 36) yF)] (.cond (yV 37) (.skip) (.exit 0))) (.seq (.block 1 (yR [yH 40 11 2,yL 41 40,yM 42 6,yE 43 4 41 42,yD 44 4 43,yP 45 191 [yA 44],yU 5 45])) (yR [yM 38 6,yX 39 .add (yV 38) (yK 1),yU 6 39]))
def ZcM:Zh:=.loop ZaJ
def ZcL:Zh:=yQ [yU 46 5,yU 4 46] (.ret)
def SS:Zh:=.seq (yQ [yC 6 (yK 0)] (.block 0 (ZcM))) ZcL
def SQ:Zh:=.seq (yQ [yM 21 5,yX 22 .eql (yV 21) (yK 0),yM 23 22,yJ 24 (.fa 11 (yV 2)) 23 true,yJ 25 (.ldc (yV 24)) 23 true,yJ 26 (.len .slice (yV 25)) 23 true,yJ 27 (.bin .gtr .prim (yV 26) (yK 6)) 23 true,yI 28 (.pick (yV 23) (yV 27) yF)] (.cond (yV 28) (yR [yC 5 (yK 6)]) (.skip))) SS
def SN:Zh:=.seq (yQ [yM 12 5,yX 13 .eql (yV 12) (yK 0),yM 14 13,yJ 15 (.fa 3 (yV 3)) 14 true,yJ 16 (.ldc (yV 15)) 14 true,yI 17 (.pick (yV 14) (yV 16) yF)] (.cond (yV 17) (yR [yH 18 7 2,yD 19 4 18,yP 20 191 [yA 19],yU 5 20]) (.skip))) SQ
def Zel:Zh:=yQ [yI 2 (.box 181 21 (yV 0)),yI 3 (.box 211 9 (yV 1)),yC 4 (yK 0)] (yQ [yC 5 (yK 0)] (.seq (yQ [yH 7 2 3,yL 8 7] (.cond (yV 8) (yR [yH 9 3 2,yD 10 4 9,yP 11 191 [yA 10],yU 5 11]) (.skip))) SN))
def Vu:AFn:=⟨47,[.tmp 4],Zel,false⟩
def QR:List Nat:=[15,16,24,25,26,27,32,33,34,35,36]
def Zls:Zh:=yQ [yC 4 yF] (yQ [yM 5 0,yL 6 1,yX 7 .lss (yV 5) (yV 6),yM 8 7,yJ 9 (.mv (yV 0)) 8 false,yJ 10 (.ldc (yV 2)) 8 false,yJ 11 (.bin .gtr .prim (yV 9) (yV 10)) 8 false,yI 12 (.pick (yV 8) yT (yV 11)),yU 4 12] (.ret))
def P7:AFn:=⟨13,[.tmp 4],Zls,false⟩
def ZmM:List Nat:=[9,10,11]
def Bi:Zh:=yQ [yC 4 yF] (yQ [yM 5 0,yM 6 1,yP 7 179 [yA 5,yA 6],yX 8 .geq (yV 7) (yK 0),yU 4 8] (.ret))
def Jg:AFn:=⟨9,[.tmp 4],Bi,false⟩
def BA:List Nat:=[]
def Zdh:Zh:=.cond (yV 32) (yQ [yI 35 (.build [(.bool false),(.bool false),(.bool false),(.bool false),(.bool false),(.bool false),(.bool false),(.bool false),(.bool false)] [(0,1,yT)]),yN (.st 9 (yV 2) (yV 35)),yC 3 yT] (.ret)) (yQ [yX 37 .eql (yV 4) (yK 13),yU 36 37] (.cond (yV 36) (yQ [yI 38 (.build [(.bool false),(.bool false),(.bool false),(.bool false),(.bool false),(.bool false),(.bool false),(.bool false),(.bool false)] [(0,1,yT),(1,1,yT),(2,1,yT),(4,1,yT)]),yN (.st 9 (yV 2) (yV 38)),yC 3 yT] (.ret)) (yQ [yX 40 .eql (yV 4) (yK 14),yU 39 40] (.cond (yV 39) (yQ [yI 41 (.build [(.bool false),(.bool false),(.bool false),(.bool false),(.bool false),(.bool false),(.bool false),(.bool false),(.bool false)] [(0,1,yT),(2,1,yT),(4,1,yT)]),yN (.st 9 (yV 2) (yV 41)),yC 3 yT] (.ret)) (yQ [yX 43 .eql (yV 4) (yK 18),yU 42 43] (.cond (yV 42) (yQ [yI 44 (.build [(.bool false),(.bool false),(.bool false),(.bool false),(.bool false),(.bool false),(.bool false),(.bool false),(.bool false)] []),yN (.st 9 (yV 2) (yV 44)),yC 3 yT] (.ret)) (.skip)))))))
def Ed:Zh:=.cond (yV 5) (yQ [yI 13 (.build [(.bool false),(.bool false),(.bool false),(.bool false),(.bool false),(.bool false),(.bool false),(.bool false),(.bool false)] [(0,1,yT),(2,1,yT)]),yN (.st 9 (yV 2) (yV 13)),yC 3 yT] (.ret)) (yQ [yX 15 .eql (yV 4) (yK 2),yU 14 15] (.cond (yV 14) (yQ [yI 16 (.build [(.bool false),(.bool false),(.bool false),(.bool false),(.bool false),(.bool false),(.bool false),(.bool false),(.bool false)] [(0,1,yT),(1,1,yT),(5,1,yT)]),yN (.st 9 (yV 2) (yV 16)),yC 3 yT] (.ret)) (yQ [yX 18 .eql (yV 4) (yK 3),yU 17 18] (.cond (yV 17) (yQ [yI 19 (.build [(.bool false),(.bool false),(.bool false),(.bool false),(.bool false),(.bool false),(.bool false),(.bool false),(.bool false)] [(2,1,yT),(7,1,yT),(8,1,yT)]),yN (.st 9 (yV 2) (yV 19)),yC 3 yT] (.ret)) (yQ [yX 21 .eql (yV 4) (yK 4),yU 20 21] (.cond (yV 20) (yQ [yI 22 (.build [(.bool false),(.bool false),(.bool false),(.bool false),(.bool false),(.bool false),(.bool false),(.bool false),(.bool false)] [(2,1,yT),(7,1,yT)]),yN (.st 9 (yV 2) (yV 22)),yC 3 yT] (.ret)) (yQ [yX 24 .eql (yV 4) (yK 5),yU 23 24] (.cond (yV 23) (yQ [yI 25 (.build [(.bool false),(.bool false),(.bool false),(.bool false),(.bool false),(.bool false),(.bool false),(.bool false),(.bool false)] [(2,1,yT)]),yN (.st 9 (yV 2) (yV 25)),yC 3 yT] (.ret)) (yQ [yX 27 .eql (yV 4) (yK 6),yU 26 27] (.cond (yV 26) (yQ [yI 28 (.build [(.bool false),(.bool false),(.bool false),(.bool false),(.bool false),(.bool false),(.bool false),(.bool false),(.bool false)] [(0,1,yT),(2,1,yT),(3,1,yT),(6,1,yT)]),yN (.st 9 (yV 2) (yV 28)),yC 3 yT] (.ret)) (yQ [yX 30 .eql (yV 4) (yK 9),yU 29 30] (.cond (yV 29) (yQ [yI 31 (.build [(.bool false),(.bool false),(.bool false),(.bool false),(.bool false),(.bool false),(.bool false),(.bool false),(.bool false)] [(0,1,yT),(1,1,yT)]),yN (.st 9 (yV 2) (yV 31)),yC 3 yT] (.ret)) (.seq (yQ [yX 33 .eql (yV 4) (yK 10),yU 32 33] (.cond (yV 32) (.skip) (yR [yX 34 .eql (yV 4) (yK 11),yU 32 34]))) Zdh)))))))))))))
def Zdi:Zh:=yQ [yI 45 (.build [(.bool false),(.bool false),(.bool false),(.bool false),(.bool false),(.bool false),(.bool false),(.bool false),(.bool false)] []),yN (.st 9 (yV 2) (yV 45)),yC 3 yF] (.ret)
def Zeq:Zh:=yQ [yI 2 (.mk 194 [(.bool false),(.bool false),(.bool false),(.bool false),(.bool false),(.bool false),(.bool false),(.bool false),(.bool false)]),yC 3 yF] (.seq (yQ [yM 4 0] (.block 0 (.seq (yQ [yX 6 .eql (yV 4) (yK 1),yU 5 6] (.cond (yV 5) (.skip) (yQ [yX 7 .eql (yV 4) (yK 7),yU 5 7] (.cond (yV 5) (.skip) (yQ [yX 8 .eql (yV 4) (yK 8),yU 5 8] (.cond (yV 5) (.skip) (yQ [yX 9 .eql (yV 4) (yK 12),yU 5 9] (.cond (yV 5) (.skip) (yQ [yX 10 .eql (yV 4) (yK 15),yU 5 10] (.cond (yV 5) (.skip) (yQ [yX 11 .eql (yV 4) (yK 16),yU 5 11] (.cond (yV 5) (.skip) (yR [yX 12 .eql (yV 4) (yK 17),yU 5 12]))))))))))))) Ed))) Zdi)
def Ig:AFn:=⟨46,[.agg 2 9,.tmp 3],Zeq,false⟩
def UQ:List Nat:=[]
def Zud:Zh:=yQ [yI 2 (.box 181 21 (yV 0)),yI 3 (.box 194 9 (yV 1)),yC 4 yF] (yQ [yI 5 (.mv (yG 180))] (yQ [yH 6 0 3,yL 7 6,yM 8 7,yJ 9 (.fa 1 (yV 2)) 8 false,yJ 10 (.ldc (yV 9)) 8 false,yJ 11 (.bin .eql .prim (yV 10) (yS [])) 8 false,yI 12 (.pick (yV 8) yT (yV 11)),yM 13 12,yJ 14 (.fa 1 (yV 3)) 13 true,yJ 15 (.ldc (yV 14)) 13 true,yJ 16 (.mv (yV 15)) 13 true,yJ 17 (.fa 2 (yV 2)) 16 false,yJ 18 (.ldc (yV 17)) 16 false,yJ 19 (.bin .eql .prim (yV 18) (yS [])) 16 false,yJ 20 (.pick (yV 16) yT (yV 19)) 13 true,yI 21 (.pick (yV 13) (yV 20) yF),yM 22 21,yJ 23 (.fa 2 (yV 3)) 22 true,yJ 24 (.ldc (yV 23)) 22 true,yJ 25 (.mv (yV 24)) 22 true,yJ 26 (.mv (yV 5)) 25 false,yJ 27 (.fa 3 (yV 2)) 25 false,yJ 28 (.lda 4 (yV 27)) 25 false,yJ 29 (.call (yV 26) [yA 28]) 25 false,yJ 30 (.pick (yV 25) yT (yV 29)) 22 true,yI 31 (.pick (yV 22) (yV 30) yF),yM 32 31,yJ 33 (.fa 3 (yV 3)) 32 true,yJ 34 (.ldc (yV 33)) 32 true,yJ 35 (.mv (yV 34)) 32 true,yJ 36 (.mv (yV 5)) 35 false,yJ 37 (.fa 7 (yV 2)) 35 false,yJ 38 (.lda 4 (yV 37)) 35 false,yJ 39 (.call (yV 36) [yA 38]) 35 false,yJ 40 (.pick (yV 35) yT (yV 39)) 32 true,yI 41 (.pick (yV 32) (yV 40) yF),yM 42 41,yJ 43 (.fa 4 (yV 3)) 42 true,yJ 44 (.ldc (yV 43)) 42 true,yJ 45 (.mv (yV 44)) 42 true,yJ 46 (.fa 11 (yV 2)) 45 false,yJ 47 (.ldc (yV 46)) 45 false,yJ 48 (.len .slice (yV 47)) 45 false,yJ 49 (.bin .eql .prim (yV 48) (yK 0)) 45 false,yJ 50 (.pick (yV 45) yT (yV 49)) 42 true,yI 51 (.pick (yV 42) (yV 50) yF),yM 52 51,yJ 53 (.fa 5 (yV 3)) 52 true,yJ 54 (.ldc (yV 53)) 52 true,yJ 55 (.mv (yV 54)) 52 true,yJ 56 (.fa 12 (yV 2)) 55 false,yJ 57 (.lda 6 (yV 56)) 55 false,yJ 58 (.build [(.int .i64 0),(.int .i64 0),(.int .i64 0),(.int .i64 0),(.own 1 []),(.own 1 [])] []) 55 false,yJ 59 (.call (yG 127) [yA 57,yA 58]) 55 false,yJ 60 (.pick (yV 55) yT (yV 59)) 52 true,yI 61 (.pick (yV 52) (yV 60) yF),yM 62 61,yJ 63 (.fa 6 (yV 3)) 62 true,yJ 64 (.ldc (yV 63)) 62 true,yJ 65 (.mv (yV 64)) 62 true,yJ 66 (.fa 18 (yV 2)) 65 false,yJ 67 (.ldc (yV 66)) 65 false,yJ 68 (.un .not (yV 67)) 65 false,yJ 69 (.pick (yV 65) yT (yV 68)) 62 true,yI 70 (.pick (yV 62) (yV 69) yF),yM 71 70,yJ 72 (.fa 7 (yV 3)) 71 true,yJ 73 (.ldc (yV 72)) 71 true,yJ 74 (.mv (yV 73)) 71 true,yJ 75 (.fa 19 (yV 2)) 74 false,yJ 76 (.ldc (yV 75)) 74 false,yJ 77 (.len .slice (yV 76)) 74 false,yJ 78 (.bin .eql .prim (yV 77) (yK 0)) 74 false,yJ 79 (.pick (yV 74) yT (yV 78)) 71 true,yI 80 (.pick (yV 71) (yV 79) yF),yM 81 80,yJ 82 (.fa 8 (yV 3)) 81 true,yJ 83 (.ldc (yV 82)) 81 true,yJ 84 (.mv (yV 83)) 81 true,yJ 85 (.fa 20 (yV 2)) 84 false,yJ 86 (.ldc (yV 85)) 84 false,yJ 87 (.len .slice (yV 86)) 84 false,yJ 88 (.bin .eql .prim (yV 87) (yK 0)) 84 false,yJ 89 (.pick (yV 84) yT (yV 88)) 81 true,yI 90 (.pick (yV 81) (yV 89) yF),yU 4 90] (.ret)))
def ZdW:AFn:=⟨91,[.tmp 4],Zud,false⟩
def Zva:List Nat:=[9,10,11,14,15,16,17,18,19,20,23,24,25,26,27,28,29,30,33,34,35,36,37,38,39,40,43,44,45,46,47,48,49,50,53,54,55,56,57,58,59,60,63,64,65,66,67,68,69,72,73,74,75,76,77,78,79,82,83,84,85,86,87,88,89]
def Cn:Zh:=yQ [yX 27 .lss (yV 26) (yV 25)] (.seq (.cond (yV 27) (.skip) (.exit 0)) (.seq (.block 1 (yQ [yE 28 2 24 26,yD 29 2 28,yI 6 (.mk 202 [(.bool false),(.str [])]),yN (.st 2 (yV 6) (yV 29))] (yQ [yH 30 1 6,yL 31 30,yP 32 26 [yA 31],yU 7 32] (yQ [yH 33 0 6,yL 34 33,yM 35 34,yJ 36 (.mv (yV 7)) 35 true,yJ 37 (.bin .neq .prim (yV 36) (yK 0)) 35 true,yI 38 (.pick (yV 35) (yV 37) yF)] (.cond (yV 38) (yQ [yU 39 7,yU 4 39] (.ret)) (.skip)))))) (yR [yX 40 .add (yV 26) (yK 1),yM 26 40])))
def Zbe:Zh:=.loop Cn
def Co:Zh:=yQ [yX 54 .lss (yV 53) (yV 52)] (.seq (.cond (yV 54) (.skip) (.exit 2)) (.seq (.block 3 (yQ [yE 55 5 51 53,yD 56 5 55,yI 9 (.mk 204 [(.bool false),(.int .i64 0),(.str []),(.int .i64 0),(.own 4 [])]),yN (.st 5 (yV 9) (yV 56))] (.seq (yQ [yH 57 0 9,yL 58 57,yI 59 (.un .not (yV 58))] (.cond (yV 59) (.exit 3) (.skip))) (yQ [yH 60 1 9,yD 61 4 60,yP 62 181 [yA 61],yU 10 62] (yQ [yM 63 10,yX 64 .neq (yV 63) (yK 0)] (.cond (yV 64) (yQ [yU 65 10,yU 4 65] (.ret)) (.skip))))))) (yR [yX 66 .add (yV 53) (yK 1),yM 53 66])))
def Zbf:Zh:=.loop Co
def Cq:Zh:=yQ [yX 75 .lss (yV 74) (yV 73)] (.seq (.cond (yV 75) (.skip) (.exit 4)) (.seq (.block 5 (yQ [yE 76 4 72 74,yD 77 4 76,yI 12 (.mk 179 [(.int .i64 0),(.str []),(.int .i64 0),(.own 4 [])]),yN (.st 4 (yV 12) (yV 77))] (yQ [yD 78 4 12,yP 79 181 [yA 78],yU 13 79] (yQ [yM 80 13,yX 81 .neq (yV 80) (yK 0)] (.cond (yV 81) (yQ [yU 82 13,yU 4 82] (.ret)) (.skip)))))) (yR [yX 83 .add (yV 74) (yK 1),yM 74 83])))
def Zbg:Zh:=.loop Cq
def Zbd:Zh:=.seq (yQ [yH 84 5 3,yL 85 84] (.cond (yV 85) (yQ [yH 86 12 2,yD 87 6 86,yP 88 129 [yA 87],yU 4 88] (.ret)) (.skip))) (yQ [yC 4 (yK 0)] (.ret))
def PT:Zh:=.seq (yQ [yH 67 11 2,yL 68 67,yO 69 68,yX 70 .gtr (yV 69) (yK 6)] (.cond (yV 70) (yQ [yC 4 (yK 6)] (.ret)) (.skip))) (.seq (yQ [yH 71 11 2,yL 72 71,yO 73 72,yC 74 (yK 0)] (.block 4 (Zbg))) Zbd)
def PS:Zh:=.seq (yQ [yH 41 2 3,yL 42 41,yH 43 3 2,yD 44 4 43,yI 45 (.build [(.bool false),(.int .i64 0),(.str []),(.int .i64 0),(.own 4 [])] [(0,1,(yV 42)),(1,4,(yV 44))]),yH 46 3 3,yL 47 46,yH 48 7 2,yD 49 4 48,yI 50 (.build [(.bool false),(.int .i64 0),(.str []),(.int .i64 0),(.own 4 [])] [(0,1,(yV 47)),(1,4,(yV 49))]),yI 51 (.lit 204 5 [(yV 45),(yV 50)]),yO 52 51,yC 53 (yK 0)] (.block 2 (Zbf))) PT
def Zbc:Zh:=yQ [yI 2 (.box 181 21 (yV 0)),yI 3 (.box 194 9 (yV 1)),yC 4 (yK 0)] (.seq (yQ [yH 14 0 3,yL 15 14,yH 16 1 2,yL 17 16,yI 18 (.build [(.bool false),(.str [])] [(0,1,(yV 15)),(1,1,(yV 17))]),yH 19 1 3,yL 20 19,yH 21 2 2,yL 22 21,yI 23 (.build [(.bool false),(.str [])] [(0,1,(yV 20)),(1,1,(yV 22))]),yI 24 (.lit 202 2 [(yV 18),(yV 23)]),yO 25 24,yC 26 (yK 0)] (.block 0 (Zbe))) PS)
def Xq:AFn:=⟨89,[.tmp 4],Zbc,false⟩
def WF:List Nat:=[36,37]
def Zn9:Zh:=yQ [yI 2 (.box 95 3 (yV 0)),yC 3 yF] (yQ [yH 4 0 2,yL 5 4,yH 6 2 1,yL 7 6,yX 8 .eql (yV 5) (yV 7),yU 3 8] (.ret))
def SA:AFn:=⟨9,[.tmp 3],Zn9,false⟩
def ZoK:List Nat:=[]
def U7:Zh:=yQ [yC 4 yF] (yQ [yM 5 0,yM 6 1,yP 7 103 [yA 5,yA 6],yX 8 .geq (yV 7) (yK 0),yU 4 8] (.ret))
def Qq:AFn:=⟨9,[.tmp 4],U7,false⟩
def UO:List Nat:=[]
def Zwh:Zh:=yQ [yI 1 (.box 179 4 (yV 0)),yC 2 yF] (yQ [yH 3 0 1,yL 4 3,yX 5 .eql (yV 4) (yK 0),yM 6 5,yJ 7 (.fa 1 (yV 1)) 6 true,yJ 8 (.ldc (yV 7)) 6 true,yJ 9 (.bin .eql .prim (yV 8) (yS [])) 6 true,yI 10 (.pick (yV 6) (yV 9) yF),yM 11 10,yJ 12 (.fa 2 (yV 1)) 11 true,yJ 13 (.ldc (yV 12)) 11 true,yJ 14 (.bin .eql .prim (yV 13) (yK 0)) 11 true,yI 15 (.pick (yV 11) (yV 14) yF),yM 16 15,yJ 17 (.fa 3 (yV 1)) 16 true,yJ 18 (.ldc (yV 17)) 16 true,yJ 19 (.len .slice (yV 18)) 16 true,yJ 20 (.bin .eql .prim (yV 19) (yK 0)) 16 true,yI 21 (.pick (yV 16) (yV 20) yF),yU 2 21] (.ret))
def Zhk:AFn:=⟨22,[.tmp 2],Zwh,false⟩
def ZwH:List Nat:=[7,8,9,12,13,14,17,18,19,20]
def ZtW:Zh:=yQ [yI 1 (.box 179 4 (yV 0)),yC 2 (yK 0)] (yQ [yD 3 4 1,yP 4 193 [yA 3,yB yF],yU 2 4] (.ret))
def ZdP:AFn:=⟨5,[.tmp 2],ZtW,false⟩
def ZuT:List Nat:=[]
def Gs:Zh:=yQ [yX 9 .lss (yV 8) (yV 7)] (.seq (.cond (yV 9) (.skip) (.exit 0)) (.seq (.block 1 (yQ [yM 10 8,yU 5 10] (yQ [yM 11 1,yM 12 0,yM 13 5,yE 14 1 12 13,yL 15 14,yI 16 (.call (yV 11) [yA 15])] (.cond (yV 16) (yQ [yU 17 5,yU 4 17] (.ret)) (.skip))))) (yR [yX 18 .add (yV 8) (yK 1),yM 8 18])))
def GH:Zh:=.loop Gs
def GG:Zh:=yQ [yI 4 (.mv (.const (.int .i64 (-1))))] (.ret)
def Uj:Zh:=yQ [yC 4 (yK 0)] (.seq (yQ [yM 6 0,yO 7 6,yC 8 (yK 0)] (.block 0 (GH))) GG)
def YM:AFn:=⟨19,[.tmp 4],Uj,false⟩
def Yw:List Nat:=[]
def Zqm:Zh:=yQ [yI 1 (.box 179 4 (yV 0)),yC 2 yF] (yQ [yD 3 4 1,yI 4 (.build [(.int .i64 0),(.str []),(.int .i64 0),(.own 4 [])] []),yP 5 177 [yA 3,yA 4],yU 2 5] (.ret))
def AX:AFn:=⟨6,[.tmp 2],Zqm,false⟩
def Zrl:List Nat:=[]
def Zsd:Zh:=yQ [yI 1 (.box 179 4 (yV 0)),yC 2 (yK 0)] (yQ [yI 3 (.build [(.bool false)] []),yD 4 4 1,yP 5 183 [yA 3,yA 4],yU 2 5] (.ret))
def Zam:AFn:=⟨6,[.tmp 2],Zsd,false⟩
def ZsY:List Nat:=[]
def ZtX:Zh:=yQ [yI 2 (.box 179 4 (yV 0)),yC 4 (yK 0)] (.seq (yQ [yD 5 4 2,yP 6 198 [yA 5],yX 7 .gtr (yV 6) (yK 60)] (.cond (yV 7) (yQ [yC 4 (yK 6)] (.ret)) (.skip))) (.seq (yQ [yD 8 4 2,yP 9 199 [yA 8],yX 10 .gtr (yV 9) (yK 12)] (.cond (yV 10) (yQ [yC 4 (yK 11)] (.ret)) (.skip))) (yQ [yD 11 4 2,yM 12 1,yP 13 200 [yA 11,yA 12],yU 4 13] (.ret))))
def ZdQ:AFn:=⟨14,[.tmp 4],ZtX,false⟩
def ZuU:List Nat:=[]
def ZdZ:Zh:=yQ [yI 2 (.box 209 1 (yV 0)),yI 3 (.box 179 4 (yV 1)),yC 4 (yK 0)] (.seq (.block 0 (yQ [yD 6 4 3,yP 7 187 [yA 6],yX 8 .gtr (yV 7) (yK 60),yU 5 8] (.cond (yV 5) (yQ [yC 4 (yK 6)] (.ret)) (yQ [yD 10 4 3,yP 11 188 [yA 10],yX 12 .gtr (yV 11) (yK 12),yU 9 12] (.cond (yV 9) (yQ [yC 4 (yK 11)] (.ret)) (.skip)))))) (yQ [yD 13 1 2,yD 14 4 3,yP 15 189 [yA 13,yA 14],yU 4 15] (.ret)))
def La:AFn:=⟨16,[.tmp 4],ZdZ,false⟩
def Zfq:List Nat:=[]
def ZaG:Zh:=.seq (yQ [yM 5 4,yH 6 3 1,yL 7 6,yO 8 7,yX 9 .lss (yV 5) (yV 8)] (.cond (yV 9) (.skip) (.exit 0))) (.seq (.block 1 (yR [yM 12 3,yH 13 3 1,yL 14 13,yM 15 4,yE 16 4 14 15,yD 17 4 16,yP 18 198 [yA 17],yX 19 .add (yV 12) (yV 18),yU 3 19])) (yR [yM 10 4,yX 11 .add (yV 10) (yK 1),yU 4 11]))
def ZcF:Zh:=.loop ZaG
def ZcE:Zh:=yQ [yU 20 3,yU 2 20] (.ret)
def Zeh:Zh:=yQ [yI 1 (.box 179 4 (yV 0)),yC 2 (yK 0)] (yQ [yC 3 (yK 1)] (.seq (yQ [yC 4 (yK 0)] (.block 0 (ZcF))) ZcE))
def Ia:AFn:=⟨21,[.tmp 2],Zeh,false⟩
def UK:List Nat:=[]
def ZaF:Zh:=.seq (yQ [yM 5 4,yH 6 3 1,yL 7 6,yO 8 7,yX 9 .lss (yV 5) (yV 8)] (.cond (yV 9) (.skip) (.exit 0))) (.seq (.block 1 (yR [yM 12 3,yH 13 3 1,yL 14 13,yM 15 4,yE 16 4 14 15,yD 17 4 16,yP 18 199 [yA 17],yI 19 (.max [(yV 12),(yV 18)]),yU 3 19])) (yR [yM 10 4,yX 11 .add (yV 10) (yK 1),yU 4 11]))
def ZcD:Zh:=.loop ZaF
def ZcC:Zh:=yQ [yM 20 3,yX 21 .add (yV 20) (yK 1),yU 2 21] (.ret)
def Zeg:Zh:=yQ [yI 1 (.box 179 4 (yV 0)),yC 2 (yK 0)] (yQ [yC 3 (yK 0)] (.seq (yQ [yC 4 (yK 0)] (.block 0 (ZcD))) ZcC))
def HZ:AFn:=⟨22,[.tmp 2],Zeg,false⟩
def UJ:List Nat:=[]
def ZcG:Zh:=.seq (yQ [yM 150 10,yH 151 3 2,yL 152 151,yO 153 152,yX 154 .lss (yV 150) (yV 153)] (.cond (yV 154) (.skip) (.exit 0))) (.seq (.block 1 (yQ [yH 157 3 2,yL 158 157,yM 159 10,yE 160 4 158 159,yD 161 4 160,yM 162 1,yP 163 200 [yA 161,yA 162],yU 11 163] (yQ [yM 164 11,yX 165 .neq (yV 164) (yK 0)] (.cond (yV 165) (yQ [yU 166 11,yU 4 166] (.ret)) (.skip))))) (yR [yM 155 10,yX 156 .add (yV 155) (yK 1),yU 10 156]))
def Zf9:Zh:=.loop ZcG
def Zf8:Zh:=yQ [yC 4 (yK 0)] (.ret)
def Zhu:Zh:=yQ [yI 2 (.box 179 4 (yV 0)),yC 4 (yK 0)] (yQ [yH 12 0 2,yL 13 12,yP 14 202 [yA 13],yU 5 14] (yQ [yM 15 5,yX 16 .geq (yV 15) (yK 0),yM 17 16,yJ 18 (.mv (yV 1)) 17 true,yJ 19 (.mv (yV 18)) 17 true,yJ 20 (.fa 0 (yV 2)) 19 true,yJ 21 (.ldc (yV 20)) 19 true,yJ 22 (.bin .neq .prim (yV 21) (yK 3)) 19 true,yJ 23 (.pick (yV 19) (yV 22) yF) 17 true,yJ 24 (.mv (yV 23)) 17 true,yJ 25 (.mv (yV 1)) 24 false,yJ 26 (.un .not (yV 25)) 24 false,yJ 27 (.mv (yV 26)) 24 false,yJ 28 (.fa 0 (yV 2)) 27 true,yJ 29 (.ldc (yV 28)) 27 true,yJ 30 (.bin .leq .prim (yV 29) (yK 24)) 27 true,yJ 31 (.pick (yV 27) (yV 30) yF) 24 false,yJ 32 (.pick (yV 24) yT (yV 31)) 17 true,yI 33 (.pick (yV 17) (yV 32) yF),yU 6 33] (yQ [yM 34 1,yI 35 (.un .not (yV 34)),yM 36 35,yJ 37 (.fa 0 (yV 2)) 36 true,yJ 38 (.ldc (yV 37)) 36 true,yJ 39 (.bin .eql .prim (yV 38) (yK 3)) 36 true,yJ 40 (.mv (yV 39)) 36 true,yJ 41 (.fa 0 (yV 2)) 40 false,yJ 42 (.ldc (yV 41)) 40 false,yJ 43 (.call (yG 203) [yA 42]) 40 false,yJ 44 (.pick (yV 40) yT (yV 43)) 36 true,yI 45 (.pick (yV 36) (yV 44) yF),yU 7 45] (yQ [yM 46 1,yM 47 46,yJ 48 (.fa 0 (yV 2)) 47 true,yJ 49 (.ldc (yV 48)) 47 true,yJ 50 (.call (yG 203) [yA 49]) 47 true,yJ 51 (.mv (yV 50)) 47 true,yJ 52 (.fa 0 (yV 2)) 51 false,yJ 53 (.ldc (yV 52)) 51 false,yJ 54 (.bin .eql .prim (yV 53) (yK 25)) 51 false,yJ 55 (.pick (yV 51) yT (yV 54)) 47 true,yJ 56 (.mv (yV 55)) 47 true,yJ 57 (.fa 0 (yV 2)) 56 false,yJ 58 (.ldc (yV 57)) 56 false,yJ 59 (.bin .eql .prim (yV 58) (yK 26)) 56 false,yJ 60 (.pick (yV 56) yT (yV 59)) 47 true,yI 61 (.pick (yV 47) (yV 60) yF),yU 8 61] (yQ [yH 62 0 2,yL 63 62,yX 64 .eql (yV 63) (yK 1),yM 65 64,yJ 66 (.fa 0 (yV 2)) 65 false,yJ 67 (.ldc (yV 66)) 65 false,yJ 68 (.bin .eql .prim (yV 67) (yK 2)) 65 false,yI 69 (.pick (yV 65) yT (yV 68)),yM 70 69,yJ 71 (.mv (yV 8)) 70 false,yI 72 (.pick (yV 70) yT (yV 71)),yU 9 72] (.seq (yQ [yM 73 6,yI 74 (.un .not (yV 73)),yM 75 74,yJ 76 (.mv (yV 7)) 75 false,yJ 77 (.un .not (yV 76)) 75 false,yJ 78 (.mv (yV 77)) 75 false,yJ 79 (.fa 1 (yV 2)) 78 true,yJ 80 (.ldc (yV 79)) 78 true,yJ 81 (.bin .neq .prim (yV 80) (yS [])) 78 true,yJ 82 (.pick (yV 78) (yV 81) yF) 75 false,yI 83 (.pick (yV 75) yT (yV 82)),yM 84 83,yJ 85 (.mv (yV 9)) 84 false,yJ 86 (.un .not (yV 85)) 84 false,yJ 87 (.mv (yV 86)) 84 false,yJ 88 (.fa 2 (yV 2)) 87 true,yJ 89 (.ldc (yV 88)) 87 true,yJ 90 (.bin .neq .prim (yV 89) (yK 0)) 87 true,yJ 91 (.pick (yV 87) (yV 90) yF) 84 false,yI 92 (.pick (yV 84) yT (yV 91)),yM 93 92,yJ 94 (.fa 3 (yV 2)) 93 false,yJ 95 (.ldc (yV 94)) 93 false,yJ 96 (.len .slice (yV 95)) 93 false,yJ 97 (.mv (yV 5)) 93 false,yJ 98 (.bin .neq .prim (yV 96) (yV 97)) 93 false,yI 99 (.pick (yV 93) yT (yV 98))] (.cond (yV 99) (yQ [yC 4 (yK 1)] (.ret)) (.skip))) (.seq (.seq (.region true [yH 100 0 2,yL 101 100,yX 102 .eql (yV 101) (yK 1),yM 103 102,yJ 104 (.fa 2 (yV 2)) 103 true,yJ 105 (.ldc (yV 104)) 103 true,yJ 106 (.call (yG 139) [yA 105]) 103 true,yJ 107 (.un .not (yV 106)) 103 true,yI 108 (.pick (yV 103) (yV 107) yF),yM 109 108,yJ 110 (.fa 0 (yV 2)) 109 false,yJ 111 (.ldc (yV 110)) 109 false,yJ 112 (.bin .eql .prim (yV 111) (yK 2)) 109 false,yJ 113 (.mv (yV 112)) 109 false,yJ 114 (.fa 2 (yV 2)) 113 true,yJ 115 (.ldc (yV 114)) 113 true,yJ 116 (.bin .neq .prim (yV 115) (yK 0)) 113 true,yJ 117 (.pick (yV 113) (yV 116) yF) 109 false,yJ 118 (.mv (yV 117)) 109 false,yJ 119 (.fa 2 (yV 2)) 118 true,yJ 120 (.ldc (yV 119)) 118 true,yJ 121 (.bin .neq .prim (yV 120) (yK 1)) 118 true,yJ 122 (.pick (yV 118) (yV 121) yF) 109 false,yI 123 (.pick (yV 109) yT (yV 122)),yM 124 123,yJ 125 (.mv (yV 8)) 124 false,yJ 126 (.mv (yV 125)) 124 false,yJ 127 (.fa 2 (yV 2)) 126 true,yJ 128 (.ldc (yV 127)) 126 true,yJ 129 (.bin .lss .prim (yV 128) (yK 0)) 126 true,yJ 130 (.mv (yV 129)) 126 true,yJ 131 (.fa 2 (yV 2)) 130 false,yJ 132 (.ldc (yV 131)) 130 false,yJ 133 (.fa 0 (yV 2)) 130 false,yJ 134 (.ldc (yV 133)) 130 false,yJ 135 (.call (yG 204) [yA 134]) 130 false,yJ 136 (.bin .gtr .prim (yV 132) (yV 135)) 130 false,yJ 137 (.pick (yV 130) yT (yV 136)) 126 true,yJ 138 (.pick (yV 126) (yV 137) yF) 124 false,yI 139 (.pick (yV 124) yT (yV 138))]) (.cond (yV 139) (yQ [yC 4 (yK 2)] (.ret)) (.skip))) (.seq (yQ [yM 140 7,yM 141 140,yJ 142 (.fa 1 (yV 2)) 141 true,yJ 143 (.ldc (yV 142)) 141 true,yJ 144 (.call (yG 34) [yA 143]) 141 true,yJ 145 (.bin .neq .prim (yV 144) (yK 0)) 141 true,yI 146 (.pick (yV 141) (yV 145) yF)] (.cond (yV 146) (yQ [yH 147 1 2,yL 148 147,yP 149 34 [yA 148],yU 4 149] (.ret)) (.skip))) (.seq (yQ [yC 10 (yK 0)] (.block 0 (Zf9))) Zf8)))))))))
def T9:AFn:=⟨167,[.tmp 4],Zhu,false⟩
def GR:List Nat:=[18,19,20,21,22,23,24,25,26,27,28,29,30,31,32,37,38,39,40,41,42,43,44,48,49,50,51,52,53,54,55,56,57,58,59,60,66,67,68,71,76,77,78,79,80,81,82,85,86,87,88,89,90,91,94,95,96,97,98,104,105,106,107,110,111,112,113,114,115,116,117,118,119,120,121,122,125,126,127,128,129,130,131,132,133,134,135,136,137,138,142,143,144,145]
def FU:Zh:=yQ [yX 10 .lss (yV 9) (yV 8)] (.seq (.cond (yV 10) (.skip) (.exit 0)) (.seq (.block 1 (yQ [yE 11 4 7 9,yD 12 4 11,yI 5 (.mk 179 [(.int .i64 0),(.str []),(.int .i64 0),(.own 4 [])]),yN (.st 4 (yV 5) (yV 12))] (yR [yM 13 3,yD 14 4 5,yP 15 187 [yA 14],yX 16 .add (yV 13) (yV 15),yU 3 16]))) (yR [yX 17 .add (yV 9) (yK 1),yM 9 17])))
def Za5:Zh:=.loop FU
def Za4:Zh:=yQ [yU 18 3,yU 2 18] (.ret)
def Za3:Zh:=yQ [yI 1 (.box 179 4 (yV 0)),yC 2 (yK 0)] (yQ [yC 3 (yK 1)] (.seq (yQ [yH 6 3 1,yL 7 6,yO 8 7,yC 9 (yK 0)] (.block 0 (Za5))) Za4))
def Kz:AFn:=⟨19,[.tmp 2],Za3,false⟩
def JC:List Nat:=[]
def FT:Zh:=yQ [yX 10 .lss (yV 9) (yV 8)] (.seq (.cond (yV 10) (.skip) (.exit 0)) (.seq (.block 1 (yQ [yE 11 4 7 9,yD 12 4 11,yI 5 (.mk 179 [(.int .i64 0),(.str []),(.int .i64 0),(.own 4 [])]),yN (.st 4 (yV 5) (yV 12))] (yR [yM 13 3,yD 14 4 5,yP 15 188 [yA 14],yI 16 (.max [(yV 13),(yV 15)]),yU 3 16]))) (yR [yX 17 .add (yV 9) (yK 1),yM 9 17])))
def Za2:Zh:=.loop FT
def Za1:Zh:=yQ [yM 18 3,yX 19 .add (yV 18) (yK 1),yU 2 19] (.ret)
def Za0:Zh:=yQ [yI 1 (.box 179 4 (yV 0)),yC 2 (yK 0)] (yQ [yC 3 (yK 0)] (.seq (yQ [yH 6 3 1,yL 7 6,yO 8 7,yC 9 (yK 0)] (.block 0 (Za2))) Za1))
def Ky:AFn:=⟨20,[.tmp 2],Za0,false⟩
def JB:List Nat:=[]
def LZ:Zh:=yQ [yX 19 .lss (yV 18) (yV 17)] (.seq (.cond (yV 19) (.skip) (.exit 0)) (.seq (.block 1 (yQ [yE 20 4 16 18,yD 21 4 20,yI 7 (.mk 179 [(.int .i64 0),(.str []),(.int .i64 0),(.own 4 [])]),yN (.st 4 (yV 7) (yV 21))] (yQ [yD 22 1 2,yD 23 4 7,yP 24 189 [yA 22,yA 23],yU 8 24] (yQ [yM 25 8,yX 26 .neq (yV 25) (yK 0)] (.cond (yV 26) (yQ [yU 27 8,yU 4 27] (.ret)) (.skip)))))) (yR [yX 28 .add (yV 18) (yK 1),yM 18 28])))
def RX:Zh:=.loop LZ
def RV:Zh:=yQ [yC 4 (yK 0)] (.ret)
def Le:Zh:=yQ [yI 2 (.box 209 1 (yV 0)),yI 3 (.box 179 4 (yV 1)),yC 4 (yK 0)] (.seq (yQ [yD 9 1 2,yD 10 4 3,yP 11 192 [yA 9,yA 10],yU 5 11] (yQ [yM 12 5,yX 13 .neq (yV 12) (yK 0)] (.cond (yV 13) (yQ [yU 14 5,yU 4 14] (.ret)) (.skip)))) (.seq (yQ [yH 15 3 3,yL 16 15,yO 17 16,yC 18 (yK 0)] (.block 0 (RX))) RV))
def Xv:AFn:=⟨29,[.tmp 4],Le,false⟩
def Qt:List Nat:=[]
def ZtV:Zh:=yQ [yC 2 (yK 0)] (.seq (.block 0 (yQ [yM 4 0,yX 5 .lss (yV 4) (yK 1),yM 6 5,yJ 7 (.mv (yV 0)) 6 false,yJ 8 (.bin .gtr .prim (yV 7) (yK 26)) 6 false,yI 9 (.pick (yV 6) yT (yV 8)),yU 3 9] (.cond (yV 3) (yQ [yI 2 (.mv (.const (.int .i64 (-1))))] (.ret)) (yQ [yM 11 0,yX 12 .geq (yV 11) (yK 5),yM 13 12,yJ 14 (.mv (yV 0)) 13 true,yJ 15 (.bin .leq .prim (yV 14) (yK 8)) 13 true,yI 16 (.pick (yV 13) (yV 15) yF),yU 10 16] (.cond (yV 10) (yQ [yC 2 (yK 1)] (.ret)) (yQ [yM 18 0,yX 19 .geq (yV 18) (yK 9),yM 20 19,yJ 21 (.mv (yV 0)) 20 true,yJ 22 (.bin .leq .prim (yV 21) (yK 21)) 20 true,yI 23 (.pick (yV 20) (yV 22) yF),yU 17 23] (.cond (yV 17) (yQ [yC 2 (yK 2)] (.ret)) (.skip)))))))) (yQ [yC 2 (yK 0)] (.ret)))
def ZdO:AFn:=⟨24,[.tmp 2],ZtV,false⟩
def ZuS:List Nat:=[7,8,14,15,21,22]
def Zsj:Zh:=yQ [yC 2 yF] (yQ [yM 3 0,yX 4 .geq (yV 3) (yK 22),yM 5 4,yJ 6 (.mv (yV 0)) 5 true,yJ 7 (.bin .leq .prim (yV 6) (yK 24)) 5 true,yI 8 (.pick (yV 5) (yV 7) yF),yU 2 8] (.ret))
def Zas:AFn:=⟨9,[.tmp 2],Zsj,false⟩
def Zte:List Nat:=[6,7]
def Zwg:Zh:=yQ [yC 2 (yK 0)] (.seq (yQ [yM 3 0] (.block 0 (yQ [yX 5 .eql (yV 3) (yK 25),yU 4 5] (.cond (yV 4) (yQ [yC 2 (yK 15)] (.ret)) (yQ [yX 7 .eql (yV 3) (yK 26),yU 6 7] (.cond (yV 6) (yQ [yC 2 (yK 31)] (.ret)) (.skip))))))) (yQ [yC 2 (yK 63)] (.ret)))
def Zhj:AFn:=⟨8,[.tmp 2],Zwg,false⟩
def ZwG:List Nat:=[]
def Zf5:Zh:=yQ [yI 2 (.box 209 1 (yV 0)),yI 3 (.box 179 4 (yV 1)),yC 4 (yK 0)] (.seq (.seq (.region true [yD 8 1 2,yH 9 0 3,yL 10 9,yP 11 194 [yA 8,yA 10],yI 12 (.un .not (yV 11)),yM 13 12,yJ 14 (.fa 3 (yV 3)) 13 false,yJ 15 (.ldc (yV 14)) 13 false,yJ 16 (.len .slice (yV 15)) 13 false,yJ 17 (.fa 0 (yV 3)) 13 false,yJ 18 (.ldc (yV 17)) 13 false,yJ 19 (.call (yG 195) [yA 18]) 13 false,yJ 20 (.bin .neq .prim (yV 16) (yV 19)) 13 false,yI 21 (.pick (yV 13) yT (yV 20)),yM 22 21,yJ 23 (.fa 1 (yV 3)) 22 false,yJ 24 (.ldc (yV 23)) 22 false,yJ 25 (.bin .neq .prim (yV 24) (yS [])) 22 false,yJ 26 (.mv (yV 25)) 22 false,yJ 27 (.lda 1 (yV 2)) 26 true,yJ 28 (.fa 0 (yV 3)) 26 true,yJ 29 (.ldc (yV 28)) 26 true,yJ 30 (.call (yG 196) [yA 27,yA 29]) 26 true,yJ 31 (.un .not (yV 30)) 26 true,yJ 32 (.pick (yV 26) (yV 31) yF) 22 false,yI 33 (.pick (yV 22) yT (yV 32))]) (.cond (yV 33) (yQ [yC 4 (yK 1)] (.ret)) (.skip))) (.seq (yQ [yH 34 0 3,yL 35 34,yX 36 .eql (yV 35) (yK 1)] (.cond (yV 36) (.seq (yQ [yH 37 2 3,yL 38 37,yP 39 137 [yA 38],yI 40 (.un .not (yV 39))] (.cond (yV 40) (yQ [yC 4 (yK 2)] (.ret)) (.skip))) (yQ [yC 4 (yK 0)] (.ret))) (.skip))) (yQ [yD 42 1 2,yH 43 0 3,yL 44 43,yP 45 197 [yA 42,yA 44],yM 41 45,yI 46 (.extract (yV 41) 0),yI 47 (.extract (yV 41) 1),yI 48 (.extract (yV 41) 2),yU 5 46,yU 6 47,yU 7 48] (.seq (.block 0 (yQ [yM 50 7,yI 51 (.un .not (yV 50)),yM 52 51,yJ 53 (.fa 2 (yV 3)) 52 true,yJ 54 (.ldc (yV 53)) 52 true,yJ 55 (.bin .neq .prim (yV 54) (yK 0)) 52 true,yI 56 (.pick (yV 52) (yV 55) yF),yU 49 56] (.cond (yV 49) (yQ [yC 4 (yK 1)] (.ret)) (yQ [yM 58 7,yM 59 58,yJ 60 (.fa 2 (yV 3)) 59 true,yJ 61 (.ldc (yV 60)) 59 true,yJ 62 (.mv (yV 5)) 59 true,yJ 63 (.bin .lss .prim (yV 61) (yV 62)) 59 true,yJ 64 (.mv (yV 63)) 59 true,yJ 65 (.fa 2 (yV 3)) 64 false,yJ 66 (.ldc (yV 65)) 64 false,yJ 67 (.mv (yV 6)) 64 false,yJ 68 (.bin .gtr .prim (yV 66) (yV 67)) 64 false,yJ 69 (.pick (yV 64) yT (yV 68)) 59 true,yI 70 (.pick (yV 59) (yV 69) yF),yU 57 70] (.cond (yV 57) (yQ [yC 4 (yK 2)] (.ret)) (yQ [yD 72 1 2,yH 73 0 3,yL 74 73,yP 75 196 [yA 72,yA 74],yU 71 75] (.cond (yV 71) (yQ [yH 76 1 3,yL 77 76,yP 78 26 [yA 77],yU 4 78] (.ret)) (.skip)))))))) (yQ [yC 4 (yK 0)] (.ret))))))
def LX:AFn:=⟨79,[.tmp 4],Zf5,false⟩
def ZgV:List Nat:=[14,15,16,17,18,19,20,23,24,25,26,27,28,29,30,31,32,53,54,55,60,61,62,63,64,65,66,67,68,69]
def Zea:Zh:=yQ [yI 2 (.box 209 1 (yV 0)),yC 4 yF] (.seq (yQ [yM 5 1] (.block 0 (yQ [yX 7 .eql (yV 5) (yK 3),yU 6 7] (.cond (yV 6) (yQ [yH 8 0 2,yL 9 8,yI 10 (.un .not (yV 9)),yU 4 10] (.ret)) (.seq (yQ [yX 12 .eql (yV 5) (yK 25),yU 11 12] (.cond (yV 11) (.skip) (yR [yX 13 .eql (yV 5) (yK 26),yU 11 13]))) (.cond (yV 11) (yQ [yH 14 0 2,yL 15 14,yU 4 15] (.ret)) (.skip))))))) (yQ [yM 16 1,yP 17 195 [yA 16],yX 18 .geq (yV 17) (yK 0),yU 4 18] (.ret)))
def Lb:AFn:=⟨19,[.tmp 4],Zea,false⟩
def Zfr:List Nat:=[]
def ZtT:Zh:=yQ [yC 2 (yK 0)] (.seq (.block 0 (yQ [yM 4 0,yX 5 .eql (yV 4) (yK 1),yM 6 5,yJ 7 (.mv (yV 0)) 6 false,yJ 8 (.bin .eql .prim (yV 7) (yK 2)) 6 false,yI 9 (.pick (yV 6) yT (yV 8)),yM 10 9,yJ 11 (.mv (yV 0)) 10 false,yJ 12 (.bin .eql .prim (yV 11) (yK 3)) 10 false,yI 13 (.pick (yV 10) yT (yV 12)),yM 14 13,yJ 15 (.mv (yV 0)) 14 false,yJ 16 (.bin .eql .prim (yV 15) (yK 4)) 14 false,yI 17 (.pick (yV 14) yT (yV 16)),yU 3 17] (.cond (yV 3) (yQ [yC 2 (yK 0)] (.ret)) (yQ [yM 19 0,yX 20 .geq (yV 19) (yK 5),yM 21 20,yJ 22 (.mv (yV 0)) 21 true,yJ 23 (.bin .leq .prim (yV 22) (yK 8)) 21 true,yI 24 (.pick (yV 21) (yV 23) yF),yU 18 24] (.cond (yV 18) (yQ [yC 2 (yK 1)] (.ret)) (yQ [yM 26 0,yX 27 .geq (yV 26) (yK 9),yM 28 27,yJ 29 (.mv (yV 0)) 28 true,yJ 30 (.bin .leq .prim (yV 29) (yK 21)) 28 true,yI 31 (.pick (yV 28) (yV 30) yF),yU 25 31] (.cond (yV 25) (yQ [yC 2 (yK 2)] (.ret)) (yQ [yM 33 0,yX 34 .geq (yV 33) (yK 22),yM 35 34,yJ 36 (.mv (yV 0)) 35 true,yJ 37 (.bin .leq .prim (yV 36) (yK 26)) 35 true,yI 38 (.pick (yV 35) (yV 37) yF),yU 32 38] (.cond (yV 32) (yQ [yC 2 (yK 0)] (.ret)) (.skip)))))))))) (yQ [yI 2 (.mv (.const (.int .i64 (-1))))] (.ret)))
def ZdM:AFn:=⟨39,[.tmp 2],ZtT,false⟩
def ZuQ:List Nat:=[7,8,11,12,15,16,22,23,29,30,36,37]
def Zeb:Zh:=yQ [yI 2 (.box 209 1 (yV 0)),yC 4 yF] (yQ [yM 5 1,yX 6 .eql (yV 5) (yK 3),yM 7 6,yJ 8 (.mv (yV 1)) 7 false,yJ 9 (.call (yG 201) [yA 8]) 7 false,yJ 10 (.mv (yV 9)) 7 false,yJ 11 (.fa 0 (yV 2)) 10 true,yJ 12 (.ldc (yV 11)) 10 true,yJ 13 (.un .not (yV 12)) 10 true,yJ 14 (.pick (yV 10) (yV 13) yF) 7 false,yI 15 (.pick (yV 7) yT (yV 14)),yU 4 15] (.ret))
def Lc:AFn:=⟨16,[.tmp 4],Zeb,false⟩
def Zfs:List Nat:=[8,9,10,11,12,13,14]
def Zax:Zh:=yQ [yI 2 (.box 209 1 (yV 0)),yC 4 (yK 0),yC 5 (yK 0),yC 6 yF] (.seq (.block 0 (yQ [yM 8 1,yX 9 .eql (yV 8) (yK 2),yU 7 9] (.cond (yV 7) (yQ [yC 4 (yK 0),yC 5 (yK 1),yC 6 yT] (.ret)) (yQ [yM 11 1,yX 12 .eql (yV 11) (yK 25),yU 10 12] (.cond (yV 10) (yQ [yC 4 (yK 0),yC 5 (yK 15),yC 6 yT] (.ret)) (yQ [yM 14 1,yX 15 .eql (yV 14) (yK 26),yU 13 15] (.cond (yV 13) (yQ [yC 4 (yK 0),yC 5 (yK 31),yC 6 yT] (.ret)) (yQ [yM 17 1,yP 18 201 [yA 17],yM 19 18,yJ 20 (.fa 0 (yV 2)) 19 true,yJ 21 (.ldc (yV 20)) 19 true,yI 22 (.pick (yV 19) (yV 21) yF),yU 16 22] (.cond (yV 16) (yQ [yC 4 (yK 0),yC 5 (yK 63),yC 6 yT] (.ret)) (.skip)))))))))) (yQ [yC 4 (yK 0),yC 5 (yK 0),yC 6 yF] (.ret)))
def OI:AFn:=⟨23,[.tmp 4,.tmp 5,.tmp 6],Zax,false⟩
def ZbO:List Nat:=[20,21]
def Zqd:Zh:=yQ [yC 2 yF] (yQ [yM 3 0,yX 4 .geq (yV 3) (yK 22),yM 5 4,yJ 6 (.mv (yV 0)) 5 true,yJ 7 (.bin .leq .prim (yV 6) (yK 24)) 5 true,yI 8 (.pick (yV 5) (yV 7) yF),yU 2 8] (.ret))
def AJ:AFn:=⟨9,[.tmp 2],Zqd,false⟩
def Zre:List Nat:=[6,7]
def tab:List (Nat×AFn):=[(3,Ld),(8,XD),(10,AL),(11,Je),(14,Zan),(15,TB),(16,P9),(17,AU),(19,TA),(22,Qb),(26,Uh),(27,Oh),(29,P8),(28,WJ),(32,AP),(34,HY),(35,Zau),(33,ZdT),(36,ZdV),(37,ZdU),(38,X5),(39,Jf),(43,Sl),(42,ZF),(45,Bd),(44,ZT),(46,Tz),(54,SC),(55,PK),(57,OL),(56,Qj),(30,OJ),(31,Zaq),(90,PD),(89,Qv),(91,Zar),(92,AR),(93,ZdS),(94,Zhl),(95,SG),(96,Ie),(97,LY),(98,Zav),(103,ZA),(107,Y6),(125,AO),(126,Zao),(58,Sn),(61,Sq),(62,Sr),(68,Su),(71,Sv),(74,Sw),(75,Sy),(76,Sz),(77,S9),(78,PE),(79,PG),(83,PH),(87,PI),(60,Uf),(65,SB),(138,SE),(139,ZpX),(140,SH),(141,Ui),(142,Lt),(127,ZdL),(146,WX),(148,Zhi),(137,ZpW),(59,QO),(64,Du),(63,Y5),(70,Dv),(69,Wy),(73,Dw),(72,WI),(81,Be),(80,WQ),(85,Bf),(84,Qi),(88,Zap),(159,Jv),(160,ZdN),(161,ZdR),(164,Ju),(66,QP),(67,Dr),(82,VC),(86,Ug),(133,Sm),(132,QA),(171,Ho),(172,AQ),(173,HV),(174,Ib),(175,Ic),(176,Ko),(177,H9),(128,VD),(129,Zal),(130,Z8),(131,Zaw),(135,Dt),(134,Qw),(182,Zlj),(151,Kw),(152,AC),(154,K4),(155,K5),(156,K6),(136,K3),(184,DW),(185,Zat),(186,Vu),(167,P7),(166,Jg),(168,Ig),(169,ZdW),(170,Xq),(158,SA),(157,Qq),(190,Zhk),(191,ZdP),(179,YM),(180,AX),(181,Zam),(193,ZdQ),(183,La),(198,Ia),(199,HZ),(200,T9),(187,Kz),(188,Ky),(189,Xv),(202,ZdO),(203,Zas),(204,Zhj),(192,LX),(194,Lb),(195,ZdM),(196,Lc),(197,OI),(201,AJ)]
theorem Z0N:∀ p ∈ tab,∃ fn takes,Tryz.prog.funcs[p.1]? = some fn∧(fn.name == "runtime.NumGoroutine")=false∧cFn Tryz.prog takes fn=some p.2:=by
  intro p hp
  simp only [tab,List.mem_cons,List.not_mem_nil,or_false] at hp
  rcases hp with rfl | rfl | rfl | rfl | rfl | rfl | rfl | rfl | rfl | rfl | rfl | rfl | rfl | rfl | rfl | rfl | rfl | rfl | rfl | rfl | rfl | rfl | rfl | rfl | rfl | rfl | rfl | rfl | rfl | rfl | rfl | rfl | rfl | rfl | rfl | rfl | rfl | rfl | rfl | rfl | rfl | rfl | rfl | rfl | rfl | rfl | rfl | rfl | rfl | rfl | rfl | rfl | rfl | rfl | rfl | rfl | rfl | rfl | rfl | rfl | rfl | rfl | rfl | rfl | rfl | rfl | rfl | rfl | rfl | rfl | rfl | rfl | rfl | rfl | rfl | rfl | rfl | rfl | rfl | rfl | rfl | rfl | rfl | rfl | rfl | rfl | rfl | rfl | rfl | rfl | rfl | rfl | rfl | rfl | rfl | rfl | rfl | rfl | rfl | rfl | rfl | rfl | rfl | rfl | rfl | rfl | rfl | rfl | rfl | rfl | rfl | rfl | rfl | rfl | rfl | rfl | rfl | rfl | rfl | rfl | rfl | rfl | rfl | rfl | rfl | rfl | rfl | rfl | rfl | rfl | rfl | rfl | rfl | rfl | rfl | rfl | rfl | rfl | rfl | rfl | rfl | rfl | rfl | rfl | rfl
  · exact ⟨_,takes,Tryz.func3,by kernel_rfl,by kernel_rfl⟩
  · exact ⟨_,takes,Tryz.func8,by kernel_rfl,by kernel_rfl⟩
  · exact ⟨_,takes,Tryz.func10,by kernel_rfl,by kernel_rfl⟩
  · exact ⟨_,takes,Tryz.func11,by kernel_rfl,by kernel_rfl⟩
  · exact ⟨_,takes,Tryz.func14,by kernel_rfl,by kernel_rfl⟩
  · exact ⟨_,takes,Tryz.func15,by kernel_rfl,by kernel_rfl⟩
  · exact ⟨_,takes,Tryz.func16,by kernel_rfl,by kernel_rfl⟩
  · exact ⟨_,takes,Tryz.func17,by kernel_rfl,by kernel_rfl⟩
  · exact ⟨_,takes,Tryz.func19,by kernel_rfl,by kernel_rfl⟩
  · exact ⟨_,takes,Tryz.func22,by kernel_rfl,by kernel_rfl⟩
  · exact ⟨_,takes,Tryz.func26,by kernel_rfl,by kernel_rfl⟩
  · exact ⟨_,takes,Tryz.func27,by kernel_rfl,by kernel_rfl⟩
  · exact ⟨_,takes,Tryz.func29,by kernel_rfl,by kernel_rfl⟩
  · exact ⟨_,takes,Tryz.func28,by kernel_rfl,by kernel_rfl⟩
  · exact ⟨_,takes,Tryz.func32,by kernel_rfl,by kernel_rfl⟩
  · exact ⟨_,takes,Tryz.func34,by kernel_rfl,by kernel_rfl⟩
  · exact ⟨_,takes,Tryz.func35,by kernel_rfl,by kernel_rfl⟩
  · exact ⟨_,takes,Tryz.func33,by kernel_rfl,by kernel_rfl⟩
  · exact ⟨_,takes,Tryz.func36,by kernel_rfl,by kernel_rfl⟩
  · exact ⟨_,takes,Tryz.func37,by kernel_rfl,by kernel_rfl⟩
  · exact ⟨_,takes,Tryz.func38,by kernel_rfl,by kernel_rfl⟩
  · exact ⟨_,takes,Tryz.func39,by kernel_rfl,by kernel_rfl⟩
  · exact ⟨_,takes,Tryz.func43,by kernel_rfl,by kernel_rfl⟩
  · exact ⟨_,takes,Tryz.func42,by kernel_rfl,by kernel_rfl⟩
  · exact ⟨_,takes,Tryz.func45,by kernel_rfl,by kernel_rfl⟩
  · exact ⟨_,takes,Tryz.func44,by kernel_rfl,by kernel_rfl⟩
  · exact ⟨_,takes,Tryz.func46,by kernel_rfl,by kernel_rfl⟩
  · exact ⟨_,takes,Tryz.func54,by kernel_rfl,by kernel_rfl⟩
  · exact ⟨_,takes,Tryz.func55,by kernel_rfl,by kernel_rfl⟩
  · exact ⟨_,takes,Tryz.func57,by kernel_rfl,by kernel_rfl⟩
  · exact ⟨_,takes,Tryz.func56,by kernel_rfl,by kernel_rfl⟩
  · exact ⟨_,takes,Tryz.func30,by kernel_rfl,by kernel_rfl⟩
  · exact ⟨_,takes,Tryz.func31,by kernel_rfl,by kernel_rfl⟩
  · exact ⟨_,takes,Tryz.func90,by kernel_rfl,by kernel_rfl⟩
  · exact ⟨_,takes,Tryz.func89,by kernel_rfl,by kernel_rfl⟩
  · exact ⟨_,takes,Tryz.func91,by kernel_rfl,by kernel_rfl⟩
  · exact ⟨_,takes,Tryz.func92,by kernel_rfl,by kernel_rfl⟩
  · exact ⟨_,takes,Tryz.func93,by kernel_rfl,by kernel_rfl⟩
  · exact ⟨_,takes,Tryz.func94,by kernel_rfl,by kernel_rfl⟩
  · exact ⟨_,takes,Tryz.func95,by kernel_rfl,by kernel_rfl⟩
  · exact ⟨_,takes,Tryz.func96,by kernel_rfl,by kernel_rfl⟩
  · exact ⟨_,takes,Tryz.func97,by kernel_rfl,by kernel_rfl⟩
  · exact ⟨_,takes,Tryz.func98,by kernel_rfl,by kernel_rfl⟩
  · exact ⟨_,takes,Tryz.func103,by kernel_rfl,by kernel_rfl⟩
  · exact ⟨_,takes,Tryz.func107,by kernel_rfl,by kernel_rfl⟩
  · exact ⟨_,takes,Tryz.func125,by kernel_rfl,by kernel_rfl⟩
  · exact ⟨_,takes,Tryz.func126,by kernel_rfl,by kernel_rfl⟩
  · exact ⟨_,takes,Tryz.func58,by kernel_rfl,by kernel_rfl⟩
  · exact ⟨_,takes,Tryz.func61,by kernel_rfl,by kernel_rfl⟩
  · exact ⟨_,takes,Tryz.func62,by kernel_rfl,by kernel_rfl⟩
  · exact ⟨_,takes,Tryz.func68,by kernel_rfl,by kernel_rfl⟩
  · exact ⟨_,takes,Tryz.func71,by kernel_rfl,by kernel_rfl⟩
  · exact ⟨_,takes,Tryz.func74,by kernel_rfl,by kernel_rfl⟩
  · exact ⟨_,takes,Tryz.func75,by kernel_rfl,by kernel_rfl⟩
  · exact ⟨_,takes,Tryz.func76,by kernel_rfl,by kernel_rfl⟩
  · exact ⟨_,takes,Tryz.func77,by kernel_rfl,by kernel_rfl⟩
  · exact ⟨_,takes,Tryz.func78,by kernel_rfl,by kernel_rfl⟩
  · exact ⟨_,takes,Tryz.func79,by kernel_rfl,by kernel_rfl⟩
  · exact ⟨_,takes,Tryz.func83,by kernel_rfl,by kernel_rfl⟩
  · exact ⟨_,takes,Tryz.func87,by kernel_rfl,by kernel_rfl⟩
  · exact ⟨_,takes,Tryz.func60,by kernel_rfl,by kernel_rfl⟩
  · exact ⟨_,takes,Tryz.func65,by kernel_rfl,by kernel_rfl⟩
  · exact ⟨_,takes,Tryz.func138,by kernel_rfl,by kernel_rfl⟩
  · exact ⟨_,takes,Tryz.func139,by kernel_rfl,by kernel_rfl⟩
  · exact ⟨_,takes,Tryz.func140,by kernel_rfl,by kernel_rfl⟩
  · exact ⟨_,takes,Tryz.func141,by kernel_rfl,by kernel_rfl⟩
  · exact ⟨_,takes,Tryz.func142,by kernel_rfl,by kernel_rfl⟩
  · exact ⟨_,takes,Tryz.func127,by kernel_rfl,by kernel_rfl⟩
  · exact ⟨_,takes,Tryz.func146,by kernel_rfl,by kernel_rfl⟩
  · exact ⟨_,takes,Tryz.func148,by kernel_rfl,by kernel_rfl⟩
  · exact ⟨_,takes,Tryz.func137,by kernel_rfl,by kernel_rfl⟩
  · exact ⟨_,takes,Tryz.func59,by kernel_rfl,by kernel_rfl⟩
  · exact ⟨_,takes,Tryz.func64,by kernel_rfl,by kernel_rfl⟩
  · exact ⟨_,takes,Tryz.func63,by kernel_rfl,by kernel_rfl⟩
  · exact ⟨_,takes,Tryz.func70,by kernel_rfl,by kernel_rfl⟩
  · exact ⟨_,takes,Tryz.func69,by kernel_rfl,by kernel_rfl⟩
  · exact ⟨_,takes,Tryz.func73,by kernel_rfl,by kernel_rfl⟩
  · exact ⟨_,takes,Tryz.func72,by kernel_rfl,by kernel_rfl⟩
  · exact ⟨_,takes,Tryz.func81,by kernel_rfl,by kernel_rfl⟩
  · exact ⟨_,takes,Tryz.func80,by kernel_rfl,by kernel_rfl⟩
  · exact ⟨_,takes,Tryz.func85,by kernel_rfl,by kernel_rfl⟩
  · exact ⟨_,takes,Tryz.func84,by kernel_rfl,by kernel_rfl⟩
  · exact ⟨_,takes,Tryz.func88,by kernel_rfl,by kernel_rfl⟩
  · exact ⟨_,takes,Tryz.func159,by kernel_rfl,by kernel_rfl⟩
  · exact ⟨_,takes,Tryz.func160,by kernel_rfl,by kernel_rfl⟩
  · exact ⟨_,takes,Tryz.func161,by kernel_rfl,by kernel_rfl⟩
  · exact ⟨_,takes,Tryz.func164,by kernel_rfl,by kernel_rfl⟩
  · exact ⟨_,takes,Tryz.func66,by kernel_rfl,by kernel_rfl⟩
  · exact ⟨_,takes,Tryz.func67,by kernel_rfl,by kernel_rfl⟩
  · exact ⟨_,takes,Tryz.func82,by kernel_rfl,by kernel_rfl⟩
  · exact ⟨_,takes,Tryz.func86,by kernel_rfl,by kernel_rfl⟩
  · exact ⟨_,takes,Tryz.func133,by kernel_rfl,by kernel_rfl⟩
  · exact ⟨_,takes,Tryz.func132,by kernel_rfl,by kernel_rfl⟩
  · exact ⟨_,takes,Tryz.func171,by kernel_rfl,by kernel_rfl⟩
  · exact ⟨_,takes,Tryz.func172,by kernel_rfl,by kernel_rfl⟩
  · exact ⟨_,takes,Tryz.func173,by kernel_rfl,by kernel_rfl⟩
  · exact ⟨_,takes,Tryz.func174,by kernel_rfl,by kernel_rfl⟩
  · exact ⟨_,takes,Tryz.func175,by kernel_rfl,by kernel_rfl⟩
  · exact ⟨_,takes,Tryz.func176,by kernel_rfl,by kernel_rfl⟩
  · exact ⟨_,takes,Tryz.func177,by kernel_rfl,by kernel_rfl⟩
  · exact ⟨_,takes,Tryz.func128,by kernel_rfl,by kernel_rfl⟩
  · exact ⟨_,takes,Tryz.func129,by kernel_rfl,by kernel_rfl⟩
  · exact ⟨_,takes,Tryz.func130,by kernel_rfl,by kernel_rfl⟩
  · exact ⟨_,takes,Tryz.func131,by kernel_rfl,by kernel_rfl⟩
  · exact ⟨_,takes,Tryz.func135,by kernel_rfl,by kernel_rfl⟩
  · exact ⟨_,takes,Tryz.func134,by kernel_rfl,by kernel_rfl⟩
  · exact ⟨_,takes,Tryz.func182,by kernel_rfl,by kernel_rfl⟩
  · exact ⟨_,takes,Tryz.func151,by kernel_rfl,by kernel_rfl⟩
  · exact ⟨_,takes,Tryz.func152,by kernel_rfl,by kernel_rfl⟩
  · exact ⟨_,takes,Tryz.func154,by kernel_rfl,by kernel_rfl⟩
  · exact ⟨_,takes,Tryz.func155,by kernel_rfl,by kernel_rfl⟩
  · exact ⟨_,takes,Tryz.func156,by kernel_rfl,by kernel_rfl⟩
  · exact ⟨_,takes,Tryz.func136,by kernel_rfl,by kernel_rfl⟩
  · exact ⟨_,takes,Tryz.func184,by kernel_rfl,by kernel_rfl⟩
  · exact ⟨_,takes,Tryz.func185,by kernel_rfl,by kernel_rfl⟩
  · exact ⟨_,takes,Tryz.func186,by kernel_rfl,by kernel_rfl⟩
  · exact ⟨_,takes,Tryz.func167,by kernel_rfl,by kernel_rfl⟩
  · exact ⟨_,takes,Tryz.func166,by kernel_rfl,by kernel_rfl⟩
  · exact ⟨_,takes,Tryz.func168,by kernel_rfl,by kernel_rfl⟩
  · exact ⟨_,takes,Tryz.func169,by kernel_rfl,by kernel_rfl⟩
  · exact ⟨_,takes,Tryz.func170,by kernel_rfl,by kernel_rfl⟩
  · exact ⟨_,takes,Tryz.func158,by kernel_rfl,by kernel_rfl⟩
  · exact ⟨_,takes,Tryz.func157,by kernel_rfl,by kernel_rfl⟩
  · exact ⟨_,takes,Tryz.func190,by kernel_rfl,by kernel_rfl⟩
  · exact ⟨_,takes,Tryz.func191,by kernel_rfl,by kernel_rfl⟩
  · exact ⟨_,takes,Tryz.func179,by kernel_rfl,by kernel_rfl⟩
  · exact ⟨_,takes,Tryz.func180,by kernel_rfl,by kernel_rfl⟩
  · exact ⟨_,takes,Tryz.func181,by kernel_rfl,by kernel_rfl⟩
  · exact ⟨_,takes,Tryz.func193,by kernel_rfl,by kernel_rfl⟩
  · exact ⟨_,takes,Tryz.func183,by kernel_rfl,by kernel_rfl⟩
  · exact ⟨_,takes,Tryz.func198,by kernel_rfl,by kernel_rfl⟩
  · exact ⟨_,takes,Tryz.func199,by kernel_rfl,by kernel_rfl⟩
  · exact ⟨_,takes,Tryz.func200,by kernel_rfl,by kernel_rfl⟩
  · exact ⟨_,takes,Tryz.func187,by kernel_rfl,by kernel_rfl⟩
  · exact ⟨_,takes,Tryz.func188,by kernel_rfl,by kernel_rfl⟩
  · exact ⟨_,takes,Tryz.func189,by kernel_rfl,by kernel_rfl⟩
  · exact ⟨_,takes,Tryz.func202,by kernel_rfl,by kernel_rfl⟩
  · exact ⟨_,takes,Tryz.func203,by kernel_rfl,by kernel_rfl⟩
  · exact ⟨_,takes,Tryz.func204,by kernel_rfl,by kernel_rfl⟩
  · exact ⟨_,takes,Tryz.func192,by kernel_rfl,by kernel_rfl⟩
  · exact ⟨_,takes,Tryz.func194,by kernel_rfl,by kernel_rfl⟩
  · exact ⟨_,takes,Tryz.func195,by kernel_rfl,by kernel_rfl⟩
  · exact ⟨_,takes,Tryz.func196,by kernel_rfl,by kernel_rfl⟩
  · exact ⟨_,takes,Tryz.func197,by kernel_rfl,by kernel_rfl⟩
  · exact ⟨_,takes,Tryz.func201,by kernel_rfl,by kernel_rfl⟩
end Go.Proofs.YtlmfmmclnboglaaGreat
end
