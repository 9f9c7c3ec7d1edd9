import Derived.Test.YtlmfmmclnboglaaGreatRows
import Derived.ProofKit
import Derived.Test.YtlmfmmclnboglaaGreatS1
set_option linter.all false
section
namespace Go.Proofs.YtlmfmmclnboglaaGreat
open Go Go.Proofs.YtlmfmmclnboglaaGreat.Abs
set_option maxRecDepth 100000
set_option maxHeartbeats 0
abbrev HP:=List Z5
abbrev GT:=Nat→Option (List AV)
abbrev KT:=FuncId→List AV→HP→KR
def takes:FuncId→List Nat:=fun _=>[]
abbrev ZaU:FuncId:=6
abbrev Zah:FuncId:=8
abbrev P5:FuncId:=9
abbrev Zcn:FuncId:=10
abbrev Zb0:FuncId:=14
abbrev Ec:FuncId:=16
abbrev ZjN:FuncId:=22
abbrev Cm:FuncId:=23
abbrev Zix:FuncId:=24
abbrev RF:FuncId:=26
abbrev Gp:FuncId:=27
abbrev KC:FuncId:=28
abbrev Lh:FuncId:=29
abbrev Qa:FuncId:=30
abbrev ZgB:FuncId:=31
abbrev Zfi:FuncId:=32
abbrev Jr:FuncId:=42
abbrev Zbu:FuncId:=43
abbrev JR:FuncId:=44
abbrev EQ:FuncId:=45
abbrev JM:FuncId:=48
abbrev Qv:FuncId:=49
abbrev Tq:FuncId:=50
abbrev Hw:FuncId:=51
abbrev FK:FuncId:=52
abbrev ZdW:FuncId:=53
abbrev Zbv:FuncId:=54
abbrev ZcB:FuncId:=55
abbrev TT:FuncId:=56
abbrev Ha:FuncId:=57
abbrev XZ:FuncId:=58
abbrev Dn:FuncId:=59
abbrev Zfh:FuncId:=60
abbrev NG:FuncId:=61
abbrev NH:FuncId:=62
abbrev KW:FuncId:=63
abbrev Rq:FuncId:=64
abbrev Vu:FuncId:=65
abbrev ZbP:FuncId:=66
abbrev ZbO:FuncId:=67
abbrev NI:FuncId:=68
abbrev H9:FuncId:=69
abbrev Rt:FuncId:=70
abbrev NJ:FuncId:=71
abbrev IG:FuncId:=72
abbrev Ru:FuncId:=73
abbrev NK:FuncId:=74
abbrev NL:FuncId:=75
abbrev NM:FuncId:=76
abbrev NP:FuncId:=77
abbrev Dw:FuncId:=78
abbrev Dx:FuncId:=79
abbrev O3:FuncId:=80
abbrev MZ:FuncId:=81
abbrev ZcA:FuncId:=82
abbrev Ee:FuncId:=83
abbrev P6:FuncId:=84
abbrev ER:FuncId:=85
abbrev Zfj:FuncId:=86
abbrev Ef:FuncId:=87
abbrev ZgA:FuncId:=88
abbrev LX:FuncId:=89
abbrev Ed:FuncId:=90
abbrev VV:FuncId:=103
abbrev OA:FuncId:=107
abbrev Wu:FuncId:=108
abbrev KL:FuncId:=109
abbrev JQ:FuncId:=110
abbrev Ul:FuncId:=111
abbrev XI:FuncId:=112
abbrev QL:FuncId:=113
abbrev GR:FuncId:=114
abbrev Xt:FuncId:=115
abbrev IV:FuncId:=116
abbrev Vo:FuncId:=117
abbrev Lj:FuncId:=118
abbrev Ll:FuncId:=119
abbrev Zaj:FuncId:=120
abbrev FI:FuncId:=121
abbrev ES:FuncId:=122
abbrev ZdX:FuncId:=123
abbrev Zfl:FuncId:=124
abbrev Zai:FuncId:=125
abbrev Zb1:FuncId:=126
abbrev BM:FuncId:=127
abbrev U6:FuncId:=128
abbrev MG:FuncId:=129
abbrev KN:FuncId:=130
abbrev Zd3:FuncId:=131
abbrev RD:FuncId:=132
abbrev NF:FuncId:=133
abbrev NU:FuncId:=134
abbrev FH:FuncId:=135
abbrev ZgC:FuncId:=136
abbrev Ziw:FuncId:=137
abbrev Kr:FuncId:=143
abbrev JL:FuncId:=144
abbrev Lm:FuncId:=145
abbrev VC:FuncId:=146
abbrev Hy:FuncId:=147
abbrev Zc0:FuncId:=148
abbrev Dy:FuncId:=149
abbrev ZcC:FuncId:=150
abbrev Zfg:FuncId:=151
abbrev TS:FuncId:=152
abbrev Ug:FuncId:=153
abbrev MI:FuncId:=154
abbrev MJ:FuncId:=155
abbrev MK:FuncId:=156
abbrev V7:FuncId:=157
abbrev AP:FuncId:=158
abbrev XH:FuncId:=162
abbrev FY:FuncId:=163
abbrev Zbw:FuncId:=164
abbrev Zfk:FuncId:=165
abbrev IW:FuncId:=166
abbrev Zag:FuncId:=167
abbrev Zfn:FuncId:=168
abbrev Zfm:FuncId:=169
abbrev Zd4:FuncId:=170
abbrev KJ:FuncId:=177
abbrev XG:FuncId:=178
abbrev TU:FuncId:=179
abbrev ET:FuncId:=180
abbrev MH:FuncId:=181
abbrev FW:FuncId:=183
abbrev Eb:FuncId:=187
abbrev Ea:FuncId:=188
abbrev GN:FuncId:=189
abbrev Zaf:FuncId:=192
abbrev FX:FuncId:=194
abbrev Zc9:FuncId:=195
abbrev Pz:FuncId:=196
abbrev SY:FuncId:=197
abbrev Zcm:FuncId:=201
abbrev ZjK:TypeId:=3
abbrev Gz:TypeId:=9
abbrev Yo:TypeId:=26
abbrev QW:TypeId:=37
abbrev Zb:TypeId:=42
abbrev EM:TypeId:=49
abbrev Ci:TypeId:=54
abbrev V5:TypeId:=57
abbrev V3:TypeId:=60
abbrev ZbL:TypeId:=69
abbrev ZuZ:TypeId:=76
abbrev Wn:TypeId:=79
abbrev Zbt:TypeId:=88
abbrev ZwN:TypeId:=90
abbrev Yj:TypeId:=92
abbrev I4:TypeId:=95
abbrev LW:TypeId:=97
abbrev Ziu:TypeId:=103
abbrev XO:TypeId:=105
abbrev Ue:TypeId:=111
abbrev Oh:TypeId:=113
abbrev OX:TypeId:=127
abbrev ZbK:TypeId:=129
abbrev Zmo:TypeId:=159
abbrev WS:TypeId:=179
abbrev Xb:TypeId:=181
abbrev Dh:TypeId:=194
abbrev Xc:TypeId:=202
abbrev Xk:TypeId:=204
abbrev Py:TypeId:=209
abbrev yI (n:Nat)(o:AOp):Jq:=⟨some n,o,none⟩
abbrev yJ (n:Nat) (o:AOp) (g:Nat) (b:Bool):Jq:=⟨some n,o,some (g,b)⟩
abbrev yN (o:AOp):Jq:=⟨none,o,none⟩
abbrev yV (n:Nat):KX:=.tmp n
abbrev yK (n:Int):KX:=.const (.int .i64 n)
abbrev yS (s:List UInt8):KX:=.const (.str s)
abbrev yT:KX:=.const (.bool true)
abbrev yF:KX:=.const (.bool false)
abbrev yG (n:Nat):KX:=.const (.fn n [] [])
abbrev yA (n:Nat):Nat ⊕ KX:=.inr (.tmp n)
abbrev yB (o:KX):Nat ⊕ KX:=.inr o
abbrev yR (l:List Jq):Zr:=.region false l
abbrev yQ (l:List Jq) (c:Zr):Zr:=.seq (.region false l) c
abbrev yM (n x:Nat):Jq:=⟨some n,.mv (.tmp x),none⟩
abbrev yU (n x:Nat):Jq:=⟨some n,.take x,none⟩
abbrev yL (n x:Nat):Jq:=⟨some n,.ldc (.tmp x),none⟩
abbrev yH (n k x:Nat):Jq:=⟨some n,.fa k (.tmp x),none⟩
abbrev yC (n:Nat) (x:KX):Jq:=⟨some n,.mv x,none⟩
abbrev yD (n k x:Nat):Jq:=⟨some n,.lda k (.tmp x),none⟩
abbrev yE (n k x i:Nat):Jq:=⟨some n,.ia (.slice k) (.tmp x) (.tmp i),none⟩
abbrev yO (n x:Nat):Jq:=⟨some n,.len .slice (.tmp x),none⟩
abbrev yP (n f:Nat) (l:List (Nat ⊕ KX)):Jq:=⟨some n,.call (.const (.fn f [] [])) l,none⟩
abbrev yw:Zr:=.skip
abbrev yr:Zr:=.ret
abbrev yc (n:Nat) (a b:Zr):Zr:=.cond (.tmp n) a b
abbrev yf:AV:=.bool false
abbrev ye:AV:=.str []
abbrev y0:AV:=.int .i64 0
abbrev yX (n:Nat) (o:BinOp) (x y:KX):Jq:=⟨some n,.bin o .prim x y,none⟩
def Zmy:Zr:=yQ [yI 2 (.box 26 4 (yV 0)),yI 3 (.box 26 4 (yV 1)),yC 4 yF] (.seq (yQ [yD 6 4 2,yP 7 8 [yA 6],yI 8 (.un .not (yV 7)),yM 9 8,yJ 10 (.lda 4 (yV 3)) 9 false,yJ 11 (.call (yG 8) [yA 10]) 9 false,yJ 12 (.un .not (yV 11)) 9 false,yI 13 (.pick (yV 9) yT (yV 12))] (yc 13 (yQ [yP 14 9 [],yU 4 14] yr) yw)) (yQ [yD 15 4 2,yD 16 4 3,yP 17 23 [yA 15,yA 16],yU 5 17] (.seq (yQ [yM 18 5,yD 19 4 2,yD 20 4 3,yP 21 24 [yA 19,yA 20],yI 22 (.bin .neq .bool (yV 18) (yV 21)),yM 23 22,yJ 24 (.mv (yV 5)) 23 false,yJ 25 (.lda 4 (yV 3)) 23 false,yJ 26 (.lda 4 (yV 2)) 23 false,yJ 27 (.call (yG 23) [yA 25,yA 26]) 23 false,yJ 28 (.bin .neq .bool (yV 24) (yV 27)) 23 false,yI 29 (.pick (yV 23) yT (yV 28)),yM 30 29,yJ 31 (.lda 4 (yV 2)) 30 false,yJ 32 (.lda 4 (yV 2)) 30 false,yJ 33 (.call (yG 23) [yA 31,yA 32]) 30 false,yJ 34 (.un .not (yV 33)) 30 false,yI 35 (.pick (yV 30) yT (yV 34))] (yc 35 (yQ [yC 4 yF] yr) yw)) (.seq (.region true [yM 36 5,yI 37 (.un .not (yV 36)),yM 38 37,yJ 39 (.lda 4 (yV 2)) 38 false,yJ 40 (.call (yG 10) [yA 39]) 38 false,yJ 41 (.lda 4 (yV 3)) 38 false,yJ 42 (.call (yG 10) [yA 41]) 38 false,yJ 43 (.bin .eql .prim (yV 40) (yV 42)) 38 false,yI 44 (.pick (yV 38) yT (yV 43)),yM 45 44,yJ 46 (.call (yG 9) []) 45 true,yI 47 (.pick (yV 45) (yV 46) yF),yM 4 47]) yr))))
def Zey:AFn:=⟨48,[.tmp 4],Zmy,false⟩
def Znp:List Nat:=[10,11,12,24,25,26,27,28,31,32,33,34,39,40,41,42,43,46]
def Zmz:Zr:=.seq (yQ [yM 36 6,yM 37 5,yO 38 37,yX 39 .lss (yV 36) (yV 38)] (yc 39 yw (.exit 2))) (.seq (.block 3 (yR [yM 42 3,yM 43 5,yM 44 6,yE 45 1 43 44,yL 46 45,yO 47 46,yX 48 .add (yV 42) (yV 47),yU 3 48])) (yR [yM 40 6,yX 41 .add (yV 40) (yK 1),yU 6 41]))
def ZfU:Zr:=.loop Zmz
def ZfQ:Zr:=.region true [yM 49 3,yH 50 2 1,yL 51 50,yM 52 4,yE 53 13 51 52,yH 54 11 53,yL 55 54,yO 56 55,yH 57 2 1,yL 58 57,yM 59 4,yE 60 13 58 59,yH 61 12 60,yL 62 61,yO 63 62,yX 64 .add (yV 56) (yV 63),yX 65 .add (yV 49) (yV 64),yM 3 65]
def ZfR:Zr:=yR [yM 28 4,yX 29 .add (yV 28) (yK 1),yU 4 29]
def EY:Zr:=.seq (yQ [yM 23 4,yH 24 2 1,yL 25 24,yO 26 25,yX 27 .lss (yV 23) (yV 26)] (yc 27 yw (.exit 0))) (.seq (.block 1 (yQ [yH 30 2 1,yL 31 30,yM 32 4,yE 33 13 31 32,yD 34 13 33,yP 35 22 [yA 34],yU 5 35] (.seq (yQ [yC 6 (yK 0)] (.block 2 (ZfU))) ZfQ))) ZfR)
def ZfT:Zr:=.loop EY
def ZfS:Zr:=yQ [yM 66 3,yX 67 .leq (yV 66) (yK 120),yU 2 67] yr
def Zfs:Zr:=yQ [yI 1 (.box 26 4 (yV 0)),yC 2 yF] (.seq (yQ [yH 7 2 1,yL 8 7,yO 9 8,yX 10 .gtr (yV 9) (yK 20),yM 11 10,yJ 12 (.fa 1 (yV 1)) 11 false,yJ 13 (.ldc (yV 12)) 11 false,yJ 14 (.len .slice (yV 13)) 11 false,yJ 15 (.bin .gtr .prim (yV 14) (yK 40)) 11 false,yI 16 (.pick (yV 11) yT (yV 15)),yM 17 16,yJ 18 (.fa 3 (yV 1)) 17 false,yJ 19 (.ldc (yV 18)) 17 false,yJ 20 (.len .slice (yV 19)) 17 false,yJ 21 (.bin .gtr .prim (yV 20) (yK 40)) 17 false,yI 22 (.pick (yV 17) yT (yV 21))] (yc 22 (yQ [yC 2 yF] yr) yw)) (yQ [yC 3 (yK 0)] (.seq (yQ [yC 4 (yK 0)] (.block 0 (ZfT))) ZfS)))
def Kt:AFn:=⟨68,[.tmp 2],Zfs,false⟩
def Vr:List Nat:=[12,13,14,15,18,19,20,21]
def Zua:Zr:=yQ [yI 1 (.box 26 4 (yV 0)),yC 2 (yK 0)] (.seq (yQ [yH 7 0 1,yL 8 7,yP 9 26 [yA 8],yU 3 9] (yQ [yM 10 3,yX 11 .neq (yV 10) (yK 0)] (yc 11 (yQ [yU 12 3,yU 2 12] yr) yw))) (.seq (yQ [yI 13 (.mkmap),yH 14 1 1,yL 15 14,yP 16 27 [yA 13,yA 15],yU 4 16] (yQ [yM 17 4,yX 18 .neq (yV 17) (yK 0)] (yc 18 (yQ [yU 19 4,yU 2 19] yr) yw))) (.seq (yQ [yH 20 2 1,yL 21 20,yO 22 21,yX 23 .eql (yV 22) (yK 0)] (yc 23 (yQ [yC 2 (yK 7)] yr) yw)) (yQ [yI 24 (.mkmap),yI 5 (.mk 60 [.nilm]),yN (.stt (yV 5) 24)] (yQ [yH 25 2 1,yL 26 25,yI 27 (.mkfn 29 [] [(yV 5)]),yP 28 28 [yA 26,yB (yK 16),yA 27],yU 6 28] (.seq (yQ [yM 29 6,yX 30 .neq (yV 29) (yK 0)] (yc 30 (yQ [yU 31 6,yU 2 31] yr) yw)) (yQ [yD 32 4 1,yP 33 32 [yA 32],yU 2 33] yr)))))))
def ZkV:AFn:=⟨34,[.tmp 2],Zua,false⟩
def ZuB:List Nat:=[]
def Zvw:Zr:=yQ [yI 2 (.box 26 4 (yV 0)),yI 3 (.box 9 1 (yV 1)),yC 4 (yK 0)] (yQ [yH 5 2 2,yL 6 5,yI 7 (.mkfn 43 [] [(yV 3)]),yP 8 42 [yA 6,yA 7],yU 4 8] yr)
def Zn4:AFn:=⟨9,[.tmp 4],Zvw,false⟩
def Zwm:List Nat:=[]
def Zp7:Zr:=yQ [yI 2 (.box 42 13 (yV 0)),yI 3 (.box 9 1 (yV 1)),yC 4 (yK 0)] (yQ [yH 5 10 2,yL 6 5,yI 7 (.mkfn 45 [] [(yV 3)]),yP 8 44 [yA 6,yA 7],yU 4 8] yr)
def ZgK:AFn:=⟨9,[.tmp 4],Zp7,false⟩
def ZqU:List Nat:=[]
def ZpF:Zr:=.seq (yQ [yM 10 4,yH 11 1 1,yL 12 11,yO 13 12,yX 14 .lss (yV 10) (yV 13)] (yc 14 yw (.exit 0))) (.seq (.block 1 (.region true [yM 17 3,yM 18 3,yI 19 (.ia (.slice 1) (yV 18) (yK 0)),yI 20 (.ldt (yV 19)),yH 21 1 1,yL 22 21,yM 23 4,yE 24 3 22 23,yH 25 0 24,yL 26 25,yI 27 (.lit 9 1 [(yV 26)]),yI 28 (.app 1 16 20 (yV 27)),yI 29 (.ia (.slice 1) (yV 17) (yK 0)),yN (.stt (yV 29) 28)])) (yR [yM 15 4,yX 16 .add (yV 15) (yK 1),yU 4 16]))
def Zjo:Zr:=.loop ZpF
def ZpG:Zr:=.seq (yQ [yM 30 5,yH 31 2 1,yL 32 31,yO 33 32,yX 34 .lss (yV 30) (yV 33)] (yc 34 yw (.exit 2))) (.seq (.block 3 (.region true [yM 37 3,yM 38 3,yI 39 (.ia (.slice 1) (yV 38) (yK 1)),yI 40 (.ldt (yV 39)),yH 41 2 1,yL 42 41,yM 43 5,yE 44 17 42 43,yH 45 0 44,yL 46 45,yI 47 (.lit 9 1 [(yV 46)]),yI 48 (.app 1 16 40 (yV 47)),yI 49 (.ia (.slice 1) (yV 37) (yK 1)),yN (.stt (yV 49) 48)])) (yR [yM 35 5,yX 36 .add (yV 35) (yK 1),yU 5 36]))
def Zjp:Zr:=.loop ZpG
def ZpH:Zr:=.seq (yQ [yM 50 6,yH 51 3 1,yL 52 51,yO 53 52,yX 54 .lss (yV 50) (yV 53)] (yc 54 yw (.exit 4))) (.seq (.block 5 (.region true [yM 57 3,yM 58 3,yI 59 (.ia (.slice 1) (yV 58) (yK 2)),yI 60 (.ldt (yV 59)),yH 61 3 1,yL 62 61,yM 63 6,yE 64 3 62 63,yH 65 0 64,yL 66 65,yI 67 (.lit 9 1 [(yV 66)]),yI 68 (.app 1 16 60 (yV 67)),yI 69 (.ia (.slice 1) (yV 57) (yK 2)),yN (.stt (yV 69) 68)])) (yR [yM 55 6,yX 56 .add (yV 55) (yK 1),yU 6 56]))
def Zjq:Zr:=.loop ZpH
def ZpI:Zr:=.seq (yQ [yM 70 7,yH 71 4 1,yL 72 71,yO 73 72,yX 74 .lss (yV 70) (yV 73)] (yc 74 yw (.exit 6))) (.seq (.block 7 (.region true [yM 77 3,yM 78 3,yI 79 (.ia (.slice 1) (yV 78) (yK 3)),yI 80 (.ldt (yV 79)),yH 81 4 1,yL 82 81,yM 83 7,yE 84 3 82 83,yH 85 0 84,yL 86 85,yI 87 (.lit 9 1 [(yV 86)]),yI 88 (.app 1 16 80 (yV 87)),yI 89 (.ia (.slice 1) (yV 77) (yK 3)),yN (.stt (yV 89) 88)])) (yR [yM 75 7,yX 76 .add (yV 75) (yK 1),yU 7 76]))
def Zjr:Zr:=.loop ZpI
def ZpJ:Zr:=.seq (yQ [yM 110 8,yH 111 10 1,yL 112 111,yO 113 112,yX 114 .lss (yV 110) (yV 113)] (yc 114 yw (.exit 8))) (.seq (.block 9 (.region true [yM 117 3,yM 118 3,yI 119 (.ia (.slice 1) (yV 118) (yK 9)),yI 120 (.ldt (yV 119)),yH 121 10 1,yL 122 121,yM 123 8,yE 124 4 122 123,yH 125 0 124,yL 126 125,yI 127 (.lit 9 1 [(yV 126)]),yI 128 (.app 1 16 120 (yV 127)),yI 129 (.ia (.slice 1) (yV 117) (yK 9)),yN (.stt (yV 129) 128)])) (yR [yM 115 8,yX 116 .add (yV 115) (yK 1),yU 8 116]))
def Zjs:Zr:=.loop ZpJ
def Zjn:Zr:=yQ [yU 130 3,yU 2 130] yr
def Zeg:Zr:=yQ [yM 90 3,yH 91 5 1,yL 92 91,yI 93 (.ia (.slice 1) (yV 90) (yK 4)),yN (.stt (yV 93) 92)] (yQ [yM 94 3,yH 95 6 1,yL 96 95,yI 97 (.ia (.slice 1) (yV 94) (yK 5)),yN (.stt (yV 97) 96)] (yQ [yM 98 3,yH 99 7 1,yL 100 99,yI 101 (.ia (.slice 1) (yV 98) (yK 6)),yN (.stt (yV 101) 100)] (yQ [yM 102 3,yH 103 8 1,yL 104 103,yI 105 (.ia (.slice 1) (yV 102) (yK 7)),yN (.stt (yV 105) 104)] (yQ [yM 106 3,yH 107 9 1,yL 108 107,yI 109 (.ia (.slice 1) (yV 106) (yK 8)),yN (.stt (yV 109) 108)] (.seq (yQ [yC 8 (yK 0)] (.block 8 (Zjs))) Zjn)))))
def Zef:Zr:=.seq (yQ [yC 7 (yK 0)] (.block 6 (Zjr))) Zeg
def Zee:Zr:=.seq (yQ [yC 6 (yK 0)] (.block 4 (Zjq))) Zef
def Zed:Zr:=.seq (yQ [yC 5 (yK 0)] (.block 2 (Zjp))) Zee
def ZjX:Zr:=yQ [yI 1 (.box 42 13 (yV 0)),yI 2 (.mv (.const (.own 1 [])))] (yQ [yI 9 (.mksl 37 [(.own 1 [])] (yK 10)),yU 3 9] (.seq (yQ [yC 4 (yK 0)] (.block 0 (Zjo))) Zed))
def JF:AFn:=⟨131,[.tmp 2],ZjX,false⟩
def Xj:List Nat:=[]
def Zvv:Zr:=yQ [yI 2 (.box 26 4 (yV 0)),yI 3 (.box 26 4 (yV 1)),yC 4 yF] (yQ [yH 5 0 2,yL 6 5,yH 7 0 3,yL 8 7,yX 9 .eql (yV 6) (yV 8),yM 10 9,yJ 11 (.fa 1 (yV 2)) 10 true,yJ 12 (.ldc (yV 11)) 10 true,yJ 13 (.fa 1 (yV 3)) 10 true,yJ 14 (.ldc (yV 13)) 10 true,yJ 15 (.call (yG 48) [yA 12,yA 14]) 10 true,yI 16 (.pick (yV 10) (yV 15) yF),yM 17 16,yJ 18 (.fa 2 (yV 2)) 17 true,yJ 19 (.ldc (yV 18)) 17 true,yJ 20 (.fa 2 (yV 3)) 17 true,yJ 21 (.ldc (yV 20)) 17 true,yJ 22 (.call (yG 49) [yA 19,yA 21,(.inr (yG 50))]) 17 true,yI 23 (.pick (yV 17) (yV 22) yF),yM 24 23,yJ 25 (.fa 3 (yV 2)) 24 true,yJ 26 (.ldc (yV 25)) 24 true,yJ 27 (.fa 3 (yV 3)) 24 true,yJ 28 (.ldc (yV 27)) 24 true,yJ 29 (.call (yG 51) [yA 26,yA 28]) 24 true,yI 30 (.pick (yV 24) (yV 29) yF),yU 4 30] yr)
def Zn3:AFn:=⟨31,[.tmp 4],Zvv,false⟩
def Zwl:List Nat:=[11,12,13,14,15,18,19,20,21,22,25,26,27,28,29]
def Zsj:Zr:=.seq (yQ [yM 38 5,yH 39 2 2,yL 40 39,yO 41 40,yX 42 .lss (yV 38) (yV 41)] (yc 42 yw (.exit 0))) (.seq (.block 1 (.seq (.region true [yH 45 2 2,yL 46 45,yM 47 5,yE 48 13 46 47,yD 49 13 48,yH 50 2 3,yL 51 50,yM 52 5,yE 53 13 51 52,yD 54 13 53,yP 55 53 [yA 49,yA 54],yI 56 (.un .not (yV 55))]) (yc 56 (yQ [yC 4 yF] yr) yw))) (yR [yM 43 5,yX 44 .add (yV 43) (yK 1),yU 5 44]))
def Zln:Zr:=.loop Zsj
def Zsk:Zr:=.seq (yQ [yM 57 6,yH 58 3 2,yL 59 58,yO 60 59,yX 61 .lss (yV 57) (yV 60)] (yc 61 yw (.exit 2))) (.seq (.block 3 (.seq (.region true [yH 64 3 2,yL 65 64,yM 66 6,yE 67 3 65 66,yD 68 3 67,yH 69 3 3,yL 70 69,yM 71 6,yE 72 3 70 71,yD 73 3 72,yI 74 (.bin .neq (.struct [.str,.str,.int]) (yV 68) (yV 73))]) (yc 74 (yQ [yC 4 yF] yr) yw))) (yR [yM 62 6,yX 63 .add (yV 62) (yK 1),yU 6 63]))
def Zlo:Zr:=.loop Zsk
def Zlm:Zr:=yQ [yC 4 yT] yr
def Zfx:Zr:=.seq (yQ [yC 6 (yK 0)] (.block 2 (Zlo))) Zlm
def Zm9:Zr:=yQ [yI 2 (.box 26 4 (yV 0)),yI 3 (.box 26 4 (yV 1)),yC 4 yF] (.seq (yQ [yH 7 0 2,yL 8 7,yH 9 0 3,yL 10 9,yX 11 .neq (yV 8) (yV 10),yM 12 11,yJ 13 (.fa 1 (yV 2)) 12 false,yJ 14 (.ldc (yV 13)) 12 false,yJ 15 (.fa 1 (yV 3)) 12 false,yJ 16 (.ldc (yV 15)) 12 false,yJ 17 (.call (yG 52) [yA 14,yA 16]) 12 false,yJ 18 (.un .not (yV 17)) 12 false,yI 19 (.pick (yV 12) yT (yV 18)),yM 20 19,yJ 21 (.fa 2 (yV 2)) 20 false,yJ 22 (.ldc (yV 21)) 20 false,yJ 23 (.len .slice (yV 22)) 20 false,yJ 24 (.fa 2 (yV 3)) 20 false,yJ 25 (.ldc (yV 24)) 20 false,yJ 26 (.len .slice (yV 25)) 20 false,yJ 27 (.bin .neq .prim (yV 23) (yV 26)) 20 false,yI 28 (.pick (yV 20) yT (yV 27)),yM 29 28,yJ 30 (.fa 3 (yV 2)) 29 false,yJ 31 (.ldc (yV 30)) 29 false,yJ 32 (.len .slice (yV 31)) 29 false,yJ 33 (.fa 3 (yV 3)) 29 false,yJ 34 (.ldc (yV 33)) 29 false,yJ 35 (.len .slice (yV 34)) 29 false,yJ 36 (.bin .neq .prim (yV 32) (yV 35)) 29 false,yI 37 (.pick (yV 29) yT (yV 36))] (yc 37 (yQ [yC 4 yF] yr) yw)) (.seq (yQ [yC 5 (yK 0)] (.block 0 (Zln))) Zfx))
def D5:AFn:=⟨75,[.tmp 4],Zm9,false⟩
def Tj:List Nat:=[13,14,15,16,17,18,21,22,23,24,25,26,27,30,31,32,33,34,35,36]
def Zm6:Zr:=yQ [yX 25 .lss (yV 24) (yV 23)] (.seq (yc 25 yw (.exit 0)) (.seq (.block 1 (yQ [yM 26 24,yU 3 26] (yQ [yM 27 0,yM 28 3,yI 29 (.idx (yV 27) (yV 28)),yU 4 29] (yQ [yM 30 4,yP 31 54 [yA 30],yI 32 (.un .not (yV 31)),yM 33 32,yJ 34 (.mv (yV 4)) 33 true,yJ 35 (.bin .lss .prim (yV 34) (.const (.int .u8 48))) 33 true,yJ 36 (.mv (yV 35)) 33 true,yJ 37 (.mv (yV 4)) 36 false,yJ 38 (.bin .gtr .prim (yV 37) (.const (.int .u8 57))) 36 false,yJ 39 (.pick (yV 36) yT (yV 38)) 33 true,yI 40 (.pick (yV 33) (yV 39) yF),yM 41 40,yJ 42 (.mv (yV 4)) 41 true,yJ 43 (.bin .neq .prim (yV 42) (.const (.int .u8 95))) 41 true,yI 44 (.pick (yV 41) (yV 43) yF)] (yc 44 (yQ [yC 2 (yK 3)] yr) yw))))) (yR [yX 45 .add (yV 24) (yK 1),yM 24 45])))
def Zga:Zr:=.loop Zm6
def ZfZ:Zr:=yQ [yC 2 (yK 0)] yr
def Zfv:Zr:=yQ [yC 2 (yK 0)] (.seq (yQ [yM 5 0,yX 6 .eql (yV 5) (yS []),yM 7 6,yJ 8 (.mv (yV 0)) 7 false,yJ 9 (.len .str (yV 8)) 7 false,yJ 10 (.bin .gtr .prim (yV 9) (yK 24)) 7 false,yI 11 (.pick (yV 7) yT (yV 10)),yM 12 11,yJ 13 (.mv (yV 0)) 12 false,yJ 14 (.idx (yV 13) (yK 0)) 12 false,yJ 15 (.call (yG 54) [yA 14]) 12 false,yJ 16 (.un .not (yV 15)) 12 false,yI 17 (.pick (yV 12) yT (yV 16)),yM 18 17,yJ 19 (.mv (yV 0)) 18 false,yJ 20 (.call (yG 55) [yA 19]) 18 false,yI 21 (.pick (yV 18) yT (yV 20))] (yc 21 (yQ [yC 2 (yK 3)] yr) yw)) (.seq (yQ [yM 22 0,yI 23 (.len .str (yV 22)),yC 24 (yK 0)] (.block 0 (Zga))) ZfZ))
def RN:AFn:=⟨46,[.tmp 2],Zfv,false⟩
def Me:List Nat:=[8,9,10,13,14,15,16,19,20,34,35,36,37,38,39,42,43]
def Zgu:Zr:=yQ [yC 4 (yK 0)] (yQ [yM 5 1,yM 6 0,yI 7 (.mkfn 57 [(yV 6)] []),yP 8 56 [yA 5,yB (yK 32),yA 7],yU 4 8] yr)
def ZaM:AFn:=⟨9,[.tmp 4],Zgu,false⟩
def Zg7:List Nat:=[]
def Zp6:Zr:=yQ [yI 2 (.box 42 13 (yV 0)),yC 3 (yK 0)] (.seq (yQ [yL 5 1,yH 6 0 2,yL 7 6,yP 8 30 [yA 5,yA 7],yU 4 8] (yQ [yM 9 4,yX 10 .neq (yV 9) (yK 0)] (yc 10 (yQ [yU 11 4,yU 3 11] yr) yw))) (yQ [yD 12 13 2,yP 13 31 [yA 12],yU 3 13] yr))
def ZgJ:AFn:=⟨14,[.tmp 3],Zp6,false⟩
def ZqT:List Nat:=[]
def Zb6:Zr:=yQ [yX 17 .lss (yV 16) (yV 15)] (.seq (yc 17 yw (.exit 0)) (.seq (.block 1 (yQ [yE 18 13 14 16,yD 19 13 18,yI 8 (.mk 42 [ye,(.own 3 []),(.own 17 []),(.own 3 []),(.own 3 []),(.own 1 []),(.own 1 []),(.own 1 []),(.own 1 []),(.own 1 []),(.own 4 []),(.own 5 []),(.own 3 [])]),yN (.st 13 (yV 8) (yV 19))] (yQ [yM 20 2,yD 21 13 8,yI 22 (.call (yV 20) [yA 21]),yU 9 22] (yQ [yM 23 9,yX 24 .neq (yV 23) (yK 0)] (yc 24 (yQ [yU 25 9,yU 6 25] yr) yw))))) (yR [yX 26 .add (yV 16) (yK 1),yM 16 26])))
def Nc:Zr:=.loop Zb6
def Nb:Zr:=yQ [yC 6 (yK 0)] yr
def Rn:Zr:=yQ [yC 6 (yK 0)] (.seq (yQ [yM 10 0,yO 11 10,yM 12 1,yX 13 .gtr (yV 11) (yV 12)] (yc 13 (yQ [yC 6 (yK 6)] yr) yw)) (.seq (yQ [yM 14 0,yO 15 14,yC 16 (yK 0)] (.block 0 (Nc))) Nb))
def Vb:AFn:=⟨27,[.tmp 6],Rn,false⟩
def Xz:List Nat:=[]
def Zuc:Zr:=yQ [yI 1 (.box 26 4 (yV 0)),yC 2 (yK 0)] (yQ [yI 4 (.mkmap),yI 3 (.mk 127 [.nilm]),yN (.stt (yV 3) 4)] (yQ [yH 5 3 1,yL 6 5,yI 7 (.mkfn 90 [] [(yV 1),(yV 3)]),yP 8 89 [yA 6,yB (yK 32),yA 7],yU 2 8] yr))
def ZkX:AFn:=⟨9,[.tmp 2],Zuc,false⟩
def ZuD:List Nat:=[]
def ZrU:Zr:=yQ [yI 2 (.box 42 13 (yV 0)),yC 3 yF] (yQ [yH 4 0 2,yL 5 4,yL 6 1,yX 7 .eql (yV 5) (yV 6),yU 3 7] yr)
def ZiX:AFn:=⟨8,[.tmp 3],ZrU,false⟩
def ZsC:List Nat:=[]
def LZ:Zr:=yQ [yX 9 .lss (yV 8) (yV 7)] (.seq (yc 9 yw (.exit 0)) (.seq (.block 1 (yQ [yM 10 8,yU 5 10] (yQ [yM 11 1,yM 12 0,yM 13 5,yE 14 13 12 13,yD 15 13 14,yI 16 (.call (yV 11) [yA 15])] (yc 16 (yQ [yU 17 5,yU 4 17] yr) yw)))) (yR [yX 18 .add (yV 8) (yK 1),yM 8 18])))
def KF:Zr:=.loop LZ
def KE:Zr:=yQ [yI 4 (.mv (.const (.int .i64 (-1))))] yr
def Js:Zr:=yQ [yC 4 (yK 0)] (.seq (yQ [yM 6 0,yO 7 6,yC 8 (yK 0)] (.block 0 (KF))) KE)
def YN:AFn:=⟨19,[.tmp 4],Js,false⟩
def Y6:List Nat:=[]
def Zm0:Zr:=yQ [yI 2 (.box 79 4 (yV 0)),yC 3 yF] (yQ [yH 4 0 2,yL 5 4,yL 6 1,yX 7 .eql (yV 5) (yV 6),yU 3 7] yr)
def Zez:AFn:=⟨8,[.tmp 3],Zm0,false⟩
def Znq:List Nat:=[]
def Ba:Zr:=yQ [yX 9 .lss (yV 8) (yV 7)] (.seq (yc 9 yw (.exit 0)) (.seq (.block 1 (yQ [yM 10 8,yU 5 10] (yQ [yM 11 1,yM 12 0,yM 13 5,yE 14 4 12 13,yD 15 4 14,yI 16 (.call (yV 11) [yA 15])] (yc 16 (yQ [yU 17 5,yU 4 17] yr) yw)))) (yR [yX 18 .add (yV 8) (yK 1),yM 8 18])))
def Gw:Zr:=.loop Ba
def Gv:Zr:=yQ [yI 4 (.mv (.const (.int .i64 (-1))))] yr
def JU:Zr:=yQ [yC 4 (yK 0)] (.seq (yQ [yM 6 0,yO 7 6,yC 8 (yK 0)] (.block 0 (Gw))) Gv)
def Wh:AFn:=⟨19,[.tmp 4],JU,false⟩
def YB:List Nat:=[]
def SH:Zr:=yQ [yX 14 .lss (yV 13) (yV 12)] (.seq (yc 14 yw (.exit 0)) (.seq (.block 1 (yQ [yM 15 13,yU 5 15] (.seq (.region true [yM 16 0,yM 17 5,yE 18 3 16 17,yD 19 3 18,yM 20 1,yM 21 5,yE 22 3 20 21,yD 23 3 22,yI 24 (.bin .neq (.struct [.str,.int,.int]) (yV 19) (yV 23))]) (yc 24 (yQ [yC 4 yF] yr) yw)))) (yR [yX 25 .add (yV 13) (yK 1),yM 13 25])))
def OL:Zr:=.loop SH
def OJ:Zr:=yQ [yC 4 yT] yr
def Gu:Zr:=yQ [yC 4 yF] (.seq (yQ [yM 6 0,yO 7 6,yM 8 1,yO 9 8,yX 10 .neq (yV 7) (yV 9)] (yc 10 (yQ [yC 4 yF] yr) yw)) (.seq (yQ [yM 11 0,yO 12 11,yC 13 (yK 0)] (.block 0 (OL))) OJ))
def Qk:AFn:=⟨26,[.tmp 4],Gu,false⟩
def WG:List Nat:=[]
def UF:Zr:=yQ [yX 18 .lss (yV 17) (yV 16)] (.seq (yc 18 yw (.exit 0)) (.seq (.block 1 (yQ [yM 19 17,yE 20 13 15 17,yD 21 13 20,yI 8 (.mk 42 [ye,(.own 3 []),(.own 17 []),(.own 3 []),(.own 3 []),(.own 1 []),(.own 1 []),(.own 1 []),(.own 1 []),(.own 1 []),(.own 4 []),(.own 5 []),(.own 3 [])]),yU 7 19,yN (.st 13 (yV 8) (yV 21))] (yQ [yM 22 1,yM 23 7,yE 24 13 22 23,yD 25 13 24,yI 9 (.mk 42 [ye,(.own 3 []),(.own 17 []),(.own 3 []),(.own 3 []),(.own 1 []),(.own 1 []),(.own 1 []),(.own 1 []),(.own 1 []),(.own 4 []),(.own 5 []),(.own 3 [])]),yN (.st 13 (yV 9) (yV 25))] (yQ [yM 26 2,yD 27 13 8,yD 28 13 9,yI 29 (.call (yV 26) [yA 27,yA 28]),yI 30 (.un .not (yV 29))] (yc 30 (yQ [yC 6 yF] yr) yw))))) (yR [yX 31 .add (yV 17) (yK 1),yM 17 31])))
def XD:Zr:=.loop UF
def XC:Zr:=yQ [yC 6 yT] yr
def Qw:Zr:=yQ [yC 6 yF] (.seq (yQ [yM 10 0,yO 11 10,yM 12 1,yO 13 12,yX 14 .neq (yV 11) (yV 13)] (yc 14 (yQ [yC 6 yF] yr) yw)) (.seq (yQ [yM 15 0,yO 16 15,yC 17 (yK 0)] (.block 0 (XD))) XC))
def ZE:AFn:=⟨32,[.tmp 6],Qw,false⟩
def Zz:List Nat:=[]
def Zof:Zr:=yQ [yI 2 (.box 42 13 (yV 0)),yI 3 (.box 42 13 (yV 1)),yC 4 yF] (yQ [yH 5 0 2,yL 6 5,yH 7 0 3,yL 8 7,yX 9 .eql (yV 6) (yV 8),yM 10 9,yJ 11 (.fa 1 (yV 2)) 10 true,yJ 12 (.ldc (yV 11)) 10 true,yJ 13 (.fa 1 (yV 3)) 10 true,yJ 14 (.ldc (yV 13)) 10 true,yJ 15 (.call (yG 48) [yA 12,yA 14]) 10 true,yI 16 (.pick (yV 10) (yV 15) yF),yM 17 16,yJ 18 (.fa 2 (yV 2)) 17 true,yJ 19 (.ldc (yV 18)) 17 true,yJ 20 (.fa 2 (yV 3)) 17 true,yJ 21 (.ldc (yV 20)) 17 true,yJ 22 (.call (yG 108) [yA 19,yA 21,(.inr (yG 109))]) 17 true,yI 23 (.pick (yV 17) (yV 22) yF),yM 24 23,yJ 25 (.fa 3 (yV 2)) 24 true,yJ 26 (.ldc (yV 25)) 24 true,yJ 27 (.fa 3 (yV 3)) 24 true,yJ 28 (.ldc (yV 27)) 24 true,yJ 29 (.call (yG 110) [yA 26,yA 28]) 24 true,yI 30 (.pick (yV 24) (yV 29) yF),yM 31 30,yJ 32 (.fa 4 (yV 2)) 31 true,yJ 33 (.ldc (yV 32)) 31 true,yJ 34 (.fa 4 (yV 3)) 31 true,yJ 35 (.ldc (yV 34)) 31 true,yJ 36 (.call (yG 111) [yA 33,yA 35]) 31 true,yI 37 (.pick (yV 31) (yV 36) yF),yM 38 37,yJ 39 (.fa 5 (yV 2)) 38 true,yJ 40 (.ldc (yV 39)) 38 true,yJ 41 (.fa 5 (yV 3)) 38 true,yJ 42 (.ldc (yV 41)) 38 true,yJ 43 (.call (yG 112) [yA 40,yA 42]) 38 true,yI 44 (.pick (yV 38) (yV 43) yF),yM 45 44,yJ 46 (.fa 6 (yV 2)) 45 true,yJ 47 (.ldc (yV 46)) 45 true,yJ 48 (.fa 6 (yV 3)) 45 true,yJ 49 (.ldc (yV 48)) 45 true,yJ 50 (.call (yG 112) [yA 47,yA 49]) 45 true,yI 51 (.pick (yV 45) (yV 50) yF),yM 52 51,yJ 53 (.fa 7 (yV 2)) 52 true,yJ 54 (.ldc (yV 53)) 52 true,yJ 55 (.fa 7 (yV 3)) 52 true,yJ 56 (.ldc (yV 55)) 52 true,yJ 57 (.call (yG 112) [yA 54,yA 56]) 52 true,yI 58 (.pick (yV 52) (yV 57) yF),yM 59 58,yJ 60 (.fa 8 (yV 2)) 59 true,yJ 61 (.ldc (yV 60)) 59 true,yJ 62 (.fa 8 (yV 3)) 59 true,yJ 63 (.ldc (yV 62)) 59 true,yJ 64 (.call (yG 112) [yA 61,yA 63]) 59 true,yI 65 (.pick (yV 59) (yV 64) yF),yM 66 65,yJ 67 (.fa 9 (yV 2)) 66 true,yJ 68 (.ldc (yV 67)) 66 true,yJ 69 (.fa 9 (yV 3)) 66 true,yJ 70 (.ldc (yV 69)) 66 true,yJ 71 (.call (yG 112) [yA 68,yA 70]) 66 true,yI 72 (.pick (yV 66) (yV 71) yF),yM 73 72,yJ 74 (.fa 10 (yV 2)) 73 true,yJ 75 (.ldc (yV 74)) 73 true,yJ 76 (.fa 10 (yV 3)) 73 true,yJ 77 (.ldc (yV 76)) 73 true,yJ 78 (.call (yG 113) [yA 75,yA 77,(.inr (yG 114))]) 73 true,yI 79 (.pick (yV 73) (yV 78) yF),yM 80 79,yJ 81 (.fa 11 (yV 2)) 80 true,yJ 82 (.ldc (yV 81)) 80 true,yJ 83 (.fa 11 (yV 3)) 80 true,yJ 84 (.ldc (yV 83)) 80 true,yJ 85 (.call (yG 115) [yA 82,yA 84,(.inr (yG 116))]) 80 true,yI 86 (.pick (yV 80) (yV 85) yF),yM 87 86,yJ 88 (.fa 12 (yV 2)) 87 true,yJ 89 (.ldc (yV 88)) 87 true,yJ 90 (.fa 12 (yV 3)) 87 true,yJ 91 (.ldc (yV 90)) 87 true,yJ 92 (.call (yG 117) [yA 89,yA 91,(.inr (yG 118))]) 87 true,yI 93 (.pick (yV 87) (yV 92) yF),yU 4 93] yr)
def ZfJ:AFn:=⟨94,[.tmp 4],Zof,false⟩
def ZoQ:List Nat:=[11,12,13,14,15,18,19,20,21,22,25,26,27,28,29,32,33,34,35,36,39,40,41,42,43,46,47,48,49,50,53,54,55,56,57,60,61,62,63,64,67,68,69,70,71,74,75,76,77,78,81,82,83,84,85,88,89,90,91,92]
def EZ:Zr:=yQ [yX 14 .lss (yV 13) (yV 12)] (.seq (yc 14 yw (.exit 0)) (.seq (.block 1 (yQ [yM 15 13,yU 5 15] (.seq (.region true [yM 16 0,yM 17 5,yE 18 3 16 17,yD 19 3 18,yM 20 1,yM 21 5,yE 22 3 20 21,yD 23 3 22,yI 24 (.bin .neq (.struct [.str,.str,.int]) (yV 19) (yV 23))]) (yc 24 (yQ [yC 4 yF] yr) yw)))) (yR [yX 25 .add (yV 13) (yK 1),yM 13 25])))
def TI:Zr:=.loop EZ
def TG:Zr:=yQ [yC 4 yT] yr
def H5:Zr:=yQ [yC 4 yF] (.seq (yQ [yM 6 0,yO 7 6,yM 8 1,yO 9 8,yX 10 .neq (yV 7) (yV 9)] (yc 10 (yQ [yC 4 yF] yr) yw)) (.seq (yQ [yM 11 0,yO 12 11,yC 13 (yK 0)] (.block 0 (TI))) TG))
def Qy:AFn:=⟨26,[.tmp 4],H5,false⟩
def WX:List Nat:=[]
def ZiA:Zr:=.seq (yQ [yM 11 5,yM 12 0,yO 13 12,yX 14 .lss (yV 11) (yV 13)] (yc 14 yw (.exit 0))) (.seq (.block 1 (.seq (.region true [yM 17 0,yM 18 5,yE 19 3 17 18,yD 20 3 19,yM 21 1,yM 22 5,yE 23 3 21 22,yD 24 3 23,yI 25 (.bin .neq (.struct [.str,.int,.int]) (yV 20) (yV 24))]) (yc 25 (yQ [yC 4 yF] yr) yw))) (yR [yM 15 5,yX 16 .add (yV 15) (yK 1),yU 5 16]))
def ZcU:Zr:=.loop ZiA
def ZcT:Zr:=yQ [yC 4 yT] yr
def ZbT:Zr:=yQ [yC 4 yF] (.seq (yQ [yM 6 0,yO 7 6,yM 8 1,yO 9 8,yX 10 .neq (yV 7) (yV 9)] (yc 10 (yQ [yC 4 yF] yr) yw)) (.seq (yQ [yC 5 (yK 0)] (.block 0 (ZcU))) ZcT))
def Iw:AFn:=⟨26,[.tmp 4],ZbT,false⟩
def G8:List Nat:=[]
def Zlh:Zr:=.seq (yQ [yM 120 5,yH 121 2 2,yL 122 121,yO 123 122,yX 124 .lss (yV 120) (yV 123)] (yc 124 yw (.exit 0))) (.seq (.block 1 (.seq (.region true [yH 127 2 2,yL 128 127,yM 129 5,yE 130 17 128 129,yD 131 17 130,yH 132 2 3,yL 133 132,yM 134 5,yE 135 17 133 134,yD 136 17 135,yP 137 120 [yA 131,yA 136],yI 138 (.un .not (yV 137))]) (yc 138 (yQ [yC 4 yF] yr) yw))) (yR [yM 125 5,yX 126 .add (yV 125) (yK 1),yU 5 126]))
def Ze8:Zr:=.loop Zlh
def Zli:Zr:=.seq (yQ [yM 139 6,yH 140 3 2,yL 141 140,yO 142 141,yX 143 .lss (yV 139) (yV 142)] (yc 143 yw (.exit 2))) (.seq (.block 3 (.seq (.region true [yH 146 3 2,yL 147 146,yM 148 6,yE 149 3 147 148,yD 150 3 149,yH 151 3 3,yL 152 151,yM 153 6,yE 154 3 152 153,yD 155 3 154,yI 156 (.bin .neq (.struct [.str,.int,.int]) (yV 150) (yV 155))]) (yc 156 (yQ [yC 4 yF] yr) yw))) (yR [yM 144 6,yX 145 .add (yV 144) (yK 1),yU 6 145]))
def Ze9:Zr:=.loop Zli
def Zlj:Zr:=.seq (yQ [yM 157 7,yH 158 4 2,yL 159 158,yO 160 159,yX 161 .lss (yV 157) (yV 160)] (yc 161 yw (.exit 4))) (.seq (.block 5 (.seq (.region true [yH 164 4 2,yL 165 164,yM 166 7,yE 167 3 165 166,yD 168 3 167,yH 169 4 3,yL 170 169,yM 171 7,yE 172 3 170 171,yD 173 3 172,yI 174 (.bin .neq (.struct [.str,.int,.int]) (yV 168) (yV 173))]) (yc 174 (yQ [yC 4 yF] yr) yw))) (yR [yM 162 7,yX 163 .add (yV 162) (yK 1),yU 7 163]))
def ZeA:Zr:=.loop Zlj
def Zlk:Zr:=.seq (yQ [yM 175 8,yH 176 10 2,yL 177 176,yO 178 177,yX 179 .lss (yV 175) (yV 178)] (yc 179 yw (.exit 6))) (.seq (.block 7 (.seq (.regionB [yH 182 10 2,yL 183 182,yM 184 8,yE 185 4 183 184,yD 186 4 185,yH 187 10 3,yL 188 187,yM 189 8,yE 190 4 188 189,yD 191 4 190,yI 9 (.mk 79 [ye,(.own 2 []),(.own 2 []),(.own 21 [])]),yI 10 (.mk 79 [ye,(.own 2 []),(.own 2 []),(.own 21 [])]),yN (.st 4 (yV 9) (yV 186)),yN (.st 4 (yV 10) (yV 191))]) (yQ [yH 192 0 9,yL 193 192,yH 194 0 10,yL 195 194,yX 196 .neq (yV 193) (yV 195),yM 197 196,yJ 198 (.fa 1 (yV 9)) 197 false,yJ 199 (.ldc (yV 198)) 197 false,yJ 200 (.fa 1 (yV 10)) 197 false,yJ 201 (.ldc (yV 200)) 197 false,yJ 202 (.call (yG 121) [yA 199,yA 201]) 197 false,yJ 203 (.un .not (yV 202)) 197 false,yI 204 (.pick (yV 197) yT (yV 203)),yM 205 204,yJ 206 (.fa 2 (yV 9)) 205 false,yJ 207 (.ldc (yV 206)) 205 false,yJ 208 (.fa 2 (yV 10)) 205 false,yJ 209 (.ldc (yV 208)) 205 false,yJ 210 (.call (yG 121) [yA 207,yA 209]) 205 false,yJ 211 (.un .not (yV 210)) 205 false,yI 212 (.pick (yV 205) yT (yV 211)),yM 213 212,yJ 214 (.fa 3 (yV 9)) 213 false,yJ 215 (.ldc (yV 214)) 213 false,yJ 216 (.fa 3 (yV 10)) 213 false,yJ 217 (.ldc (yV 216)) 213 false,yJ 218 (.call (yG 122) [yA 215,yA 217]) 213 false,yJ 219 (.un .not (yV 218)) 213 false,yI 220 (.pick (yV 213) yT (yV 219))] (yc 220 (yQ [yC 4 yF] yr) yw)))) (yR [yM 180 8,yX 181 .add (yV 180) (yK 1),yU 8 181]))
def ZeB:Zr:=.loop Zlk
def Zll:Zr:=.seq (yQ [yM 221 11,yH 222 11 2,yL 223 222,yO 224 223,yX 225 .lss (yV 221) (yV 224)] (yc 225 yw (.exit 8))) (.seq (.block 9 (.seq (.regionB [yH 228 11 2,yL 229 228,yM 230 11,yE 231 5 229 230,yD 232 5 231,yH 233 11 3,yL 234 233,yM 235 11,yE 236 5 234 235,yD 237 5 236,yI 12 (.mk 105 [ye,(.own 1 []),y0,y0,y0]),yI 13 (.mk 105 [ye,(.own 1 []),y0,y0,y0]),yN (.st 5 (yV 12) (yV 232)),yN (.st 5 (yV 13) (yV 237))]) (yQ [yH 238 0 12,yL 239 238,yH 240 0 13,yL 241 240,yX 242 .neq (yV 239) (yV 241),yM 243 242,yJ 244 (.fa 2 (yV 12)) 243 false,yJ 245 (.ldc (yV 244)) 243 false,yJ 246 (.fa 2 (yV 13)) 243 false,yJ 247 (.ldc (yV 246)) 243 false,yJ 248 (.bin .neq .prim (yV 245) (yV 247)) 243 false,yI 249 (.pick (yV 243) yT (yV 248)),yM 250 249,yJ 251 (.fa 3 (yV 12)) 250 false,yJ 252 (.ldc (yV 251)) 250 false,yJ 253 (.fa 3 (yV 13)) 250 false,yJ 254 (.ldc (yV 253)) 250 false,yJ 255 (.bin .neq .prim (yV 252) (yV 254)) 250 false,yI 256 (.pick (yV 250) yT (yV 255)),yM 257 256,yJ 258 (.fa 4 (yV 12)) 257 false,yJ 259 (.ldc (yV 258)) 257 false,yJ 260 (.fa 4 (yV 13)) 257 false,yJ 261 (.ldc (yV 260)) 257 false,yJ 262 (.bin .neq .prim (yV 259) (yV 261)) 257 false,yI 263 (.pick (yV 257) yT (yV 262)),yM 264 263,yJ 265 (.fa 1 (yV 12)) 264 false,yJ 266 (.ldc (yV 265)) 264 false,yJ 267 (.fa 1 (yV 13)) 264 false,yJ 268 (.ldc (yV 267)) 264 false,yJ 269 (.call (yG 123) [yA 266,yA 268]) 264 false,yJ 270 (.un .not (yV 269)) 264 false,yI 271 (.pick (yV 264) yT (yV 270))] (yc 271 (yQ [yC 4 yF] yr) yw)))) (yR [yM 226 11,yX 227 .add (yV 226) (yK 1),yU 11 227]))
def ZeC:Zr:=.loop Zll
def ZjY:Zr:=.seq (yQ [yM 272 14,yH 273 12 2,yL 274 273,yO 275 274,yX 276 .lss (yV 272) (yV 275)] (yc 276 yw (.exit 10))) (.seq (.block 11 (.seq (.region true [yH 279 12 2,yL 280 279,yM 281 14,yE 282 3 280 281,yD 283 3 282,yH 284 12 3,yL 285 284,yM 286 14,yE 287 3 285 286,yD 288 3 287,yP 289 124 [yA 283,yA 288],yI 290 (.un .not (yV 289))]) (yc 290 (yQ [yC 4 yF] yr) yw))) (yR [yM 277 14,yX 278 .add (yV 277) (yK 1),yU 14 278]))
def ZdD:Zr:=.loop ZjY
def ZdC:Zr:=yQ [yC 4 yT] yr
def Zbd:Zr:=.seq (yQ [yC 14 (yK 0)] (.block 10 (ZdD))) ZdC
def Zbc:Zr:=.seq (yQ [yC 11 (yK 0)] (.block 8 (ZeC))) Zbd
def Zbb:Zr:=.seq (yQ [yC 8 (yK 0)] (.block 6 (ZeB))) Zbc
def Zba:Zr:=.seq (yQ [yC 7 (yK 0)] (.block 4 (ZeA))) Zbb
def ZaZ:Zr:=.seq (yQ [yC 6 (yK 0)] (.block 2 (Ze9))) Zba
def Zeh:Zr:=yQ [yI 2 (.box 42 13 (yV 0)),yI 3 (.box 42 13 (yV 1)),yC 4 yF] (.seq (yQ [yH 15 0 2,yL 16 15,yH 17 0 3,yL 18 17,yX 19 .neq (yV 16) (yV 18),yM 20 19,yJ 21 (.fa 1 (yV 2)) 20 false,yJ 22 (.ldc (yV 21)) 20 false,yJ 23 (.fa 1 (yV 3)) 20 false,yJ 24 (.ldc (yV 23)) 20 false,yJ 25 (.call (yG 52) [yA 22,yA 24]) 20 false,yJ 26 (.un .not (yV 25)) 20 false,yI 27 (.pick (yV 20) yT (yV 26)),yM 28 27,yJ 29 (.fa 2 (yV 2)) 28 false,yJ 30 (.ldc (yV 29)) 28 false,yJ 31 (.len .slice (yV 30)) 28 false,yJ 32 (.fa 2 (yV 3)) 28 false,yJ 33 (.ldc (yV 32)) 28 false,yJ 34 (.len .slice (yV 33)) 28 false,yJ 35 (.bin .neq .prim (yV 31) (yV 34)) 28 false,yI 36 (.pick (yV 28) yT (yV 35)),yM 37 36,yJ 38 (.fa 3 (yV 2)) 37 false,yJ 39 (.ldc (yV 38)) 37 false,yJ 40 (.len .slice (yV 39)) 37 false,yJ 41 (.fa 3 (yV 3)) 37 false,yJ 42 (.ldc (yV 41)) 37 false,yJ 43 (.len .slice (yV 42)) 37 false,yJ 44 (.bin .neq .prim (yV 40) (yV 43)) 37 false,yI 45 (.pick (yV 37) yT (yV 44)),yM 46 45,yJ 47 (.fa 4 (yV 2)) 46 false,yJ 48 (.ldc (yV 47)) 46 false,yJ 49 (.len .slice (yV 48)) 46 false,yJ 50 (.fa 4 (yV 3)) 46 false,yJ 51 (.ldc (yV 50)) 46 false,yJ 52 (.len .slice (yV 51)) 46 false,yJ 53 (.bin .neq .prim (yV 49) (yV 52)) 46 false,yI 54 (.pick (yV 46) yT (yV 53)),yM 55 54,yJ 56 (.fa 10 (yV 2)) 55 false,yJ 57 (.ldc (yV 56)) 55 false,yJ 58 (.len .slice (yV 57)) 55 false,yJ 59 (.fa 10 (yV 3)) 55 false,yJ 60 (.ldc (yV 59)) 55 false,yJ 61 (.len .slice (yV 60)) 55 false,yJ 62 (.bin .neq .prim (yV 58) (yV 61)) 55 false,yI 63 (.pick (yV 55) yT (yV 62)),yM 64 63,yJ 65 (.fa 11 (yV 2)) 64 false,yJ 66 (.ldc (yV 65)) 64 false,yJ 67 (.len .slice (yV 66)) 64 false,yJ 68 (.fa 11 (yV 3)) 64 false,yJ 69 (.ldc (yV 68)) 64 false,yJ 70 (.len .slice (yV 69)) 64 false,yJ 71 (.bin .neq .prim (yV 67) (yV 70)) 64 false,yI 72 (.pick (yV 64) yT (yV 71)),yM 73 72,yJ 74 (.fa 12 (yV 2)) 73 false,yJ 75 (.ldc (yV 74)) 73 false,yJ 76 (.len .slice (yV 75)) 73 false,yJ 77 (.fa 12 (yV 3)) 73 false,yJ 78 (.ldc (yV 77)) 73 false,yJ 79 (.len .slice (yV 78)) 73 false,yJ 80 (.bin .neq .prim (yV 76) (yV 79)) 73 false,yI 81 (.pick (yV 73) yT (yV 80))] (yc 81 (yQ [yC 4 yF] yr) yw)) (.seq (yQ [yH 82 5 2,yL 83 82,yH 84 5 3,yL 85 84,yP 86 119 [yA 83,yA 85],yI 87 (.un .not (yV 86)),yM 88 87,yJ 89 (.fa 6 (yV 2)) 88 false,yJ 90 (.ldc (yV 89)) 88 false,yJ 91 (.fa 6 (yV 3)) 88 false,yJ 92 (.ldc (yV 91)) 88 false,yJ 93 (.call (yG 119) [yA 90,yA 92]) 88 false,yJ 94 (.un .not (yV 93)) 88 false,yI 95 (.pick (yV 88) yT (yV 94)),yM 96 95,yJ 97 (.fa 7 (yV 2)) 96 false,yJ 98 (.ldc (yV 97)) 96 false,yJ 99 (.fa 7 (yV 3)) 96 false,yJ 100 (.ldc (yV 99)) 96 false,yJ 101 (.call (yG 119) [yA 98,yA 100]) 96 false,yJ 102 (.un .not (yV 101)) 96 false,yI 103 (.pick (yV 96) yT (yV 102)),yM 104 103,yJ 105 (.fa 8 (yV 2)) 104 false,yJ 106 (.ldc (yV 105)) 104 false,yJ 107 (.fa 8 (yV 3)) 104 false,yJ 108 (.ldc (yV 107)) 104 false,yJ 109 (.call (yG 119) [yA 106,yA 108]) 104 false,yJ 110 (.un .not (yV 109)) 104 false,yI 111 (.pick (yV 104) yT (yV 110)),yM 112 111,yJ 113 (.fa 9 (yV 2)) 112 false,yJ 114 (.ldc (yV 113)) 112 false,yJ 115 (.fa 9 (yV 3)) 112 false,yJ 116 (.ldc (yV 115)) 112 false,yJ 117 (.call (yG 119) [yA 114,yA 116]) 112 false,yJ 118 (.un .not (yV 117)) 112 false,yI 119 (.pick (yV 112) yT (yV 118))] (yc 119 (yQ [yC 4 yF] yr) yw)) (.seq (yQ [yC 5 (yK 0)] (.block 0 (Ze8))) ZaZ)))
def QM:AFn:=⟨291,[.tmp 4],Zeh,false⟩
def YP:List Nat:=[21,22,23,24,25,26,29,30,31,32,33,34,35,38,39,40,41,42,43,44,47,48,49,50,51,52,53,56,57,58,59,60,61,62,65,66,67,68,69,70,71,74,75,76,77,78,79,80,89,90,91,92,93,94,97,98,99,100,101,102,105,106,107,108,109,110,113,114,115,116,117,118,198,199,200,201,202,203,206,207,208,209,210,211,214,215,216,217,218,219,244,245,246,247,248,251,252,253,254,255,258,259,260,261,262,265,266,267,268,269,270]
def Zsh:Zr:=yQ [yC 2 yF] (yQ [yM 3 0,yX 4 .geq (yV 3) (.const (.int .u8 97)),yM 5 4,yJ 6 (.mv (yV 0)) 5 true,yJ 7 (.bin .leq .prim (yV 6) (.const (.int .u8 122))) 5 true,yI 8 (.pick (yV 5) (yV 7) yF),yU 2 8] yr)
def Zjk:AFn:=⟨9,[.tmp 2],Zsh,false⟩
def ZsP:List Nat:=[6,7]
def ZpE:Zr:=yQ [yC 2 yF] (.seq (yQ [yM 3 0] (.block 0 (.seq (yQ [yX 5 .eql (yV 3) (yS [97,100,100]),yU 4 5] (yc 4 yw (yQ [yX 6 .eql (yV 3) (yS [97,102,116,101,114]),yU 4 6] (yc 4 yw (yQ [yX 7 .eql (yV 3) (yS [97,110,100]),yU 4 7] (yc 4 yw (yQ [yX 8 .eql (yV 3) (yS [97,116]),yU 4 8] (yc 4 yw (yQ [yX 9 .eql (yV 3) (yS [98,101,108,116]),yU 4 9] (yc 4 yw (yQ [yX 10 .eql (yV 3) (yS [98,111,111,108]),yU 4 10] (yc 4 yw (yQ [yX 11 .eql (yV 3) (yS [99,111,110,115,101,114,118,101]),yU 4 11] (yc 4 yw (yQ [yX 12 .eql (yV 3) (yS [99,111,110,115,116]),yU 4 12] (yc 4 yw (yQ [yX 13 .eql (yV 3) (yS [99,111,117,110,116]),yU 4 13] (yc 4 yw (yQ [yX 14 .eql (yV 3) (yS [99,121,99,108,101]),yU 4 14] (yc 4 yw (yQ [yX 15 .eql (yV 3) (yS [100,111,119,110]),yU 4 15] (yc 4 yw (yQ [yX 16 .eql (yV 3) (yS [100,114,97,119]),yU 4 16] (yc 4 yw (yQ [yX 17 .eql (yV 3) (yS [100,117,114]),yU 4 17] (yc 4 yw (yQ [yX 18 .eql (yV 3) (yS [101,108,115,101]),yU 4 18] (yc 4 yw (yQ [yX 19 .eql (yV 3) (yS [101,110,100]),yU 4 19] (yc 4 yw (yQ [yX 20 .eql (yV 3) (yS [101,118,101,114,121]),yU 4 20] (yc 4 yw (yQ [yX 21 .eql (yV 3) (yS [102,97,108,115,101]),yU 4 21] (yc 4 yw (yQ [yX 22 .eql (yV 3) (yS [102,97,117,108,116]),yU 4 22] (yc 4 yw (yQ [yX 23 .eql (yV 3) (yS [102,105,102,111]),yU 4 23] (yc 4 yw (yQ [yX 24 .eql (yV 3) (yS [102,114,101,101]),yU 4 24] (yc 4 yw (yQ [yX 25 .eql (yV 3) (yS [102,114,111,109]),yU 4 25] (yc 4 yw (yQ [yX 26 .eql (yV 3) (yS [103,101,111,109]),yU 4 26] (yc 4 yw (yQ [yX 27 .eql (yV 3) (yS [103,101,116]),yU 4 27] (yc 4 yw (yQ [yX 28 .eql (yV 3) (yS [104,111,108,100]),yU 4 28] (yc 4 yw (yQ [yX 29 .eql (yV 3) (yS [105,102]),yU 4 29] (yc 4 yw (yQ [yX 30 .eql (yV 3) (yS [105,110,116]),yU 4 30] (yc 4 yw (yQ [yX 31 .eql (yV 3) (yS [105,110,116,111]),yU 4 31] (yc 4 yw (yQ [yX 32 .eql (yV 3) (yS [108,101,97,115,116]),yU 4 32] (yc 4 yw (yQ [yX 33 .eql (yV 3) (yS [108,101,118,101,108]),yU 4 33] (yc 4 yw (yQ [yX 34 .eql (yV 3) (yS [108,105,102,111]),yU 4 34] (yc 4 yw (yQ [yX 35 .eql (yV 3) (yS [108,105,110,107]),yU 4 35] (yc 4 yw (yQ [yX 36 .eql (yV 3) (yS [108,111,99,97,108]),yU 4 36] (yc 4 yw (yQ [yX 37 .eql (yV 3) (yS [109,97,120]),yU 4 37] (yc 4 yw (yQ [yX 38 .eql (yV 3) (yS [109,105,110]),yU 4 38] (yc 4 yw (yQ [yX 39 .eql (yV 3) (yS [109,111,100,101,108]),yU 4 39] (yc 4 yw (yQ [yX 40 .eql (yV 3) (yS [110,111,116]),yU 4 40] (yc 4 yw (yQ [yX 41 .eql (yV 3) (yS [110,111,119]),yU 4 41] (yc 4 yw (yQ [yX 42 .eql (yV 3) (yS [111,98,115,101,114,118,101]),yU 4 42] (yc 4 yw (yQ [yX 43 .eql (yV 3) (yS [111,114]),yU 4 43] (yc 4 yw (yQ [yX 44 .eql (yV 3) (yS [112,97,114,97,109]),yU 4 44] (yc 4 yw (yQ [yX 45 .eql (yV 3) (yS [112,114,101,101,109,112,116]),yU 4 45] (yc 4 yw (yQ [yX 46 .eql (yV 3) (yS [112,114,105,111]),yU 4 46] (yc 4 yw (yQ [yX 47 .eql (yV 3) (yS [112,117,116]),yU 4 47] (yc 4 yw (yQ [yX 48 .eql (yV 3) (yS [113,117,101,117,101]),yU 4 48] (yc 4 yw (yQ [yX 49 .eql (yV 3) (yS [114,101,108,101,97,115,101]),yU 4 49] (yc 4 yw (yQ [yX 50 .eql (yV 3) (yS [114,101,115,111,117,114,99,101]),yU 4 50] (yc 4 yw (yQ [yX 51 .eql (yV 3) (yS [114,105,100,101]),yU 4 51] (yc 4 yw (yQ [yX 52 .eql (yV 3) (yS [114,111,117,116,105,110,101]),yU 4 52] (yc 4 yw (yQ [yX 53 .eql (yV 3) (yS [115,101,105,122,101]),yU 4 53] (yc 4 yw (yQ [yX 54 .eql (yV 3) (yS [115,101,110,100]),yU 4 54] (yc 4 yw (yQ [yX 55 .eql (yV 3) (yS [115,101,116]),yU 4 55] (yc 4 yw (yQ [yX 56 .eql (yV 3) (yS [115,104,105,102,116]),yU 4 56] (yc 4 yw (yQ [yX 57 .eql (yV 3) (yS [115,105,103,110,97,108]),yU 4 57] (yc 4 yw (yQ [yX 58 .eql (yV 3) (yS [115,105,116,101]),yU 4 58] (yc 4 yw (yQ [yX 59 .eql (yV 3) (yS [115,105,122,101]),yU 4 59] (yc 4 yw (yQ [yX 60 .eql (yV 3) (yS [115,112,97,119,110]),yU 4 60] (yc 4 yw (yQ [yX 61 .eql (yV 3) (yS [115,116,97,114,116]),yU 4 61] (yc 4 yw (yQ [yX 62 .eql (yV 3) (yS [115,116,111,112]),yU 4 62] (yc 4 yw (yQ [yX 63 .eql (yV 3) (yS [115,116,111,114,101]),yU 4 63] (yc 4 yw (yQ [yX 64 .eql (yV 3) (yS [115,116,114,101,97,109]),yU 4 64] (yc 4 yw (yQ [yX 65 .eql (yV 3) (yS [115,117,109]),yU 4 65] (yc 4 yw (yQ [yX 66 .eql (yV 3) (yS [116,97,98,108,101]),yU 4 66] (yc 4 yw (yQ [yX 67 .eql (yV 3) (yS [116,97,108,108,121]),yU 4 67] (yc 4 yw (yQ [yX 68 .eql (yV 3) (yS [116,105,99,107,115]),yU 4 68] (yc 4 yw (yQ [yX 69 .eql (yV 3) (yS [116,105,109,101]),yU 4 69] (yc 4 yw (yQ [yX 70 .eql (yV 3) (yS [116,114,117,101]),yU 4 70] (yc 4 yw (yQ [yX 71 .eql (yV 3) (yS [117,110,105,102,111,114,109]),yU 4 71] (yc 4 yw (yQ [yX 72 .eql (yV 3) (yS [117,110,116,105,108]),yU 4 72] (yc 4 yw (yQ [yX 73 .eql (yV 3) (yS [117,112]),yU 4 73] (yc 4 yw (yQ [yX 74 .eql (yV 3) (yS [118,97,114]),yU 4 74] (yc 4 yw (yQ [yX 75 .eql (yV 3) (yS [119,97,105,116]),yU 4 75] (yc 4 yw (yQ [yX 76 .eql (yV 3) (yS [119,97,105,116,105,110,103]),yU 4 76] (yc 4 yw (yR [yX 77 .eql (yV 3) (yS [119,104,105,108,101]),yU 4 77]))))))))))))))))))))))))))))))))))))))))))))))))))))))))))))))))))))))))))))))))))))))))))))))))))))))))))))))))))))))))))))))))))))))))))))))))) (yc 4 (yQ [yC 2 yT] yr) yw)))) (yQ [yC 2 yF] yr))
def ZgR:AFn:=⟨78,[.tmp 2],ZpE,false⟩
def Zrb:List Nat:=[]
def ZgV:Zr:=yQ [yI 3 (.box 69 3 (yV 1)),yC 4 (yK 0)] (.seq (yQ [yM 6 0,yH 7 0 3,yL 8 7,yP 9 30 [yA 6,yA 8],yU 5 9] (yQ [yM 10 5,yX 11 .neq (yV 10) (yK 0)] (yc 11 (yQ [yU 12 5,yU 4 12] yr) yw))) (.seq (.block 0 (yQ [yH 14 1 3,yL 15 14,yP 16 125 [yA 15],yI 17 (.un .not (yV 16)),yU 13 17] (yc 13 (yQ [yC 4 (yK 1)] yr) (yQ [yH 19 1 3,yL 20 19,yH 21 2 3,yL 22 21,yP 23 126 [yA 20,yA 22],yI 24 (.un .not (yV 23)),yU 18 24] (yc 18 (yQ [yC 4 (yK 2)] yr) yw))))) (yQ [yC 4 (yK 0)] yr)))
def Zb4:AFn:=⟨25,[.tmp 4],ZgV,false⟩
def Zii:List Nat:=[]
def ZcJ:Zr:=yQ [yX 17 .lss (yV 16) (yV 15)] (.seq (yc 17 yw (.exit 0)) (.seq (.block 1 (yQ [yE 18 3 14 16,yD 19 3 18,yI 8 (.mk 69 [ye,y0,y0]),yN (.st 3 (yV 8) (yV 19))] (yQ [yM 20 2,yD 21 3 8,yI 22 (.call (yV 20) [yA 21]),yU 9 22] (yQ [yM 23 9,yX 24 .neq (yV 23) (yK 0)] (yc 24 (yQ [yU 25 9,yU 6 25] yr) yw))))) (yR [yX 26 .add (yV 16) (yK 1),yM 16 26])))
def A7:Zr:=.loop ZcJ
def Az:Zr:=yQ [yC 6 (yK 0)] yr
def PD:Zr:=yQ [yC 6 (yK 0)] (.seq (yQ [yM 10 0,yO 11 10,yM 12 1,yX 13 .gtr (yV 11) (yV 12)] (yc 13 (yQ [yC 6 (yK 6)] yr) yw)) (.seq (yQ [yM 14 0,yO 15 14,yC 16 (yK 0)] (.block 0 (A7))) Az))
def VX:AFn:=⟨27,[.tmp 6],PD,false⟩
def Vt:List Nat:=[]
def ZgU:Zr:=yQ [yC 4 (yK 0)] (.seq (yQ [yM 6 1,yP 7 26 [yA 6],yU 5 7] (yQ [yM 8 5,yX 9 .neq (yV 8) (yK 0)] (yc 9 (yQ [yU 10 5,yU 4 10] yr) yw))) (.seq (yQ [yM 11 0,yM 12 1,yI 13 (.look (.one .str) yf (yV 11) (yV 12) false)] (yc 13 (yQ [yC 4 (yK 4)] yr) yw)) (yQ [yM 14 0,yM 15 1,yN (.mupd (.one .str) (yV 14) (yV 15) yT)] (yQ [yC 4 (yK 0)] yr))))
def Zb3:AFn:=⟨16,[.tmp 4],ZgU,false⟩
def Zih:List Nat:=[]
def Zvz:Zr:=yQ [yI 1 (.box 42 13 (yV 0)),yC 2 (yK 0)] (yQ [yI 5 (.mkmap),yI 3 (.mk 60 [.nilm]),yN (.stt (yV 3) 5)] (yQ [yI 6 (.mkfn 58 [] [(yV 3)]),yI 4 (.mk 111 [.nilf]),yN (.stt (yV 4) 6)] (yQ [yI 7 (.mkfn 61 [] [(yV 3),(yV 1)]),yI 8 (.mkfn 62 [] [(yV 1),(yV 3)]),yI 9 (.mkfn 68 [] [(yV 1),(yV 3)]),yI 10 (.mkfn 71 [] [(yV 1),(yV 3)]),yI 11 (.mkfn 74 [] [(yV 4),(yV 1)]),yI 12 (.mkfn 75 [] [(yV 4),(yV 1)]),yI 13 (.mkfn 76 [] [(yV 4),(yV 1)]),yI 14 (.mkfn 77 [] [(yV 4),(yV 1)]),yI 15 (.mkfn 78 [] [(yV 4),(yV 1)]),yI 16 (.mkfn 79 [] [(yV 1),(yV 3)]),yI 17 (.mkfn 83 [] [(yV 1)]),yI 18 (.mkfn 87 [] [(yV 1)]),yI 19 (.lit 113 1 [(yV 7),(yV 8),(yV 9),(yV 10),(yV 11),(yV 12),(yV 13),(yV 14),(yV 15),(yV 16),(yV 17),(yV 18)]),yP 20 60 [yA 19],yU 2 20] yr)))
def Zn7:AFn:=⟨21,[.tmp 2],Zvz,false⟩
def Zwp:List Nat:=[]
def Zp8:Zr:=yQ [yI 3 (.box 49 3 (yV 0)),yC 4 (yK 0)] (yQ [yH 6 0 3,yL 7 6,yH 8 1 3,yL 9 8,yI 10 (.build [ye,ye] [(0,1,(yV 7)),(1,1,(yV 9))]),yI 5 (.mk 129 [ye,ye]),yN (.st 2 (yV 5) (yV 10))] (.seq (.block 0 (yQ [yD 12 4 1,yH 13 0 3,yL 14 13,yP 15 14 [yA 12,yA 14],yX 16 .lss (yV 15) (yK 0),yM 17 16,yJ 18 (.lda 4 (yV 1)) 17 false,yJ 19 (.fa 1 (yV 3)) 17 false,yJ 20 (.ldc (yV 19)) 17 false,yJ 21 (.call (yG 14) [yA 18,yA 20]) 17 false,yJ 22 (.bin .lss .prim (yV 21) (yK 0)) 17 false,yI 23 (.pick (yV 17) yT (yV 22)),yU 11 23] (yc 11 (yQ [yC 4 (yK 5)] yr) (yQ [yH 25 0 3,yL 26 25,yH 27 1 3,yL 28 27,yX 29 .eql (yV 26) (yV 28),yU 24 29] (yc 24 (yQ [yC 4 (yK 1)] yr) (yQ [yH 31 2 3,yL 32 31,yP 33 65 [yA 32,yB (yK 1),yB (yK 1000000000)],yI 34 (.un .not (yV 33)),yU 30 34] (yc 30 (yQ [yC 4 (yK 2)] yr) (yQ [yL 36 2,yD 37 2 5,yI 38 (.look (.pair .str) yf (yV 36) (yV 37) false),yU 35 38] (yc 35 (yQ [yC 4 (yK 4)] yr) yw))))))))) (yQ [yL 39 2,yD 40 2 5,yN (.mupd (.pair .str) (yV 39) (yV 40) yT)] (yQ [yC 4 (yK 0)] yr))))
def ZgL:AFn:=⟨41,[.tmp 4],Zp8,false⟩
def ZqV:List Nat:=[18,19,20,21,22]
def Zdv:Zr:=yQ [yX 17 .lss (yV 16) (yV 15)] (.seq (yc 17 yw (.exit 0)) (.seq (.block 1 (yQ [yE 18 3 14 16,yD 19 3 18,yI 8 (.mk 49 [ye,ye,y0]),yN (.st 3 (yV 8) (yV 19))] (yQ [yM 20 2,yD 21 3 8,yI 22 (.call (yV 20) [yA 21]),yU 9 22] (yQ [yM 23 9,yX 24 .neq (yV 23) (yK 0)] (yc 24 (yQ [yU 25 9,yU 6 25] yr) yw))))) (yR [yX 26 .add (yV 16) (yK 1),yM 16 26])))
def AX:Zr:=.loop Zdv
def AU:Zr:=yQ [yC 6 (yK 0)] yr
def NV:Zr:=yQ [yC 6 (yK 0)] (.seq (yQ [yM 10 0,yO 11 10,yM 12 1,yX 13 .gtr (yV 11) (yV 12)] (yc 13 (yQ [yC 6 (yK 6)] yr) yw)) (.seq (yQ [yM 14 0,yO 15 14,yC 16 (yK 0)] (.block 0 (AX))) AU))
def Jz:AFn:=⟨27,[.tmp 6],NV,false⟩
def VA:List Nat:=[]
def La:Zr:=yQ [yX 9 .lss (yV 8) (yV 7)] (.seq (yc 9 yw (.exit 0)) (.seq (.block 1 (yQ [yM 10 8,yU 5 10] (yQ [yM 11 1,yM 12 0,yM 13 5,yE 14 3 12 13,yD 15 3 14,yI 16 (.call (yV 11) [yA 15])] (yc 16 (yQ [yU 17 5,yU 4 17] yr) yw)))) (yR [yX 18 .add (yV 8) (yK 1),yM 8 18])))
def UO:Zr:=.loop La
def UN:Zr:=yQ [yI 4 (.mv (.const (.int .i64 (-1))))] yr
def VZ:Zr:=yQ [yC 4 (yK 0)] (.seq (yQ [yM 6 0,yO 7 6,yC 8 (yK 0)] (.block 0 (UO))) UN)
def YD:AFn:=⟨19,[.tmp 4],VZ,false⟩
def Y1:List Nat:=[]
def CY:Zr:=yQ [yX 9 .lss (yV 8) (yV 7)] (.seq (yc 9 yw (.exit 0)) (.seq (.block 1 (yQ [yM 10 8,yU 5 10] (yQ [yM 11 1,yM 12 0,yM 13 5,yE 14 1 12 13,yL 15 14,yX 16 .eql (yV 11) (yV 15)] (yc 16 (yQ [yU 17 5,yU 4 17] yr) yw)))) (yR [yX 18 .add (yV 8) (yK 1),yM 8 18])))
def Bd:Zr:=.loop CY
def Bc:Zr:=yQ [yI 4 (.mv (.const (.int .i64 (-1))))] yr
def OO:Zr:=yQ [yC 4 (yK 0)] (.seq (yQ [yM 6 0,yO 7 6,yC 8 (yK 0)] (.block 0 (Bd))) Bc)
def Xh:AFn:=⟨19,[.tmp 4],OO,false⟩
def QE:List Nat:=[]
def VY:Zr:=yQ [yX 18 .lss (yV 17) (yV 16)] (.seq (yc 18 yw (.exit 0)) (.seq (.block 1 (yQ [yM 19 17,yE 20 17 15 17,yD 21 17 20,yI 8 (.mk 92 [ye,y0,(.own 2 []),y0,ye,y0,y0,y0,y0,(.own 1 []),(.own 1 []),y0,y0,y0,y0,(.own 1 []),(.own 1 [])]),yU 7 19,yN (.st 17 (yV 8) (yV 21))] (yQ [yM 22 1,yM 23 7,yE 24 17 22 23,yD 25 17 24,yI 9 (.mk 92 [ye,y0,(.own 2 []),y0,ye,y0,y0,y0,y0,(.own 1 []),(.own 1 []),y0,y0,y0,y0,(.own 1 []),(.own 1 [])]),yN (.st 17 (yV 9) (yV 25))] (yQ [yM 26 2,yD 27 17 8,yD 28 17 9,yI 29 (.call (yV 26) [yA 27,yA 28]),yI 30 (.un .not (yV 29))] (yc 30 (yQ [yC 6 yF] yr) yw))))) (yR [yX 31 .add (yV 17) (yK 1),yM 17 31])))
def QG:Zr:=.loop VY
def QF:Zr:=yQ [yC 6 yT] yr
def Wv:Zr:=yQ [yC 6 yF] (.seq (yQ [yM 10 0,yO 11 10,yM 12 1,yO 13 12,yX 14 .neq (yV 11) (yV 13)] (yc 14 (yQ [yC 6 yF] yr) yw)) (.seq (yQ [yM 15 0,yO 16 15,yC 17 (yK 0)] (.block 0 (QG))) QF))
def Zu:AFn:=⟨32,[.tmp 6],Wv,false⟩
def Zm:List Nat:=[]
def Zi8:Zr:=yQ [yI 2 (.box 92 17 (yV 0)),yI 3 (.box 92 17 (yV 1)),yC 4 yF] (yQ [yH 5 0 2,yL 6 5,yH 7 0 3,yL 8 7,yX 9 .eql (yV 6) (yV 8),yM 10 9,yJ 11 (.fa 1 (yV 2)) 10 true,yJ 12 (.ldc (yV 11)) 10 true,yJ 13 (.fa 1 (yV 3)) 10 true,yJ 14 (.ldc (yV 13)) 10 true,yJ 15 (.bin .eql .prim (yV 12) (yV 14)) 10 true,yI 16 (.pick (yV 10) (yV 15) yF),yM 17 16,yJ 18 (.fa 3 (yV 2)) 17 true,yJ 19 (.ldc (yV 18)) 17 true,yJ 20 (.fa 3 (yV 3)) 17 true,yJ 21 (.ldc (yV 20)) 17 true,yJ 22 (.bin .eql .prim (yV 19) (yV 21)) 17 true,yI 23 (.pick (yV 17) (yV 22) yF),yM 24 23,yJ 25 (.fa 2 (yV 2)) 24 true,yJ 26 (.ldc (yV 25)) 24 true,yJ 27 (.fa 2 (yV 3)) 24 true,yJ 28 (.ldc (yV 27)) 24 true,yJ 29 (.call (yG 143) [yA 26,yA 28]) 24 true,yI 30 (.pick (yV 24) (yV 29) yF),yM 31 30,yJ 32 (.fa 4 (yV 2)) 31 true,yJ 33 (.fa 0 (yV 32)) 31 true,yJ 34 (.ldc (yV 33)) 31 true,yJ 35 (.fa 4 (yV 3)) 31 true,yJ 36 (.fa 0 (yV 35)) 31 true,yJ 37 (.ldc (yV 36)) 31 true,yJ 38 (.bin .eql .prim (yV 34) (yV 37)) 31 true,yI 39 (.pick (yV 31) (yV 38) yF),yM 40 39,yJ 41 (.fa 4 (yV 2)) 40 true,yJ 42 (.fa 1 (yV 41)) 40 true,yJ 43 (.lda 6 (yV 42)) 40 true,yJ 44 (.fa 4 (yV 3)) 40 true,yJ 45 (.fa 1 (yV 44)) 40 true,yJ 46 (.lda 6 (yV 45)) 40 true,yJ 47 (.call (yG 127) [yA 43,yA 46]) 40 true,yI 48 (.pick (yV 40) (yV 47) yF),yM 49 48,yJ 50 (.fa 4 (yV 2)) 49 true,yJ 51 (.fa 7 (yV 50)) 49 true,yJ 52 (.lda 6 (yV 51)) 49 true,yJ 53 (.fa 4 (yV 3)) 49 true,yJ 54 (.fa 7 (yV 53)) 49 true,yJ 55 (.lda 6 (yV 54)) 49 true,yJ 56 (.call (yG 127) [yA 52,yA 55]) 49 true,yI 57 (.pick (yV 49) (yV 56) yF),yU 4 57] yr)
def Zci:AFn:=⟨58,[.tmp 4],Zi8,false⟩
def ZiR:List Nat:=[11,12,13,14,15,18,19,20,21,22,25,26,27,28,29,32,33,34,35,36,37,38,41,42,43,44,45,46,47,50,51,52,53,54,55,56]
def RX:Zr:=yQ [yX 14 .lss (yV 13) (yV 12)] (.seq (yc 14 yw (.exit 0)) (.seq (.block 1 (yQ [yM 15 13,yU 5 15] (.seq (.region true [yM 16 0,yM 17 5,yE 18 3 16 17,yD 19 3 18,yM 20 1,yM 21 5,yE 22 3 20 21,yD 23 3 22,yI 24 (.bin .neq (.struct [.str,.int,.int]) (yV 19) (yV 23))]) (yc 24 (yQ [yC 4 yF] yr) yw)))) (yR [yX 25 .add (yV 13) (yK 1),yM 13 25])))
def Gt:Zr:=.loop RX
def Gs:Zr:=yQ [yC 4 yT] yr
def JS:Zr:=yQ [yC 4 yF] (.seq (yQ [yM 6 0,yO 7 6,yM 8 1,yO 9 8,yX 10 .neq (yV 7) (yV 9)] (yc 10 (yQ [yC 4 yF] yr) yw)) (.seq (yQ [yM 11 0,yO 12 11,yC 13 (yK 0)] (.block 0 (Gt))) Gs))
def We:AFn:=⟨26,[.tmp 4],JS,false⟩
def YA:List Nat:=[]
def Dj:Zr:=yQ [yX 14 .lss (yV 13) (yV 12)] (.seq (yc 14 yw (.exit 0)) (.seq (.block 1 (yQ [yM 15 13,yU 5 15] (.seq (.region true [yM 16 0,yM 17 5,yE 18 3 16 17,yD 19 3 18,yM 20 1,yM 21 5,yE 22 3 20 21,yD 23 3 22,yI 24 (.bin .neq (.struct [.str,.int,.int]) (yV 19) (yV 23))]) (yc 24 (yQ [yC 4 yF] yr) yw)))) (yR [yX 25 .add (yV 13) (yK 1),yM 13 25])))
def Hf:Zr:=.loop Dj
def He:Zr:=yQ [yC 4 yT] yr
def Um:Zr:=yQ [yC 4 yF] (.seq (yQ [yM 6 0,yO 7 6,yM 8 1,yO 9 8,yX 10 .neq (yV 7) (yV 9)] (yc 10 (yQ [yC 4 yF] yr) yw)) (.seq (yQ [yM 11 0,yO 12 11,yC 13 (yK 0)] (.block 0 (Hf))) He))
def Wp:AFn:=⟨26,[.tmp 4],Um,false⟩
def YM:List Nat:=[]
def CX:Zr:=yQ [yX 14 .lss (yV 13) (yV 12)] (.seq (yc 14 yw (.exit 0)) (.seq (.block 1 (yQ [yM 15 13,yU 5 15] (.seq (.region true [yM 16 0,yM 17 5,yE 18 1 16 17,yL 19 18,yM 20 1,yM 21 5,yE 22 1 20 21,yL 23 22,yX 24 .neq (yV 19) (yV 23)]) (yc 24 (yQ [yC 4 yF] yr) yw)))) (yR [yX 25 .add (yV 13) (yK 1),yM 13 25])))
def RZ:Zr:=.loop CX
def RY:Zr:=yQ [yC 4 yT] yr
def OM:Zr:=yQ [yC 4 yF] (.seq (yQ [yM 6 0,yO 7 6,yM 8 1,yO 9 8,yX 10 .neq (yV 7) (yV 9)] (yc 10 (yQ [yC 4 yF] yr) yw)) (.seq (yQ [yM 11 0,yO 12 11,yC 13 (yK 0)] (.block 0 (RZ))) RY))
def Xg:AFn:=⟨26,[.tmp 4],OM,false⟩
def QD:List Nat:=[]
def Kv:Zr:=yQ [yX 18 .lss (yV 17) (yV 16)] (.seq (yc 18 yw (.exit 0)) (.seq (.block 1 (yQ [yM 19 17,yE 20 4 15 17,yD 21 4 20,yI 8 (.mk 79 [ye,(.own 2 []),(.own 2 []),(.own 21 [])]),yU 7 19,yN (.st 4 (yV 8) (yV 21))] (yQ [yM 22 1,yM 23 7,yE 24 4 22 23,yD 25 4 24,yI 9 (.mk 79 [ye,(.own 2 []),(.own 2 []),(.own 21 [])]),yN (.st 4 (yV 9) (yV 25))] (yQ [yM 26 2,yD 27 4 8,yD 28 4 9,yI 29 (.call (yV 26) [yA 27,yA 28]),yI 30 (.un .not (yV 29))] (yc 30 (yQ [yC 6 yF] yr) yw))))) (yR [yX 31 .add (yV 17) (yK 1),yM 17 31])))
def Ve:Zr:=.loop Kv
def Vd:Zr:=yQ [yC 6 yT] yr
def QN:Zr:=yQ [yC 6 yF] (.seq (yQ [yM 10 0,yO 11 10,yM 12 1,yO 13 12,yX 14 .neq (yV 11) (yV 13)] (yc 14 (yQ [yC 6 yF] yr) yw)) (.seq (yQ [yM 15 0,yO 16 15,yC 17 (yK 0)] (.block 0 (Ve))) Vd))
def ZN:AFn:=⟨32,[.tmp 6],QN,false⟩
def Z8:List Nat:=[]
def ZjV:Zr:=yQ [yI 2 (.box 79 4 (yV 0)),yI 3 (.box 79 4 (yV 1)),yC 4 yF] (yQ [yH 5 0 2,yL 6 5,yH 7 0 3,yL 8 7,yX 9 .eql (yV 6) (yV 8),yM 10 9,yJ 11 (.fa 1 (yV 2)) 10 true,yJ 12 (.ldc (yV 11)) 10 true,yJ 13 (.fa 1 (yV 3)) 10 true,yJ 14 (.ldc (yV 13)) 10 true,yJ 15 (.call (yG 144) [yA 12,yA 14]) 10 true,yI 16 (.pick (yV 10) (yV 15) yF),yM 17 16,yJ 18 (.fa 2 (yV 2)) 17 true,yJ 19 (.ldc (yV 18)) 17 true,yJ 20 (.fa 2 (yV 3)) 17 true,yJ 21 (.ldc (yV 20)) 17 true,yJ 22 (.call (yG 144) [yA 19,yA 21]) 17 true,yI 23 (.pick (yV 17) (yV 22) yF),yM 24 23,yJ 25 (.fa 3 (yV 2)) 24 true,yJ 26 (.ldc (yV 25)) 24 true,yJ 27 (.fa 3 (yV 3)) 24 true,yJ 28 (.ldc (yV 27)) 24 true,yJ 29 (.call (yG 145) [yA 26,yA 28]) 24 true,yI 30 (.pick (yV 24) (yV 29) yF),yU 4 30] yr)
def ZcH:AFn:=⟨31,[.tmp 4],ZjV,false⟩
def ZkK:List Nat:=[11,12,13,14,15,18,19,20,21,22,25,26,27,28,29]
def Hz:Zr:=yQ [yX 18 .lss (yV 17) (yV 16)] (.seq (yc 18 yw (.exit 0)) (.seq (.block 1 (yQ [yM 19 17,yE 20 5 15 17,yD 21 5 20,yI 8 (.mk 105 [ye,(.own 1 []),y0,y0,y0]),yU 7 19,yN (.st 5 (yV 8) (yV 21))] (yQ [yM 22 1,yM 23 7,yE 24 5 22 23,yD 25 5 24,yI 9 (.mk 105 [ye,(.own 1 []),y0,y0,y0]),yN (.st 5 (yV 9) (yV 25))] (yQ [yM 26 2,yD 27 5 8,yD 28 5 9,yI 29 (.call (yV 26) [yA 27,yA 28]),yI 30 (.un .not (yV 29))] (yc 30 (yQ [yC 6 yF] yr) yw))))) (yR [yX 31 .add (yV 17) (yK 1),yM 17 31])))
def VQ:Zr:=.loop Hz
def VP:Zr:=yQ [yC 6 yT] yr
def Xu:Zr:=yQ [yC 6 yF] (.seq (yQ [yM 10 0,yO 11 10,yM 12 1,yO 13 12,yX 14 .neq (yV 11) (yV 13)] (yc 14 (yQ [yC 6 yF] yr) yw)) (.seq (yQ [yM 15 0,yO 16 15,yC 17 (yK 0)] (.block 0 (VQ))) VP))
def Ya:AFn:=⟨32,[.tmp 6],Xu,false⟩
def ZP:List Nat:=[]
def Zm2:Zr:=yQ [yI 2 (.box 105 5 (yV 0)),yI 3 (.box 105 5 (yV 1)),yC 4 yF] (yQ [yH 5 0 2,yL 6 5,yH 7 0 3,yL 8 7,yX 9 .eql (yV 6) (yV 8),yM 10 9,yJ 11 (.fa 1 (yV 2)) 10 true,yJ 12 (.ldc (yV 11)) 10 true,yJ 13 (.fa 1 (yV 3)) 10 true,yJ 14 (.ldc (yV 13)) 10 true,yJ 15 (.call (yG 146) [yA 12,yA 14]) 10 true,yI 16 (.pick (yV 10) (yV 15) yF),yM 17 16,yJ 18 (.fa 2 (yV 2)) 17 true,yJ 19 (.ldc (yV 18)) 17 true,yJ 20 (.fa 2 (yV 3)) 17 true,yJ 21 (.ldc (yV 20)) 17 true,yJ 22 (.bin .eql .prim (yV 19) (yV 21)) 17 true,yI 23 (.pick (yV 17) (yV 22) yF),yM 24 23,yJ 25 (.fa 3 (yV 2)) 24 true,yJ 26 (.ldc (yV 25)) 24 true,yJ 27 (.fa 3 (yV 3)) 24 true,yJ 28 (.ldc (yV 27)) 24 true,yJ 29 (.bin .eql .prim (yV 26) (yV 28)) 24 true,yI 30 (.pick (yV 24) (yV 29) yF),yM 31 30,yJ 32 (.fa 4 (yV 2)) 31 true,yJ 33 (.ldc (yV 32)) 31 true,yJ 34 (.fa 4 (yV 3)) 31 true,yJ 35 (.ldc (yV 34)) 31 true,yJ 36 (.bin .eql .prim (yV 33) (yV 35)) 31 true,yI 37 (.pick (yV 31) (yV 36) yF),yU 4 37] yr)
def Ze0:AFn:=⟨38,[.tmp 4],Zm2,false⟩
def Znr:List Nat:=[11,12,13,14,15,18,19,20,21,22,25,26,27,28,29,32,33,34,35,36]
def OG:Zr:=yQ [yX 18 .lss (yV 17) (yV 16)] (.seq (yc 18 yw (.exit 0)) (.seq (.block 1 (yQ [yM 19 17,yE 20 3 15 17,yD 21 3 20,yI 8 (.mk 57 [ye,(.own 3 []),y0]),yU 7 19,yN (.st 3 (yV 8) (yV 21))] (yQ [yM 22 1,yM 23 7,yE 24 3 22 23,yD 25 3 24,yI 9 (.mk 57 [ye,(.own 3 []),y0]),yN (.st 3 (yV 9) (yV 25))] (yQ [yM 26 2,yD 27 3 8,yD 28 3 9,yI 29 (.call (yV 26) [yA 27,yA 28]),yI 30 (.un .not (yV 29))] (yc 30 (yQ [yC 6 yF] yr) yw))))) (yR [yX 31 .add (yV 17) (yK 1),yM 17 31])))
def Uk:Zr:=.loop OG
def Uj:Zr:=yQ [yC 6 yT] yr
def Vp:Zr:=yQ [yC 6 yF] (.seq (yQ [yM 10 0,yO 11 10,yM 12 1,yO 13 12,yX 14 .neq (yV 11) (yV 13)] (yc 14 (yQ [yC 6 yF] yr) yw)) (.seq (yQ [yM 15 0,yO 16 15,yC 17 (yK 0)] (.block 0 (Uk))) Uj))
def Y0:AFn:=⟨32,[.tmp 6],Vp,false⟩
def Yi:List Nat:=[]
def Zp9:Zr:=yQ [yI 2 (.box 57 3 (yV 0)),yI 3 (.box 57 3 (yV 1)),yC 4 yF] (yQ [yH 5 0 2,yL 6 5,yH 7 0 3,yL 8 7,yX 9 .eql (yV 6) (yV 8),yM 10 9,yJ 11 (.fa 2 (yV 2)) 10 true,yJ 12 (.ldc (yV 11)) 10 true,yJ 13 (.fa 2 (yV 3)) 10 true,yJ 14 (.ldc (yV 13)) 10 true,yJ 15 (.bin .eql .prim (yV 12) (yV 14)) 10 true,yI 16 (.pick (yV 10) (yV 15) yF),yM 17 16,yJ 18 (.fa 1 (yV 2)) 17 true,yJ 19 (.ldc (yV 18)) 17 true,yJ 20 (.fa 1 (yV 3)) 17 true,yJ 21 (.ldc (yV 20)) 17 true,yJ 22 (.call (yG 147) [yA 19,yA 21]) 17 true,yI 23 (.pick (yV 17) (yV 22) yF),yU 4 23] yr)
def ZgM:AFn:=⟨24,[.tmp 4],Zp9,false⟩
def ZqW:List Nat:=[11,12,13,14,15,18,19,20,21,22]
def ZjZ:Zr:=.seq (yQ [yM 11 5,yM 12 0,yO 13 12,yX 14 .lss (yV 11) (yV 13)] (yc 14 yw (.exit 0))) (.seq (.block 1 (.seq (.region true [yM 17 0,yM 18 5,yE 19 1 17 18,yL 20 19,yM 21 1,yM 22 5,yE 23 1 21 22,yL 24 23,yX 25 .neq (yV 20) (yV 24)]) (yc 25 (yQ [yC 4 yF] yr) yw))) (yR [yM 15 5,yX 16 .add (yV 15) (yK 1),yU 5 16]))
def ZdF:Zr:=.loop ZjZ
def ZdE:Zr:=yQ [yC 4 yT] yr
def ZcV:Zr:=yQ [yC 4 yF] (.seq (yQ [yM 6 0,yO 7 6,yM 8 1,yO 9 8,yX 10 .neq (yV 7) (yV 9)] (yc 10 (yQ [yC 4 yF] yr) yw)) (.seq (yQ [yC 5 (yK 0)] (.block 0 (ZdF))) ZdE))
def OD:AFn:=⟨26,[.tmp 4],ZcV,false⟩
def Ik:List Nat:=[]
def Zgv:Zr:=.seq (yQ [yM 43 5,yH 44 2 2,yL 45 44,yO 46 45,yX 47 .lss (yV 43) (yV 46)] (yc 47 yw (.exit 0))) (.seq (.block 1 (.seq (.region true [yH 50 2 2,yL 51 50,yM 52 5,yE 53 2 51 52,yD 54 2 53,yH 55 2 3,yL 56 55,yM 57 5,yE 58 2 56 57,yD 59 2 58,yI 60 (.bin .neq (.struct [.int,.int]) (yV 54) (yV 59))]) (yc 60 (yQ [yC 4 yF] yr) yw))) (yR [yM 48 5,yX 49 .add (yV 48) (yK 1),yU 5 49]))
def Zb8:Zr:=.loop Zgv
def Zb7:Zr:=yQ [yH 61 4 2,yH 62 1 61,yD 63 6 62,yH 64 4 3,yH 65 1 64,yD 66 6 65,yP 67 148 [yA 63,yA 66],yM 68 67,yJ 69 (.fa 4 (yV 2)) 68 true,yJ 70 (.fa 7 (yV 69)) 68 true,yJ 71 (.lda 6 (yV 70)) 68 true,yJ 72 (.fa 4 (yV 3)) 68 true,yJ 73 (.fa 7 (yV 72)) 68 true,yJ 74 (.lda 6 (yV 73)) 68 true,yJ 75 (.call (yG 148) [yA 71,yA 74]) 68 true,yI 76 (.pick (yV 68) (yV 75) yF),yU 4 76] yr
def Zar:Zr:=yQ [yI 2 (.box 92 17 (yV 0)),yI 3 (.box 92 17 (yV 1)),yC 4 yF] (.seq (yQ [yH 6 0 2,yL 7 6,yH 8 0 3,yL 9 8,yX 10 .neq (yV 7) (yV 9),yM 11 10,yJ 12 (.fa 1 (yV 2)) 11 false,yJ 13 (.ldc (yV 12)) 11 false,yJ 14 (.fa 1 (yV 3)) 11 false,yJ 15 (.ldc (yV 14)) 11 false,yJ 16 (.bin .neq .prim (yV 13) (yV 15)) 11 false,yI 17 (.pick (yV 11) yT (yV 16)),yM 18 17,yJ 19 (.fa 2 (yV 2)) 18 false,yJ 20 (.ldc (yV 19)) 18 false,yJ 21 (.len .slice (yV 20)) 18 false,yJ 22 (.fa 2 (yV 3)) 18 false,yJ 23 (.ldc (yV 22)) 18 false,yJ 24 (.len .slice (yV 23)) 18 false,yJ 25 (.bin .neq .prim (yV 21) (yV 24)) 18 false,yI 26 (.pick (yV 18) yT (yV 25)),yM 27 26,yJ 28 (.fa 3 (yV 2)) 27 false,yJ 29 (.ldc (yV 28)) 27 false,yJ 30 (.fa 3 (yV 3)) 27 false,yJ 31 (.ldc (yV 30)) 27 false,yJ 32 (.bin .neq .prim (yV 29) (yV 31)) 27 false,yI 33 (.pick (yV 27) yT (yV 32)),yM 34 33,yJ 35 (.fa 4 (yV 2)) 34 false,yJ 36 (.fa 0 (yV 35)) 34 false,yJ 37 (.ldc (yV 36)) 34 false,yJ 38 (.fa 4 (yV 3)) 34 false,yJ 39 (.fa 0 (yV 38)) 34 false,yJ 40 (.ldc (yV 39)) 34 false,yJ 41 (.bin .neq .prim (yV 37) (yV 40)) 34 false,yI 42 (.pick (yV 34) yT (yV 41))] (yc 42 (yQ [yC 4 yF] yr) yw)) (.seq (yQ [yC 5 (yK 0)] (.block 0 (Zb8))) Zb7))
def KZ:AFn:=⟨77,[.tmp 4],Zar,false⟩
def U9:List Nat:=[12,13,14,15,16,19,20,21,22,23,24,25,28,29,30,31,32,35,36,37,38,39,40,41,69,70,71,72,73,74,75]
def Zi9:Zr:=.seq (yQ [yM 11 5,yM 12 0,yO 13 12,yX 14 .lss (yV 11) (yV 13)] (yc 14 yw (.exit 0))) (.seq (.block 1 (.seq (.region true [yM 17 0,yM 18 5,yE 19 2 17 18,yD 20 2 19,yM 21 1,yM 22 5,yE 23 2 21 22,yD 24 2 23,yI 25 (.bin .neq (.struct [.str,.int]) (yV 20) (yV 24))]) (yc 25 (yQ [yC 4 yF] yr) yw))) (yR [yM 15 5,yX 16 .add (yV 15) (yK 1),yU 5 16]))
def ZcS:Zr:=.loop Zi9
def ZcR:Zr:=yQ [yC 4 yT] yr
def ZbS:Zr:=yQ [yC 4 yF] (.seq (yQ [yM 6 0,yO 7 6,yM 8 1,yO 9 8,yX 10 .neq (yV 7) (yV 9)] (yc 10 (yQ [yC 4 yF] yr) yw)) (.seq (yQ [yC 5 (yK 0)] (.block 0 (ZcS))) ZcR))
def Iu:AFn:=⟨26,[.tmp 4],ZbS,false⟩
def G7:List Nat:=[]
def Zsi:Zr:=.seq (yQ [yM 13 5,yM 14 0,yO 15 14,yX 16 .lss (yV 13) (yV 15)] (yc 16 yw (.exit 0))) (.seq (.block 1 (.seq (.regionB [yM 19 0,yM 20 5,yE 21 21 19 20,yD 22 21 21,yM 23 1,yM 24 5,yE 25 21 23 24,yD 26 21 25,yI 6 (.mk 181 [y0,ye,ye,y0,ye,y0,(.own 4 []),y0,ye,y0,(.own 4 []),(.own 4 []),y0,y0,y0,y0,(.own 1 []),(.own 1 []),yf,(.own 21 []),(.own 21 [])]),yI 7 (.mk 181 [y0,ye,ye,y0,ye,y0,(.own 4 []),y0,ye,y0,(.own 4 []),(.own 4 []),y0,y0,y0,y0,(.own 1 []),(.own 1 []),yf,(.own 21 []),(.own 21 [])]),yN (.st 21 (yV 6) (yV 22)),yN (.st 21 (yV 7) (yV 26))]) (.seq (yQ [yH 27 0 6,yL 28 27,yH 29 0 7,yL 30 29,yX 31 .neq (yV 28) (yV 30),yM 32 31,yJ 33 (.fa 1 (yV 6)) 32 false,yJ 34 (.ldc (yV 33)) 32 false,yJ 35 (.fa 1 (yV 7)) 32 false,yJ 36 (.ldc (yV 35)) 32 false,yJ 37 (.bin .neq .prim (yV 34) (yV 36)) 32 false,yI 38 (.pick (yV 32) yT (yV 37)),yM 39 38,yJ 40 (.fa 2 (yV 6)) 39 false,yJ 41 (.ldc (yV 40)) 39 false,yJ 42 (.fa 2 (yV 7)) 39 false,yJ 43 (.ldc (yV 42)) 39 false,yJ 44 (.bin .neq .prim (yV 41) (yV 43)) 39 false,yI 45 (.pick (yV 39) yT (yV 44)),yM 46 45,yJ 47 (.fa 18 (yV 6)) 46 false,yJ 48 (.ldc (yV 47)) 46 false,yJ 49 (.fa 18 (yV 7)) 46 false,yJ 50 (.ldc (yV 49)) 46 false,yJ 51 (.bin .neq .bool (yV 48) (yV 50)) 46 false,yI 52 (.pick (yV 46) yT (yV 51)),yM 53 52,yJ 54 (.fa 3 (yV 6)) 53 false,yJ 55 (.lda 4 (yV 54)) 53 false,yJ 56 (.fa 3 (yV 7)) 53 false,yJ 57 (.lda 4 (yV 56)) 53 false,yJ 58 (.call (yG 149) [yA 55,yA 57]) 53 false,yJ 59 (.un .not (yV 58)) 53 false,yI 60 (.pick (yV 53) yT (yV 59)),yM 61 60,yJ 62 (.fa 7 (yV 6)) 61 false,yJ 63 (.lda 4 (yV 62)) 61 false,yJ 64 (.fa 7 (yV 7)) 61 false,yJ 65 (.lda 4 (yV 64)) 61 false,yJ 66 (.call (yG 149) [yA 63,yA 65]) 61 false,yJ 67 (.un .not (yV 66)) 61 false,yI 68 (.pick (yV 61) yT (yV 67))] (yc 68 (yQ [yC 4 yF] yr) yw)) (yQ [yH 69 11 6,yL 70 69,yH 71 11 7,yL 72 71,yP 73 150 [yA 70,yA 72],yI 74 (.un .not (yV 73)),yM 75 74,yJ 76 (.fa 12 (yV 6)) 75 false,yJ 77 (.lda 6 (yV 76)) 75 false,yJ 78 (.fa 12 (yV 7)) 75 false,yJ 79 (.lda 6 (yV 78)) 75 false,yJ 80 (.call (yG 148) [yA 77,yA 79]) 75 false,yJ 81 (.un .not (yV 80)) 75 false,yI 82 (.pick (yV 75) yT (yV 81)),yM 83 82,yJ 84 (.fa 19 (yV 6)) 83 false,yJ 85 (.ldc (yV 84)) 83 false,yJ 86 (.fa 19 (yV 7)) 83 false,yJ 87 (.ldc (yV 86)) 83 false,yJ 88 (.call (yG 122) [yA 85,yA 87]) 83 false,yJ 89 (.un .not (yV 88)) 83 false,yI 90 (.pick (yV 83) yT (yV 89)),yM 91 90,yJ 92 (.fa 20 (yV 6)) 91 false,yJ 93 (.ldc (yV 92)) 91 false,yJ 94 (.fa 20 (yV 7)) 91 false,yJ 95 (.ldc (yV 94)) 91 false,yJ 96 (.call (yG 122) [yA 93,yA 95]) 91 false,yJ 97 (.un .not (yV 96)) 91 false,yI 98 (.pick (yV 91) yT (yV 97))] (yc 98 (yQ [yC 4 yF] yr) yw))))) (yR [yM 17 5,yX 18 .add (yV 17) (yK 1),yU 5 18]))
def Zlg:Zr:=.loop Zsi
def Zlf:Zr:=yQ [yC 4 yT] yr
def Zm8:Zr:=yQ [yC 4 yF] (.seq (yQ [yM 8 0,yO 9 8,yM 10 1,yO 11 10,yX 12 .neq (yV 9) (yV 11)] (yc 12 (yQ [yC 4 yF] yr) yw)) (.seq (yQ [yC 5 (yK 0)] (.block 0 (Zlg))) Zlf))
def C9:AFn:=⟨99,[.tmp 4],Zm8,false⟩
def Ae:List Nat:=[33,34,35,36,37,40,41,42,43,44,47,48,49,50,51,54,55,56,57,58,59,62,63,64,65,66,67,76,77,78,79,80,81,84,85,86,87,88,89,92,93,94,95,96,97]
def Zlp:Zr:=.seq (yQ [yM 11 5,yM 12 0,yO 13 12,yX 14 .lss (yV 11) (yV 13)] (yc 14 yw (.exit 0))) (.seq (.block 1 (.seq (.region true [yM 17 0,yM 18 5,yE 19 1 17 18,yL 20 19,yM 21 1,yM 22 5,yE 23 1 21 22,yL 24 23,yX 25 .neq (yV 20) (yV 24)]) (yc 25 (yQ [yC 4 yF] yr) yw))) (yR [yM 15 5,yX 16 .add (yV 15) (yK 1),yU 5 16]))
def ZeE:Zr:=.loop Zlp
def ZeD:Zr:=yQ [yC 4 yT] yr
def Zei:Zr:=yQ [yC 4 yF] (.seq (yQ [yM 6 0,yO 7 6,yM 8 1,yO 9 8,yX 10 .neq (yV 7) (yV 9)] (yc 10 (yQ [yC 4 yF] yr) yw)) (.seq (yQ [yC 5 (yK 0)] (.block 0 (ZeE))) ZeD))
def MM:AFn:=⟨26,[.tmp 4],Zei,false⟩
def O8:List Nat:=[]
def ZmA:Zr:=.seq (yQ [yM 27 5,yH 28 1 2,yL 29 28,yO 30 29,yX 31 .lss (yV 27) (yV 30)] (yc 31 yw (.exit 0))) (.seq (.block 1 (.seq (.region true [yH 34 1 2,yL 35 34,yM 36 5,yE 37 3 35 36,yD 38 3 37,yH 39 1 3,yL 40 39,yM 41 5,yE 42 3 40 41,yD 43 3 42,yI 44 (.bin .neq (.struct [.int,.str,.str]) (yV 38) (yV 43))]) (yc 44 (yQ [yC 4 yF] yr) yw))) (yR [yM 32 5,yX 33 .add (yV 32) (yK 1),yU 5 33]))
def Zge:Zr:=.loop ZmA
def Zgd:Zr:=yQ [yC 4 yT] yr
def Zfy:Zr:=yQ [yI 2 (.box 57 3 (yV 0)),yI 3 (.box 57 3 (yV 1)),yC 4 yF] (.seq (yQ [yH 6 0 2,yL 7 6,yH 8 0 3,yL 9 8,yX 10 .neq (yV 7) (yV 9),yM 11 10,yJ 12 (.fa 2 (yV 2)) 11 false,yJ 13 (.ldc (yV 12)) 11 false,yJ 14 (.fa 2 (yV 3)) 11 false,yJ 15 (.ldc (yV 14)) 11 false,yJ 16 (.bin .neq .prim (yV 13) (yV 15)) 11 false,yI 17 (.pick (yV 11) yT (yV 16)),yM 18 17,yJ 19 (.fa 1 (yV 2)) 18 false,yJ 20 (.ldc (yV 19)) 18 false,yJ 21 (.len .slice (yV 20)) 18 false,yJ 22 (.fa 1 (yV 3)) 18 false,yJ 23 (.ldc (yV 22)) 18 false,yJ 24 (.len .slice (yV 23)) 18 false,yJ 25 (.bin .neq .prim (yV 21) (yV 24)) 18 false,yI 26 (.pick (yV 18) yT (yV 25))] (yc 26 (yQ [yC 4 yF] yr) yw)) (.seq (yQ [yC 5 (yK 0)] (.block 0 (Zge))) Zgd))
def RQ:AFn:=⟨45,[.tmp 4],Zfy,false⟩
def MC:List Nat:=[12,13,14,15,16,19,20,21,22,23,24,25]
def Zub:Zr:=yQ [yC 2 yF] (yQ [yM 3 0,yX 4 .geq (yV 3) (yK 1),yM 5 4,yJ 6 (.mv (yV 0)) 5 true,yJ 7 (.bin .leq .prim (yV 6) (yK 3)) 5 true,yI 8 (.pick (yV 5) (yV 7) yF),yU 2 8] yr)
def ZkW:AFn:=⟨9,[.tmp 2],Zub,false⟩
def ZuC:List Nat:=[6,7]
def Zvx:Zr:=yQ [yC 4 yF] (.seq (yQ [yM 5 0] (.block 0 (yQ [yX 7 .eql (yV 5) (yK 1),yU 6 7] (yc 6 (yQ [yM 8 1,yP 9 137 [yA 8],yU 4 9] yr) (yQ [yX 11 .eql (yV 5) (yK 2),yU 10 11] (yc 10 (yQ [yM 12 1,yX 13 .eql (yV 12) (yK 0),yM 14 13,yJ 15 (.mv (yV 1)) 14 false,yJ 16 (.bin .eql .prim (yV 15) (yK 1)) 14 false,yI 17 (.pick (yV 14) yT (yV 16)),yU 4 17] yr) (yQ [yX 19 .eql (yV 5) (yK 3),yU 18 19] (yc 18 (yQ [yM 20 1,yP 21 65 [yA 20,yB (yK 0),yB (yK 1000000000)],yU 4 21] yr) yw)))))))) (yQ [yC 4 yF] yr))
def Zn5:AFn:=⟨22,[.tmp 4],Zvx,false⟩
def Zwn:List Nat:=[15,16]
def ZrW:Zr:=yQ [yC 3 (yK 0)] (yQ [yM 4 0,yL 5 1,yI 6 (.mkfn 30 [(yV 5)] []),yP 7 59 [yA 4,yB (yK 32),yA 6],yU 3 7] yr)
def ZiZ:AFn:=⟨8,[.tmp 3],ZrW,false⟩
def ZsE:List Nat:=[]
def ZrX:Zr:=yQ [yC 2 (yK 0)] (yQ [yL 3 0,yH 4 1 1,yL 5 4,yP 6 27 [yA 3,yA 5],yU 2 6] yr)
def Zja:AFn:=⟨7,[.tmp 2],ZrX,false⟩
def ZsF:List Nat:=[]
def ZrY:Zr:=yQ [yC 2 (yK 0)] (yQ [yH 3 2 0,yL 4 3,yI 5 (.mkfn 64 [] [(yV 1),(yV 0)]),yP 6 63 [yA 4,yB (yK 32),yA 5],yU 2 6] yr)
def Zjb:AFn:=⟨7,[.tmp 2],ZrY,false⟩
def ZsG:List Nat:=[]
def ZrZ:Zr:=yQ [yC 2 (yK 0)] (yQ [yH 3 3 0,yL 4 3,yI 5 (.mkfn 70 [] [(yV 1)]),yP 6 69 [yA 4,yB (yK 32),yA 5],yU 2 6] yr)
def Zjc:AFn:=⟨7,[.tmp 2],ZrZ,false⟩
def ZsH:List Nat:=[]
def Zsa:Zr:=yQ [yC 2 (yK 0)] (yQ [yH 3 4 0,yL 4 3,yI 5 (.mkfn 73 [] [(yV 1)]),yP 6 72 [yA 4,yB (yK 32),yA 5],yU 2 6] yr)
def Zjd:AFn:=⟨7,[.tmp 2],Zsa,false⟩
def ZsI:List Nat:=[]
def Zsb:Zr:=yQ [yC 2 (yK 0)] (yQ [yL 3 0,yH 4 5 1,yL 5 4,yI 6 (.call (yV 3) [yA 5]),yU 2 6] yr)
def Zje:AFn:=⟨7,[.tmp 2],Zsb,false⟩
def ZsJ:List Nat:=[]
def Zsc:Zr:=yQ [yC 2 (yK 0)] (yQ [yL 3 0,yH 4 6 1,yL 5 4,yI 6 (.call (yV 3) [yA 5]),yU 2 6] yr)
def Zjf:AFn:=⟨7,[.tmp 2],Zsc,false⟩
def ZsK:List Nat:=[]
def Zsd:Zr:=yQ [yC 2 (yK 0)] (yQ [yL 3 0,yH 4 7 1,yL 5 4,yI 6 (.call (yV 3) [yA 5]),yU 2 6] yr)
def Zjg:AFn:=⟨7,[.tmp 2],Zsd,false⟩
def ZsL:List Nat:=[]
def Zse:Zr:=yQ [yC 2 (yK 0)] (yQ [yL 3 0,yH 4 8 1,yL 5 4,yI 6 (.call (yV 3) [yA 5]),yU 2 6] yr)
def Zjh:AFn:=⟨7,[.tmp 2],Zse,false⟩
def ZsM:List Nat:=[]
def ZpA:Zr:=yQ [yC 2 (yK 0)] (yQ [yL 3 0,yH 4 9 1,yL 5 4,yI 6 (.call (yV 3) [yA 5]),yU 2 6] yr)
def ZgN:AFn:=⟨7,[.tmp 2],ZpA,false⟩
def ZqX:List Nat:=[]
def ZpB:Zr:=yQ [yC 2 (yK 0)] (yQ [yH 3 10 0,yL 4 3,yI 5 (.mkfn 81 [] [(yV 1)]),yP 6 80 [yA 4,yB (yK 16),yA 5],yU 2 6] yr)
def ZgO:AFn:=⟨7,[.tmp 2],ZpB,false⟩
def ZqY:List Nat:=[]
def ZpC:Zr:=yQ [yC 1 (yK 0)] (yQ [yH 2 11 0,yL 3 2,yI 4 (.mkfn 85 [] [(yV 0)]),yP 5 84 [yA 3,yB (yK 32),yA 4],yU 1 5] yr)
def ZgP:AFn:=⟨6,[.tmp 1],ZpC,false⟩
def ZqZ:List Nat:=[]
def ZpD:Zr:=yQ [yC 1 (yK 0)] (yQ [yD 2 13 0,yP 3 88 [yA 2],yU 1 3] yr)
def ZgQ:AFn:=⟨4,[.tmp 1],ZpD,false⟩
def Zra:List Nat:=[]
def Zm1:Zr:=yQ [yX 9 .lss (yV 8) (yV 7)] (.seq (yc 9 yw (.exit 0)) (.seq (.block 1 (yQ [yE 10 1 6 8,yL 11 10,yU 4 11] (yQ [yM 12 4,yI 13 (.call (yV 12) []),yU 5 13] (yQ [yM 14 5,yX 15 .neq (yV 14) (yK 0)] (yc 15 (yQ [yU 16 5,yU 2 16] yr) yw))))) (yR [yX 17 .add (yV 8) (yK 1),yM 8 17])))
def ZfW:Zr:=.loop Zm1
def ZfV:Zr:=yQ [yC 2 (yK 0)] yr
def Zft:Zr:=yQ [yC 2 (yK 0)] (.seq (yQ [yM 6 0,yO 7 6,yC 8 (yK 0)] (.block 0 (ZfW))) ZfV)
def RH:AFn:=⟨18,[.tmp 2],Zft,false⟩
def Mc:List Nat:=[]
def Zsg:Zr:=yQ [yC 6 yF] (yQ [yM 7 0,yM 8 1,yX 9 .geq (yV 7) (yV 8),yM 10 9,yJ 11 (.mv (yV 0)) 10 true,yJ 12 (.mv (yV 2)) 10 true,yJ 13 (.bin .leq .prim (yV 11) (yV 12)) 10 true,yI 14 (.pick (yV 10) (yV 13) yF),yU 6 14] yr)
def Zjj:AFn:=⟨15,[.tmp 6],Zsg,false⟩
def ZsO:List Nat:=[11,12,13]
def Nh:Zr:=yQ [yX 14 .lss (yV 13) (yV 12)] (.seq (yc 14 yw (.exit 0)) (.seq (.block 1 (yQ [yM 15 13,yU 5 15] (.seq (.region true [yM 16 0,yM 17 5,yE 18 2 16 17,yD 19 2 18,yM 20 1,yM 21 5,yE 22 2 20 21,yD 23 2 22,yI 24 (.bin .neq (.struct [.int,.int]) (yV 19) (yV 23))]) (yc 24 (yQ [yC 4 yF] yr) yw)))) (yR [yX 25 .add (yV 13) (yK 1),yM 13 25])))
def IM:Zr:=.loop Nh
def IL:Zr:=yQ [yC 4 yT] yr
def Kw:Zr:=yQ [yC 4 yF] (.seq (yQ [yM 6 0,yO 7 6,yM 8 1,yO 9 8,yX 10 .neq (yV 7) (yV 9)] (yc 10 (yQ [yC 4 yF] yr) yw)) (.seq (yQ [yM 11 0,yO 12 11,yC 13 (yK 0)] (.block 0 (IM))) IL))
def WU:AFn:=⟨26,[.tmp 4],Kw,false⟩
def Wq:List Nat:=[]
def Zxa:Zr:=yQ [yI 2 (.box 88 6 (yV 0)),yI 3 (.box 88 6 (yV 1)),yC 4 yF] (yQ [yH 5 0 2,yL 6 5,yH 7 0 3,yL 8 7,yX 9 .eql (yV 6) (yV 8),yM 10 9,yJ 11 (.fa 1 (yV 2)) 10 true,yJ 12 (.ldc (yV 11)) 10 true,yJ 13 (.fa 1 (yV 3)) 10 true,yJ 14 (.ldc (yV 13)) 10 true,yJ 15 (.bin .eql .prim (yV 12) (yV 14)) 10 true,yI 16 (.pick (yV 10) (yV 15) yF),yM 17 16,yJ 18 (.fa 2 (yV 2)) 17 true,yJ 19 (.ldc (yV 18)) 17 true,yJ 20 (.fa 2 (yV 3)) 17 true,yJ 21 (.ldc (yV 20)) 17 true,yJ 22 (.bin .eql .prim (yV 19) (yV 21)) 17 true,yI 23 (.pick (yV 17) (yV 22) yF),yM 24 23,yJ 25 (.fa 3 (yV 2)) 24 true,yJ 26 (.ldc (yV 25)) 24 true,yJ 27 (.fa 3 (yV 3)) 24 true,yJ 28 (.ldc (yV 27)) 24 true,yJ 29 (.bin .eql .prim (yV 26) (yV 28)) 24 true,yI 30 (.pick (yV 24) (yV 29) yF),yM 31 30,yJ 32 (.fa 4 (yV 2)) 31 true,yJ 33 (.ldc (yV 32)) 31 true,yJ 34 (.fa 4 (yV 3)) 31 true,yJ 35 (.ldc (yV 34)) 31 true,yJ 36 (.call (yG 146) [yA 33,yA 35]) 31 true,yI 37 (.pick (yV 31) (yV 36) yF),yM 38 37,yJ 39 (.fa 5 (yV 2)) 38 true,yJ 40 (.ldc (yV 39)) 38 true,yJ 41 (.fa 5 (yV 3)) 38 true,yJ 42 (.ldc (yV 41)) 38 true,yJ 43 (.call (yG 146) [yA 40,yA 42]) 38 true,yI 44 (.pick (yV 38) (yV 43) yF),yU 4 44] yr)
def Zpr:AFn:=⟨45,[.tmp 4],Zxa,false⟩
def ZxB:List Nat:=[11,12,13,14,15,18,19,20,21,22,25,26,27,28,29,32,33,34,35,36,39,40,41,42,43]
def SG:Zr:=yQ [yX 14 .lss (yV 13) (yV 12)] (.seq (yc 14 yw (.exit 0)) (.seq (.block 1 (yQ [yM 15 13,yU 5 15] (.seq (.region true [yM 16 0,yM 17 5,yE 18 2 16 17,yD 19 2 18,yM 20 1,yM 21 5,yE 22 2 20 21,yD 23 2 22,yI 24 (.bin .neq (.struct [.str,.int]) (yV 19) (yV 23))]) (yc 24 (yQ [yC 4 yF] yr) yw)))) (yR [yX 25 .add (yV 13) (yK 1),yM 13 25])))
def OI:Zr:=.loop SG
def OH:Zr:=yQ [yC 4 yT] yr
def Gq:Zr:=yQ [yC 4 yF] (.seq (yQ [yM 6 0,yO 7 6,yM 8 1,yO 9 8,yX 10 .neq (yV 7) (yV 9)] (yc 10 (yQ [yC 4 yF] yr) yw)) (.seq (yQ [yM 11 0,yO 12 11,yC 13 (yK 0)] (.block 0 (OI))) OH))
def Qj:AFn:=⟨26,[.tmp 4],Gq,false⟩
def WF:List Nat:=[]
def Zxc:Zr:=yQ [yC 4 yF] (yQ [yM 5 0,yM 6 1,yP 7 162 [yA 5,yA 6,(.inr (yG 163))],yU 4 7] yr)
def Zpt:AFn:=⟨8,[.tmp 4],Zxc,false⟩
def ZxD:List Nat:=[]
def Zco:Zr:=yQ [yX 14 .lss (yV 13) (yV 12)] (.seq (yc 14 yw (.exit 0)) (.seq (.block 1 (yQ [yM 15 13,yU 5 15] (.seq (.region true [yM 16 0,yM 17 5,yE 18 1 16 17,yL 19 18,yM 20 1,yM 21 5,yE 22 1 20 21,yL 23 22,yX 24 .neq (yV 19) (yV 23)]) (yc 24 (yQ [yC 4 yF] yr) yw)))) (yR [yX 25 .add (yV 13) (yK 1),yM 13 25])))
def En:Zr:=.loop Zco
def Em:Zr:=yQ [yC 4 yT] yr
def D8:Zr:=yQ [yC 4 yF] (.seq (yQ [yM 6 0,yO 7 6,yM 8 1,yO 9 8,yX 10 .neq (yV 7) (yV 9)] (yc 10 (yQ [yC 4 yF] yr) yw)) (.seq (yQ [yM 11 0,yO 12 11,yC 13 (yK 0)] (.block 0 (En))) Em))
def VD:AFn:=⟨26,[.tmp 4],D8,false⟩
def XW:List Nat:=[]
def Aa:Zr:=yQ [yX 14 .lss (yV 13) (yV 12)] (.seq (yc 14 yw (.exit 0)) (.seq (.block 1 (yQ [yM 15 13,yU 5 15] (.seq (.region true [yM 16 0,yM 17 5,yE 18 3 16 17,yD 19 3 18,yM 20 1,yM 21 5,yE 22 3 20 21,yD 23 3 22,yI 24 (.bin .neq (.struct [.int,.str,.str]) (yV 19) (yV 23))]) (yc 24 (yQ [yC 4 yF] yr) yw)))) (yR [yX 25 .add (yV 13) (yK 1),yM 13 25])))
def TK:Zr:=.loop Aa
def TJ:Zr:=yQ [yC 4 yT] yr
def H6:Zr:=yQ [yC 4 yF] (.seq (yQ [yM 6 0,yO 7 6,yM 8 1,yO 9 8,yX 10 .neq (yV 7) (yV 9)] (yc 10 (yQ [yC 4 yF] yr) yw)) (.seq (yQ [yM 11 0,yO 12 11,yC 13 (yK 0)] (.block 0 (TK))) TJ))
def Qz:AFn:=⟨26,[.tmp 4],H6,false⟩
def WY:List Nat:=[]
def Zzn:Zr:=yQ [yI 2 (.box 88 6 (yV 0)),yI 3 (.box 88 6 (yV 1)),yC 4 yF] (yQ [yH 5 0 2,yL 6 5,yH 7 0 3,yL 8 7,yX 9 .eql (yV 6) (yV 8),yM 10 9,yJ 11 (.fa 1 (yV 2)) 10 true,yJ 12 (.ldc (yV 11)) 10 true,yJ 13 (.fa 1 (yV 3)) 10 true,yJ 14 (.ldc (yV 13)) 10 true,yJ 15 (.bin .eql .prim (yV 12) (yV 14)) 10 true,yI 16 (.pick (yV 10) (yV 15) yF),yM 17 16,yJ 18 (.fa 2 (yV 2)) 17 true,yJ 19 (.ldc (yV 18)) 17 true,yJ 20 (.fa 2 (yV 3)) 17 true,yJ 21 (.ldc (yV 20)) 17 true,yJ 22 (.bin .eql .prim (yV 19) (yV 21)) 17 true,yI 23 (.pick (yV 17) (yV 22) yF),yM 24 23,yJ 25 (.fa 3 (yV 2)) 24 true,yJ 26 (.ldc (yV 25)) 24 true,yJ 27 (.fa 3 (yV 3)) 24 true,yJ 28 (.ldc (yV 27)) 24 true,yJ 29 (.bin .eql .prim (yV 26) (yV 28)) 24 true,yI 30 (.pick (yV 24) (yV 29) yF),yM 31 30,yJ 32 (.fa 4 (yV 2)) 31 true,yJ 33 (.ldc (yV 32)) 31 true,yJ 34 (.fa 4 (yV 3)) 31 true,yJ 35 (.ldc (yV 34)) 31 true,yJ 36 (.call (yG 164) [yA 33,yA 35]) 31 true,yI 37 (.pick (yV 31) (yV 36) yF),yM 38 37,yJ 39 (.fa 5 (yV 2)) 38 true,yJ 40 (.ldc (yV 39)) 38 true,yJ 41 (.fa 5 (yV 3)) 38 true,yJ 42 (.ldc (yV 41)) 38 true,yJ 43 (.call (yG 164) [yA 40,yA 42]) 38 true,yI 44 (.pick (yV 38) (yV 43) yF),yU 4 44] yr)
def Ztd:AFn:=⟨45,[.tmp 4],Zzn,false⟩
def ZzH:List Nat:=[11,12,13,14,15,18,19,20,21,22,25,26,27,28,29,32,33,34,35,36,39,40,41,42,43]
def Zzo:Zr:=yQ [yI 2 (.box 179 4 (yV 0)),yI 3 (.box 179 4 (yV 1)),yC 4 yF] (.seq (yQ [yH 5 0 2,yL 6 5,yH 7 0 3,yL 8 7,yX 9 .neq (yV 6) (yV 8),yM 10 9,yJ 11 (.fa 1 (yV 2)) 10 false,yJ 12 (.ldc (yV 11)) 10 false,yJ 13 (.fa 1 (yV 3)) 10 false,yJ 14 (.ldc (yV 13)) 10 false,yJ 15 (.bin .neq .prim (yV 12) (yV 14)) 10 false,yI 16 (.pick (yV 10) yT (yV 15)),yM 17 16,yJ 18 (.fa 2 (yV 2)) 17 false,yJ 19 (.ldc (yV 18)) 17 false,yJ 20 (.fa 2 (yV 3)) 17 false,yJ 21 (.ldc (yV 20)) 17 false,yJ 22 (.bin .neq .prim (yV 19) (yV 21)) 17 false,yI 23 (.pick (yV 17) yT (yV 22))] (yc 23 (yQ [yC 4 yF] yr) yw)) (yQ [yH 24 3 2,yL 25 24,yH 26 3 3,yL 27 26,yP 28 165 [yA 25,yA 27],yU 4 28] yr))
def Zte:AFn:=⟨29,[.tmp 4],Zzo,false⟩
def ZzI:List Nat:=[11,12,13,14,15,18,19,20,21,22]
def ZjW:Zr:=.seq (yQ [yM 11 5,yM 12 0,yO 13 12,yX 14 .lss (yV 11) (yV 13)] (yc 14 yw (.exit 0))) (.seq (.block 1 (.seq (.region true [yM 17 0,yM 18 5,yE 19 4 17 18,yD 20 4 19,yM 21 1,yM 22 5,yE 23 4 21 22,yD 24 4 23,yP 25 149 [yA 20,yA 24],yI 26 (.un .not (yV 25))]) (yc 26 (yQ [yC 4 yF] yr) yw))) (yR [yM 15 5,yX 16 .add (yV 15) (yK 1),yU 5 16]))
def ZdB:Zr:=.loop ZjW
def ZdA:Zr:=yQ [yC 4 yT] yr
def ZcQ:Zr:=yQ [yC 4 yF] (.seq (yQ [yM 6 0,yO 7 6,yM 8 1,yO 9 8,yX 10 .neq (yV 7) (yV 9)] (yc 10 (yQ [yC 4 yF] yr) yw)) (.seq (yQ [yC 5 (yK 0)] (.block 0 (ZdB))) ZdA))
def OC:AFn:=⟨27,[.tmp 4],ZcQ,false⟩
def Ij:List Nat:=[]
def Z22:Zr:=yQ [yC 2 yF] (yQ [yM 3 0,yX 4 .geq (yV 3) (.const (.int .i64 (-1000000000000))),yM 5 4,yJ 6 (.mv (yV 0)) 5 true,yJ 7 (.bin .leq .prim (yV 6) (yK 1000000000000)) 5 true,yI 8 (.pick (yV 5) (yV 7) yF),yU 2 8] yr)
def ZxS:AFn:=⟨9,[.tmp 2],Z22,false⟩
def Z3m:List Nat:=[6,7]
def Ze5:Zr:=yQ [yX 17 .lss (yV 16) (yV 15)] (.seq (yc 17 yw (.exit 0)) (.seq (.block 1 (yQ [yE 18 1 14 16,yL 19 18,yU 8 19] (yQ [yM 20 2,yM 21 8,yI 22 (.call (yV 20) [yA 21]),yU 9 22] (yQ [yM 23 9,yX 24 .neq (yV 23) (yK 0)] (yc 24 (yQ [yU 25 9,yU 6 25] yr) yw))))) (yR [yX 26 .add (yV 16) (yK 1),yM 16 26])))
def Zaq:Zr:=.loop Ze5
def Zap:Zr:=yQ [yC 6 (yK 0)] yr
def AA:Zr:=yQ [yC 6 (yK 0)] (.seq (yQ [yM 10 0,yO 11 10,yM 12 1,yX 13 .gtr (yV 11) (yV 12)] (yc 13 (yQ [yC 6 (yK 6)] yr) yw)) (.seq (yQ [yM 14 0,yO 15 14,yC 16 (yK 0)] (.block 0 (Zaq))) Zap))
def Uz:AFn:=⟨27,[.tmp 6],AA,false⟩
def J8:List Nat:=[]
def Zog:Zr:=yQ [yI 3 (.box 92 17 (yV 0)),yC 4 (yK 0)] (.seq (yQ [yL 7 1,yH 8 0 3,yL 9 8,yP 10 30 [yA 7,yA 9],yU 5 10] (yQ [yM 11 5,yX 12 .neq (yV 11) (yK 0)] (yc 12 (yQ [yU 13 5,yU 4 13] yr) yw))) (.seq (yQ [yH 14 1 3,yL 15 14,yP 16 65 [yA 15,yB (yK 0),yB (yK 1000)],yI 17 (.un .not (yV 16))] (yc 17 (yQ [yC 4 (yK 2)] yr) yw)) (.seq (yQ [yD 18 17 3,yP 19 66 [yA 18],yU 6 19] (yQ [yM 20 6,yX 21 .neq (yV 20) (yK 0)] (yc 21 (yQ [yU 22 6,yU 4 22] yr) yw))) (yQ [yD 23 13 2,yH 24 4 3,yD 25 13 24,yP 26 67 [yA 23,yA 25],yU 4 26] yr))))
def ZfK:AFn:=⟨27,[.tmp 4],Zog,false⟩
def ZoR:List Nat:=[]
def CV:Zr:=yQ [yX 17 .lss (yV 16) (yV 15)] (.seq (yc 17 yw (.exit 0)) (.seq (.block 1 (yQ [yE 18 17 14 16,yD 19 17 18,yI 8 (.mk 92 [ye,y0,(.own 2 []),y0,ye,y0,y0,y0,y0,(.own 1 []),(.own 1 []),y0,y0,y0,y0,(.own 1 []),(.own 1 [])]),yN (.st 17 (yV 8) (yV 19))] (yQ [yM 20 2,yD 21 17 8,yI 22 (.call (yV 20) [yA 21]),yU 9 22] (yQ [yM 23 9,yX 24 .neq (yV 23) (yK 0)] (yc 24 (yQ [yU 25 9,yU 6 25] yr) yw))))) (yR [yX 26 .add (yV 16) (yK 1),yM 16 26])))
def RV:Zr:=.loop CV
def RU:Zr:=yQ [yC 6 (yK 0)] yr
def OE:Zr:=yQ [yC 6 (yK 0)] (.seq (yQ [yM 10 0,yO 11 10,yM 12 1,yX 13 .gtr (yV 11) (yV 12)] (yc 13 (yQ [yC 6 (yK 6)] yr) yw)) (.seq (yQ [yM 14 0,yO 15 14,yC 16 (yK 0)] (.block 0 (RV))) RU))
def Xf:AFn:=⟨27,[.tmp 6],OE,false⟩
def QB:List Nat:=[]
def Zoh:Zr:=yQ [yI 2 (.box 95 3 (yV 0)),yC 3 (yK 0)] (.seq (yQ [yL 5 1,yH 6 0 2,yL 7 6,yP 8 30 [yA 5,yA 7],yU 4 8] (yQ [yM 9 4,yX 10 .neq (yV 9) (yK 0)] (yc 10 (yQ [yU 11 4,yU 3 11] yr) yw))) (.seq (.block 0 (yQ [yH 13 1 2,yL 14 13,yP 15 65 [yA 14,yB (yK 1),yB (yK 1000)],yI 16 (.un .not (yV 15)),yU 12 16] (yc 12 (yQ [yC 3 (yK 2)] yr) (yQ [yH 18 2 2,yL 19 18,yX 20 .lss (yV 19) (yK 1),yM 21 20,yJ 22 (.fa 2 (yV 2)) 21 false,yJ 23 (.ldc (yV 22)) 21 false,yJ 24 (.bin .gtr .prim (yV 23) (yK 3)) 21 false,yI 25 (.pick (yV 21) yT (yV 24)),yU 17 25] (yc 17 (yQ [yC 3 (yK 1)] yr) yw))))) (yQ [yC 3 (yK 0)] yr)))
def ZfL:AFn:=⟨26,[.tmp 3],Zoh,false⟩
def ZoS:List Nat:=[22,23,24]
def ZaY:Zr:=yQ [yX 17 .lss (yV 16) (yV 15)] (.seq (yc 17 yw (.exit 0)) (.seq (.block 1 (yQ [yE 18 3 14 16,yD 19 3 18,yI 8 (.mk 95 [ye,y0,y0]),yN (.st 3 (yV 8) (yV 19))] (yQ [yM 20 2,yD 21 3 8,yI 22 (.call (yV 20) [yA 21]),yU 9 22] (yQ [yM 23 9,yX 24 .neq (yV 23) (yK 0)] (yc 24 (yQ [yU 25 9,yU 6 25] yr) yw))))) (yR [yX 26 .add (yV 16) (yK 1),yM 16 26])))
def Pv:Zr:=.loop ZaY
def Pq:Zr:=yQ [yC 6 (yK 0)] yr
def Lr:Zr:=yQ [yC 6 (yK 0)] (.seq (yQ [yM 10 0,yO 11 10,yM 12 1,yX 13 .gtr (yV 11) (yV 12)] (yc 13 (yQ [yC 6 (yK 6)] yr) yw)) (.seq (yQ [yM 14 0,yO 15 14,yC 16 (yK 0)] (.block 0 (Pv))) Pq))
def XK:AFn:=⟨27,[.tmp 6],Lr,false⟩
def Xi:List Nat:=[]
def Zoi:Zr:=yQ [yI 2 (.box 97 3 (yV 0)),yC 3 (yK 0)] (.seq (yQ [yL 5 1,yH 6 0 2,yL 7 6,yP 8 30 [yA 5,yA 7],yU 4 8] (yQ [yM 9 4,yX 10 .neq (yV 9) (yK 0)] (yc 10 (yQ [yU 11 4,yU 3 11] yr) yw))) (.seq (yQ [yH 12 1 2,yL 13 12,yP 14 65 [yA 13,yB (yK 1),yB (yK 1000)],yI 15 (.un .not (yV 14)),yM 16 15,yJ 17 (.fa 2 (yV 2)) 16 false,yJ 18 (.ldc (yV 17)) 16 false,yJ 19 (.call (yG 65) [yA 18,yB (yK 1),yB (yK 1000)]) 16 false,yJ 20 (.un .not (yV 19)) 16 false,yI 21 (.pick (yV 16) yT (yV 20))] (yc 21 (yQ [yC 3 (yK 2)] yr) yw)) (yQ [yC 3 (yK 0)] yr)))
def ZfM:AFn:=⟨22,[.tmp 3],Zoi,false⟩
def ZoT:List Nat:=[17,18,19,20]
def Zb5:Zr:=yQ [yX 17 .lss (yV 16) (yV 15)] (.seq (yc 17 yw (.exit 0)) (.seq (.block 1 (yQ [yE 18 3 14 16,yD 19 3 18,yI 8 (.mk 97 [ye,y0,y0]),yN (.st 3 (yV 8) (yV 19))] (yQ [yM 20 2,yD 21 3 8,yI 22 (.call (yV 20) [yA 21]),yU 9 22] (yQ [yM 23 9,yX 24 .neq (yV 23) (yK 0)] (yc 24 (yQ [yU 25 9,yU 6 25] yr) yw))))) (yR [yX 26 .add (yV 16) (yK 1),yM 16 26])))
def Na:Zr:=.loop Zb5
def PZ:Zr:=yQ [yC 6 (yK 0)] yr
def Rl:Zr:=yQ [yC 6 (yK 0)] (.seq (yQ [yM 10 0,yO 11 10,yM 12 1,yX 13 .gtr (yV 11) (yV 12)] (yc 13 (yQ [yC 6 (yK 6)] yr) yw)) (.seq (yQ [yM 14 0,yO 15 14,yC 16 (yK 0)] (.block 0 (Na))) PZ))
def Va:AFn:=⟨27,[.tmp 6],Rl,false⟩
def Xy:List Nat:=[]
def Zm3:Zr:=yQ [yI 2 (.box 79 4 (yV 0)),yC 3 (yK 0)] (.seq (yQ [yL 5 1,yH 6 0 2,yL 7 6,yP 8 30 [yA 5,yA 7],yU 4 8] (yQ [yM 9 4,yX 10 .neq (yV 9) (yK 0)] (yc 10 (yQ [yU 11 4,yU 3 11] yr) yw))) (yQ [yD 12 4 2,yP 13 82 [yA 12],yU 3 13] yr))
def Ze1:AFn:=⟨14,[.tmp 3],Zm3,false⟩
def Zns:List Nat:=[]
def ZbQ:Zr:=yQ [yX 17 .lss (yV 16) (yV 15)] (.seq (yc 17 yw (.exit 0)) (.seq (.block 1 (yQ [yE 18 4 14 16,yD 19 4 18,yI 8 (.mk 79 [ye,(.own 2 []),(.own 2 []),(.own 21 [])]),yN (.st 4 (yV 8) (yV 19))] (yQ [yM 20 2,yD 21 4 8,yI 22 (.call (yV 20) [yA 21]),yU 9 22] (yQ [yM 23 9,yX 24 .neq (yV 23) (yK 0)] (yc 24 (yQ [yU 25 9,yU 6 25] yr) yw))))) (yR [yX 26 .add (yV 16) (yK 1),yM 16 26])))
def Sv:Zr:=.loop ZbQ
def Su:Zr:=yQ [yC 6 (yK 0)] yr
def BN:Zr:=yQ [yC 6 (yK 0)] (.seq (yQ [yM 10 0,yO 11 10,yM 12 1,yX 13 .gtr (yV 11) (yV 12)] (yc 13 (yQ [yC 6 (yK 6)] yr) yw)) (.seq (yQ [yM 14 0,yO 15 14,yC 16 (yK 0)] (.block 0 (Sv))) Su))
def Vw:AFn:=⟨27,[.tmp 6],BN,false⟩
def XA:List Nat:=[]
def Zm4:Zr:=yQ [yI 2 (.box 105 5 (yV 0)),yC 3 (yK 0)] (yQ [yD 4 13 1,yD 5 5 2,yP 6 86 [yA 4,yA 5],yU 3 6] yr)
def Ze2:AFn:=⟨7,[.tmp 3],Zm4,false⟩
def Znt:List Nat:=[]
def ZcI:Zr:=yQ [yX 17 .lss (yV 16) (yV 15)] (.seq (yc 17 yw (.exit 0)) (.seq (.block 1 (yQ [yE 18 5 14 16,yD 19 5 18,yI 8 (.mk 105 [ye,(.own 1 []),y0,y0,y0]),yN (.st 5 (yV 8) (yV 19))] (yQ [yM 20 2,yD 21 5 8,yI 22 (.call (yV 20) [yA 21]),yU 9 22] (yQ [yM 23 9,yX 24 .neq (yV 23) (yK 0)] (yc 24 (yQ [yU 25 9,yU 6 25] yr) yw))))) (yR [yX 26 .add (yV 16) (yK 1),yM 16 26])))
def Aw:Zr:=.loop ZcI
def Au:Zr:=yQ [yC 6 (yK 0)] yr
def P9:Zr:=yQ [yC 6 (yK 0)] (.seq (yQ [yM 10 0,yO 11 10,yM 12 1,yX 13 .gtr (yV 11) (yV 12)] (yc 13 (yQ [yC 6 (yK 6)] yr) yw)) (.seq (yQ [yM 14 0,yO 15 14,yC 16 (yK 0)] (.block 0 (Aw))) Au))
def VW:AFn:=⟨27,[.tmp 6],P9,false⟩
def Vs:List Nat:=[]
def Zvy:Zr:=yQ [yI 1 (.box 42 13 (yV 0)),yC 2 (yK 0)] (yQ [yI 4 (.mkmap),yI 3 (.mk 60 [.nilm]),yN (.stt (yV 3) 4)] (yQ [yH 5 12 1,yL 6 5,yI 7 (.mkfn 133 [] [(yV 3),(yV 1)]),yP 8 132 [yA 6,yB (yK 32),yA 7],yU 2 8] yr))
def Zn6:AFn:=⟨9,[.tmp 2],Zvy,false⟩
def Zwo:List Nat:=[]
def IA:Zr:=yQ [yX 18 .lss (yV 17) (yV 16)] (.seq (yc 18 yw (.exit 0)) (.seq (.block 1 (yQ [yM 19 17,yE 20 21 15 17,yD 21 21 20,yI 8 (.mk 181 [y0,ye,ye,y0,ye,y0,(.own 4 []),y0,ye,y0,(.own 4 []),(.own 4 []),y0,y0,y0,y0,(.own 1 []),(.own 1 []),yf,(.own 21 []),(.own 21 [])]),yU 7 19,yN (.st 21 (yV 8) (yV 21))] (yQ [yM 22 1,yM 23 7,yE 24 21 22 23,yD 25 21 24,yI 9 (.mk 181 [y0,ye,ye,y0,ye,y0,(.own 4 []),y0,ye,y0,(.own 4 []),(.own 4 []),y0,y0,y0,y0,(.own 1 []),(.own 1 []),yf,(.own 21 []),(.own 21 [])]),yN (.st 21 (yV 9) (yV 25))] (yQ [yM 26 2,yD 27 21 8,yD 28 21 9,yI 29 (.call (yV 26) [yA 27,yA 28]),yI 30 (.un .not (yV 29))] (yc 30 (yQ [yC 6 yF] yr) yw))))) (yR [yX 31 .add (yV 17) (yK 1),yM 17 31])))
def J7:Zr:=.loop IA
def J6:Zr:=yQ [yC 6 yT] yr
def XM:Zr:=yQ [yC 6 yF] (.seq (yQ [yM 10 0,yO 11 10,yM 12 1,yO 13 12,yX 14 .neq (yV 11) (yV 13)] (yc 14 (yQ [yC 6 yF] yr) yw)) (.seq (yQ [yM 15 0,yO 16 15,yC 17 (yK 0)] (.block 0 (J7))) J6))
def Ym:AFn:=⟨32,[.tmp 6],XM,false⟩
def ZW:List Nat:=[]
def Zxe:Zr:=yQ [yI 2 (.box 181 21 (yV 0)),yI 3 (.box 181 21 (yV 1)),yC 4 yF] (yQ [yH 5 0 2,yL 6 5,yH 7 0 3,yL 8 7,yX 9 .eql (yV 6) (yV 8),yM 10 9,yJ 11 (.fa 1 (yV 2)) 10 true,yJ 12 (.ldc (yV 11)) 10 true,yJ 13 (.fa 1 (yV 3)) 10 true,yJ 14 (.ldc (yV 13)) 10 true,yJ 15 (.bin .eql .prim (yV 12) (yV 14)) 10 true,yI 16 (.pick (yV 10) (yV 15) yF),yM 17 16,yJ 18 (.fa 2 (yV 2)) 17 true,yJ 19 (.ldc (yV 18)) 17 true,yJ 20 (.fa 2 (yV 3)) 17 true,yJ 21 (.ldc (yV 20)) 17 true,yJ 22 (.bin .eql .prim (yV 19) (yV 21)) 17 true,yI 23 (.pick (yV 17) (yV 22) yF),yM 24 23,yJ 25 (.fa 18 (yV 2)) 24 true,yJ 26 (.ldc (yV 25)) 24 true,yJ 27 (.fa 18 (yV 3)) 24 true,yJ 28 (.ldc (yV 27)) 24 true,yJ 29 (.bin .eql .bool (yV 26) (yV 28)) 24 true,yI 30 (.pick (yV 24) (yV 29) yF),yM 31 30,yJ 32 (.fa 3 (yV 2)) 31 true,yJ 33 (.lda 4 (yV 32)) 31 true,yJ 34 (.fa 3 (yV 3)) 31 true,yJ 35 (.lda 4 (yV 34)) 31 true,yJ 36 (.call (yG 177) [yA 33,yA 35]) 31 true,yI 37 (.pick (yV 31) (yV 36) yF),yM 38 37,yJ 39 (.fa 7 (yV 2)) 38 true,yJ 40 (.lda 4 (yV 39)) 38 true,yJ 41 (.fa 7 (yV 3)) 38 true,yJ 42 (.lda 4 (yV 41)) 38 true,yJ 43 (.call (yG 177) [yA 40,yA 42]) 38 true,yI 44 (.pick (yV 38) (yV 43) yF),yM 45 44,yJ 46 (.fa 12 (yV 2)) 45 true,yJ 47 (.lda 6 (yV 46)) 45 true,yJ 48 (.fa 12 (yV 3)) 45 true,yJ 49 (.lda 6 (yV 48)) 45 true,yJ 50 (.call (yG 127) [yA 47,yA 49]) 45 true,yI 51 (.pick (yV 45) (yV 50) yF),yM 52 51,yJ 53 (.fa 11 (yV 2)) 52 true,yJ 54 (.ldc (yV 53)) 52 true,yJ 55 (.fa 11 (yV 3)) 52 true,yJ 56 (.ldc (yV 55)) 52 true,yJ 57 (.call (yG 178) [yA 54,yA 56,(.inr (yG 177))]) 52 true,yI 58 (.pick (yV 52) (yV 57) yF),yM 59 58,yJ 60 (.fa 19 (yV 2)) 59 true,yJ 61 (.ldc (yV 60)) 59 true,yJ 62 (.fa 19 (yV 3)) 59 true,yJ 63 (.ldc (yV 62)) 59 true,yJ 64 (.call (yG 145) [yA 61,yA 63]) 59 true,yI 65 (.pick (yV 59) (yV 64) yF),yM 66 65,yJ 67 (.fa 20 (yV 2)) 66 true,yJ 68 (.ldc (yV 67)) 66 true,yJ 69 (.fa 20 (yV 3)) 66 true,yJ 70 (.ldc (yV 69)) 66 true,yJ 71 (.call (yG 145) [yA 68,yA 70]) 66 true,yI 72 (.pick (yV 66) (yV 71) yF),yU 4 72] yr)
def Zpv:AFn:=⟨73,[.tmp 4],Zxe,false⟩
def ZxF:List Nat:=[11,12,13,14,15,18,19,20,21,22,25,26,27,28,29,32,33,34,35,36,39,40,41,42,43,46,47,48,49,50,53,54,55,56,57,60,61,62,63,64,67,68,69,70,71]
def Zle:Zr:=.seq (yQ [yM 11 5,yM 12 0,yO 13 12,yX 14 .lss (yV 11) (yV 13)] (yc 14 yw (.exit 0))) (.seq (.block 1 (.seq (.region true [yM 17 0,yM 18 5,yE 19 1 17 18,yL 20 19,yM 21 1,yM 22 5,yE 23 1 21 22,yL 24 23,yX 25 .neq (yV 20) (yV 24)]) (yc 25 (yQ [yC 4 yF] yr) yw))) (yR [yM 15 5,yX 16 .add (yV 15) (yK 1),yU 5 16]))
def Ze7:Zr:=.loop Zle
def Ze6:Zr:=yQ [yC 4 yT] yr
def Zec:Zr:=yQ [yC 4 yF] (.seq (yQ [yM 6 0,yO 7 6,yM 8 1,yO 9 8,yX 10 .neq (yV 7) (yV 9)] (yc 10 (yQ [yC 4 yF] yr) yw)) (.seq (yQ [yC 5 (yK 0)] (.block 0 (Ze7))) Ze6))
def ML:AFn:=⟨26,[.tmp 4],Zec,false⟩
def O7:List Nat:=[]
def Zm7:Zr:=.seq (yQ [yM 11 5,yM 12 0,yO 13 12,yX 14 .lss (yV 11) (yV 13)] (yc 14 yw (.exit 0))) (.seq (.block 1 (.seq (.region true [yM 17 0,yM 18 5,yE 19 4 17 18,yD 20 4 19,yM 21 1,yM 22 5,yE 23 4 21 22,yD 24 4 23,yP 25 149 [yA 20,yA 24],yI 26 (.un .not (yV 25))]) (yc 26 (yQ [yC 4 yF] yr) yw))) (yR [yM 15 5,yX 16 .add (yV 15) (yK 1),yU 5 16]))
def Zgc:Zr:=.loop Zm7
def Zgb:Zr:=yQ [yC 4 yT] yr
def Zfw:Zr:=yQ [yC 4 yF] (.seq (yQ [yM 6 0,yO 7 6,yM 8 1,yO 9 8,yX 10 .neq (yV 7) (yV 9)] (yc 10 (yQ [yC 4 yF] yr) yw)) (.seq (yQ [yC 5 (yK 0)] (.block 0 (Zgc))) Zgb))
def RP:AFn:=⟨27,[.tmp 4],Zfw,false⟩
def MB:List Nat:=[]
def ZcL:Zr:=yc 30 (yQ [yC 2 (yK 2)] yr) (.seq (.region true [yM 43 3,yX 44 .gtr (yV 43) (yK 0),yM 45 44,yJ 46 (.fa 0 (yV 4)) 45 true,yJ 47 (.ldc (yV 46)) 45 true,yJ 48 (.fa 2 (yV 1)) 45 true,yJ 49 (.ldc (yV 48)) 45 true,yJ 50 (.mv (yV 3)) 45 true,yJ 51 (.bin .sub .prim (yV 50) (yK 1)) 45 true,yJ 52 (.ia (.slice 2) (yV 49) (yV 51)) 45 true,yJ 53 (.fa 0 (yV 52)) 45 true,yJ 54 (.ldc (yV 53)) 45 true,yJ 55 (.bin .leq .prim (yV 47) (yV 54)) 45 true,yI 56 (.pick (yV 45) (yV 55) yF),yM 42 56]) (yc 42 (yQ [yC 2 (yK 12)] yr) yw))
def ZcM:Zr:=yR [yX 57 .add (yV 25) (yK 1),yM 25 57]
def Dp:Zr:=yQ [yX 26 .lss (yV 25) (yV 24)] (.seq (yc 26 yw (.exit 1)) (.seq (.block 2 (yQ [yM 27 25,yE 28 2 23 25,yD 29 2 28,yI 4 (.mk 159 [y0,y0]),yU 3 27,yN (.st 2 (yV 4) (yV 29))] (.block 3 (.seq (yQ [yH 31 0 4,yL 32 31,yH 33 3 1,yL 34 33,yX 35 .sub (yV 34) (yK 1),yP 36 65 [yA 32,yB (yK 0),yA 35],yI 37 (.un .not (yV 36)),yU 30 37] (yc 30 yw (yR [yH 38 1 4,yL 39 38,yP 40 65 [yA 39,yB (yK 0),yB (yK 1000)],yI 41 (.un .not (yV 40)),yU 30 41]))) ZcL)))) ZcM))
def ZcO:Zr:=.loop Dp
def ZcN:Zr:=yQ [yC 2 (yK 0)] yr
def ZbR:Zr:=yQ [yI 1 (.box 92 17 (yV 0)),yC 2 (yK 0)] (.seq (yQ [yH 5 2 1,yL 6 5,yO 7 6,yX 8 .eql (yV 7) (yK 0)] (yc 8 (.seq (yQ [yH 9 3 1,yL 10 9,yX 11 .neq (yV 10) (yK 0)] (yc 11 (yQ [yC 2 (yK 1)] yr) yw)) (yQ [yC 2 (yK 0)] yr)) yw)) (.seq (.block 0 (yQ [yH 13 2 1,yL 14 13,yO 15 14,yX 16 .gtr (yV 15) (yK 20),yU 12 16] (yc 12 (yQ [yC 2 (yK 6)] yr) (yQ [yH 18 3 1,yL 19 18,yP 20 65 [yA 19,yB (yK 1),yB (yK 1000000000)],yI 21 (.un .not (yV 20)),yU 17 21] (yc 17 (yQ [yC 2 (yK 2)] yr) yw))))) (.seq (yQ [yH 22 2 1,yL 23 22,yO 24 23,yC 25 (yK 0)] (.block 1 (ZcO))) ZcN)))
def JC:AFn:=⟨58,[.tmp 2],ZbR,false⟩
def Xp:List Nat:=[46,47,48,49,50,51,52,53,54,55]
def Zod:Zr:=yQ [yI 2 (.box 42 13 (yV 0)),yI 3 (.box 90 13 (yV 1)),yC 4 (yK 0)] (.seq (.block 0 (yQ [yH 7 0 3,yL 8 7,yX 9 .eql (yV 8) (yS []),yM 10 9,yJ 11 (.fa 1 (yV 3)) 10 true,yJ 12 (.lda 6 (yV 11)) 10 true,yJ 13 (.build [y0,y0,y0,y0,(.own 1 []),(.own 1 [])] []) 10 true,yJ 14 (.call (yG 127) [yA 12,yA 13]) 10 true,yJ 15 (.un .not (yV 14)) 10 true,yJ 16 (.mv (yV 15)) 10 true,yJ 17 (.fa 7 (yV 3)) 16 false,yJ 18 (.lda 6 (yV 17)) 16 false,yJ 19 (.build [y0,y0,y0,y0,(.own 1 []),(.own 1 [])] []) 16 false,yJ 20 (.call (yG 127) [yA 18,yA 19]) 16 false,yJ 21 (.un .not (yV 20)) 16 false,yJ 22 (.pick (yV 16) yT (yV 21)) 10 true,yI 23 (.pick (yV 10) (yV 22) yF),yU 6 23] (yc 6 (yQ [yC 4 (yK 1)] yr) (yQ [yH 25 0 3,yL 26 25,yX 27 .eql (yV 26) (yS []),yU 24 27] (yc 24 (yQ [yC 4 (yK 0)] yr) (yQ [yH 29 6 2,yL 30 29,yH 31 0 3,yL 32 31,yP 33 128 [yA 30,yA 32],yI 34 (.un .not (yV 33)),yU 28 34] (yc 28 (yQ [yC 4 (yK 5)] yr) yw))))))) (.seq (yQ [yH 35 1 3,yD 36 6 35,yP 37 129 [yA 36],yU 5 37] (yQ [yM 38 5,yX 39 .neq (yV 38) (yK 0)] (yc 39 (yQ [yU 40 5,yU 4 40] yr) yw))) (yQ [yH 41 7 3,yD 42 6 41,yP 43 129 [yA 42],yU 4 43] yr)))
def ZfH:AFn:=⟨44,[.tmp 4],Zod,false⟩
def ZoO:List Nat:=[11,12,13,14,15,16,17,18,19,20,21,22]
def ZjU:Zr:=yQ [yX 30 .lss (yV 29) (yV 28)] (.seq (yc 30 yw (.exit 0)) (.seq (.block 1 (yQ [yE 31 2 27 29,yD 32 2 31,yI 5 (.mk 103 [ye,y0]),yN (.st 2 (yV 5) (yV 32))] (.seq (yQ [yM 33 3,yH 34 0 5,yL 35 34,yP 36 30 [yA 33,yA 35],yU 6 36] (yQ [yM 37 6,yX 38 .neq (yV 37) (yK 0)] (yc 38 (yQ [yU 39 6,yU 2 39] yr) yw))) (yQ [yH 40 1 5,yL 41 40,yP 42 125 [yA 41],yI 43 (.un .not (yV 42))] (yc 43 (yQ [yC 2 (yK 1)] yr) yw))))) (yR [yX 44 .add (yV 29) (yK 1),yM 29 44])))
def Zd9:Zr:=.loop ZjU
def Zd8:Zr:=yQ [yH 45 3 1,yL 46 45,yP 47 131 [yA 46],yU 2 47] yr
def ZcK:Zr:=yQ [yI 1 (.box 79 4 (yV 0)),yC 2 (yK 0)] (.seq (yQ [yH 7 1 1,yL 8 7,yO 9 8,yX 10 .gtr (yV 9) (yK 6),yM 11 10,yJ 12 (.fa 1 (yV 1)) 11 false,yJ 13 (.ldc (yV 12)) 11 false,yJ 14 (.len .slice (yV 13)) 11 false,yJ 15 (.fa 2 (yV 1)) 11 false,yJ 16 (.ldc (yV 15)) 11 false,yJ 17 (.len .slice (yV 16)) 11 false,yJ 18 (.bin .add .prim (yV 14) (yV 17)) 11 false,yJ 19 (.bin .gtr .prim (yV 18) (yK 16)) 11 false,yI 20 (.pick (yV 11) yT (yV 19))] (yc 20 (yQ [yC 2 (yK 6)] yr) yw)) (yQ [yI 21 (.mkmap),yU 3 21] (.seq (yQ [yH 22 1 1,yL 23 22,yH 24 2 1,yL 25 24,yI 26 (.lit 76 1 [(yV 23),(yV 25)]),yP 27 130 [yA 26],yO 28 27,yC 29 (yK 0)] (.block 0 (Zd9))) Zd8)))
def OB:AFn:=⟨48,[.tmp 2],ZcK,false⟩
def Ii:List Nat:=[12,13,14,15,16,17,18,19]
def Zm5:Zr:=yQ [yX 31 .lss (yV 30) (yV 29)] (.seq (yc 31 yw (.exit 0)) (.seq (.block 1 (yQ [yM 32 30,yE 33 1 28 30,yL 34 33,yU 7 32,yU 8 34] (yQ [yM 35 6,yM 36 7,yE 37 2 35 36,yH 38 1 37,yL 39 38,yM 40 8,yP 41 126 [yA 39,yA 40],yI 42 (.un .not (yV 41))] (yc 42 (yQ [yC 4 (yK 2)] yr) yw)))) (yR [yX 43 .add (yV 30) (yK 1),yM 30 43])))
def ZfY:Zr:=.loop Zm5
def ZfX:Zr:=.seq (yQ [yH 44 2 3,yL 45 44,yP 46 65 [yA 45,yB (yK 0),yB (yK 1000000000)],yI 47 (.un .not (yV 46)),yM 48 47,yJ 49 (.fa 3 (yV 3)) 48 false,yJ 50 (.ldc (yV 49)) 48 false,yJ 51 (.call (yG 65) [yA 50,yB (yK 0),yB (yK 1000000000)]) 48 false,yJ 52 (.un .not (yV 51)) 48 false,yI 53 (.pick (yV 48) yT (yV 52)),yM 54 53,yJ 55 (.fa 4 (yV 3)) 54 false,yJ 56 (.ldc (yV 55)) 54 false,yJ 57 (.call (yG 65) [yA 56,yB (yK 0),yB (yK 1000000000)]) 54 false,yJ 58 (.un .not (yV 57)) 54 false,yI 59 (.pick (yV 54) yT (yV 58)),yM 60 59,yJ 61 (.fa 3 (yV 3)) 60 false,yJ 62 (.ldc (yV 61)) 60 false,yJ 63 (.bin .eql .prim (yV 62) (yK 0)) 60 false,yJ 64 (.mv (yV 63)) 60 false,yJ 65 (.fa 4 (yV 3)) 64 true,yJ 66 (.ldc (yV 65)) 64 true,yJ 67 (.bin .neq .prim (yV 66) (yK 0)) 64 true,yJ 68 (.pick (yV 64) (yV 67) yF) 60 false,yI 69 (.pick (yV 60) yT (yV 68))] (yc 69 (yQ [yC 4 (yK 2)] yr) yw)) (yQ [yC 4 (yK 0)] yr)
def Zfu:Zr:=yQ [yI 2 (.box 42 13 (yV 0)),yI 3 (.box 105 5 (yV 1)),yC 4 (yK 0)] (yQ [yD 9 13 2,yH 10 0 3,yL 11 10,yP 12 16 [yA 9,yA 11],yU 5 12] (.seq (yQ [yM 13 5,yX 14 .lss (yV 13) (yK 0)] (yc 14 (yQ [yC 4 (yK 5)] yr) yw)) (yQ [yH 15 10 2,yL 16 15,yM 17 5,yE 18 4 16 17,yH 19 1 18,yL 20 19,yU 6 20] (.seq (yQ [yH 21 1 3,yL 22 21,yO 23 22,yM 24 6,yO 25 24,yX 26 .neq (yV 23) (yV 25)] (yc 26 (yQ [yC 4 (yK 8)] yr) yw)) (.seq (yQ [yH 27 1 3,yL 28 27,yO 29 28,yC 30 (yK 0)] (.block 0 (ZfY))) ZfX)))))
def RI:AFn:=⟨70,[.tmp 4],Zfu,false⟩
def Md:List Nat:=[49,50,51,52,55,56,57,58,61,62,63,64,65,66,67,68]
def ZrV:Zr:=yQ [yI 3 (.box 57 3 (yV 0)),yC 4 (yK 0)] (.seq (yQ [yL 7 1,yH 8 0 3,yL 9 8,yP 10 30 [yA 7,yA 9],yU 5 10] (yQ [yM 11 5,yX 12 .neq (yV 11) (yK 0)] (yc 12 (yQ [yU 13 5,yU 4 13] yr) yw))) (.seq (yQ [yH 14 1 3,yL 15 14,yO 16 15,yX 17 .eql (yV 16) (yK 0)] (yc 17 (yQ [yC 4 (yK 7)] yr) yw)) (.seq (yQ [yH 18 1 3,yL 19 18,yI 20 (.mkfn 135 [] [(yV 2)]),yP 21 134 [yA 19,yB (yK 8),yA 20],yU 6 21] (yQ [yM 22 6,yX 23 .neq (yV 22) (yK 0)] (yc 23 (yQ [yU 24 6,yU 4 24] yr) yw))) (.seq (yQ [yH 25 2 3,yL 26 25,yP 27 137 [yA 26],yI 28 (.un .not (yV 27))] (yc 28 (yQ [yC 4 (yK 2)] yr) yw)) (yQ [yC 4 (yK 0)] yr)))))
def ZiY:AFn:=⟨29,[.tmp 4],ZrV,false⟩
def ZsD:List Nat:=[]
def Zeb:Zr:=yQ [yX 17 .lss (yV 16) (yV 15)] (.seq (yc 17 yw (.exit 0)) (.seq (.block 1 (yQ [yE 18 3 14 16,yD 19 3 18,yI 8 (.mk 57 [ye,(.own 3 []),y0]),yN (.st 3 (yV 8) (yV 19))] (yQ [yM 20 2,yD 21 3 8,yI 22 (.call (yV 20) [yA 21]),yU 9 22] (yQ [yM 23 9,yX 24 .neq (yV 23) (yK 0)] (yc 24 (yQ [yU 25 9,yU 6 25] yr) yw))))) (yR [yX 26 .add (yV 16) (yK 1),yM 16 26])))
def CE:Zr:=.loop Zeb
def CB:Zr:=yQ [yC 6 (yK 0)] yr
def Ej:Zr:=yQ [yC 6 (yK 0)] (.seq (yQ [yM 10 0,yO 11 10,yM 12 1,yX 13 .gtr (yV 11) (yV 12)] (yc 13 (yQ [yC 6 (yK 6)] yr) yw)) (.seq (yQ [yM 14 0,yO 15 14,yC 16 (yK 0)] (.block 0 (CE))) CB))
def JW:AFn:=⟨27,[.tmp 6],Ej,false⟩
def Jd:List Nat:=[]
def Zp5:Zr:=yQ [yX 39 .lss (yV 38) (yV 37)] (.seq (yc 39 yw (.exit 0)) (.seq (.block 1 (yQ [yM 40 38,yE 41 4 36 38,yD 42 4 41,yI 6 (.mk 179 [y0,ye,y0,(.own 4 [])]),yU 5 40,yN (.st 4 (yV 6) (yV 42))] (.seq (.region true [yD 43 4 6,yH 44 3 3,yL 45 44,yM 46 5,yE 47 4 45 46,yD 48 4 47,yP 49 177 [yA 43,yA 48],yI 50 (.un .not (yV 49))]) (yc 50 (yQ [yC 4 yF] yr) yw)))) (yR [yX 51 .add (yV 38) (yK 1),yM 38 51])))
def Zjm:Zr:=.loop Zp5
def Zjl:Zr:=yQ [yC 4 yT] yr
def ZjT:Zr:=yQ [yI 2 (.box 179 4 (yV 0)),yI 3 (.box 179 4 (yV 1)),yC 4 yF] (.seq (yQ [yH 7 0 2,yL 8 7,yH 9 0 3,yL 10 9,yX 11 .neq (yV 8) (yV 10),yM 12 11,yJ 13 (.fa 1 (yV 2)) 12 false,yJ 14 (.ldc (yV 13)) 12 false,yJ 15 (.fa 1 (yV 3)) 12 false,yJ 16 (.ldc (yV 15)) 12 false,yJ 17 (.bin .neq .prim (yV 14) (yV 16)) 12 false,yI 18 (.pick (yV 12) yT (yV 17)),yM 19 18,yJ 20 (.fa 2 (yV 2)) 19 false,yJ 21 (.ldc (yV 20)) 19 false,yJ 22 (.fa 2 (yV 3)) 19 false,yJ 23 (.ldc (yV 22)) 19 false,yJ 24 (.bin .neq .prim (yV 21) (yV 23)) 19 false,yI 25 (.pick (yV 19) yT (yV 24)),yM 26 25,yJ 27 (.fa 3 (yV 2)) 26 false,yJ 28 (.ldc (yV 27)) 26 false,yJ 29 (.len .slice (yV 28)) 26 false,yJ 30 (.fa 3 (yV 3)) 26 false,yJ 31 (.ldc (yV 30)) 26 false,yJ 32 (.len .slice (yV 31)) 26 false,yJ 33 (.bin .neq .prim (yV 29) (yV 32)) 26 false,yI 34 (.pick (yV 26) yT (yV 33))] (yc 34 (yQ [yC 4 yF] yr) yw)) (.seq (yQ [yH 35 3 2,yL 36 35,yO 37 36,yC 38 (yK 0)] (.block 0 (Zjm))) Zjl))
def Ei:AFn:=⟨52,[.tmp 4],ZjT,false⟩
def PO:List Nat:=[13,14,15,16,17,20,21,22,23,24,27,28,29,30,31,32,33]
def I9:Zr:=yQ [yX 18 .lss (yV 17) (yV 16)] (.seq (yc 18 yw (.exit 0)) (.seq (.block 1 (yQ [yM 19 17,yE 20 4 15 17,yD 21 4 20,yI 8 (.mk 179 [y0,ye,y0,(.own 4 [])]),yU 7 19,yN (.st 4 (yV 8) (yV 21))] (yQ [yM 22 1,yM 23 7,yE 24 4 22 23,yD 25 4 24,yI 9 (.mk 179 [y0,ye,y0,(.own 4 [])]),yN (.st 4 (yV 9) (yV 25))] (yQ [yM 26 2,yD 27 4 8,yD 28 4 9,yI 29 (.call (yV 26) [yA 27,yA 28]),yI 30 (.un .not (yV 29))] (yc 30 (yQ [yC 6 yF] yr) yw))))) (yR [yX 31 .add (yV 17) (yK 1),yM 17 31])))
def J5:Zr:=.loop I9
def J4:Zr:=yQ [yC 6 yT] yr
def XL:Zr:=yQ [yC 6 yF] (.seq (yQ [yM 10 0,yO 11 10,yM 12 1,yO 13 12,yX 14 .neq (yV 11) (yV 13)] (yc 14 (yQ [yC 6 yF] yr) yw)) (.seq (yQ [yM 15 0,yO 16 15,yC 17 (yK 0)] (.block 0 (J5))) J4))
def Yl:AFn:=⟨32,[.tmp 6],XL,false⟩
def ZV:List Nat:=[]
def Zas:Zr:=yQ [yC 4 yF] (yQ [yM 5 0,yM 6 1,yP 7 107 [yA 5,yA 6],yX 8 .geq (yV 7) (yK 0),yU 4 8] yr)
def RS:AFn:=⟨9,[.tmp 4],Zas,false⟩
def ZaA:List Nat:=[]
def Zvt:Zr:=yQ [yI 1 (.box 88 6 (yV 0)),yC 2 (yK 0)] (.seq (yQ [yD 5 6 1,yP 6 151 [yA 5],yI 7 (.un .not (yV 6))] (yc 7 (yQ [yC 2 (yK 1)] yr) yw)) (yQ [yC 3 yF] (.seq (yQ [yH 8 0 1,yL 9 8] (.block 0 (yQ [yX 11 .eql (yV 9) (yK 1),yU 10 11] (yc 10 (yR [yH 12 1 1,yL 13 12,yI 14 (.lit 3 1 [(yV 13)]),yP 15 152 [yB (yK 0),yB (yK 1000000000),yA 14],yU 3 15]) (yQ [yX 17 .eql (yV 9) (yK 2),yU 16 17] (yc 16 (yR [yH 18 1 1,yL 19 18,yH 20 2 1,yL 21 20,yI 22 (.lit 3 1 [(yV 19),(yV 21)]),yP 23 152 [yB (yK 0),yB (yK 1000000000),yA 22],yM 24 23,yJ 25 (.fa 1 (yV 1)) 24 true,yJ 26 (.ldc (yV 25)) 24 true,yJ 27 (.fa 2 (yV 1)) 24 true,yJ 28 (.ldc (yV 27)) 24 true,yJ 29 (.bin .leq .prim (yV 26) (yV 28)) 24 true,yI 30 (.pick (yV 24) (yV 29) yF),yU 3 30]) (yQ [yX 32 .eql (yV 9) (yK 4),yU 31 32] (yc 31 (yR [yH 33 3 1,yL 34 33,yI 35 (.lit 3 1 [(yV 34)]),yP 36 152 [yB (yK 1),yB (yK 20),yA 35],yM 37 36,yJ 38 (.fa 1 (yV 1)) 37 true,yJ 39 (.ldc (yV 38)) 37 true,yJ 40 (.fa 2 (yV 1)) 37 true,yJ 41 (.ldc (yV 40)) 37 true,yJ 42 (.lit 3 1 [(yV 39),(yV 41)]) 37 true,yJ 43 (.call (yG 152) [yB (yK 0),yB (yK 1000000),yA 42]) 37 true,yI 44 (.pick (yV 37) (yV 43) yF),yM 45 44,yJ 46 (.fa 1 (yV 1)) 45 true,yJ 47 (.ldc (yV 46)) 45 true,yJ 48 (.fa 2 (yV 1)) 45 true,yJ 49 (.ldc (yV 48)) 45 true,yJ 50 (.bin .leq .prim (yV 47) (yV 49)) 45 true,yI 51 (.pick (yV 45) (yV 50) yF),yU 3 51]) (yQ [yX 53 .eql (yV 9) (yK 5),yU 52 53] (yc 52 (yR [yH 54 1 1,yL 55 54,yH 56 2 1,yL 57 56,yI 58 (.lit 3 1 [(yV 55),(yV 57)]),yP 59 152 [yB (yK 1),yB (yK 1000),yA 58],yU 3 59]) (yQ [yX 61 .eql (yV 9) (yK 3),yU 60 61] (yc 60 (.seq (yQ [yH 62 4 1,yL 63 62,yO 64 63,yU 4 64] (.block 1 (yQ [yM 66 4,yH 67 5 1,yL 68 67,yO 69 68,yX 70 .neq (yV 66) (yV 69),yU 65 70] (yc 65 (yQ [yC 2 (yK 8)] yr) (yQ [yM 72 4,yX 73 .eql (yV 72) (yK 0),yU 71 73] (yc 71 (yQ [yC 2 (yK 7)] yr) (yQ [yM 75 4,yX 76 .gtr (yV 75) (yK 20),yU 74 76] (yc 74 (yQ [yC 2 (yK 6)] yr) yw)))))))) (yR [yH 77 4 1,yL 78 77,yP 79 152 [yB (yK 0),yB (yK 1000000000),yA 78],yM 80 79,yJ 81 (.fa 5 (yV 1)) 80 true,yJ 82 (.ldc (yV 81)) 80 true,yJ 83 (.call (yG 152) [yB (yK 1),yB (yK 1000),yA 82]) 80 true,yI 84 (.pick (yV 80) (yV 83) yF),yU 3 84])) yw)))))))))))) (.seq (yQ [yM 85 3,yI 86 (.un .not (yV 85))] (yc 86 (yQ [yC 2 (yK 2)] yr) yw)) (yQ [yC 2 (yK 0)] yr)))))
def Zn1:AFn:=⟨87,[.tmp 2],Zvt,false⟩
def Zwj:List Nat:=[25,26,27,28,29,38,39,40,41,42,43,46,47,48,49,50,81,82,83]
def NY:Zr:=yQ [yX 12 .lss (yV 11) (yV 10)] (.seq (yc 12 yw (.exit 0)) (.seq (.block 1 (yQ [yE 13 1 9 11,yL 14 13,yU 5 14] (yQ [yM 15 3,yM 16 5,yO 17 16,yX 18 .add (yV 15) (yV 17),yU 3 18] (yQ [yM 19 3,yX 20 .lss (yV 19) (yK 0)] (yc 20 (yR [yI 21 (.bad),yN (.bad)]) yw))))) (yR [yX 22 .add (yV 11) (yK 1),yM 11 22])))
def Oy:Zr:=.loop NY
def NZ:Zr:=yQ [yX 28 .lss (yV 27) (yV 26)] (.seq (yc 28 yw (.exit 2)) (.seq (.block 3 (yQ [yE 29 1 25 27,yL 30 29,yU 8 30] (yR [yU 31 6,yM 32 8,yI 33 (.app 2 24 31 (yV 32)),yU 6 33]))) (yR [yX 34 .add (yV 27) (yK 1),yM 27 34])))
def Oz:Zr:=.loop NZ
def Ox:Zr:=yQ [yU 35 6,yU 2 35] yr
def UE:Zr:=yQ [yM 23 3,yP 24 153 [(.inr (.const (.own 2 []))),yA 23],yU 6 24] (.seq (yQ [yM 25 0,yO 26 25,yC 27 (yK 0)] (.block 2 (Oz))) Ox)
def KO:Zr:=yQ [yI 2 (.mv (.const (.own 2 [])))] (yQ [yC 3 (yK 0)] (.seq (yQ [yM 9 0,yO 10 9,yC 11 (yK 0)] (.block 0 (Oy))) UE))
def YC:AFn:=⟨36,[.tmp 2],KO,false⟩
def Yg:List Nat:=[]
def Zv0:Zr:=yQ [yC 2 (yK 0)] (.seq (yQ [yM 3 0,yP 4 154 [yA 3],yX 5 .gtr (yV 4) (yK 200)] (yc 5 (yQ [yC 2 (yK 6)] yr) yw)) (.seq (yQ [yM 6 0,yP 7 155 [yA 6],yX 8 .gtr (yV 7) (yK 12)] (yc 8 (yQ [yC 2 (yK 11)] yr) yw)) (yQ [yM 9 0,yP 10 156 [yA 9],yU 2 10] yr)))
def Zn8:AFn:=⟨11,[.tmp 2],Zv0,false⟩
def Zwq:List Nat:=[]
def Zoe:Zr:=yQ [yI 2 (.box 54 3 (yV 0)),yC 3 (yK 0)] (yQ [yD 4 13 1,yD 5 3 2,yP 6 136 [yA 4,yA 5],yU 3 6] yr)
def ZfI:AFn:=⟨7,[.tmp 3],Zoe,false⟩
def ZoP:List Nat:=[]
def Zdw:Zr:=yQ [yX 17 .lss (yV 16) (yV 15)] (.seq (yc 17 yw (.exit 0)) (.seq (.block 1 (yQ [yE 18 3 14 16,yD 19 3 18,yI 8 (.mk 54 [y0,ye,ye]),yN (.st 3 (yV 8) (yV 19))] (yQ [yM 20 2,yD 21 3 8,yI 22 (.call (yV 20) [yA 21]),yU 9 22] (yQ [yM 23 9,yX 24 .neq (yV 23) (yK 0)] (yc 24 (yQ [yU 25 9,yU 6 25] yr) yw))))) (yR [yX 26 .add (yV 16) (yK 1),yM 16 26])))
def AZ:Zr:=.loop Zdw
def AY:Zr:=yQ [yC 6 (yK 0)] yr
def NW:Zr:=yQ [yC 6 (yK 0)] (.seq (yQ [yM 10 0,yO 11 10,yM 12 1,yX 13 .gtr (yV 11) (yV 12)] (yc 13 (yQ [yC 6 (yK 6)] yr) yw)) (.seq (yQ [yM 14 0,yO 15 14,yC 16 (yK 0)] (.block 0 (AZ))) AY))
def J3:AFn:=⟨27,[.tmp 6],NW,false⟩
def VB:List Nat:=[]
def ZfO:Zr:=yc 27 (yQ [yM 30 3,yM 31 30,yJ 32 (.fa 3 (yV 1)) 31 true,yJ 33 (.ldc (yV 32)) 31 true,yJ 34 (.bin .eql .prim (yV 33) (yK 0)) 31 true,yI 35 (.pick (yV 31) (yV 34) yF),yU 2 35] yr) (yQ [yX 37 .eql (yV 13) (yK 4),yU 36 37] (yc 36 (yQ [yU 38 3,yU 2 38] yr) (yQ [yX 40 .eql (yV 13) (yK 3),yU 39 40] (yc 39 (yQ [yH 41 1 1,yL 42 41,yX 43 .eql (yV 42) (yK 0),yM 44 43,yJ 45 (.fa 2 (yV 1)) 44 true,yJ 46 (.ldc (yV 45)) 44 true,yJ 47 (.bin .eql .prim (yV 46) (yK 0)) 44 true,yI 48 (.pick (yV 44) (yV 47) yF),yM 49 48,yJ 50 (.fa 3 (yV 1)) 49 true,yJ 51 (.ldc (yV 50)) 49 true,yJ 52 (.bin .eql .prim (yV 51) (yK 0)) 49 true,yI 53 (.pick (yV 49) (yV 52) yF),yU 2 53] yr) yw))))
def ZfP:Zr:=yQ [yC 2 yF] yr
def Zfr:Zr:=yQ [yI 1 (.box 88 6 (yV 0)),yC 2 yF] (yQ [yH 4 4 1,yL 5 4,yO 6 5,yH 7 5 1,yL 8 7,yO 9 8,yX 10 .add (yV 6) (yV 9),yX 11 .eql (yV 10) (yK 0),yU 3 11] (.seq (yQ [yH 12 0 1,yL 13 12] (.block 0 (yQ [yX 15 .eql (yV 13) (yK 1),yU 14 15] (yc 14 (yQ [yM 16 3,yM 17 16,yJ 18 (.fa 2 (yV 1)) 17 true,yJ 19 (.ldc (yV 18)) 17 true,yJ 20 (.bin .eql .prim (yV 19) (yK 0)) 17 true,yI 21 (.pick (yV 17) (yV 20) yF),yM 22 21,yJ 23 (.fa 3 (yV 1)) 22 true,yJ 24 (.ldc (yV 23)) 22 true,yJ 25 (.bin .eql .prim (yV 24) (yK 0)) 22 true,yI 26 (.pick (yV 22) (yV 25) yF),yU 2 26] yr) (.seq (yQ [yX 28 .eql (yV 13) (yK 2),yU 27 28] (yc 27 yw (yR [yX 29 .eql (yV 13) (yK 5),yU 27 29]))) ZfO))))) ZfP))
def RG:AFn:=⟨54,[.tmp 2],Zfr,false⟩
def TZ:List Nat:=[18,19,20,23,24,25,32,33,34,45,46,47,50,51,52]
def ZtX:Zr:=yQ [yI 3 (.box 3 1 (yV 0)),yI 4 (.box 3 1 (yV 1)),yC 6 yF] (yQ [yM 7 2,yI 8 (.mkfn 167 [] [(yV 3),(yV 4)]),yP 9 166 [yA 7,yA 8],yI 10 (.un .not (yV 9)),yU 6 10] yr)
def ZkS:AFn:=⟨11,[.tmp 6],ZtX,false⟩
def Zu9:List Nat:=[]
def Zoj:Zr:=yQ [yX 11 .lss (yV 10) (yV 9)] (.seq (yc 11 yw (.exit 0)) (.seq (.block 1 (yQ [yE 12 21 8 10,yD 13 21 12,yI 5 (.mk 181 [y0,ye,ye,y0,ye,y0,(.own 4 []),y0,ye,y0,(.own 4 []),(.own 4 []),y0,y0,y0,y0,(.own 1 []),(.own 1 []),yf,(.own 21 []),(.own 21 [])]),yN (.st 21 (yV 5) (yV 13))] (.region true [yM 14 3,yH 15 19 5,yL 16 15,yP 17 154 [yA 16],yH 18 20 5,yL 19 18,yP 20 154 [yA 19],yX 21 .add (yV 17) (yV 20),yX 22 .add (yV 14) (yV 21),yM 3 22]))) (yR [yX 23 .add (yV 10) (yK 1),yM 10 23])))
def Zhh:Zr:=.loop Zoj
def Zhg:Zr:=yQ [yU 24 3,yU 2 24] yr
def Zhf:Zr:=yQ [yC 2 (yK 0)] (yQ [yM 6 0,yO 7 6,yU 3 7] (.seq (yQ [yM 8 0,yO 9 8,yC 10 (yK 0)] (.block 0 (Zhh))) Zhg))
def Pm:AFn:=⟨25,[.tmp 2],Zhf,false⟩
def BF:List Nat:=[]
def Zok:Zr:=yQ [yX 9 .lss (yV 8) (yV 7)] (.seq (yc 9 yw (.exit 0)) (.seq (.block 1 (yQ [yE 10 21 6 8,yD 11 21 10,yI 5 (.mk 181 [y0,ye,ye,y0,ye,y0,(.own 4 []),y0,ye,y0,(.own 4 []),(.own 4 []),y0,y0,y0,y0,(.own 1 []),(.own 1 []),yf,(.own 21 []),(.own 21 [])]),yN (.st 21 (yV 5) (yV 11))] (.region true [yM 12 3,yH 13 19 5,yL 14 13,yP 15 155 [yA 14],yX 16 .add (yK 1) (yV 15),yH 17 20 5,yL 18 17,yP 19 155 [yA 18],yX 20 .add (yK 1) (yV 19),yI 21 (.max [(yV 12),(yV 16),(yV 20)]),yU 3 21]))) (yR [yX 22 .add (yV 8) (yK 1),yM 8 22])))
def Zhk:Zr:=.loop Zok
def Zhj:Zr:=yQ [yU 23 3,yU 2 23] yr
def Zhi:Zr:=yQ [yC 2 (yK 0)] (yQ [yC 3 (yK 0)] (.seq (yQ [yM 6 0,yO 7 6,yC 8 (yK 0)] (.block 0 (Zhk))) Zhj))
def Pn:AFn:=⟨24,[.tmp 2],Zhi,false⟩
def BG:List Nat:=[]
def Zol:Zr:=yQ [yX 13 .lss (yV 12) (yV 11)] (.seq (yc 13 yw (.exit 0)) (.seq (.block 1 (yQ [yE 14 21 10 12,yD 15 21 14,yI 4 (.mk 181 [y0,ye,ye,y0,ye,y0,(.own 4 []),y0,ye,y0,(.own 4 []),(.own 4 []),y0,y0,y0,y0,(.own 1 []),(.own 1 []),yf,(.own 21 []),(.own 21 [])]),yN (.st 21 (yV 4) (yV 15))] (yQ [yH 17 0 4,yL 18 17,yP 19 168 [yA 18],yM 16 19,yI 20 (.extract (yV 16) 0),yI 21 (.extract (yV 16) 1),yI 5 (.mk 194 [yf,yf,yf,yf,yf,yf,yf,yf,yf]),yN (.st 9 (yV 5) (yV 20)),yU 6 21] (.seq (yQ [yM 22 6,yI 23 (.un .not (yV 22)),yM 24 23,yJ 25 (.lda 21 (yV 4)) 24 false,yJ 26 (.lda 9 (yV 5)) 24 false,yJ 27 (.call (yG 169) [yA 25,yA 26]) 24 false,yJ 28 (.un .not (yV 27)) 24 false,yI 29 (.pick (yV 24) yT (yV 28))] (yc 29 (yQ [yC 2 (yK 1)] yr) yw)) (.seq (yQ [yD 30 21 4,yD 31 9 5,yP 32 170 [yA 30,yA 31],yU 7 32] (yQ [yM 33 7,yX 34 .neq (yV 33) (yK 0)] (yc 34 (yQ [yU 35 7,yU 2 35] yr) yw))) (.seq (yQ [yH 36 19 4,yL 37 36,yP 38 156 [yA 37],yU 8 38] (yQ [yM 39 8,yX 40 .neq (yV 39) (yK 0)] (yc 40 (yQ [yU 41 8,yU 2 41] yr) yw))) (yQ [yH 42 20 4,yL 43 42,yP 44 156 [yA 43],yU 9 44] (yQ [yM 45 9,yX 46 .neq (yV 45) (yK 0)] (yc 46 (yQ [yU 47 9,yU 2 47] yr) yw))))))))) (yR [yX 48 .add (yV 12) (yK 1),yM 12 48])))
def Zhn:Zr:=.loop Zol
def Zhm:Zr:=yQ [yC 2 (yK 0)] yr
def Zhl:Zr:=yQ [yC 2 (yK 0)] (.seq (yQ [yM 10 0,yO 11 10,yC 12 (yK 0)] (.block 0 (Zhn))) Zhm)
def Po:AFn:=⟨49,[.tmp 2],Zhl,false⟩
def BH:List Nat:=[25,26,27,28]
def Zhd:Zr:=yc 17 (yR [yH 21 3 2,yL 22 21,yI 23 (.mkfn 158 [] [(yV 3)]),yP 24 157 [yA 22,yA 23],yU 5 24]) (yQ [yX 26 .eql (yV 7) (yS [99,111,117,110,116,101,100]),yU 25 26] (yc 25 (yR [yH 27 9 2,yL 28 27,yH 29 2 3,yL 30 29,yP 31 128 [yA 28,yA 30],yU 5 31]) (yQ [yC 4 (yK 1)] yr)))
def ZcP:Zr:=yc 8 (yR [yD 12 13 2,yH 13 2 3,yL 14 13,yP 15 16 [yA 12,yA 14],yX 16 .geq (yV 15) (yK 0),yU 5 16]) (.seq (yQ [yX 18 .eql (yV 7) (yS [115,116,111,114,101,100]),yU 17 18] (yc 17 yw (yQ [yX 19 .eql (yV 7) (yS [101,110,116,101,114,101,100]),yU 17 19] (yc 17 yw (yR [yX 20 .eql (yV 7) (yS [108,101,102,116]),yU 17 20]))))) Zhd)
def Zhe:Zr:=.seq (.block 1 (yQ [yM 33 5,yI 34 (.un .not (yV 33)),yU 32 34] (yc 32 (yQ [yC 4 (yK 5)] yr) (yQ [yH 36 0 3,yL 37 36,yP 38 65 [yA 37,(.inr (.const (.int .i64 (-1000)))),yB (yK 1000)],yI 39 (.un .not (yV 38)),yM 40 39,yJ 41 (.fa 0 (yV 3)) 40 false,yJ 42 (.ldc (yV 41)) 40 false,yJ 43 (.bin .eql .prim (yV 42) (yK 0)) 40 false,yI 44 (.pick (yV 40) yT (yV 43)),yU 35 44] (yc 35 (yQ [yC 4 (yK 2)] yr) yw))))) (yQ [yC 4 (yK 0)] yr)
def Zhc:Zr:=yQ [yI 2 (.box 42 13 (yV 0)),yI 3 (.box 54 3 (yV 1)),yC 4 (yK 0)] (yQ [yC 5 yF] (.seq (yQ [yH 6 1 3,yL 7 6] (.block 0 (.seq (yQ [yX 9 .eql (yV 7) (yS [99,114,101,97,116,101,100]),yU 8 9] (yc 8 yw (yQ [yX 10 .eql (yV 7) (yS [101,110,100,101,100]),yU 8 10] (yc 8 yw (yR [yX 11 .eql (yV 7) (yS [105,110,115,105,100,101]),yU 8 11]))))) ZcP))) Zhe))
def RJ:AFn:=⟨45,[.tmp 4],Zhc,false⟩
def OT:List Nat:=[41,42,43]
def Zp4:Zr:=yQ [yC 4 yF] (yQ [yM 5 0,yL 6 1,yX 7 .lss (yV 5) (yV 6),yM 8 7,yJ 9 (.mv (yV 0)) 8 false,yJ 10 (.ldc (yV 2)) 8 false,yJ 11 (.bin .gtr .prim (yV 9) (yV 10)) 8 false,yI 12 (.pick (yV 8) yT (yV 11)),yU 4 12] yr)
def ZgI:AFn:=⟨13,[.tmp 4],Zp4,false⟩
def ZqS:List Nat:=[9,10,11]
def Zbe:Zr:=yQ [yC 4 yF] (yQ [yM 5 0,yM 6 1,yP 7 179 [yA 5,yA 6],yX 8 .geq (yV 7) (yK 0),yU 4 8] yr)
def D6:AFn:=⟨9,[.tmp 4],Zbe,false⟩
def Zbr:List Nat:=[]
def Zjt:Zr:=yc 32 (yQ [yI 35 (.build [yf,yf,yf,yf,yf,yf,yf,yf,yf] [(0,1,yT)]),yN (.st 9 (yV 2) (yV 35)),yC 3 yT] yr) (yQ [yX 37 .eql (yV 4) (yK 13),yU 36 37] (yc 36 (yQ [yI 38 (.build [yf,yf,yf,yf,yf,yf,yf,yf,yf] [(0,1,yT),(1,1,yT),(2,1,yT),(4,1,yT)]),yN (.st 9 (yV 2) (yV 38)),yC 3 yT] yr) (yQ [yX 40 .eql (yV 4) (yK 14),yU 39 40] (yc 39 (yQ [yI 41 (.build [yf,yf,yf,yf,yf,yf,yf,yf,yf] [(0,1,yT),(2,1,yT),(4,1,yT)]),yN (.st 9 (yV 2) (yV 41)),yC 3 yT] yr) (yQ [yX 43 .eql (yV 4) (yK 18),yU 42 43] (yc 42 (yQ [yI 44 (.build [yf,yf,yf,yf,yf,yf,yf,yf,yf] []),yN (.st 9 (yV 2) (yV 44)),yC 3 yT] yr) yw))))))
def Zej:Zr:=yc 5 (yQ [yI 13 (.build [yf,yf,yf,yf,yf,yf,yf,yf,yf] [(0,1,yT),(2,1,yT)]),yN (.st 9 (yV 2) (yV 13)),yC 3 yT] yr) (yQ [yX 15 .eql (yV 4) (yK 2),yU 14 15] (yc 14 (yQ [yI 16 (.build [yf,yf,yf,yf,yf,yf,yf,yf,yf] [(0,1,yT),(1,1,yT),(5,1,yT)]),yN (.st 9 (yV 2) (yV 16)),yC 3 yT] yr) (yQ [yX 18 .eql (yV 4) (yK 3),yU 17 18] (yc 17 (yQ [yI 19 (.build [yf,yf,yf,yf,yf,yf,yf,yf,yf] [(2,1,yT),(7,1,yT),(8,1,yT)]),yN (.st 9 (yV 2) (yV 19)),yC 3 yT] yr) (yQ [yX 21 .eql (yV 4) (yK 4),yU 20 21] (yc 20 (yQ [yI 22 (.build [yf,yf,yf,yf,yf,yf,yf,yf,yf] [(2,1,yT),(7,1,yT)]),yN (.st 9 (yV 2) (yV 22)),yC 3 yT] yr) (yQ [yX 24 .eql (yV 4) (yK 5),yU 23 24] (yc 23 (yQ [yI 25 (.build [yf,yf,yf,yf,yf,yf,yf,yf,yf] [(2,1,yT)]),yN (.st 9 (yV 2) (yV 25)),yC 3 yT] yr) (yQ [yX 27 .eql (yV 4) (yK 6),yU 26 27] (yc 26 (yQ [yI 28 (.build [yf,yf,yf,yf,yf,yf,yf,yf,yf] [(0,1,yT),(2,1,yT),(3,1,yT),(6,1,yT)]),yN (.st 9 (yV 2) (yV 28)),yC 3 yT] yr) (yQ [yX 30 .eql (yV 4) (yK 9),yU 29 30] (yc 29 (yQ [yI 31 (.build [yf,yf,yf,yf,yf,yf,yf,yf,yf] [(0,1,yT),(1,1,yT)]),yN (.st 9 (yV 2) (yV 31)),yC 3 yT] yr) (.seq (yQ [yX 33 .eql (yV 4) (yK 10),yU 32 33] (yc 32 yw (yR [yX 34 .eql (yV 4) (yK 11),yU 32 34]))) Zjt)))))))))))))
def Zju:Zr:=yQ [yI 45 (.build [yf,yf,yf,yf,yf,yf,yf,yf,yf] []),yN (.st 9 (yV 2) (yV 45)),yC 3 yF] yr
def Zka:Zr:=yQ [yI 2 (.mk 194 [yf,yf,yf,yf,yf,yf,yf,yf,yf]),yC 3 yF] (.seq (yQ [yM 4 0] (.block 0 (.seq (yQ [yX 6 .eql (yV 4) (yK 1),yU 5 6] (yc 5 yw (yQ [yX 7 .eql (yV 4) (yK 7),yU 5 7] (yc 5 yw (yQ [yX 8 .eql (yV 4) (yK 8),yU 5 8] (yc 5 yw (yQ [yX 9 .eql (yV 4) (yK 12),yU 5 9] (yc 5 yw (yQ [yX 10 .eql (yV 4) (yK 15),yU 5 10] (yc 5 yw (yQ [yX 11 .eql (yV 4) (yK 16),yU 5 11] (yc 5 yw (yR [yX 12 .eql (yV 4) (yK 17),yU 5 12]))))))))))))) Zej))) Zju)
def P8:AFn:=⟨46,[.agg 2 9,.tmp 3],Zka,false⟩
def LU:List Nat:=[]
def Zxd:Zr:=yQ [yI 2 (.box 181 21 (yV 0)),yI 3 (.box 194 9 (yV 1)),yC 4 yF] (yQ [yI 5 (.mv (yG 180))] (yQ [yH 6 0 3,yL 7 6,yM 8 7,yJ 9 (.fa 1 (yV 2)) 8 false,yJ 10 (.ldc (yV 9)) 8 false,yJ 11 (.bin .eql .prim (yV 10) (yS [])) 8 false,yI 12 (.pick (yV 8) yT (yV 11)),yM 13 12,yJ 14 (.fa 1 (yV 3)) 13 true,yJ 15 (.ldc (yV 14)) 13 true,yJ 16 (.mv (yV 15)) 13 true,yJ 17 (.fa 2 (yV 2)) 16 false,yJ 18 (.ldc (yV 17)) 16 false,yJ 19 (.bin .eql .prim (yV 18) (yS [])) 16 false,yJ 20 (.pick (yV 16) yT (yV 19)) 13 true,yI 21 (.pick (yV 13) (yV 20) yF),yM 22 21,yJ 23 (.fa 2 (yV 3)) 22 true,yJ 24 (.ldc (yV 23)) 22 true,yJ 25 (.mv (yV 24)) 22 true,yJ 26 (.mv (yV 5)) 25 false,yJ 27 (.fa 3 (yV 2)) 25 false,yJ 28 (.lda 4 (yV 27)) 25 false,yJ 29 (.call (yV 26) [yA 28]) 25 false,yJ 30 (.pick (yV 25) yT (yV 29)) 22 true,yI 31 (.pick (yV 22) (yV 30) yF),yM 32 31,yJ 33 (.fa 3 (yV 3)) 32 true,yJ 34 (.ldc (yV 33)) 32 true,yJ 35 (.mv (yV 34)) 32 true,yJ 36 (.mv (yV 5)) 35 false,yJ 37 (.fa 7 (yV 2)) 35 false,yJ 38 (.lda 4 (yV 37)) 35 false,yJ 39 (.call (yV 36) [yA 38]) 35 false,yJ 40 (.pick (yV 35) yT (yV 39)) 32 true,yI 41 (.pick (yV 32) (yV 40) yF),yM 42 41,yJ 43 (.fa 4 (yV 3)) 42 true,yJ 44 (.ldc (yV 43)) 42 true,yJ 45 (.mv (yV 44)) 42 true,yJ 46 (.fa 11 (yV 2)) 45 false,yJ 47 (.ldc (yV 46)) 45 false,yJ 48 (.len .slice (yV 47)) 45 false,yJ 49 (.bin .eql .prim (yV 48) (yK 0)) 45 false,yJ 50 (.pick (yV 45) yT (yV 49)) 42 true,yI 51 (.pick (yV 42) (yV 50) yF),yM 52 51,yJ 53 (.fa 5 (yV 3)) 52 true,yJ 54 (.ldc (yV 53)) 52 true,yJ 55 (.mv (yV 54)) 52 true,yJ 56 (.fa 12 (yV 2)) 55 false,yJ 57 (.lda 6 (yV 56)) 55 false,yJ 58 (.build [y0,y0,y0,y0,(.own 1 []),(.own 1 [])] []) 55 false,yJ 59 (.call (yG 127) [yA 57,yA 58]) 55 false,yJ 60 (.pick (yV 55) yT (yV 59)) 52 true,yI 61 (.pick (yV 52) (yV 60) yF),yM 62 61,yJ 63 (.fa 6 (yV 3)) 62 true,yJ 64 (.ldc (yV 63)) 62 true,yJ 65 (.mv (yV 64)) 62 true,yJ 66 (.fa 18 (yV 2)) 65 false,yJ 67 (.ldc (yV 66)) 65 false,yJ 68 (.un .not (yV 67)) 65 false,yJ 69 (.pick (yV 65) yT (yV 68)) 62 true,yI 70 (.pick (yV 62) (yV 69) yF),yM 71 70,yJ 72 (.fa 7 (yV 3)) 71 true,yJ 73 (.ldc (yV 72)) 71 true,yJ 74 (.mv (yV 73)) 71 true,yJ 75 (.fa 19 (yV 2)) 74 false,yJ 76 (.ldc (yV 75)) 74 false,yJ 77 (.len .slice (yV 76)) 74 false,yJ 78 (.bin .eql .prim (yV 77) (yK 0)) 74 false,yJ 79 (.pick (yV 74) yT (yV 78)) 71 true,yI 80 (.pick (yV 71) (yV 79) yF),yM 81 80,yJ 82 (.fa 8 (yV 3)) 81 true,yJ 83 (.ldc (yV 82)) 81 true,yJ 84 (.mv (yV 83)) 81 true,yJ 85 (.fa 20 (yV 2)) 84 false,yJ 86 (.ldc (yV 85)) 84 false,yJ 87 (.len .slice (yV 86)) 84 false,yJ 88 (.bin .eql .prim (yV 87) (yK 0)) 84 false,yJ 89 (.pick (yV 84) yT (yV 88)) 81 true,yI 90 (.pick (yV 81) (yV 89) yF),yU 4 90] yr))
def Zpu:AFn:=⟨91,[.tmp 4],Zxd,false⟩
def ZxE:List Nat:=[9,10,11,14,15,16,17,18,19,20,23,24,25,26,27,28,29,30,33,34,35,36,37,38,39,40,43,44,45,46,47,48,49,50,53,54,55,56,57,58,59,60,63,64,65,66,67,68,69,72,73,74,75,76,77,78,79,82,83,84,85,86,87,88,89]
def Zom:Zr:=yQ [yX 27 .lss (yV 26) (yV 25)] (.seq (yc 27 yw (.exit 0)) (.seq (.block 1 (yQ [yE 28 2 24 26,yD 29 2 28,yI 6 (.mk 202 [yf,ye]),yN (.st 2 (yV 6) (yV 29))] (yQ [yH 30 1 6,yL 31 30,yP 32 26 [yA 31],yU 7 32] (yQ [yH 33 0 6,yL 34 33,yM 35 34,yJ 36 (.mv (yV 7)) 35 true,yJ 37 (.bin .neq .prim (yV 36) (yK 0)) 35 true,yI 38 (.pick (yV 35) (yV 37) yF)] (yc 38 (yQ [yU 39 7,yU 4 39] yr) yw))))) (yR [yX 40 .add (yV 26) (yK 1),yM 26 40])))
def Zhq:Zr:=.loop Zom
def Zon:Zr:=yQ [yX 54 .lss (yV 53) (yV 52)] (.seq (yc 54 yw (.exit 2)) (.seq (.block 3 (yQ [yE 55 5 51 53,yD 56 5 55,yI 9 (.mk 204 [yf,y0,ye,y0,(.own 4 [])]),yN (.st 5 (yV 9) (yV 56))] (.seq (yQ [yH 57 0 9,yL 58 57,yI 59 (.un .not (yV 58))] (yc 59 (.exit 3) yw)) (yQ [yH 60 1 9,yD 61 4 60,yP 62 181 [yA 61],yU 10 62] (yQ [yM 63 10,yX 64 .neq (yV 63) (yK 0)] (yc 64 (yQ [yU 65 10,yU 4 65] yr) yw)))))) (yR [yX 66 .add (yV 53) (yK 1),yM 53 66])))
def Zhr:Zr:=.loop Zon
def Zoo:Zr:=yQ [yX 75 .lss (yV 74) (yV 73)] (.seq (yc 75 yw (.exit 4)) (.seq (.block 5 (yQ [yE 76 4 72 74,yD 77 4 76,yI 12 (.mk 179 [y0,ye,y0,(.own 4 [])]),yN (.st 4 (yV 12) (yV 77))] (yQ [yD 78 4 12,yP 79 181 [yA 78],yU 13 79] (yQ [yM 80 13,yX 81 .neq (yV 80) (yK 0)] (yc 81 (yQ [yU 82 13,yU 4 82] yr) yw))))) (yR [yX 83 .add (yV 74) (yK 1),yM 74 83])))
def Zhs:Zr:=.loop Zoo
def Zhp:Zr:=.seq (yQ [yH 84 5 3,yL 85 84] (yc 85 (yQ [yH 86 12 2,yD 87 6 86,yP 88 129 [yA 87],yU 4 88] yr) yw)) (yQ [yC 4 (yK 0)] yr)
def ZcX:Zr:=.seq (yQ [yH 67 11 2,yL 68 67,yO 69 68,yX 70 .gtr (yV 69) (yK 6)] (yc 70 (yQ [yC 4 (yK 6)] yr) yw)) (.seq (yQ [yH 71 11 2,yL 72 71,yO 73 72,yC 74 (yK 0)] (.block 4 (Zhs))) Zhp)
def ZcW:Zr:=.seq (yQ [yH 41 2 3,yL 42 41,yH 43 3 2,yD 44 4 43,yI 45 (.build [yf,y0,ye,y0,(.own 4 [])] [(0,1,(yV 42)),(1,4,(yV 44))]),yH 46 3 3,yL 47 46,yH 48 7 2,yD 49 4 48,yI 50 (.build [yf,y0,ye,y0,(.own 4 [])] [(0,1,(yV 47)),(1,4,(yV 49))]),yI 51 (.lit 204 5 [(yV 45),(yV 50)]),yO 52 51,yC 53 (yK 0)] (.block 2 (Zhr))) ZcX
def Zho:Zr:=yQ [yI 2 (.box 181 21 (yV 0)),yI 3 (.box 194 9 (yV 1)),yC 4 (yK 0)] (.seq (yQ [yH 14 0 3,yL 15 14,yH 16 1 2,yL 17 16,yI 18 (.build [yf,ye] [(0,1,(yV 15)),(1,1,(yV 17))]),yH 19 1 3,yL 20 19,yH 21 2 2,yL 22 21,yI 23 (.build [yf,ye] [(0,1,(yV 20)),(1,1,(yV 22))]),yI 24 (.lit 202 2 [(yV 18),(yV 23)]),yO 25 24,yC 26 (yK 0)] (.block 0 (Zhq))) ZcW)
def Gf:AFn:=⟨89,[.tmp 4],Zho,false⟩
def Je:List Nat:=[36,37]
def Zsf:Zr:=yQ [yI 2 (.box 95 3 (yV 0)),yC 3 yF] (yQ [yH 4 0 2,yL 5 4,yH 6 2 1,yL 7 6,yX 8 .eql (yV 5) (yV 7),yU 3 8] yr)
def Zji:AFn:=⟨9,[.tmp 3],Zsf,false⟩
def ZsN:List Nat:=[]
def Ls:Zr:=yQ [yC 4 yF] (yQ [yM 5 0,yM 6 1,yP 7 103 [yA 5,yA 6],yX 8 .geq (yV 7) (yK 0),yU 4 8] yr)
def UM:AFn:=⟨9,[.tmp 4],Ls,false⟩
def LQ:List Nat:=[]
def ZaD:Zr:=yQ [yX 9 .lss (yV 8) (yV 7)] (.seq (yc 9 yw (.exit 0)) (.seq (.block 1 (yQ [yM 10 8,yU 5 10] (yQ [yM 11 1,yM 12 0,yM 13 5,yE 14 1 12 13,yL 15 14,yI 16 (.call (yV 11) [yA 15])] (yc 16 (yQ [yU 17 5,yU 4 17] yr) yw)))) (yR [yX 18 .add (yV 8) (yK 1),yM 8 18])))
def DC:Zr:=.loop ZaD
def D9:Zr:=yQ [yI 4 (.mv (.const (.int .i64 (-1))))] yr
def TV:Zr:=yQ [yC 4 (yK 0)] (.seq (yQ [yM 6 0,yO 7 6,yC 8 (yK 0)] (.block 0 (DC))) D9)
def X0:AFn:=⟨19,[.tmp 4],TV,false⟩
def Xa:List Nat:=[]
def Zud:Zr:=yQ [yI 1 (.box 179 4 (yV 0)),yC 2 yF] (yQ [yD 3 4 1,yI 4 (.build [y0,ye,y0,(.own 4 [])] []),yP 5 177 [yA 3,yA 4],yU 2 5] yr)
def ZkY:AFn:=⟨6,[.tmp 2],Zud,false⟩
def ZuE:List Nat:=[]
def Zvu:Zr:=yQ [yI 1 (.box 179 4 (yV 0)),yC 2 (yK 0)] (yQ [yI 3 (.build [yf] []),yD 4 4 1,yP 5 183 [yA 3,yA 4],yU 2 5] yr)
def Zn2:AFn:=⟨6,[.tmp 2],Zvu,false⟩
def Zwk:List Nat:=[]
def ZjQ:Zr:=yQ [yI 2 (.box 209 1 (yV 0)),yI 3 (.box 179 4 (yV 1)),yC 4 (yK 0)] (.seq (.block 0 (yQ [yD 6 4 3,yP 7 187 [yA 6],yX 8 .gtr (yV 7) (yK 60),yU 5 8] (yc 5 (yQ [yC 4 (yK 6)] yr) (yQ [yD 10 4 3,yP 11 188 [yA 10],yX 12 .gtr (yV 11) (yK 12),yU 9 12] (yc 9 (yQ [yC 4 (yK 11)] yr) yw))))) (yQ [yD 13 1 2,yD 14 4 3,yP 15 189 [yA 13,yA 14],yU 4 15] yr))
def ZcE:AFn:=⟨16,[.tmp 4],ZjQ,false⟩
def ZkH:List Nat:=[]
def Zoc:Zr:=yQ [yX 10 .lss (yV 9) (yV 8)] (.seq (yc 10 yw (.exit 0)) (.seq (.block 1 (yQ [yE 11 4 7 9,yD 12 4 11,yI 5 (.mk 179 [y0,ye,y0,(.own 4 [])]),yN (.st 4 (yV 5) (yV 12))] (yR [yM 13 3,yD 14 4 5,yP 15 187 [yA 14],yX 16 .add (yV 13) (yV 15),yU 3 16]))) (yR [yX 17 .add (yV 9) (yK 1),yM 9 17])))
def Zhb:Zr:=.loop Zoc
def Zha:Zr:=yQ [yU 18 3,yU 2 18] yr
def ZgZ:Zr:=yQ [yI 1 (.box 179 4 (yV 0)),yC 2 (yK 0)] (yQ [yC 3 (yK 1)] (.seq (yQ [yH 6 3 1,yL 7 6,yO 8 7,yC 9 (yK 0)] (.block 0 (Zhb))) Zha))
def Pj:AFn:=⟨19,[.tmp 2],ZgZ,false⟩
def BD:List Nat:=[]
def Zob:Zr:=yQ [yX 10 .lss (yV 9) (yV 8)] (.seq (yc 10 yw (.exit 0)) (.seq (.block 1 (yQ [yE 11 4 7 9,yD 12 4 11,yI 5 (.mk 179 [y0,ye,y0,(.own 4 [])]),yN (.st 4 (yV 5) (yV 12))] (yR [yM 13 3,yD 14 4 5,yP 15 188 [yA 14],yI 16 (.max [(yV 13),(yV 15)]),yU 3 16]))) (yR [yX 17 .add (yV 9) (yK 1),yM 9 17])))
def ZgY:Zr:=.loop Zob
def ZgX:Zr:=yQ [yM 18 3,yX 19 .add (yV 18) (yK 1),yU 2 19] yr
def ZgW:Zr:=yQ [yI 1 (.box 179 4 (yV 0)),yC 2 (yK 0)] (yQ [yC 3 (yK 0)] (.seq (yQ [yH 6 3 1,yL 7 6,yO 8 7,yC 9 (yK 0)] (.block 0 (ZgY))) ZgX))
def Pi:AFn:=⟨20,[.tmp 2],ZgW,false⟩
def BC:List Nat:=[]
def Zfq:Zr:=yQ [yX 19 .lss (yV 18) (yV 17)] (.seq (yc 19 yw (.exit 0)) (.seq (.block 1 (yQ [yE 20 4 16 18,yD 21 4 20,yI 7 (.mk 179 [y0,ye,y0,(.own 4 [])]),yN (.st 4 (yV 7) (yV 21))] (yQ [yD 22 1 2,yD 23 4 7,yP 24 189 [yA 22,yA 23],yU 8 24] (yQ [yM 25 8,yX 26 .neq (yV 25) (yK 0)] (yc 26 (yQ [yU 27 8,yU 4 27] yr) yw))))) (yR [yX 28 .add (yV 18) (yK 1),yM 18 28])))
def ZaO:Zr:=.loop Zfq
def ZaN:Zr:=yQ [yC 4 (yK 0)] yr
def FZ:Zr:=yQ [yI 2 (.box 209 1 (yV 0)),yI 3 (.box 179 4 (yV 1)),yC 4 (yK 0)] (.seq (yQ [yD 9 1 2,yD 10 4 3,yP 11 192 [yA 9,yA 10],yU 5 11] (yQ [yM 12 5,yX 13 .neq (yV 12) (yK 0)] (yc 13 (yQ [yU 14 5,yU 4 14] yr) yw))) (.seq (yQ [yH 15 3 3,yL 16 15,yO 17 16,yC 18 (yK 0)] (.block 0 (ZaO))) ZaN))
def UL:AFn:=⟨29,[.tmp 4],FZ,false⟩
def Uh:List Nat:=[]
def Zld:Zr:=yQ [yI 2 (.box 209 1 (yV 0)),yI 3 (.box 179 4 (yV 1)),yC 4 (yK 0)] (.seq (.seq (.region true [yD 8 1 2,yH 9 0 3,yL 10 9,yP 11 194 [yA 8,yA 10],yI 12 (.un .not (yV 11)),yM 13 12,yJ 14 (.fa 3 (yV 3)) 13 false,yJ 15 (.ldc (yV 14)) 13 false,yJ 16 (.len .slice (yV 15)) 13 false,yJ 17 (.fa 0 (yV 3)) 13 false,yJ 18 (.ldc (yV 17)) 13 false,yJ 19 (.call (yG 195) [yA 18]) 13 false,yJ 20 (.bin .neq .prim (yV 16) (yV 19)) 13 false,yI 21 (.pick (yV 13) yT (yV 20)),yM 22 21,yJ 23 (.fa 1 (yV 3)) 22 false,yJ 24 (.ldc (yV 23)) 22 false,yJ 25 (.bin .neq .prim (yV 24) (yS [])) 22 false,yJ 26 (.mv (yV 25)) 22 false,yJ 27 (.lda 1 (yV 2)) 26 true,yJ 28 (.fa 0 (yV 3)) 26 true,yJ 29 (.ldc (yV 28)) 26 true,yJ 30 (.call (yG 196) [yA 27,yA 29]) 26 true,yJ 31 (.un .not (yV 30)) 26 true,yJ 32 (.pick (yV 26) (yV 31) yF) 22 false,yI 33 (.pick (yV 22) yT (yV 32))]) (yc 33 (yQ [yC 4 (yK 1)] yr) yw)) (.seq (yQ [yH 34 0 3,yL 35 34,yX 36 .eql (yV 35) (yK 1)] (yc 36 (.seq (yQ [yH 37 2 3,yL 38 37,yP 39 137 [yA 38],yI 40 (.un .not (yV 39))] (yc 40 (yQ [yC 4 (yK 2)] yr) yw)) (yQ [yC 4 (yK 0)] yr)) yw)) (yQ [yD 42 1 2,yH 43 0 3,yL 44 43,yP 45 197 [yA 42,yA 44],yM 41 45,yI 46 (.extract (yV 41) 0),yI 47 (.extract (yV 41) 1),yI 48 (.extract (yV 41) 2),yU 5 46,yU 6 47,yU 7 48] (.seq (.block 0 (yQ [yM 50 7,yI 51 (.un .not (yV 50)),yM 52 51,yJ 53 (.fa 2 (yV 3)) 52 true,yJ 54 (.ldc (yV 53)) 52 true,yJ 55 (.bin .neq .prim (yV 54) (yK 0)) 52 true,yI 56 (.pick (yV 52) (yV 55) yF),yU 49 56] (yc 49 (yQ [yC 4 (yK 1)] yr) (yQ [yM 58 7,yM 59 58,yJ 60 (.fa 2 (yV 3)) 59 true,yJ 61 (.ldc (yV 60)) 59 true,yJ 62 (.mv (yV 5)) 59 true,yJ 63 (.bin .lss .prim (yV 61) (yV 62)) 59 true,yJ 64 (.mv (yV 63)) 59 true,yJ 65 (.fa 2 (yV 3)) 64 false,yJ 66 (.ldc (yV 65)) 64 false,yJ 67 (.mv (yV 6)) 64 false,yJ 68 (.bin .gtr .prim (yV 66) (yV 67)) 64 false,yJ 69 (.pick (yV 64) yT (yV 68)) 59 true,yI 70 (.pick (yV 59) (yV 69) yF),yU 57 70] (yc 57 (yQ [yC 4 (yK 2)] yr) (yQ [yD 72 1 2,yH 73 0 3,yL 74 73,yP 75 196 [yA 72,yA 74],yU 71 75] (yc 71 (yQ [yH 76 1 3,yL 77 76,yP 78 26 [yA 77],yU 4 78] yr) yw))))))) (yQ [yC 4 (yK 0)] yr)))))
def Zd6:AFn:=⟨79,[.tmp 4],Zld,false⟩
def Zmc:List Nat:=[14,15,16,17,18,19,20,23,24,25,26,27,28,29,30,31,32,53,54,55,60,61,62,63,64,65,66,67,68,69]
def ZjR:Zr:=yQ [yI 2 (.box 209 1 (yV 0)),yC 4 yF] (.seq (yQ [yM 5 1] (.block 0 (yQ [yX 7 .eql (yV 5) (yK 3),yU 6 7] (yc 6 (yQ [yH 8 0 2,yL 9 8,yI 10 (.un .not (yV 9)),yU 4 10] yr) (.seq (yQ [yX 12 .eql (yV 5) (yK 25),yU 11 12] (yc 11 yw (yR [yX 13 .eql (yV 5) (yK 26),yU 11 13]))) (yc 11 (yQ [yH 14 0 2,yL 15 14,yU 4 15] yr) yw)))))) (yQ [yM 16 1,yP 17 195 [yA 16],yX 18 .geq (yV 17) (yK 0),yU 4 18] yr))
def ZcF:AFn:=⟨19,[.tmp 4],ZjR,false⟩
def ZkI:List Nat:=[]
def Zxb:Zr:=yQ [yC 2 (yK 0)] (.seq (.block 0 (yQ [yM 4 0,yX 5 .eql (yV 4) (yK 1),yM 6 5,yJ 7 (.mv (yV 0)) 6 false,yJ 8 (.bin .eql .prim (yV 7) (yK 2)) 6 false,yI 9 (.pick (yV 6) yT (yV 8)),yM 10 9,yJ 11 (.mv (yV 0)) 10 false,yJ 12 (.bin .eql .prim (yV 11) (yK 3)) 10 false,yI 13 (.pick (yV 10) yT (yV 12)),yM 14 13,yJ 15 (.mv (yV 0)) 14 false,yJ 16 (.bin .eql .prim (yV 15) (yK 4)) 14 false,yI 17 (.pick (yV 14) yT (yV 16)),yU 3 17] (yc 3 (yQ [yC 2 (yK 0)] yr) (yQ [yM 19 0,yX 20 .geq (yV 19) (yK 5),yM 21 20,yJ 22 (.mv (yV 0)) 21 true,yJ 23 (.bin .leq .prim (yV 22) (yK 8)) 21 true,yI 24 (.pick (yV 21) (yV 23) yF),yU 18 24] (yc 18 (yQ [yC 2 (yK 1)] yr) (yQ [yM 26 0,yX 27 .geq (yV 26) (yK 9),yM 28 27,yJ 29 (.mv (yV 0)) 28 true,yJ 30 (.bin .leq .prim (yV 29) (yK 21)) 28 true,yI 31 (.pick (yV 28) (yV 30) yF),yU 25 31] (yc 25 (yQ [yC 2 (yK 2)] yr) (yQ [yM 33 0,yX 34 .geq (yV 33) (yK 22),yM 35 34,yJ 36 (.mv (yV 0)) 35 true,yJ 37 (.bin .leq .prim (yV 36) (yK 26)) 35 true,yI 38 (.pick (yV 35) (yV 37) yF),yU 32 38] (yc 32 (yQ [yC 2 (yK 0)] yr) yw))))))))) (yQ [yI 2 (.mv (.const (.int .i64 (-1))))] yr))
def Zps:AFn:=⟨39,[.tmp 2],Zxb,false⟩
def ZxC:List Nat:=[7,8,11,12,15,16,22,23,29,30,36,37]
def ZjS:Zr:=yQ [yI 2 (.box 209 1 (yV 0)),yC 4 yF] (yQ [yM 5 1,yX 6 .eql (yV 5) (yK 3),yM 7 6,yJ 8 (.mv (yV 1)) 7 false,yJ 9 (.call (yG 201) [yA 8]) 7 false,yJ 10 (.mv (yV 9)) 7 false,yJ 11 (.fa 0 (yV 2)) 10 true,yJ 12 (.ldc (yV 11)) 10 true,yJ 13 (.un .not (yV 12)) 10 true,yJ 14 (.pick (yV 10) (yV 13) yF) 7 false,yI 15 (.pick (yV 7) yT (yV 14)),yU 4 15] yr)
def ZcG:AFn:=⟨16,[.tmp 4],ZjS,false⟩
def ZkJ:List Nat:=[8,9,10,11,12,13,14]
def ZgT:Zr:=yQ [yI 2 (.box 209 1 (yV 0)),yC 4 (yK 0),yC 5 (yK 0),yC 6 yF] (.seq (.block 0 (yQ [yM 8 1,yX 9 .eql (yV 8) (yK 2),yU 7 9] (yc 7 (yQ [yC 4 (yK 0),yC 5 (yK 1),yC 6 yT] yr) (yQ [yM 11 1,yX 12 .eql (yV 11) (yK 25),yU 10 12] (yc 10 (yQ [yC 4 (yK 0),yC 5 (yK 15),yC 6 yT] yr) (yQ [yM 14 1,yX 15 .eql (yV 14) (yK 26),yU 13 15] (yc 13 (yQ [yC 4 (yK 0),yC 5 (yK 31),yC 6 yT] yr) (yQ [yM 17 1,yP 18 201 [yA 17],yM 19 18,yJ 20 (.fa 0 (yV 2)) 19 true,yJ 21 (.ldc (yV 20)) 19 true,yI 22 (.pick (yV 19) (yV 21) yF),yU 16 22] (yc 16 (yQ [yC 4 (yK 0),yC 5 (yK 63),yC 6 yT] yr) yw))))))))) (yQ [yC 4 (yK 0),yC 5 (yK 0),yC 6 yF] yr))
def Zb2:AFn:=⟨23,[.tmp 4,.tmp 5,.tmp 6],ZgT,false⟩
def Zig:List Nat:=[20,21]
def ZtY:Zr:=yQ [yC 2 yF] (yQ [yM 3 0,yX 4 .geq (yV 3) (yK 22),yM 5 4,yJ 6 (.mv (yV 0)) 5 true,yJ 7 (.bin .leq .prim (yV 6) (yK 24)) 5 true,yI 8 (.pick (yV 5) (yV 7) yF),yU 2 8] yr)
def ZkT:AFn:=⟨9,[.tmp 2],ZtY,false⟩
def ZuA:List Nat:=[6,7]
def tab:List (Nat×AFn):=[(6,Zey),(8,Kt),(10,ZkV),(14,Zn4),(16,ZgK),(22,JF),(23,Zn3),(24,D5),(26,RN),(27,ZaM),(29,ZgJ),(28,Vb),(32,ZkX),(43,ZiX),(42,YN),(45,Zez),(44,Wh),(48,Qk),(49,ZE),(50,ZfJ),(51,Qy),(52,Iw),(53,QM),(54,Zjk),(55,ZgR),(57,Zb4),(56,VX),(30,Zb3),(31,Zn7),(90,ZgL),(89,Jz),(103,YD),(107,Xh),(108,Zu),(109,Zci),(110,We),(111,Wp),(112,Xg),(113,ZN),(114,ZcH),(115,Ya),(116,Ze0),(117,Y0),(118,ZgM),(119,OD),(120,KZ),(121,Iu),(122,C9),(123,MM),(124,RQ),(125,ZkW),(126,Zn5),(58,ZiZ),(61,Zja),(62,Zjb),(68,Zjc),(71,Zjd),(74,Zje),(75,Zjf),(76,Zjg),(77,Zjh),(78,ZgN),(79,ZgO),(83,ZgP),(87,ZgQ),(60,RH),(65,Zjj),(143,WU),(127,Zpr),(144,Qj),(145,Zpt),(146,VD),(147,Qz),(148,Ztd),(149,Zte),(150,OC),(137,ZxS),(59,Uz),(64,ZfK),(63,Xf),(70,ZfL),(69,XK),(73,ZfM),(72,Va),(81,Ze1),(80,Vw),(85,Ze2),(84,VW),(88,Zn6),(162,Ym),(163,Zpv),(164,ML),(165,RP),(66,JC),(67,ZfH),(82,OB),(86,RI),(133,ZiY),(132,JW),(177,Ei),(178,Yl),(128,RS),(129,Zn1),(130,YC),(131,Zn8),(135,ZfI),(134,J3),(151,RG),(152,ZkS),(154,Pm),(155,Pn),(156,Po),(136,RJ),(167,ZgI),(166,D6),(168,P8),(169,Zpu),(170,Gf),(158,Zji),(157,UM),(179,X0),(180,ZkY),(181,Zn2),(183,ZcE),(187,Pj),(188,Pi),(189,UL),(192,Zd6),(194,ZcF),(195,Zps),(196,ZcG),(197,Zb2),(201,ZkT)]
theorem Z43:∀ p ∈ tab,∃ fn takes,Tryz.prog.funcs[p.1]? = some fn∧(fn.name == "runtime.NumGoroutine")=false∧cFn Tryz.prog takes fn=some p.2:=by
  intro p hp
  simp only [tab,List.mem_cons,List.not_mem_nil,or_false] at hp
  rcases hp with rfl | rfl | rfl | rfl | rfl | rfl | rfl | rfl | rfl | rfl | rfl | rfl | rfl | rfl | rfl | rfl | rfl | rfl | rfl | rfl | rfl | rfl | rfl | rfl | rfl | rfl | rfl | rfl | rfl | rfl | rfl | rfl | rfl | rfl | rfl | rfl | rfl | rfl | rfl | rfl | rfl | rfl | rfl | rfl | rfl | rfl | rfl | rfl | rfl | rfl | rfl | rfl | rfl | rfl | rfl | rfl | rfl | rfl | rfl | rfl | rfl | rfl | rfl | rfl | rfl | rfl | rfl | rfl | rfl | rfl | rfl | rfl | rfl | rfl | rfl | rfl | rfl | rfl | rfl | rfl | rfl | rfl | rfl | rfl | rfl | rfl | rfl | rfl | rfl | rfl | rfl | rfl | rfl | rfl | rfl | rfl | rfl | rfl | rfl | rfl | rfl | rfl | rfl | rfl | rfl | rfl | rfl | rfl | rfl | rfl | rfl | rfl | rfl | rfl | rfl | rfl | rfl | rfl | rfl | rfl | rfl | rfl | rfl | rfl | rfl | rfl | rfl | rfl | rfl | rfl | rfl | rfl | rfl
  · exact ⟨_,takes,Tryz.func6,by kernel_rfl,by kernel_rfl⟩
  · exact ⟨_,takes,Tryz.func8,by kernel_rfl,by kernel_rfl⟩
  · exact ⟨_,takes,Tryz.func10,by kernel_rfl,by kernel_rfl⟩
  · exact ⟨_,takes,Tryz.func14,by kernel_rfl,by kernel_rfl⟩
  · exact ⟨_,takes,Tryz.func16,by kernel_rfl,by kernel_rfl⟩
  · exact ⟨_,takes,Tryz.func22,by kernel_rfl,by kernel_rfl⟩
  · exact ⟨_,takes,Tryz.func23,by kernel_rfl,by kernel_rfl⟩
  · exact ⟨_,takes,Tryz.func24,by kernel_rfl,by kernel_rfl⟩
  · exact ⟨_,takes,Tryz.func26,by kernel_rfl,by kernel_rfl⟩
  · exact ⟨_,takes,Tryz.func27,by kernel_rfl,by kernel_rfl⟩
  · exact ⟨_,takes,Tryz.func29,by kernel_rfl,by kernel_rfl⟩
  · exact ⟨_,takes,Tryz.func28,by kernel_rfl,by kernel_rfl⟩
  · exact ⟨_,takes,Tryz.func32,by kernel_rfl,by kernel_rfl⟩
  · exact ⟨_,takes,Tryz.func43,by kernel_rfl,by kernel_rfl⟩
  · exact ⟨_,takes,Tryz.func42,by kernel_rfl,by kernel_rfl⟩
  · exact ⟨_,takes,Tryz.func45,by kernel_rfl,by kernel_rfl⟩
  · exact ⟨_,takes,Tryz.func44,by kernel_rfl,by kernel_rfl⟩
  · exact ⟨_,takes,Tryz.func48,by kernel_rfl,by kernel_rfl⟩
  · exact ⟨_,takes,Tryz.func49,by kernel_rfl,by kernel_rfl⟩
  · exact ⟨_,takes,Tryz.func50,by kernel_rfl,by kernel_rfl⟩
  · exact ⟨_,takes,Tryz.func51,by kernel_rfl,by kernel_rfl⟩
  · exact ⟨_,takes,Tryz.func52,by kernel_rfl,by kernel_rfl⟩
  · exact ⟨_,takes,Tryz.func53,by kernel_rfl,by kernel_rfl⟩
  · exact ⟨_,takes,Tryz.func54,by kernel_rfl,by kernel_rfl⟩
  · exact ⟨_,takes,Tryz.func55,by kernel_rfl,by kernel_rfl⟩
  · exact ⟨_,takes,Tryz.func57,by kernel_rfl,by kernel_rfl⟩
  · exact ⟨_,takes,Tryz.func56,by kernel_rfl,by kernel_rfl⟩
  · exact ⟨_,takes,Tryz.func30,by kernel_rfl,by kernel_rfl⟩
  · exact ⟨_,takes,Tryz.func31,by kernel_rfl,by kernel_rfl⟩
  · exact ⟨_,takes,Tryz.func90,by kernel_rfl,by kernel_rfl⟩
  · exact ⟨_,takes,Tryz.func89,by kernel_rfl,by kernel_rfl⟩
  · exact ⟨_,takes,Tryz.func103,by kernel_rfl,by kernel_rfl⟩
  · exact ⟨_,takes,Tryz.func107,by kernel_rfl,by kernel_rfl⟩
  · exact ⟨_,takes,Tryz.func108,by kernel_rfl,by kernel_rfl⟩
  · exact ⟨_,takes,Tryz.func109,by kernel_rfl,by kernel_rfl⟩
  · exact ⟨_,takes,Tryz.func110,by kernel_rfl,by kernel_rfl⟩
  · exact ⟨_,takes,Tryz.func111,by kernel_rfl,by kernel_rfl⟩
  · exact ⟨_,takes,Tryz.func112,by kernel_rfl,by kernel_rfl⟩
  · exact ⟨_,takes,Tryz.func113,by kernel_rfl,by kernel_rfl⟩
  · exact ⟨_,takes,Tryz.func114,by kernel_rfl,by kernel_rfl⟩
  · exact ⟨_,takes,Tryz.func115,by kernel_rfl,by kernel_rfl⟩
  · exact ⟨_,takes,Tryz.func116,by kernel_rfl,by kernel_rfl⟩
  · exact ⟨_,takes,Tryz.func117,by kernel_rfl,by kernel_rfl⟩
  · exact ⟨_,takes,Tryz.func118,by kernel_rfl,by kernel_rfl⟩
  · exact ⟨_,takes,Tryz.func119,by kernel_rfl,by kernel_rfl⟩
  · exact ⟨_,takes,Tryz.func120,by kernel_rfl,by kernel_rfl⟩
  · exact ⟨_,takes,Tryz.func121,by kernel_rfl,by kernel_rfl⟩
  · exact ⟨_,takes,Tryz.func122,by kernel_rfl,by kernel_rfl⟩
  · exact ⟨_,takes,Tryz.func123,by kernel_rfl,by kernel_rfl⟩
  · exact ⟨_,takes,Tryz.func124,by kernel_rfl,by kernel_rfl⟩
  · exact ⟨_,takes,Tryz.func125,by kernel_rfl,by kernel_rfl⟩
  · exact ⟨_,takes,Tryz.func126,by kernel_rfl,by kernel_rfl⟩
  · exact ⟨_,takes,Tryz.func58,by kernel_rfl,by kernel_rfl⟩
  · exact ⟨_,takes,Tryz.func61,by kernel_rfl,by kernel_rfl⟩
  · exact ⟨_,takes,Tryz.func62,by kernel_rfl,by kernel_rfl⟩
  · exact ⟨_,takes,Tryz.func68,by kernel_rfl,by kernel_rfl⟩
  · exact ⟨_,takes,Tryz.func71,by kernel_rfl,by kernel_rfl⟩
  · exact ⟨_,takes,Tryz.func74,by kernel_rfl,by kernel_rfl⟩
  · exact ⟨_,takes,Tryz.func75,by kernel_rfl,by kernel_rfl⟩
  · exact ⟨_,takes,Tryz.func76,by kernel_rfl,by kernel_rfl⟩
  · exact ⟨_,takes,Tryz.func77,by kernel_rfl,by kernel_rfl⟩
  · exact ⟨_,takes,Tryz.func78,by kernel_rfl,by kernel_rfl⟩
  · exact ⟨_,takes,Tryz.func79,by kernel_rfl,by kernel_rfl⟩
  · exact ⟨_,takes,Tryz.func83,by kernel_rfl,by kernel_rfl⟩
  · exact ⟨_,takes,Tryz.func87,by kernel_rfl,by kernel_rfl⟩
  · exact ⟨_,takes,Tryz.func60,by kernel_rfl,by kernel_rfl⟩
  · exact ⟨_,takes,Tryz.func65,by kernel_rfl,by kernel_rfl⟩
  · exact ⟨_,takes,Tryz.func143,by kernel_rfl,by kernel_rfl⟩
  · exact ⟨_,takes,Tryz.func127,by kernel_rfl,by kernel_rfl⟩
  · exact ⟨_,takes,Tryz.func144,by kernel_rfl,by kernel_rfl⟩
  · exact ⟨_,takes,Tryz.func145,by kernel_rfl,by kernel_rfl⟩
  · exact ⟨_,takes,Tryz.func146,by kernel_rfl,by kernel_rfl⟩
  · exact ⟨_,takes,Tryz.func147,by kernel_rfl,by kernel_rfl⟩
  · exact ⟨_,takes,Tryz.func148,by kernel_rfl,by kernel_rfl⟩
  · exact ⟨_,takes,Tryz.func149,by kernel_rfl,by kernel_rfl⟩
  · exact ⟨_,takes,Tryz.func150,by kernel_rfl,by kernel_rfl⟩
  · exact ⟨_,takes,Tryz.func137,by kernel_rfl,by kernel_rfl⟩
  · exact ⟨_,takes,Tryz.func59,by kernel_rfl,by kernel_rfl⟩
  · exact ⟨_,takes,Tryz.func64,by kernel_rfl,by kernel_rfl⟩
  · exact ⟨_,takes,Tryz.func63,by kernel_rfl,by kernel_rfl⟩
  · exact ⟨_,takes,Tryz.func70,by kernel_rfl,by kernel_rfl⟩
  · exact ⟨_,takes,Tryz.func69,by kernel_rfl,by kernel_rfl⟩
  · exact ⟨_,takes,Tryz.func73,by kernel_rfl,by kernel_rfl⟩
  · exact ⟨_,takes,Tryz.func72,by kernel_rfl,by kernel_rfl⟩
  · exact ⟨_,takes,Tryz.func81,by kernel_rfl,by kernel_rfl⟩
  · exact ⟨_,takes,Tryz.func80,by kernel_rfl,by kernel_rfl⟩
  · exact ⟨_,takes,Tryz.func85,by kernel_rfl,by kernel_rfl⟩
  · exact ⟨_,takes,Tryz.func84,by kernel_rfl,by kernel_rfl⟩
  · exact ⟨_,takes,Tryz.func88,by kernel_rfl,by kernel_rfl⟩
  · exact ⟨_,takes,Tryz.func162,by kernel_rfl,by kernel_rfl⟩
  · exact ⟨_,takes,Tryz.func163,by kernel_rfl,by kernel_rfl⟩
  · exact ⟨_,takes,Tryz.func164,by kernel_rfl,by kernel_rfl⟩
  · exact ⟨_,takes,Tryz.func165,by kernel_rfl,by kernel_rfl⟩
  · exact ⟨_,takes,Tryz.func66,by kernel_rfl,by kernel_rfl⟩
  · exact ⟨_,takes,Tryz.func67,by kernel_rfl,by kernel_rfl⟩
  · exact ⟨_,takes,Tryz.func82,by kernel_rfl,by kernel_rfl⟩
  · exact ⟨_,takes,Tryz.func86,by kernel_rfl,by kernel_rfl⟩
  · exact ⟨_,takes,Tryz.func133,by kernel_rfl,by kernel_rfl⟩
  · exact ⟨_,takes,Tryz.func132,by kernel_rfl,by kernel_rfl⟩
  · exact ⟨_,takes,Tryz.func177,by kernel_rfl,by kernel_rfl⟩
  · exact ⟨_,takes,Tryz.func178,by kernel_rfl,by kernel_rfl⟩
  · exact ⟨_,takes,Tryz.func128,by kernel_rfl,by kernel_rfl⟩
  · exact ⟨_,takes,Tryz.func129,by kernel_rfl,by kernel_rfl⟩
  · exact ⟨_,takes,Tryz.func130,by kernel_rfl,by kernel_rfl⟩
  · exact ⟨_,takes,Tryz.func131,by kernel_rfl,by kernel_rfl⟩
  · exact ⟨_,takes,Tryz.func135,by kernel_rfl,by kernel_rfl⟩
  · exact ⟨_,takes,Tryz.func134,by kernel_rfl,by kernel_rfl⟩
  · exact ⟨_,takes,Tryz.func151,by kernel_rfl,by kernel_rfl⟩
  · exact ⟨_,takes,Tryz.func152,by kernel_rfl,by kernel_rfl⟩
  · exact ⟨_,takes,Tryz.func154,by kernel_rfl,by kernel_rfl⟩
  · exact ⟨_,takes,Tryz.func155,by kernel_rfl,by kernel_rfl⟩
  · exact ⟨_,takes,Tryz.func156,by kernel_rfl,by kernel_rfl⟩
  · exact ⟨_,takes,Tryz.func136,by kernel_rfl,by kernel_rfl⟩
  · exact ⟨_,takes,Tryz.func167,by kernel_rfl,by kernel_rfl⟩
  · exact ⟨_,takes,Tryz.func166,by kernel_rfl,by kernel_rfl⟩
  · exact ⟨_,takes,Tryz.func168,by kernel_rfl,by kernel_rfl⟩
  · exact ⟨_,takes,Tryz.func169,by kernel_rfl,by kernel_rfl⟩
  · exact ⟨_,takes,Tryz.func170,by kernel_rfl,by kernel_rfl⟩
  · exact ⟨_,takes,Tryz.func158,by kernel_rfl,by kernel_rfl⟩
  · exact ⟨_,takes,Tryz.func157,by kernel_rfl,by kernel_rfl⟩
  · exact ⟨_,takes,Tryz.func179,by kernel_rfl,by kernel_rfl⟩
  · exact ⟨_,takes,Tryz.func180,by kernel_rfl,by kernel_rfl⟩
  · exact ⟨_,takes,Tryz.func181,by kernel_rfl,by kernel_rfl⟩
  · exact ⟨_,takes,Tryz.func183,by kernel_rfl,by kernel_rfl⟩
  · exact ⟨_,takes,Tryz.func187,by kernel_rfl,by kernel_rfl⟩
  · exact ⟨_,takes,Tryz.func188,by kernel_rfl,by kernel_rfl⟩
  · exact ⟨_,takes,Tryz.func189,by kernel_rfl,by kernel_rfl⟩
  · exact ⟨_,takes,Tryz.func192,by kernel_rfl,by kernel_rfl⟩
  · exact ⟨_,takes,Tryz.func194,by kernel_rfl,by kernel_rfl⟩
  · exact ⟨_,takes,Tryz.func195,by kernel_rfl,by kernel_rfl⟩
  · exact ⟨_,takes,Tryz.func196,by kernel_rfl,by kernel_rfl⟩
  · exact ⟨_,takes,Tryz.func197,by kernel_rfl,by kernel_rfl⟩
  · exact ⟨_,takes,Tryz.func201,by kernel_rfl,by kernel_rfl⟩
end Go.Proofs.YtlmfmmclnboglaaGreat
end
