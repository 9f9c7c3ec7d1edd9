import Derived.Test.YtlmfmmclnboglaaGreatRows
import Derived.ProofKit
import Derived.Test.YtlmfmmclnboglaaGreatN1
set_option linter.all false
section
namespace Go.Proofs.YtlmfmmclnboglaaGreat
open Go Go.Proofs.YtlmfmmclnboglaaGreat.Abs
set_option maxRecDepth 100000
set_option maxHeartbeats 0
abbrev HP:=List Zk
abbrev GT:=Nat→Option (List AV)
abbrev KT:=FuncId→List AV→HP→KR
def takes:FuncId→List Nat:=fun _=>[]
abbrev M8:FuncId:=5
abbrev Bo:FuncId:=8
abbrev Hu:FuncId:=9
abbrev SN:FuncId:=10
abbrev Pm:FuncId:=12
abbrev Od:FuncId:=14
abbrev V7:FuncId:=16
abbrev Mm:FuncId:=18
abbrev OE:FuncId:=20
abbrev LA:FuncId:=22
abbrev K9:FuncId:=26
abbrev V6:FuncId:=27
abbrev Vq:FuncId:=28
abbrev UL:FuncId:=29
abbrev Y0:FuncId:=30
abbrev AU:FuncId:=31
abbrev SS:FuncId:=32
abbrev Vk:FuncId:=40
abbrev Rh:FuncId:=41
abbrev QV:FuncId:=42
abbrev Ri:FuncId:=43
abbrev X4:FuncId:=44
abbrev OG:FuncId:=45
abbrev Bp:FuncId:=47
abbrev Rj:FuncId:=54
abbrev BM:FuncId:=55
abbrev Uu:FuncId:=56
abbrev VJ:FuncId:=57
abbrev Qk:FuncId:=58
abbrev Gt:FuncId:=59
abbrev SQ:FuncId:=60
abbrev Iy:FuncId:=61
abbrev Iz:FuncId:=62
abbrev V3:FuncId:=63
abbrev Kz:FuncId:=64
abbrev Qv:FuncId:=65
abbrev RJ:FuncId:=66
abbrev RI:FuncId:=67
abbrev I1:FuncId:=68
abbrev VN:FuncId:=69
abbrev K3:FuncId:=70
abbrev I4:FuncId:=71
abbrev Jh:FuncId:=72
abbrev K4:FuncId:=73
abbrev I5:FuncId:=74
abbrev I6:FuncId:=75
abbrev I7:FuncId:=76
abbrev I8:FuncId:=77
abbrev Gw:FuncId:=78
abbrev Gx:FuncId:=79
abbrev JA:FuncId:=80
abbrev UE:FuncId:=81
abbrev BK:FuncId:=82
abbrev Og:FuncId:=83
abbrev Hw:FuncId:=84
abbrev OH:FuncId:=85
abbrev SV:FuncId:=86
abbrev Oh:FuncId:=87
abbrev AR:FuncId:=88
abbrev Ke:FuncId:=89
abbrev Oe:FuncId:=90
abbrev XP:FuncId:=99
abbrev MB:FuncId:=100
abbrev Qn:FuncId:=101
abbrev MC:FuncId:=102
abbrev WV:FuncId:=103
abbrev ME:FuncId:=104
abbrev QU:FuncId:=105
abbrev MF:FuncId:=106
abbrev WE:FuncId:=107
abbrev M9:FuncId:=125
abbrev Rq:FuncId:=126
abbrev BI:FuncId:=127
abbrev XL:FuncId:=128
abbrev U7:FuncId:=129
abbrev Vx:FuncId:=130
abbrev Pn:FuncId:=131
abbrev K8:FuncId:=132
abbrev Iw:FuncId:=133
abbrev I9:FuncId:=134
abbrev TQ:FuncId:=135
abbrev AX:FuncId:=136
abbrev Zaj:FuncId:=137
abbrev XU:FuncId:=146
abbrev SH:FuncId:=151
abbrev Ut:FuncId:=152
abbrev XD:FuncId:=153
abbrev U9:FuncId:=154
abbrev UA:FuncId:=155
abbrev UB:FuncId:=156
abbrev Q4:FuncId:=157
abbrev Tm:FuncId:=158
abbrev Jw:FuncId:=166
abbrev M7:FuncId:=167
abbrev SY:FuncId:=168
abbrev SX:FuncId:=169
abbrev Po:FuncId:=170
abbrev SK:FuncId:=177
abbrev Uv:FuncId:=179
abbrev OI:FuncId:=180
abbrev U8:FuncId:=181
abbrev TW:FuncId:=183
abbrev Oc:FuncId:=187
abbrev Ob:FuncId:=188
abbrev VE:FuncId:=189
abbrev M6:FuncId:=192
abbrev TY:FuncId:=194
abbrev BJ:FuncId:=195
abbrev Ht:FuncId:=196
abbrev Oa:FuncId:=197
abbrev Bn:FuncId:=201
abbrev ZaP:TypeId:=3
abbrev Y9:TypeId:=9
abbrev Yd:TypeId:=26
abbrev YP:TypeId:=37
abbrev Zb:TypeId:=42
abbrev VI:TypeId:=49
abbrev Ml:TypeId:=54
abbrev Re:TypeId:=57
abbrev Qz:TypeId:=60
abbrev KY:TypeId:=69
abbrev Zk4:TypeId:=76
abbrev QQ:TypeId:=79
abbrev EK:TypeId:=88
abbrev Zmb:TypeId:=90
abbrev WL:TypeId:=92
abbrev Xd:TypeId:=95
abbrev Vg:TypeId:=97
abbrev Zah:TypeId:=103
abbrev OD:TypeId:=105
abbrev XC:TypeId:=111
abbrev J4:TypeId:=113
abbrev JZ:TypeId:=127
abbrev RG:TypeId:=129
abbrev Zdf:TypeId:=159
abbrev Qm:TypeId:=179
abbrev Jb:TypeId:=181
abbrev Gj:TypeId:=194
abbrev WB:TypeId:=202
abbrev WM:TypeId:=204
abbrev Hr:TypeId:=209
abbrev yI (n:Nat)(o:AOp):J9:=⟨some n,o,none⟩
abbrev yJ (n:Nat) (o:AOp) (g:Nat) (b:Bool):J9:=⟨some n,o,some (g,b)⟩
abbrev yN (o:AOp):J9:=⟨none,o,none⟩
abbrev yV (n:Nat):V8:=.tmp n
abbrev yK (n:Int):V8:=.const (.int .i64 n)
abbrev yS (s:List UInt8):V8:=.const (.str s)
abbrev yT:V8:=.const (.bool true)
abbrev yF:V8:=.const (.bool false)
abbrev yG (n:Nat):V8:=.const (.fn n [] [])
abbrev yA (n:Nat):Nat ⊕ V8:=.inr (.tmp n)
abbrev yB (o:V8):Nat ⊕ V8:=.inr o
abbrev yR (l:List J9):Zn:=.region false l
abbrev yQ (l:List J9) (c:Zn):Zn:=.seq (.region false l) c
abbrev yM (n x:Nat):J9:=⟨some n,.mv (.tmp x),none⟩
abbrev yU (n x:Nat):J9:=⟨some n,.take x,none⟩
abbrev yL (n x:Nat):J9:=⟨some n,.ldc (.tmp x),none⟩
abbrev yH (n k x:Nat):J9:=⟨some n,.fa k (.tmp x),none⟩
abbrev yC (n:Nat) (x:V8):J9:=⟨some n,.mv x,none⟩
abbrev yD (n k x:Nat):J9:=⟨some n,.lda k (.tmp x),none⟩
abbrev yE (n k x i:Nat):J9:=⟨some n,.ia (.slice k) (.tmp x) (.tmp i),none⟩
abbrev yO (n x:Nat):J9:=⟨some n,.len .slice (.tmp x),none⟩
abbrev yP (n f:Nat) (l:List (Nat ⊕ V8)):J9:=⟨some n,.call (.const (.fn f [] [])) l,none⟩
abbrev yX (n:Nat) (o:BinOp) (x y:V8):J9:=⟨some n,.bin o .prim x y,none⟩
def Lv:Zn:=.seq (yQ [yM 51 7,yM 52 5,yM 53 6,yE 54 1 52 53,yL 55 54,yO 56 55,yX 57 .lss (yV 51) (yV 56)] (.cond (yV 57) (.skip) (.exit 4))) (.seq (.block 5 (yQ [yM 60 5,yM 61 6,yE 62 1 60 61,yL 63 62,yM 64 7,yE 65 1 63 64,yL 66 65,yU 8 66] (.seq (.region true [yH 67 2 1,yL 68 67,yM 69 4,yE 70 13 68 69,yD 71 13 70,yM 72 8,yP 73 18 [yA 71,yA 72],yM 74 3,yM 75 6,yE 76 1 74 75,yL 77 76,yX 78 .neq (yV 73) (yV 77),yM 79 78,yJ 80 (.fa 2 (yV 1)) 79 false,yJ 81 (.ldc (yV 80)) 79 false,yJ 82 (.mv (yV 4)) 79 false,yJ 83 (.ia (.slice 13) (yV 81) (yV 82)) 79 false,yJ 84 (.lda 13 (yV 83)) 79 false,yJ 85 (.mv (yV 8)) 79 false,yJ 86 (.call (yG 20) [yA 84,yA 85]) 79 false,yJ 87 (.mv (yV 7)) 79 false,yJ 88 (.bin .neq .prim (yV 86) (yV 87)) 79 false,yI 89 (.pick (yV 79) yT (yV 88)),yM 90 89,yJ 91 (.mv (yV 6)) 90 false,yJ 92 (.bin .eql .prim (yV 91) (yK 9)) 90 false,yJ 93 (.mv (yV 92)) 90 false,yJ 94 (.fa 2 (yV 1)) 93 true,yJ 95 (.ldc (yV 94)) 93 true,yJ 96 (.mv (yV 4)) 93 true,yJ 97 (.ia (.slice 13) (yV 95) (yV 96)) 93 true,yJ 98 (.lda 13 (yV 97)) 93 true,yJ 99 (.mv (yV 8)) 93 true,yJ 100 (.call (yG 16) [yA 98,yA 99]) 93 true,yJ 101 (.mv (yV 7)) 93 true,yJ 102 (.bin .neq .prim (yV 100) (yV 101)) 93 true,yJ 103 (.pick (yV 93) (yV 102) yF) 90 false,yI 104 (.pick (yV 90) yT (yV 103))]) (.cond (yV 104) (yQ [yC 2 yF] (.ret)) (.skip))))) (yR [yM 58 7,yX 59 .add (yV 58) (yK 1),yU 7 59]))
def Ry:Zn:=.loop Lv
def Rt:Zn:=yR [yM 49 6,yX 50 .add (yV 49) (yK 1),yU 6 50]
def Kh:Zn:=.seq (yQ [yM 45 6,yM 46 5,yO 47 46,yX 48 .lss (yV 45) (yV 47)] (.cond (yV 48) (.skip) (.exit 2))) (.seq (.block 3 (yQ [yC 7 (yK 0)] (.block 4 (Ry)))) Rt)
def Rx:Zn:=.loop Kh
def Ru:Zn:=yR [yM 27 4,yX 28 .add (yV 27) (yK 1),yU 4 28]
def Kg:Zn:=.seq (yQ [yM 22 4,yH 23 2 1,yL 24 23,yO 25 24,yX 26 .lss (yV 22) (yV 25)] (.cond (yV 26) (.skip) (.exit 0))) (.seq (.block 1 (.seq (.seq (.region true [yD 29 4 1,yH 30 2 1,yL 31 30,yM 32 4,yE 33 13 31 32,yH 34 0 33,yL 35 34,yP 36 14 [yA 29,yA 35],yM 37 4,yX 38 .neq (yV 36) (yV 37)]) (.cond (yV 38) (yQ [yC 2 yF] (.ret)) (.skip))) (yQ [yH 39 2 1,yL 40 39,yM 41 4,yE 42 13 40 41,yD 43 13 42,yP 44 22 [yA 43],yU 5 44] (yQ [yC 6 (yK 0)] (.block 2 (Rx)))))) Ru)
def Rw:Zn:=.loop Kg
def Lx:Zn:=.seq (yQ [yM 105 9,yH 106 3 1,yL 107 106,yO 108 107,yX 109 .lss (yV 105) (yV 108)] (.cond (yV 109) (.skip) (.exit 6))) (.seq (.block 7 (.seq (.region true [yD 113 4 1,yH 114 3 1,yL 115 114,yM 116 9,yE 117 3 115 116,yH 118 0 117,yL 119 118,yH 120 3 1,yL 121 120,yM 122 9,yE 123 3 121 122,yH 124 1 123,yL 125 124,yP 126 12 [yA 113,yA 119,yA 125],yM 112 126,yI 127 (.extract (yV 112) 0),yI 128 (.extract (yV 112) 1),yM 10 127,yM 11 128]) (yQ [yM 129 11,yI 130 (.un .not (yV 129)),yM 131 130,yJ 132 (.mv (yV 10)) 131 false,yJ 133 (.fa 3 (yV 1)) 131 false,yJ 134 (.ldc (yV 133)) 131 false,yJ 135 (.mv (yV 9)) 131 false,yJ 136 (.ia (.slice 3) (yV 134) (yV 135)) 131 false,yJ 137 (.fa 2 (yV 136)) 131 false,yJ 138 (.ldc (yV 137)) 131 false,yJ 139 (.bin .neq .prim (yV 132) (yV 138)) 131 false,yI 140 (.pick (yV 131) yT (yV 139)),yM 141 140,yJ 142 (.mv (yV 10)) 141 false,yJ 143 (.bin .lss .prim (yV 142) (yK 1)) 141 false,yI 144 (.pick (yV 141) yT (yV 143))] (.cond (yV 144) (yQ [yC 2 yF] (.ret)) (.skip))))) (yR [yM 110 9,yX 111 .add (yV 110) (yK 1),yU 9 111]))
def Rz:Zn:=.loop Lx
def Rv:Zn:=yQ [yP 145 9 [],yU 2 145] (.ret)
def Om:Zn:=.seq (yQ [yC 9 (yK 0)] (.block 6 (Rz))) Rv
def MK:Zn:=yQ [yI 1 (.box 26 4 (yV 0)),yC 2 yF] (.seq (yQ [yD 12 4 1,yP 13 8 [yA 12],yI 14 (.un .not (yV 13)),yM 15 14,yJ 16 (.lda 4 (yV 1)) 15 false,yJ 17 (.call (yG 10) [yA 16]) 15 false,yJ 18 (.bin .neq .prim (yV 17) (yK 0)) 15 false,yI 19 (.pick (yV 15) yT (yV 18))] (.cond (yV 19) (yQ [yP 20 9 [],yU 2 20] (.ret)) (.skip))) (yQ [yI 21 (.lit 9 1 [(yS [118,97,114]),(yS [114,101,115,111,117,114,99,101]),(yS [115,116,111,114,101]),(yS [98,101,108,116]),(yS [113,117,101,117,101]),(yS [115,116,114,101,97,109]),(yS [116,97,108,108,121]),(yS [108,101,118,101,108]),(yS [99,111,117,110,116]),(yS [114,111,117,116,105,110,101])]),yU 3 21] (.seq (yQ [yC 4 (yK 0)] (.block 0 (Rw))) Om)))
def Yt:AFn:=⟨146,[.tmp 2],MK,false⟩
def Zr:List Nat:=[16,17,18,80,81,82,83,84,85,86,87,88,91,92,93,94,95,96,97,98,99,100,101,102,103,132,133,134,135,136,137,138,139,142,143]
def NP:Zn:=.seq (yQ [yM 36 6,yM 37 5,yO 38 37,yX 39 .lss (yV 36) (yV 38)] (.cond (yV 39) (.skip) (.exit 2))) (.seq (.block 3 (yR [yM 42 3,yM 43 5,yM 44 6,yE 45 1 43 44,yL 46 45,yO 47 46,yX 48 .add (yV 42) (yV 47),yU 3 48])) (yR [yM 40 6,yX 41 .add (yV 40) (yK 1),yU 6 41]))
def Aa:Zn:=.loop NP
def EU:Zn:=.region true [yM 49 3,yH 50 2 1,yL 51 50,yM 52 4,yE 53 13 51 52,yH 54 11 53,yL 55 54,yO 56 55,yH 57 2 1,yL 58 57,yM 59 4,yE 60 13 58 59,yH 61 12 60,yL 62 61,yO 63 62,yX 64 .add (yV 56) (yV 63),yX 65 .add (yV 49) (yV 64),yM 3 65]
def EW:Zn:=yR [yM 28 4,yX 29 .add (yV 28) (yK 1),yU 4 29]
def OJ:Zn:=.seq (yQ [yM 23 4,yH 24 2 1,yL 25 24,yO 26 25,yX 27 .lss (yV 23) (yV 26)] (.cond (yV 27) (.skip) (.exit 0))) (.seq (.block 1 (yQ [yH 30 2 1,yL 31 30,yM 32 4,yE 33 13 31 32,yD 34 13 33,yP 35 22 [yA 34],yU 5 35] (.seq (yQ [yC 6 (yK 0)] (.block 2 (Aa))) EU))) EW)
def EZ:Zn:=.loop OJ
def EY:Zn:=yQ [yM 66 3,yX 67 .leq (yV 66) (yK 120),yU 2 67] (.ret)
def En:Zn:=yQ [yI 1 (.box 26 4 (yV 0)),yC 2 yF] (.seq (yQ [yH 7 2 1,yL 8 7,yO 9 8,yX 10 .gtr (yV 9) (yK 20),yM 11 10,yJ 12 (.fa 1 (yV 1)) 11 false,yJ 13 (.ldc (yV 12)) 11 false,yJ 14 (.len .slice (yV 13)) 11 false,yJ 15 (.bin .gtr .prim (yV 14) (yK 40)) 11 false,yI 16 (.pick (yV 11) yT (yV 15)),yM 17 16,yJ 18 (.fa 3 (yV 1)) 17 false,yJ 19 (.ldc (yV 18)) 17 false,yJ 20 (.len .slice (yV 19)) 17 false,yJ 21 (.bin .gtr .prim (yV 20) (yK 40)) 17 false,yI 22 (.pick (yV 17) yT (yV 21))] (.cond (yV 22) (yQ [yC 2 yF] (.ret)) (.skip))) (yQ [yC 3 (yK 0)] (.seq (yQ [yC 4 (yK 0)] (.block 0 (EZ))) EY)))
def XM:AFn:=⟨68,[.tmp 2],En,false⟩
def Qb:List Nat:=[12,13,14,15,18,19,20,21]
def Zj6:Zn:=yQ [yI 1 (.box 26 4 (yV 0)),yC 2 (yK 0)] (.seq (yQ [yH 7 0 1,yL 8 7,yP 9 26 [yA 8],yU 3 9] (yQ [yM 10 3,yX 11 .neq (yV 10) (yK 0)] (.cond (yV 11) (yQ [yU 12 3,yU 2 12] (.ret)) (.skip)))) (.seq (yQ [yI 13 (.mkmap),yH 14 1 1,yL 15 14,yP 16 27 [yA 13,yA 15],yU 4 16] (yQ [yM 17 4,yX 18 .neq (yV 17) (yK 0)] (.cond (yV 18) (yQ [yU 19 4,yU 2 19] (.ret)) (.skip)))) (.seq (yQ [yH 20 2 1,yL 21 20,yO 22 21,yX 23 .eql (yV 22) (yK 0)] (.cond (yV 23) (yQ [yC 2 (yK 7)] (.ret)) (.skip))) (yQ [yI 24 (.mkmap),yI 5 (.mk 60 [.nilm]),yN (.stt (yV 5) 24)] (yQ [yH 25 2 1,yL 26 25,yI 27 (.mkfn 29 [] [(yV 5)]),yP 28 28 [yA 26,yB (yK 16),yA 27],yU 6 28] (.seq (yQ [yM 29 6,yX 30 .neq (yV 29) (yK 0)] (.cond (yV 30) (yQ [yU 31 6,yU 2 31] (.ret)) (.skip))) (yQ [yD 32 4 1,yP 33 32 [yA 32],yU 2 33] (.ret))))))))
def Ee:AFn:=⟨34,[.tmp 2],Zj6,false⟩
def Zki:List Nat:=[]
def ZkN:Zn:=yQ [yI 3 (.box 26 4 (yV 0)),yI 4 (.box 9 1 (yV 1)),yI 5 (.box 9 1 (yV 2)),yC 6 (yK 0),yC 7 yF] (yQ [yH 9 3 3,yL 10 9,yI 11 (.mkfn 41 [] [(yV 4),(yV 5)]),yP 12 40 [yA 10,yA 11],yU 8 12] (.seq (yQ [yM 13 8,yX 14 .lss (yV 13) (yK 0)] (.cond (yV 14) (yQ [yC 6 (yK 0),yC 7 yF] (.ret)) (.skip))) (yQ [yH 15 3 3,yL 16 15,yM 17 8,yE 18 3 16 17,yH 19 2 18,yL 20 19,yU 6 20,yC 7 yT] (.ret))))
def Fp:AFn:=⟨21,[.tmp 6,.tmp 7],ZkN,false⟩
def Zl7:List Nat:=[]
def ZkO:Zn:=yQ [yI 2 (.box 26 4 (yV 0)),yI 3 (.box 9 1 (yV 1)),yC 4 (yK 0)] (yQ [yH 5 2 2,yL 6 5,yI 7 (.mkfn 43 [] [(yV 3)]),yP 8 42 [yA 6,yA 7],yU 4 8] (.ret))
def Fq:AFn:=⟨9,[.tmp 4],ZkO,false⟩
def Zl8:List Nat:=[]
def ZfH:Zn:=yQ [yI 2 (.box 42 13 (yV 0)),yI 3 (.box 9 1 (yV 1)),yC 4 (yK 0)] (yQ [yH 5 10 2,yL 6 5,yI 7 (.mkfn 45 [] [(yV 3)]),yP 8 44 [yA 6,yA 7],yU 4 8] (.ret))
def BQ:AFn:=⟨9,[.tmp 4],ZfH,false⟩
def Zhd:List Nat:=[]
def ZkM:Zn:=yQ [yI 2 (.box 42 13 (yV 0)),yC 4 (yS [])] (yQ [yD 8 13 2,yM 9 1,yP 10 47 [yA 8,yA 9],yM 7 10,yI 11 (.extract (yV 7) 0),yI 12 (.extract (yV 7) 1),yU 5 11,yU 6 12] (yQ [yU 13 5,yU 4 13] (.ret)))
def Fj:AFn:=⟨14,[.tmp 4],ZkM,false⟩
def Zl6:List Nat:=[]
def Zj7:Zn:=yQ [yI 2 (.box 42 13 (yV 0)),yC 4 (yK 0)] (yQ [yD 8 13 2,yM 9 1,yP 10 47 [yA 8,yA 9],yM 7 10,yI 11 (.extract (yV 7) 0),yI 12 (.extract (yV 7) 1),yU 5 11,yU 6 12] (yQ [yU 13 6,yU 4 13] (.ret)))
def Ef:AFn:=⟨14,[.tmp 4],Zj7,false⟩
def Zkj:List Nat:=[]
def FE:Zn:=.seq (yQ [yM 10 4,yH 11 1 1,yL 12 11,yO 13 12,yX 14 .lss (yV 10) (yV 13)] (.cond (yV 14) (.skip) (.exit 0))) (.seq (.block 1 (.region true [yM 17 3,yM 18 3,yI 19 (.ia (.slice 1) (yV 18) (yK 0)),yI 20 (.ldt (yV 19)),yH 21 1 1,yL 22 21,yM 23 4,yE 24 3 22 23,yH 25 0 24,yL 26 25,yI 27 (.lit 9 1 [(yV 26)]),yI 28 (.app 1 16 20 (yV 27)),yI 29 (.ia (.slice 1) (yV 17) (yK 0)),yN (.stt (yV 29) 28)])) (yR [yM 15 4,yX 16 .add (yV 15) (yK 1),yU 4 16]))
def Za7:Zn:=.loop FE
def FH:Zn:=.seq (yQ [yM 30 5,yH 31 2 1,yL 32 31,yO 33 32,yX 34 .lss (yV 30) (yV 33)] (.cond (yV 34) (.skip) (.exit 2))) (.seq (.block 3 (.region true [yM 37 3,yM 38 3,yI 39 (.ia (.slice 1) (yV 38) (yK 1)),yI 40 (.ldt (yV 39)),yH 41 2 1,yL 42 41,yM 43 5,yE 44 17 42 43,yH 45 0 44,yL 46 45,yI 47 (.lit 9 1 [(yV 46)]),yI 48 (.app 1 16 40 (yV 47)),yI 49 (.ia (.slice 1) (yV 37) (yK 1)),yN (.stt (yV 49) 48)])) (yR [yM 35 5,yX 36 .add (yV 35) (yK 1),yU 5 36]))
def Za8:Zn:=.loop FH
def FI:Zn:=.seq (yQ [yM 50 6,yH 51 3 1,yL 52 51,yO 53 52,yX 54 .lss (yV 50) (yV 53)] (.cond (yV 54) (.skip) (.exit 4))) (.seq (.block 5 (.region true [yM 57 3,yM 58 3,yI 59 (.ia (.slice 1) (yV 58) (yK 2)),yI 60 (.ldt (yV 59)),yH 61 3 1,yL 62 61,yM 63 6,yE 64 3 62 63,yH 65 0 64,yL 66 65,yI 67 (.lit 9 1 [(yV 66)]),yI 68 (.app 1 16 60 (yV 67)),yI 69 (.ia (.slice 1) (yV 57) (yK 2)),yN (.stt (yV 69) 68)])) (yR [yM 55 6,yX 56 .add (yV 55) (yK 1),yU 6 56]))
def Za9:Zn:=.loop FI
def FJ:Zn:=.seq (yQ [yM 70 7,yH 71 4 1,yL 72 71,yO 73 72,yX 74 .lss (yV 70) (yV 73)] (.cond (yV 74) (.skip) (.exit 6))) (.seq (.block 7 (.region true [yM 77 3,yM 78 3,yI 79 (.ia (.slice 1) (yV 78) (yK 3)),yI 80 (.ldt (yV 79)),yH 81 4 1,yL 82 81,yM 83 7,yE 84 3 82 83,yH 85 0 84,yL 86 85,yI 87 (.lit 9 1 [(yV 86)]),yI 88 (.app 1 16 80 (yV 87)),yI 89 (.ia (.slice 1) (yV 77) (yK 3)),yN (.stt (yV 89) 88)])) (yR [yM 75 7,yX 76 .add (yV 75) (yK 1),yU 7 76]))
def ZaA:Zn:=.loop FJ
def FK:Zn:=.seq (yQ [yM 110 8,yH 111 10 1,yL 112 111,yO 113 112,yX 114 .lss (yV 110) (yV 113)] (.cond (yV 114) (.skip) (.exit 8))) (.seq (.block 9 (.region true [yM 117 3,yM 118 3,yI 119 (.ia (.slice 1) (yV 118) (yK 9)),yI 120 (.ldt (yV 119)),yH 121 10 1,yL 122 121,yM 123 8,yE 124 4 122 123,yH 125 0 124,yL 126 125,yI 127 (.lit 9 1 [(yV 126)]),yI 128 (.app 1 16 120 (yV 127)),yI 129 (.ia (.slice 1) (yV 117) (yK 9)),yN (.stt (yV 129) 128)])) (yR [yM 115 8,yX 116 .add (yV 115) (yK 1),yU 8 116]))
def ZaB:Zn:=.loop FK
def Za6:Zn:=yQ [yU 130 3,yU 2 130] (.ret)
def Nb:Zn:=yQ [yM 90 3,yH 91 5 1,yL 92 91,yI 93 (.ia (.slice 1) (yV 90) (yK 4)),yN (.stt (yV 93) 92)] (yQ [yM 94 3,yH 95 6 1,yL 96 95,yI 97 (.ia (.slice 1) (yV 94) (yK 5)),yN (.stt (yV 97) 96)] (yQ [yM 98 3,yH 99 7 1,yL 100 99,yI 101 (.ia (.slice 1) (yV 98) (yK 6)),yN (.stt (yV 101) 100)] (yQ [yM 102 3,yH 103 8 1,yL 104 103,yI 105 (.ia (.slice 1) (yV 102) (yK 7)),yN (.stt (yV 105) 104)] (yQ [yM 106 3,yH 107 9 1,yL 108 107,yI 109 (.ia (.slice 1) (yV 106) (yK 8)),yN (.stt (yV 109) 108)] (.seq (yQ [yC 8 (yK 0)] (.block 8 (ZaB))) Za6)))))
def Na:Zn:=.seq (yQ [yC 7 (yK 0)] (.block 6 (ZaA))) Nb
def PZ:Zn:=.seq (yQ [yC 6 (yK 0)] (.block 4 (Za9))) Na
def PY:Zn:=.seq (yQ [yC 5 (yK 0)] (.block 2 (Za8))) PZ
def Zbd:Zn:=yQ [yI 1 (.box 42 13 (yV 0)),yI 2 (.mv (.const (.own 1 [])))] (yQ [yI 9 (.mksl 37 [(.own 1 [])] (yK 10)),yU 3 9] (.seq (yQ [yC 4 (yK 0)] (.block 0 (Za7))) PY))
def Ql:AFn:=⟨131,[.tmp 2],Zbd,false⟩
def Yx:List Nat:=[]
def NS:Zn:=yQ [yX 25 .lss (yV 24) (yV 23)] (.seq (.cond (yV 25) (.skip) (.exit 0)) (.seq (.block 1 (yQ [yM 26 24,yU 3 26] (yQ [yM 27 0,yM 28 3,yI 29 (.idx (yV 27) (yV 28)),yU 4 29] (yQ [yM 30 4,yP 31 54 [yA 30],yI 32 (.un .not (yV 31)),yM 33 32,yJ 34 (.mv (yV 4)) 33 true,yJ 35 (.bin .lss .prim (yV 34) (.const (.int .u8 48))) 33 true,yJ 36 (.mv (yV 35)) 33 true,yJ 37 (.mv (yV 4)) 36 false,yJ 38 (.bin .gtr .prim (yV 37) (.const (.int .u8 57))) 36 false,yJ 39 (.pick (yV 36) yT (yV 38)) 33 true,yI 40 (.pick (yV 33) (yV 39) yF),yM 41 40,yJ 42 (.mv (yV 4)) 41 true,yJ 43 (.bin .neq .prim (yV 42) (.const (.int .u8 95))) 41 true,yI 44 (.pick (yV 41) (yV 43) yF)] (.cond (yV 44) (yQ [yC 2 (yK 3)] (.ret)) (.skip)))))) (yR [yX 45 .add (yV 24) (yK 1),yM 24 45])))
def Ag:Zn:=.loop NS
def Af:Zn:=yQ [yC 2 (yK 0)] (.ret)
def Er:Zn:=yQ [yC 2 (yK 0)] (.seq (yQ [yM 5 0,yX 6 .eql (yV 5) (yS []),yM 7 6,yJ 8 (.mv (yV 0)) 7 false,yJ 9 (.len .str (yV 8)) 7 false,yJ 10 (.bin .gtr .prim (yV 9) (yK 24)) 7 false,yI 11 (.pick (yV 7) yT (yV 10)),yM 12 11,yJ 13 (.mv (yV 0)) 12 false,yJ 14 (.idx (yV 13) (yK 0)) 12 false,yJ 15 (.call (yG 54) [yA 14]) 12 false,yJ 16 (.un .not (yV 15)) 12 false,yI 17 (.pick (yV 12) yT (yV 16)),yM 18 17,yJ 19 (.mv (yV 0)) 18 false,yJ 20 (.call (yG 55) [yA 19]) 18 false,yI 21 (.pick (yV 18) yT (yV 20))] (.cond (yV 21) (yQ [yC 2 (yK 3)] (.ret)) (.skip))) (.seq (yQ [yM 22 0,yI 23 (.len .str (yV 22)),yC 24 (yK 0)] (.block 0 (Ag))) Af))
def Uy:AFn:=⟨46,[.tmp 2],Er,false⟩
def VZ:List Nat:=[8,9,10,13,14,15,16,19,20,34,35,36,37,38,39,42,43]
def Aw:Zn:=yQ [yC 4 (yK 0)] (yQ [yM 5 1,yM 6 0,yI 7 (.mkfn 57 [(yV 6)] []),yP 8 56 [yA 5,yB (yK 32),yA 7],yU 4 8] (.ret))
def IA:AFn:=⟨9,[.tmp 4],Aw,false⟩
def AL:List Nat:=[]
def ZfG:Zn:=yQ [yI 2 (.box 42 13 (yV 0)),yC 3 (yK 0)] (.seq (yQ [yL 5 1,yH 6 0 2,yL 7 6,yP 8 30 [yA 5,yA 7],yU 4 8] (yQ [yM 9 4,yX 10 .neq (yV 9) (yK 0)] (.cond (yV 10) (yQ [yU 11 4,yU 3 11] (.ret)) (.skip)))) (yQ [yD 12 13 2,yP 13 31 [yA 12],yU 3 13] (.ret)))
def BP:AFn:=⟨14,[.tmp 3],ZfG,false⟩
def Zhc:List Nat:=[]
def Hg:Zn:=yQ [yX 17 .lss (yV 16) (yV 15)] (.seq (.cond (yV 17) (.skip) (.exit 0)) (.seq (.block 1 (yQ [yE 18 13 14 16,yD 19 13 18,yI 8 (.mk 42 [(.str []),(.own 3 []),(.own 17 []),(.own 3 []),(.own 3 []),(.own 1 []),(.own 1 []),(.own 1 []),(.own 1 []),(.own 1 []),(.own 4 []),(.own 5 []),(.own 3 [])]),yN (.st 13 (yV 8) (yV 19))] (yQ [yM 20 2,yD 21 13 8,yI 22 (.call (yV 20) [yA 21]),yU 9 22] (yQ [yM 23 9,yX 24 .neq (yV 23) (yK 0)] (.cond (yV 24) (yQ [yU 25 9,yU 6 25] (.ret)) (.skip)))))) (yR [yX 26 .add (yV 16) (yK 1),yM 16 26])))
def Il:Zn:=.loop Hg
def Ik:Zn:=yQ [yC 6 (yK 0)] (.ret)
def Kv:Zn:=yQ [yC 6 (yK 0)] (.seq (yQ [yM 10 0,yO 11 10,yM 12 1,yX 13 .gtr (yV 11) (yV 12)] (.cond (yV 13) (yQ [yC 6 (yK 6)] (.ret)) (.skip))) (.seq (yQ [yM 14 0,yO 15 14,yC 16 (yK 0)] (.block 0 (Il))) Ik))
def WQ:AFn:=⟨27,[.tmp 6],Kv,false⟩
def YE:List Nat:=[]
def Zj9:Zn:=yQ [yI 1 (.box 26 4 (yV 0)),yC 2 (yK 0)] (yQ [yI 4 (.mkmap),yI 3 (.mk 127 [.nilm]),yN (.stt (yV 3) 4)] (yQ [yH 5 3 1,yL 6 5,yI 7 (.mkfn 90 [] [(yV 1),(yV 3)]),yP 8 89 [yA 6,yB (yK 32),yA 7],yU 2 8] (.ret)))
def Eh:AFn:=⟨9,[.tmp 2],Zj9,false⟩
def Zkl:List Nat:=[]
def ZhF:Zn:=yQ [yI 3 (.box 49 3 (yV 0)),yC 4 yF] (yQ [yH 5 0 3,yL 6 5,yL 7 1,yX 8 .eql (yV 6) (yV 7),yM 9 8,yJ 10 (.fa 1 (yV 3)) 9 true,yJ 11 (.ldc (yV 10)) 9 true,yJ 12 (.ldc (yV 2)) 9 true,yJ 13 (.bin .eql .prim (yV 11) (yV 12)) 9 true,yI 14 (.pick (yV 9) (yV 13) yF),yU 4 14] (.ret))
def PI:AFn:=⟨15,[.tmp 4],ZhF,false⟩
def Zix:List Nat:=[10,11,12,13]
def Jd:Zn:=yQ [yX 9 .lss (yV 8) (yV 7)] (.seq (.cond (yV 9) (.skip) (.exit 0)) (.seq (.block 1 (yQ [yM 10 8,yU 5 10] (yQ [yM 11 1,yM 12 0,yM 13 5,yE 14 3 12 13,yD 15 3 14,yI 16 (.call (yV 11) [yA 15])] (.cond (yV 16) (yQ [yU 17 5,yU 4 17] (.ret)) (.skip))))) (yR [yX 18 .add (yV 8) (yK 1),yM 8 18])))
def Jq:Zn:=.loop Jd
def Jp:Zn:=yQ [yI 4 (.mv (.const (.int .i64 (-1))))] (.ret)
def Vl:Zn:=yQ [yC 4 (yK 0)] (.seq (yQ [yM 6 0,yO 7 6,yC 8 (yK 0)] (.block 0 (Jq))) Jp)
def Ye:AFn:=⟨19,[.tmp 4],Vl,false⟩
def ZO:List Nat:=[]
def ZhG:Zn:=yQ [yI 2 (.box 42 13 (yV 0)),yC 3 yF] (yQ [yH 4 0 2,yL 5 4,yL 6 1,yX 7 .eql (yV 5) (yV 6),yU 3 7] (.ret))
def PK:AFn:=⟨8,[.tmp 3],ZhG,false⟩
def Ziy:List Nat:=[]
def Vj:Zn:=yQ [yX 9 .lss (yV 8) (yV 7)] (.seq (.cond (yV 9) (.skip) (.exit 0)) (.seq (.block 1 (yQ [yM 10 8,yU 5 10] (yQ [yM 11 1,yM 12 0,yM 13 5,yE 14 13 12 13,yD 15 13 14,yI 16 (.call (yV 11) [yA 15])] (.cond (yV 16) (yQ [yU 17 5,yU 4 17] (.ret)) (.skip))))) (yR [yX 18 .add (yV 8) (yK 1),yM 8 18])))
def Vu:Zn:=.loop Vj
def Vt:Zn:=yQ [yI 4 (.mv (.const (.int .i64 (-1))))] (.ret)
def QX:Zn:=yQ [yC 4 (yK 0)] (.seq (yQ [yM 6 0,yO 7 6,yC 8 (yK 0)] (.block 0 (Vu))) Vt)
def ZH:AFn:=⟨19,[.tmp 4],QX,false⟩
def Zu:List Nat:=[]
def Zdk:Zn:=yQ [yI 2 (.box 79 4 (yV 0)),yC 3 yF] (yQ [yH 4 0 2,yL 5 4,yL 6 1,yX 7 .eql (yV 5) (yV 6),yU 3 7] (.ret))
def LB:AFn:=⟨8,[.tmp 3],Zdk,false⟩
def Zep:List Nat:=[]
def V4:Zn:=yQ [yX 9 .lss (yV 8) (yV 7)] (.seq (.cond (yV 9) (.skip) (.exit 0)) (.seq (.block 1 (yQ [yM 10 8,yU 5 10] (yQ [yM 11 1,yM 12 0,yM 13 5,yE 14 4 12 13,yD 15 4 14,yI 16 (.call (yV 11) [yA 15])] (.cond (yV 16) (yQ [yU 17 5,yU 4 17] (.ret)) (.skip))))) (yR [yX 18 .add (yV 8) (yK 1),yM 8 18])))
def VA:Zn:=.loop V4
def V9:Zn:=yQ [yI 4 (.mv (.const (.int .i64 (-1))))] (.ret)
def X5:Zn:=yQ [yC 4 (yK 0)] (.seq (yQ [yM 6 0,yO 7 6,yC 8 (yK 0)] (.block 0 (VA))) V9)
def ZV:AFn:=⟨19,[.tmp 4],X5,false⟩
def Z4:List Nat:=[]
def ZjA:Zn:=yQ [yI 2 (.box 42 13 (yV 0)),yI 3 (.box 9 1 (yV 1)),yC 4 (yS []),yC 5 (yK 0)] (.seq (yQ [yH 16 1 2,yL 17 16,yI 18 (.mkfn 100 [] [(yV 3)]),yP 19 99 [yA 17,yA 18],yU 6 19] (yQ [yM 20 6,yX 21 .geq (yV 20) (yK 0)] (.cond (yV 21) (yQ [yU 22 6,yC 4 (yS [118,97,114]),yU 5 22] (.ret)) (.skip)))) (.seq (yQ [yH 23 2 2,yL 24 23,yI 25 (.mkfn 102 [] [(yV 3)]),yP 26 101 [yA 24,yA 25],yU 7 26] (yQ [yM 27 7,yX 28 .geq (yV 27) (yK 0)] (.cond (yV 28) (yQ [yU 29 7,yC 4 (yS [114,101,115,111,117,114,99,101]),yU 5 29] (.ret)) (.skip)))) (.seq (yQ [yH 30 3 2,yL 31 30,yI 32 (.mkfn 104 [] [(yV 3)]),yP 33 103 [yA 31,yA 32],yU 8 33] (yQ [yM 34 8,yX 35 .geq (yV 34) (yK 0)] (.cond (yV 35) (yQ [yU 36 8,yC 4 (yS [115,116,111,114,101]),yU 5 36] (.ret)) (.skip)))) (.seq (yQ [yH 37 4 2,yL 38 37,yI 39 (.mkfn 106 [] [(yV 3)]),yP 40 105 [yA 38,yA 39],yU 9 40] (yQ [yM 41 9,yX 42 .geq (yV 41) (yK 0)] (.cond (yV 42) (yQ [yU 43 9,yC 4 (yS [98,101,108,116]),yU 5 43] (.ret)) (.skip)))) (.seq (yQ [yH 44 5 2,yL 45 44,yL 46 3,yP 47 107 [yA 45,yA 46],yU 10 47] (yQ [yM 48 10,yX 49 .geq (yV 48) (yK 0)] (.cond (yV 49) (yQ [yU 50 10,yC 4 (yS [113,117,101,117,101]),yU 5 50] (.ret)) (.skip)))) (.seq (yQ [yH 51 6 2,yL 52 51,yL 53 3,yP 54 107 [yA 52,yA 53],yU 11 54] (yQ [yM 55 11,yX 56 .geq (yV 55) (yK 0)] (.cond (yV 56) (yQ [yU 57 11,yC 4 (yS [115,116,114,101,97,109]),yU 5 57] (.ret)) (.skip)))) (.seq (yQ [yH 58 7 2,yL 59 58,yL 60 3,yP 61 107 [yA 59,yA 60],yU 12 61] (yQ [yM 62 12,yX 63 .geq (yV 62) (yK 0)] (.cond (yV 63) (yQ [yU 64 12,yC 4 (yS [116,97,108,108,121]),yU 5 64] (.ret)) (.skip)))) (.seq (yQ [yH 65 8 2,yL 66 65,yL 67 3,yP 68 107 [yA 66,yA 67],yU 13 68] (yQ [yM 69 13,yX 70 .geq (yV 69) (yK 0)] (.cond (yV 70) (yQ [yU 71 13,yC 4 (yS [108,101,118,101,108]),yU 5 71] (.ret)) (.skip)))) (.seq (yQ [yH 72 9 2,yL 73 72,yL 74 3,yP 75 107 [yA 73,yA 74],yU 14 75] (yQ [yM 76 14,yX 77 .geq (yV 76) (yK 0)] (.cond (yV 77) (yQ [yU 78 14,yC 4 (yS [99,111,117,110,116]),yU 5 78] (.ret)) (.skip)))) (.seq (yQ [yD 79 13 2,yL 80 3,yP 81 16 [yA 79,yA 80],yU 15 81] (yQ [yM 82 15,yX 83 .geq (yV 82) (yK 0)] (.cond (yV 83) (yQ [yU 84 15,yC 4 (yS [114,111,117,116,105,110,101]),yU 5 84] (.ret)) (.skip)))) (yQ [yC 4 (yS []),yI 5 (.mv (.const (.int .i64 (-1))))] (.ret))))))))))))
def Ei:AFn:=⟨85,[.tmp 4,.tmp 5],ZjA,false⟩
def Zkm:List Nat:=[]
def ZhT:Zn:=yQ [yC 2 yF] (yQ [yM 3 0,yX 4 .geq (yV 3) (.const (.int .u8 97)),yM 5 4,yJ 6 (.mv (yV 0)) 5 true,yJ 7 (.bin .leq .prim (yV 6) (.const (.int .u8 122))) 5 true,yI 8 (.pick (yV 5) (yV 7) yF),yU 2 8] (.ret))
def PX:AFn:=⟨9,[.tmp 2],ZhT,false⟩
def ZiB:List Nat:=[6,7]
def ZfR:Zn:=yQ [yC 2 yF] (.seq (yQ [yM 3 0] (.block 0 (.seq (yQ [yX 5 .eql (yV 3) (yS [97,100,100]),yU 4 5] (.cond (yV 4) (.skip) (yQ [yX 6 .eql (yV 3) (yS [97,102,116,101,114]),yU 4 6] (.cond (yV 4) (.skip) (yQ [yX 7 .eql (yV 3) (yS [97,110,100]),yU 4 7] (.cond (yV 4) (.skip) (yQ [yX 8 .eql (yV 3) (yS [97,116]),yU 4 8] (.cond (yV 4) (.skip) (yQ [yX 9 .eql (yV 3) (yS [98,101,108,116]),yU 4 9] (.cond (yV 4) (.skip) (yQ [yX 10 .eql (yV 3) (yS [98,111,111,108]),yU 4 10] (.cond (yV 4) (.skip) (yQ [yX 11 .eql (yV 3) (yS [99,111,110,115,101,114,118,101]),yU 4 11] (.cond (yV 4) (.skip) (yQ [yX 12 .eql (yV 3) (yS [99,111,110,115,116]),yU 4 12] (.cond (yV 4) (.skip) (yQ [yX 13 .eql (yV 3) (yS [99,111,117,110,116]),yU 4 13] (.cond (yV 4) (.skip) (yQ [yX 14 .eql (yV 3) (yS [99,121,99,108,101]),yU 4 14] (.cond (yV 4) (.skip) (yQ [yX 15 .eql (yV 3) (yS [100,111,119,110]),yU 4 15] (.cond (yV 4) (.skip) (yQ [yX 16 .eql (yV 3) (yS [100,114,97,119]),yU 4 16] (.cond (yV 4) (.skip) (yQ [yX 17 .eql (yV 3) (yS [100,117,114]),yU 4 17] (.cond (yV 4) (.skip) (yQ [yX 18 .eql (yV 3) (yS [101,108,115,101]),yU 4 18] (.cond (yV 4) (.skip) (yQ [yX 19 .eql (yV 3) (yS [101,110,100]),yU 4 19] (.cond (yV 4) (.skip) (yQ [yX 20 .eql (yV 3) (yS [101,118,101,114,121]),yU 4 20] (.cond (yV 4) (.skip) (yQ [yX 21 .eql (yV 3) (yS [102,97,108,115,101]),yU 4 21] (.cond (yV 4) (.skip) (yQ [yX 22 .eql (yV 3) (yS [102,97,117,108,116]),yU 4 22] (.cond (yV 4) (.skip) (yQ [yX 23 .eql (yV 3) (yS [102,105,102,111]),yU 4 23] (.cond (yV 4) (.skip) (yQ [yX 24 .eql (yV 3) (yS [102,114,101,101]),yU 4 24] (.cond (yV 4) (.skip) (yQ [yX 25 .eql (yV 3) (yS [102,114,111,109]),yU 4 25] (.cond (yV 4) (.skip) (yQ [yX 26 .eql (yV 3) (yS [103,101,111,109]),yU 4 26] (.cond (yV 4) (.skip) (yQ [yX 27 .eql (yV 3) (yS [103,101,116]),yU 4 27] (.cond (yV 4) (.skip) (yQ [yX 28 .eql (yV 3) (yS [104,111,108,100]),yU 4 28] (.cond (yV 4) (.skip) (yQ [yX 29 .eql (yV 3) (yS [105,102]),yU 4 29] (.cond (yV 4) (.skip) (yQ [yX 30 .eql (yV 3) (yS [105,110,116]),yU 4 30] (.cond (yV 4) (.skip) (yQ [yX 31 .eql (yV 3) (yS [105,110,116,111]),yU 4 31] (.cond (yV 4) (.skip) (yQ [yX 32 .eql (yV 3) (yS [108,101,97,115,116]),yU 4 32] (.cond (yV 4) (.skip) (yQ [yX 33 .eql (yV 3) (yS [108,101,118,101,108]),yU 4 33] (.cond (yV 4) (.skip) (yQ [yX 34 .eql (yV 3) (yS [108,105,102,111]),yU 4 34] (.cond (yV 4) (.skip) (yQ [yX 35 .eql (yV 3) (yS [108,105,110,107]),yU 4 35] (.cond (yV 4) (.skip) (yQ [yX 36 .eql (yV 3) (yS [108,111,99,97,108]),yU 4 36] (.cond (yV 4) (.skip) (yQ [yX 37 .eql (yV 3) (yS [109,97,120]),yU 4 37] (.cond (yV 4) (.skip) (yQ [yX 38 .eql (yV 3) (yS [109,105,110]),yU 4 38] (.cond (yV 4) (.skip) (yQ [yX 39 .eql (yV 3) (yS [109,111,100,101,108]),yU 4 39] (.cond (yV 4) (.skip) (yQ [yX 40 .eql (yV 3) (yS [110,111,116]),yU 4 40] (.cond (yV 4) (.skip) (yQ [yX 41 .eql (yV 3) (yS [110,111,119]),yU 4 41] (.cond (yV 4) (.skip) (yQ [yX 42 .eql (yV 3) (yS [111,98,115,101,114,118,101]),yU 4 42] (.cond (yV 4) (.skip) (yQ [yX 43 .eql (yV 3) (yS [111,114]),yU 4 43] (.cond (yV 4) (.skip) (yQ [yX 44 .eql (yV 3) (yS [112,97,114,97,109]),yU 4 44] (.cond (yV 4) (.skip) (yQ [yX 45 .eql (yV 3) (yS [112,114,101,101,109,112,116]),yU 4 45] (.cond (yV 4) (.skip) (yQ [yX 46 .eql (yV 3) (yS [112,114,105,111]),yU 4 46] (.cond (yV 4) (.skip) (yQ [yX 47 .eql (yV 3) (yS [112,117,116]),yU 4 47] (.cond (yV 4) (.skip) (yQ [yX 48 .eql (yV 3) (yS [113,117,101,117,101]),yU 4 48] (.cond (yV 4) (.skip) (yQ [yX 49 .eql (yV 3) (yS [114,101,108,101,97,115,101]),yU 4 49] (.cond (yV 4) (.skip) (yQ [yX 50 .eql (yV 3) (yS [114,101,115,111,117,114,99,101]),yU 4 50] (.cond (yV 4) (.skip) (yQ [yX 51 .eql (yV 3) (yS [114,105,100,101]),yU 4 51] (.cond (yV 4) (.skip) (yQ [yX 52 .eql (yV 3) (yS [114,111,117,116,105,110,101]),yU 4 52] (.cond (yV 4) (.skip) (yQ [yX 53 .eql (yV 3) (yS [115,101,105,122,101]),yU 4 53] (.cond (yV 4) (.skip) (yQ [yX 54 .eql (yV 3) (yS [115,101,110,100]),yU 4 54] (.cond (yV 4) (.skip) (yQ [yX 55 .eql (yV 3) (yS [115,101,116]),yU 4 55] (.cond (yV 4) (.skip) (yQ [yX 56 .eql (yV 3) (yS [115,104,105,102,116]),yU 4 56] (.cond (yV 4) (.skip) (yQ [yX 57 .eql (yV 3) (yS [115,105,103,110,97,108]),yU 4 57] (.cond (yV 4) (.skip) (yQ [yX 58 .eql (yV 3) (yS [115,105,116,101]),yU 4 58] (.cond (yV 4) (.skip) (yQ [yX 59 .eql (yV 3) (yS [115,105,122,101]),yU 4 59] (.cond (yV 4) (.skip) (yQ [yX 60 .eql (yV 3) (yS [115,112,97,119,110]),yU 4 60] (.cond (yV 4) (.skip) (yQ [yX 61 .eql (yV 3) (yS [115,116,97,114,116]),yU 4 61] (.cond (yV 4) (.skip) (yQ [yX 62 .eql (yV 3) (yS [115,116,111,112]),yU 4 62] (.cond (yV 4) (.skip) (yQ [yX 63 .eql (yV 3) (yS [115,116,111,114,101]),yU 4 63] (.cond (yV 4) (.skip) (yQ [yX 64 .eql (yV 3) (yS [115,116,114,101,97,109]),yU 4 64] (.cond (yV 4) (.skip) (yQ [yX 65 .eql (yV 3) (yS [115,117,109]),yU 4 65] (.cond (yV 4) (.skip) (yQ [yX 66 .eql (yV 3) (yS [116,97,98,108,101]),yU 4 66] (.cond (yV 4) (.skip) (yQ [yX 67 .eql (yV 3) (yS [116,97,108,108,121]),yU 4 67] (.cond (yV 4) (.skip) (yQ [yX 68 .eql (yV 3) (yS [116,105,99,107,115]),yU 4 68] (.cond (yV 4) (.skip) (yQ [yX 69 .eql (yV 3) (yS [116,105,109,101]),yU 4 69] (.cond (yV 4) (.skip) (yQ [yX 70 .eql (yV 3) (yS [116,114,117,101]),yU 4 70] (.cond (yV 4) (.skip) (yQ [yX 71 .eql (yV 3) (yS [117,110,105,102,111,114,109]),yU 4 71] (.cond (yV 4) (.skip) (yQ [yX 72 .eql (yV 3) (yS [117,110,116,105,108]),yU 4 72] (.cond (yV 4) (.skip) (yQ [yX 73 .eql (yV 3) (yS [117,112]),yU 4 73] (.cond (yV 4) (.skip) (yQ [yX 74 .eql (yV 3) (yS [118,97,114]),yU 4 74] (.cond (yV 4) (.skip) (yQ [yX 75 .eql (yV 3) (yS [119,97,105,116]),yU 4 75] (.cond (yV 4) (.skip) (yQ [yX 76 .eql (yV 3) (yS [119,97,105,116,105,110,103]),yU 4 76] (.cond (yV 4) (.skip) (yR [yX 77 .eql (yV 3) (yS [119,104,105,108,101]),yU 4 77]))))))))))))))))))))))))))))))))))))))))))))))))))))))))))))))))))))))))))))))))))))))))))))))))))))))))))))))))))))))))))))))))))))))))))))))))) (.cond (yV 4) (yQ [yC 2 yT] (.ret)) (.skip))))) (yQ [yC 2 yF] (.ret)))
def De:AFn:=⟨78,[.tmp 2],ZfR,false⟩
def Zhn:List Nat:=[]
def Fz:Zn:=yQ [yI 3 (.box 69 3 (yV 1)),yC 4 (yK 0)] (.seq (yQ [yM 6 0,yH 7 0 3,yL 8 7,yP 9 30 [yA 6,yA 8],yU 5 9] (yQ [yM 10 5,yX 11 .neq (yV 10) (yK 0)] (.cond (yV 11) (yQ [yU 12 5,yU 4 12] (.ret)) (.skip)))) (.seq (.block 0 (yQ [yH 14 1 3,yL 15 14,yP 16 125 [yA 15],yI 17 (.un .not (yV 16)),yU 13 17] (.cond (yV 13) (yQ [yC 4 (yK 1)] (.ret)) (yQ [yH 19 1 3,yL 20 19,yH 21 2 3,yL 22 21,yP 23 126 [yA 20,yA 22],yI 24 (.un .not (yV 23)),yU 18 24] (.cond (yV 18) (yQ [yC 4 (yK 2)] (.ret)) (.skip)))))) (yQ [yC 4 (yK 0)] (.ret))))
def Ol:AFn:=⟨25,[.tmp 4],Fz,false⟩
def CY:List Nat:=[]
def Ot:Zn:=yQ [yX 17 .lss (yV 16) (yV 15)] (.seq (.cond (yV 17) (.skip) (.exit 0)) (.seq (.block 1 (yQ [yE 18 3 14 16,yD 19 3 18,yI 8 (.mk 69 [(.str []),(.int .i64 0),(.int .i64 0)]),yN (.st 3 (yV 8) (yV 19))] (yQ [yM 20 2,yD 21 3 8,yI 22 (.call (yV 20) [yA 21]),yU 9 22] (yQ [yM 23 9,yX 24 .neq (yV 23) (yK 0)] (.cond (yV 24) (yQ [yU 25 9,yU 6 25] (.ret)) (.skip)))))) (yR [yX 26 .add (yV 16) (yK 1),yM 16 26])))
def Td:Zn:=.loop Ot
def Tc:Zn:=yQ [yC 6 (yK 0)] (.ret)
def H7:Zn:=yQ [yC 6 (yK 0)] (.seq (yQ [yM 10 0,yO 11 10,yM 12 1,yX 13 .gtr (yV 11) (yV 12)] (.cond (yV 13) (yQ [yC 6 (yK 6)] (.ret)) (.skip))) (.seq (yQ [yM 14 0,yO 15 14,yC 16 (yK 0)] (.block 0 (Td))) Tc))
def Qs:AFn:=⟨27,[.tmp 6],H7,false⟩
def WI:List Nat:=[]
def Fy:Zn:=yQ [yC 4 (yK 0)] (.seq (yQ [yM 6 1,yP 7 26 [yA 6],yU 5 7] (yQ [yM 8 5,yX 9 .neq (yV 8) (yK 0)] (.cond (yV 9) (yQ [yU 10 5,yU 4 10] (.ret)) (.skip)))) (.seq (yQ [yM 11 0,yM 12 1,yI 13 (.look (.one .str) (.bool false) (yV 11) (yV 12) false)] (.cond (yV 13) (yQ [yC 4 (yK 4)] (.ret)) (.skip))) (yQ [yM 14 0,yM 15 1,yN (.mupd (.one .str) (yV 14) (yV 15) yT)] (yQ [yC 4 (yK 0)] (.ret)))))
def Oj:AFn:=⟨16,[.tmp 4],Fy,false⟩
def CX:List Nat:=[]
def ZkR:Zn:=yQ [yI 1 (.box 42 13 (yV 0)),yC 2 (yK 0)] (yQ [yI 5 (.mkmap),yI 3 (.mk 60 [.nilm]),yN (.stt (yV 3) 5)] (yQ [yI 6 (.mkfn 58 [] [(yV 3)]),yI 4 (.mk 111 [.nilf]),yN (.stt (yV 4) 6)] (yQ [yI 7 (.mkfn 61 [] [(yV 3),(yV 1)]),yI 8 (.mkfn 62 [] [(yV 1),(yV 3)]),yI 9 (.mkfn 68 [] [(yV 1),(yV 3)]),yI 10 (.mkfn 71 [] [(yV 1),(yV 3)]),yI 11 (.mkfn 74 [] [(yV 4),(yV 1)]),yI 12 (.mkfn 75 [] [(yV 4),(yV 1)]),yI 13 (.mkfn 76 [] [(yV 4),(yV 1)]),yI 14 (.mkfn 77 [] [(yV 4),(yV 1)]),yI 15 (.mkfn 78 [] [(yV 4),(yV 1)]),yI 16 (.mkfn 79 [] [(yV 1),(yV 3)]),yI 17 (.mkfn 83 [] [(yV 1)]),yI 18 (.mkfn 87 [] [(yV 1)]),yI 19 (.lit 113 1 [(yV 7),(yV 8),(yV 9),(yV 10),(yV 11),(yV 12),(yV 13),(yV 14),(yV 15),(yV 16),(yV 17),(yV 18)]),yP 20 60 [yA 19],yU 2 20] (.ret))))
def Fv:AFn:=⟨21,[.tmp 2],ZkR,false⟩
def ZlB:List Nat:=[]
def ZfI:Zn:=yQ [yI 3 (.box 49 3 (yV 0)),yC 4 (yK 0)] (yQ [yH 6 0 3,yL 7 6,yH 8 1 3,yL 9 8,yI 10 (.build [(.str []),(.str [])] [(0,1,(yV 7)),(1,1,(yV 9))]),yI 5 (.mk 129 [(.str []),(.str [])]),yN (.st 2 (yV 5) (yV 10))] (.seq (.block 0 (yQ [yD 12 4 1,yH 13 0 3,yL 14 13,yP 15 14 [yA 12,yA 14],yX 16 .lss (yV 15) (yK 0),yM 17 16,yJ 18 (.lda 4 (yV 1)) 17 false,yJ 19 (.fa 1 (yV 3)) 17 false,yJ 20 (.ldc (yV 19)) 17 false,yJ 21 (.call (yG 14) [yA 18,yA 20]) 17 false,yJ 22 (.bin .lss .prim (yV 21) (yK 0)) 17 false,yI 23 (.pick (yV 17) yT (yV 22)),yU 11 23] (.cond (yV 11) (yQ [yC 4 (yK 5)] (.ret)) (yQ [yH 25 0 3,yL 26 25,yH 27 1 3,yL 28 27,yX 29 .eql (yV 26) (yV 28),yU 24 29] (.cond (yV 24) (yQ [yC 4 (yK 1)] (.ret)) (yQ [yH 31 2 3,yL 32 31,yP 33 65 [yA 32,yB (yK 1),yB (yK 1000000000)],yI 34 (.un .not (yV 33)),yU 30 34] (.cond (yV 30) (yQ [yC 4 (yK 2)] (.ret)) (yQ [yL 36 2,yD 37 2 5,yI 38 (.look (.pair .str) (.bool false) (yV 36) (yV 37) false),yU 35 38] (.cond (yV 35) (yQ [yC 4 (yK 4)] (.ret)) (.skip)))))))))) (yQ [yL 39 2,yD 40 2 5,yN (.mupd (.pair .str) (yV 39) (yV 40) yT)] (yQ [yC 4 (yK 0)] (.ret)))))
def BR:AFn:=⟨41,[.tmp 4],ZfI,false⟩
def Zhe:List Nat:=[18,19,20,21,22]
def OX:Zn:=yQ [yX 17 .lss (yV 16) (yV 15)] (.seq (.cond (yV 17) (.skip) (.exit 0)) (.seq (.block 1 (yQ [yE 18 3 14 16,yD 19 3 18,yI 8 (.mk 49 [(.str []),(.str []),(.int .i64 0)]),yN (.st 3 (yV 8) (yV 19))] (yQ [yM 20 2,yD 21 3 8,yI 22 (.call (yV 20) [yA 21]),yU 9 22] (yQ [yM 23 9,yX 24 .neq (yV 23) (yK 0)] (.cond (yV 24) (yQ [yU 25 9,yU 6 25] (.ret)) (.skip)))))) (yR [yX 26 .add (yV 16) (yK 1),yM 16 26])))
def Tu:Zn:=.loop OX
def Tt:Zn:=yQ [yC 6 (yK 0)] (.ret)
def IB:Zn:=yQ [yC 6 (yK 0)] (.seq (yQ [yM 10 0,yO 11 10,yM 12 1,yX 13 .gtr (yV 11) (yV 12)] (.cond (yV 13) (yQ [yC 6 (yK 6)] (.ret)) (.skip))) (.seq (yQ [yM 14 0,yO 15 14,yC 16 (yK 0)] (.block 0 (Tu))) Tt))
def Q9:AFn:=⟨27,[.tmp 6],IB,false⟩
def WT:List Nat:=[]
def ZfJ:Zn:=yQ [yI 2 (.box 69 3 (yV 0)),yC 3 yF] (yQ [yH 4 0 2,yL 5 4,yL 6 1,yX 7 .eql (yV 5) (yV 6),yU 3 7] (.ret))
def BS:AFn:=⟨8,[.tmp 3],ZfJ,false⟩
def Zhf:List Nat:=[]
def VL:Zn:=yQ [yX 9 .lss (yV 8) (yV 7)] (.seq (.cond (yV 9) (.skip) (.exit 0)) (.seq (.block 1 (yQ [yM 10 8,yU 5 10] (yQ [yM 11 1,yM 12 0,yM 13 5,yE 14 3 12 13,yD 15 3 14,yI 16 (.call (yV 11) [yA 15])] (.cond (yV 16) (yQ [yU 17 5,yU 4 17] (.ret)) (.skip))))) (yR [yX 18 .add (yV 8) (yK 1),yM 8 18])))
def VS:Zn:=.loop VL
def VR:Zn:=yQ [yI 4 (.mv (.const (.int .i64 (-1))))] (.ret)
def XR:Zn:=yQ [yC 4 (yK 0)] (.seq (yQ [yM 6 0,yO 7 6,yC 8 (yK 0)] (.block 0 (VS))) VR)
def ZZ:AFn:=⟨19,[.tmp 4],XR,false⟩
def ZE:List Nat:=[]
def ZfK:Zn:=yQ [yI 2 (.box 92 17 (yV 0)),yC 3 yF] (yQ [yH 4 0 2,yL 5 4,yL 6 1,yX 7 .eql (yV 5) (yV 6),yU 3 7] (.ret))
def BU:AFn:=⟨8,[.tmp 3],ZfK,false⟩
def Zhg:List Nat:=[]
def X3:Zn:=yQ [yX 9 .lss (yV 8) (yV 7)] (.seq (.cond (yV 9) (.skip) (.exit 0)) (.seq (.block 1 (yQ [yM 10 8,yU 5 10] (yQ [yM 11 1,yM 12 0,yM 13 5,yE 14 17 12 13,yD 15 17 14,yI 16 (.call (yV 11) [yA 15])] (.cond (yV 16) (yQ [yU 17 5,yU 4 17] (.ret)) (.skip))))) (yR [yX 18 .add (yV 8) (yK 1),yM 8 18])))
def X9:Zn:=.loop X3
def X8:Zn:=yQ [yI 4 (.mv (.const (.int .i64 (-1))))] (.ret)
def Qo:Zn:=yQ [yC 4 (yK 0)] (.seq (yQ [yM 6 0,yO 7 6,yC 8 (yK 0)] (.block 0 (X9))) X8)
def Zw:AFn:=⟨19,[.tmp 4],Qo,false⟩
def Zj:List Nat:=[]
def ZfL:Zn:=yQ [yI 2 (.box 95 3 (yV 0)),yC 3 yF] (yQ [yH 4 0 2,yL 5 4,yL 6 1,yX 7 .eql (yV 5) (yV 6),yU 3 7] (.ret))
def BV:AFn:=⟨8,[.tmp 3],ZfL,false⟩
def Zhh:List Nat:=[]
def XV:Zn:=yQ [yX 9 .lss (yV 8) (yV 7)] (.seq (.cond (yV 9) (.skip) (.exit 0)) (.seq (.block 1 (yQ [yM 10 8,yU 5 10] (yQ [yM 11 1,yM 12 0,yM 13 5,yE 14 3 12 13,yD 15 3 14,yI 16 (.call (yV 11) [yA 15])] (.cond (yV 16) (yQ [yU 17 5,yU 4 17] (.ret)) (.skip))))) (yR [yX 18 .add (yV 8) (yK 1),yM 8 18])))
def XZ:Zn:=.loop XV
def XY:Zn:=yQ [yI 4 (.mv (.const (.int .i64 (-1))))] (.ret)
def QL:Zn:=yQ [yC 4 (yK 0)] (.seq (yQ [yM 6 0,yO 7 6,yC 8 (yK 0)] (.block 0 (XZ))) XY)
def ZA:AFn:=⟨19,[.tmp 4],QL,false⟩
def Zq:List Nat:=[]
def ZfM:Zn:=yQ [yI 2 (.box 97 3 (yV 0)),yC 3 yF] (yQ [yH 4 0 2,yL 5 4,yL 6 1,yX 7 .eql (yV 5) (yV 6),yU 3 7] (.ret))
def BX:AFn:=⟨8,[.tmp 3],ZfM,false⟩
def Zhi:List Nat:=[]
def Vi:Zn:=yQ [yX 9 .lss (yV 8) (yV 7)] (.seq (.cond (yV 9) (.skip) (.exit 0)) (.seq (.block 1 (yQ [yM 10 8,yU 5 10] (yQ [yM 11 1,yM 12 0,yM 13 5,yE 14 3 12 13,yD 15 3 14,yI 16 (.call (yV 11) [yA 15])] (.cond (yV 16) (yQ [yU 17 5,yU 4 17] (.ret)) (.skip))))) (yR [yX 18 .add (yV 8) (yK 1),yM 8 18])))
def Vs:Zn:=.loop Vi
def Vr:Zn:=yQ [yI 4 (.mv (.const (.int .i64 (-1))))] (.ret)
def QW:Zn:=yQ [yC 4 (yK 0)] (.seq (yQ [yM 6 0,yO 7 6,yC 8 (yK 0)] (.block 0 (Vs))) Vr)
def ZG:AFn:=⟨19,[.tmp 4],QW,false⟩
def Zt:List Nat:=[]
def Kt:Zn:=yQ [yX 9 .lss (yV 8) (yV 7)] (.seq (.cond (yV 9) (.skip) (.exit 0)) (.seq (.block 1 (yQ [yM 10 8,yU 5 10] (yQ [yM 11 1,yM 12 0,yM 13 5,yE 14 1 12 13,yL 15 14,yX 16 .eql (yV 11) (yV 15)] (.cond (yV 16) (yQ [yU 17 5,yU 4 17] (.ret)) (.skip))))) (yR [yX 18 .add (yV 8) (yK 1),yM 8 18])))
def KM:Zn:=.loop Kt
def KL:Zn:=yQ [yI 4 (.mv (.const (.int .i64 (-1))))] (.ret)
def JJ:Zn:=yQ [yC 4 (yK 0)] (.seq (yQ [yM 6 0,yO 7 6,yC 8 (yK 0)] (.block 0 (KM))) KL)
def YG:AFn:=⟨19,[.tmp 4],JJ,false⟩
def Yw:List Nat:=[]
def Zj8:Zn:=yQ [yC 2 yF] (yQ [yM 3 0,yX 4 .geq (yV 3) (yK 1),yM 5 4,yJ 6 (.mv (yV 0)) 5 true,yJ 7 (.bin .leq .prim (yV 6) (yK 3)) 5 true,yI 8 (.pick (yV 5) (yV 7) yF),yU 2 8] (.ret))
def Eg:AFn:=⟨9,[.tmp 2],Zj8,false⟩
def Zkk:List Nat:=[6,7]
def ZkP:Zn:=yQ [yC 4 yF] (.seq (yQ [yM 5 0] (.block 0 (yQ [yX 7 .eql (yV 5) (yK 1),yU 6 7] (.cond (yV 6) (yQ [yM 8 1,yP 9 137 [yA 8],yU 4 9] (.ret)) (yQ [yX 11 .eql (yV 5) (yK 2),yU 10 11] (.cond (yV 10) (yQ [yM 12 1,yX 13 .eql (yV 12) (yK 0),yM 14 13,yJ 15 (.mv (yV 1)) 14 false,yJ 16 (.bin .eql .prim (yV 15) (yK 1)) 14 false,yI 17 (.pick (yV 14) yT (yV 16)),yU 4 17] (.ret)) (yQ [yX 19 .eql (yV 5) (yK 3),yU 18 19] (.cond (yV 18) (yQ [yM 20 1,yP 21 65 [yA 20,yB (yK 0),yB (yK 1000000000)],yU 4 21] (.ret)) (.skip))))))))) (yQ [yC 4 yF] (.ret)))
def Fs:AFn:=⟨22,[.tmp 4],ZkP,false⟩
def Zl9:List Nat:=[15,16]
def ZhI:Zn:=yQ [yC 3 (yK 0)] (yQ [yM 4 0,yL 5 1,yI 6 (.mkfn 30 [(yV 5)] []),yP 7 59 [yA 4,yB (yK 32),yA 6],yU 3 7] (.ret))
def PM:AFn:=⟨8,[.tmp 3],ZhI,false⟩
def Zi0:List Nat:=[]
def ZhJ:Zn:=yQ [yC 2 (yK 0)] (yQ [yL 3 0,yH 4 1 1,yL 5 4,yP 6 27 [yA 3,yA 5],yU 2 6] (.ret))
def PN:AFn:=⟨7,[.tmp 2],ZhJ,false⟩
def Zi1:List Nat:=[]
def ZhK:Zn:=yQ [yC 2 (yK 0)] (yQ [yH 3 2 0,yL 4 3,yI 5 (.mkfn 64 [] [(yV 1),(yV 0)]),yP 6 63 [yA 4,yB (yK 32),yA 5],yU 2 6] (.ret))
def PO:AFn:=⟨7,[.tmp 2],ZhK,false⟩
def Zi2:List Nat:=[]
def ZhL:Zn:=yQ [yC 2 (yK 0)] (yQ [yH 3 3 0,yL 4 3,yI 5 (.mkfn 70 [] [(yV 1)]),yP 6 69 [yA 4,yB (yK 32),yA 5],yU 2 6] (.ret))
def PP:AFn:=⟨7,[.tmp 2],ZhL,false⟩
def Zi3:List Nat:=[]
def ZhM:Zn:=yQ [yC 2 (yK 0)] (yQ [yH 3 4 0,yL 4 3,yI 5 (.mkfn 73 [] [(yV 1)]),yP 6 72 [yA 4,yB (yK 32),yA 5],yU 2 6] (.ret))
def PQ:AFn:=⟨7,[.tmp 2],ZhM,false⟩
def Zi4:List Nat:=[]
def ZhN:Zn:=yQ [yC 2 (yK 0)] (yQ [yL 3 0,yH 4 5 1,yL 5 4,yI 6 (.call (yV 3) [yA 5]),yU 2 6] (.ret))
def PR:AFn:=⟨7,[.tmp 2],ZhN,false⟩
def Zi5:List Nat:=[]
def ZhO:Zn:=yQ [yC 2 (yK 0)] (yQ [yL 3 0,yH 4 6 1,yL 5 4,yI 6 (.call (yV 3) [yA 5]),yU 2 6] (.ret))
def PS:AFn:=⟨7,[.tmp 2],ZhO,false⟩
def Zi6:List Nat:=[]
def ZhP:Zn:=yQ [yC 2 (yK 0)] (yQ [yL 3 0,yH 4 7 1,yL 5 4,yI 6 (.call (yV 3) [yA 5]),yU 2 6] (.ret))
def PT:AFn:=⟨7,[.tmp 2],ZhP,false⟩
def Zi7:List Nat:=[]
def ZhQ:Zn:=yQ [yC 2 (yK 0)] (yQ [yL 3 0,yH 4 8 1,yL 5 4,yI 6 (.call (yV 3) [yA 5]),yU 2 6] (.ret))
def PU:AFn:=⟨7,[.tmp 2],ZhQ,false⟩
def Zi8:List Nat:=[]
def ZfN:Zn:=yQ [yC 2 (yK 0)] (yQ [yL 3 0,yH 4 9 1,yL 5 4,yI 6 (.call (yV 3) [yA 5]),yU 2 6] (.ret))
def BZ:AFn:=⟨7,[.tmp 2],ZfN,false⟩
def Zhj:List Nat:=[]
def ZfO:Zn:=yQ [yC 2 (yK 0)] (yQ [yH 3 10 0,yL 4 3,yI 5 (.mkfn 81 [] [(yV 1)]),yP 6 80 [yA 4,yB (yK 16),yA 5],yU 2 6] (.ret))
def Da:AFn:=⟨7,[.tmp 2],ZfO,false⟩
def Zhk:List Nat:=[]
def ZfP:Zn:=yQ [yC 1 (yK 0)] (yQ [yH 2 11 0,yL 3 2,yI 4 (.mkfn 85 [] [(yV 0)]),yP 5 84 [yA 3,yB (yK 32),yA 4],yU 1 5] (.ret))
def Db:AFn:=⟨6,[.tmp 1],ZfP,false⟩
def Zhl:List Nat:=[]
def ZfQ:Zn:=yQ [yC 1 (yK 0)] (yQ [yD 2 13 0,yP 3 88 [yA 2],yU 1 3] (.ret))
def Dc:AFn:=⟨4,[.tmp 1],ZfQ,false⟩
def Zhm:List Nat:=[]
def NQ:Zn:=yQ [yX 9 .lss (yV 8) (yV 7)] (.seq (.cond (yV 9) (.skip) (.exit 0)) (.seq (.block 1 (yQ [yE 10 1 6 8,yL 11 10,yU 4 11] (yQ [yM 12 4,yI 13 (.call (yV 12) []),yU 5 13] (yQ [yM 14 5,yX 15 .neq (yV 14) (yK 0)] (.cond (yV 15) (yQ [yU 16 5,yU 2 16] (.ret)) (.skip)))))) (yR [yX 17 .add (yV 8) (yK 1),yM 8 17])))
def Ac:Zn:=.loop NQ
def Ab:Zn:=yQ [yC 2 (yK 0)] (.ret)
def Eo:Zn:=yQ [yC 2 (yK 0)] (.seq (yQ [yM 6 0,yO 7 6,yC 8 (yK 0)] (.block 0 (Ac))) Ab)
def Uw:AFn:=⟨18,[.tmp 2],Eo,false⟩
def VX:List Nat:=[]
def ZhS:Zn:=yQ [yC 6 yF] (yQ [yM 7 0,yM 8 1,yX 9 .geq (yV 7) (yV 8),yM 10 9,yJ 11 (.mv (yV 0)) 10 true,yJ 12 (.mv (yV 2)) 10 true,yJ 13 (.bin .leq .prim (yV 11) (yV 12)) 10 true,yI 14 (.pick (yV 10) (yV 13) yF),yU 6 14] (.ret))
def PW:AFn:=⟨15,[.tmp 6],ZhS,false⟩
def ZiA:List Nat:=[11,12,13]
def Zmj:Zn:=yQ [yI 2 (.box 88 6 (yV 0)),yI 3 (.box 88 6 (yV 1)),yC 4 yF] (yQ [yH 5 0 2,yL 6 5,yH 7 0 3,yL 8 7,yX 9 .eql (yV 6) (yV 8),yM 10 9,yJ 11 (.fa 1 (yV 2)) 10 true,yJ 12 (.ldc (yV 11)) 10 true,yJ 13 (.fa 1 (yV 3)) 10 true,yJ 14 (.ldc (yV 13)) 10 true,yJ 15 (.bin .eql .prim (yV 12) (yV 14)) 10 true,yI 16 (.pick (yV 10) (yV 15) yF),yM 17 16,yJ 18 (.fa 2 (yV 2)) 17 true,yJ 19 (.ldc (yV 18)) 17 true,yJ 20 (.fa 2 (yV 3)) 17 true,yJ 21 (.ldc (yV 20)) 17 true,yJ 22 (.bin .eql .prim (yV 19) (yV 21)) 17 true,yI 23 (.pick (yV 17) (yV 22) yF),yM 24 23,yJ 25 (.fa 3 (yV 2)) 24 true,yJ 26 (.ldc (yV 25)) 24 true,yJ 27 (.fa 3 (yV 3)) 24 true,yJ 28 (.ldc (yV 27)) 24 true,yJ 29 (.bin .eql .prim (yV 26) (yV 28)) 24 true,yI 30 (.pick (yV 24) (yV 29) yF),yM 31 30,yJ 32 (.fa 4 (yV 2)) 31 true,yJ 33 (.ldc (yV 32)) 31 true,yJ 34 (.fa 4 (yV 3)) 31 true,yJ 35 (.ldc (yV 34)) 31 true,yJ 36 (.call (yG 146) [yA 33,yA 35]) 31 true,yI 37 (.pick (yV 31) (yV 36) yF),yM 38 37,yJ 39 (.fa 5 (yV 2)) 38 true,yJ 40 (.ldc (yV 39)) 38 true,yJ 41 (.fa 5 (yV 3)) 38 true,yJ 42 (.ldc (yV 41)) 38 true,yJ 43 (.call (yG 146) [yA 40,yA 42]) 38 true,yI 44 (.pick (yV 38) (yV 43) yF),yU 4 44] (.ret))
def ZaU:AFn:=⟨45,[.tmp 4],Zmj,false⟩
def ZmD:List Nat:=[11,12,13,14,15,18,19,20,21,22,25,26,27,28,29,32,33,34,35,36,39,40,41,42,43]
def IQ:Zn:=yQ [yX 14 .lss (yV 13) (yV 12)] (.seq (.cond (yV 14) (.skip) (.exit 0)) (.seq (.block 1 (yQ [yM 15 13,yU 5 15] (.seq (.region true [yM 16 0,yM 17 5,yE 18 1 16 17,yL 19 18,yM 20 1,yM 21 5,yE 22 1 20 21,yL 23 22,yX 24 .neq (yV 19) (yV 23)]) (.cond (yV 24) (yQ [yC 4 yF] (.ret)) (.skip))))) (yR [yX 25 .add (yV 13) (yK 1),yM 13 25])))
def Ov:Zn:=.loop IQ
def Ou:Zn:=yQ [yC 4 yT] (.ret)
def GH:Zn:=yQ [yC 4 yF] (.seq (yQ [yM 6 0,yO 7 6,yM 8 1,yO 9 8,yX 10 .neq (yV 7) (yV 9)] (.cond (yV 10) (yQ [yC 4 yF] (.ret)) (.skip))) (.seq (yQ [yM 11 0,yO 12 11,yC 13 (yK 0)] (.block 0 (Ov))) Ou))
def Qh:AFn:=⟨26,[.tmp 4],GH,false⟩
def Wn:List Nat:=[]
def Zq1:Zn:=yQ [yC 2 yF] (yQ [yM 3 0,yX 4 .geq (yV 3) (.const (.int .i64 (-1000000000000))),yM 5 4,yJ 6 (.mv (yV 0)) 5 true,yJ 7 (.bin .leq .prim (yV 6) (yK 1000000000000)) 5 true,yI 8 (.pick (yV 5) (yV 7) yF),yU 2 8] (.ret))
def Zj0:AFn:=⟨9,[.tmp 2],Zq1,false⟩
def Zre:List Nat:=[6,7]
def Mr:Zn:=yQ [yX 17 .lss (yV 16) (yV 15)] (.seq (.cond (yV 17) (.skip) (.exit 0)) (.seq (.block 1 (yQ [yE 18 1 14 16,yL 19 18,yU 8 19] (yQ [yM 20 2,yM 21 8,yI 22 (.call (yV 20) [yA 21]),yU 9 22] (yQ [yM 23 9,yX 24 .neq (yV 23) (yK 0)] (.cond (yV 24) (yQ [yU 25 9,yU 6 25] (.ret)) (.skip)))))) (yR [yX 26 .add (yV 16) (yK 1),yM 16 26])))
def MM:Zn:=.loop Mr
def ML:Zn:=yQ [yC 6 (yK 0)] (.ret)
def Tg:Zn:=yQ [yC 6 (yK 0)] (.seq (yQ [yM 10 0,yO 11 10,yM 12 1,yX 13 .gtr (yV 11) (yV 12)] (.cond (yV 13) (yQ [yC 6 (yK 6)] (.ret)) (.skip))) (.seq (yQ [yM 14 0,yO 15 14,yC 16 (yK 0)] (.block 0 (MM))) ML))
def Xa:AFn:=⟨27,[.tmp 6],Tg,false⟩
def Qq:List Nat:=[]
def ZeA:Zn:=yQ [yI 3 (.box 92 17 (yV 0)),yC 4 (yK 0)] (.seq (yQ [yL 7 1,yH 8 0 3,yL 9 8,yP 10 30 [yA 7,yA 9],yU 5 10] (yQ [yM 11 5,yX 12 .neq (yV 11) (yK 0)] (.cond (yV 12) (yQ [yU 13 5,yU 4 13] (.ret)) (.skip)))) (.seq (yQ [yH 14 1 3,yL 15 14,yP 16 65 [yA 15,yB (yK 0),yB (yK 1000)],yI 17 (.un .not (yV 16))] (.cond (yV 17) (yQ [yC 4 (yK 2)] (.ret)) (.skip))) (.seq (yQ [yD 18 17 3,yP 19 66 [yA 18],yU 6 19] (yQ [yM 20 6,yX 21 .neq (yV 20) (yK 0)] (.cond (yV 21) (yQ [yU 22 6,yU 4 22] (.ret)) (.skip)))) (yQ [yD 23 13 2,yH 24 4 3,yD 25 13 24,yP 26 67 [yA 23,yA 25],yU 4 26] (.ret)))))
def RP:AFn:=⟨27,[.tmp 4],ZeA,false⟩
def Zfo:List Nat:=[]
def Kr:Zn:=yQ [yX 17 .lss (yV 16) (yV 15)] (.seq (.cond (yV 17) (.skip) (.exit 0)) (.seq (.block 1 (yQ [yE 18 17 14 16,yD 19 17 18,yI 8 (.mk 92 [(.str []),(.int .i64 0),(.own 2 []),(.int .i64 0),(.str []),(.int .i64 0),(.int .i64 0),(.int .i64 0),(.int .i64 0),(.own 1 []),(.own 1 []),(.int .i64 0),(.int .i64 0),(.int .i64 0),(.int .i64 0),(.own 1 []),(.own 1 [])]),yN (.st 17 (yV 8) (yV 19))] (yQ [yM 20 2,yD 21 17 8,yI 22 (.call (yV 20) [yA 21]),yU 9 22] (yQ [yM 23 9,yX 24 .neq (yV 23) (yK 0)] (.cond (yV 24) (yQ [yU 25 9,yU 6 25] (.ret)) (.skip)))))) (yR [yX 26 .add (yV 16) (yK 1),yM 16 26])))
def KJ:Zn:=.loop Kr
def KI:Zn:=yQ [yC 6 (yK 0)] (.ret)
def JI:Zn:=yQ [yC 6 (yK 0)] (.seq (yQ [yM 10 0,yO 11 10,yM 12 1,yX 13 .gtr (yV 11) (yV 12)] (.cond (yV 13) (yQ [yC 6 (yK 6)] (.ret)) (.skip))) (.seq (yQ [yM 14 0,yO 15 14,yC 16 (yK 0)] (.block 0 (KJ))) KI))
def YF:AFn:=⟨27,[.tmp 6],JI,false⟩
def Yv:List Nat:=[]
def ZeB:Zn:=yQ [yI 2 (.box 95 3 (yV 0)),yC 3 (yK 0)] (.seq (yQ [yL 5 1,yH 6 0 2,yL 7 6,yP 8 30 [yA 5,yA 7],yU 4 8] (yQ [yM 9 4,yX 10 .neq (yV 9) (yK 0)] (.cond (yV 10) (yQ [yU 11 4,yU 3 11] (.ret)) (.skip)))) (.seq (.block 0 (yQ [yH 13 1 2,yL 14 13,yP 15 65 [yA 14,yB (yK 1),yB (yK 1000)],yI 16 (.un .not (yV 15)),yU 12 16] (.cond (yV 12) (yQ [yC 3 (yK 2)] (.ret)) (yQ [yH 18 2 2,yL 19 18,yX 20 .lss (yV 19) (yK 1),yM 21 20,yJ 22 (.fa 2 (yV 2)) 21 false,yJ 23 (.ldc (yV 22)) 21 false,yJ 24 (.bin .gtr .prim (yV 23) (yK 3)) 21 false,yI 25 (.pick (yV 21) yT (yV 24)),yU 17 25] (.cond (yV 17) (yQ [yC 3 (yK 1)] (.ret)) (.skip)))))) (yQ [yC 3 (yK 0)] (.ret))))
def RQ:AFn:=⟨26,[.tmp 3],ZeB,false⟩
def Zfp:List Nat:=[22,23,24]
def GG:Zn:=yQ [yX 17 .lss (yV 16) (yV 15)] (.seq (.cond (yV 17) (.skip) (.exit 0)) (.seq (.block 1 (yQ [yE 18 3 14 16,yD 19 3 18,yI 8 (.mk 95 [(.str []),(.int .i64 0),(.int .i64 0)]),yN (.st 3 (yV 8) (yV 19))] (yQ [yM 20 2,yD 21 3 8,yI 22 (.call (yV 20) [yA 21]),yU 9 22] (yQ [yM 23 9,yX 24 .neq (yV 23) (yK 0)] (.cond (yV 24) (yQ [yU 25 9,yU 6 25] (.ret)) (.skip)))))) (yR [yX 26 .add (yV 16) (yK 1),yM 16 26])))
def Hm:Zn:=.loop GG
def Hl:Zn:=yQ [yC 6 (yK 0)] (.ret)
def UM:Zn:=yQ [yC 6 (yK 0)] (.seq (yQ [yM 10 0,yO 11 10,yM 12 1,yX 13 .gtr (yV 11) (yV 12)] (.cond (yV 13) (yQ [yC 6 (yK 6)] (.ret)) (.skip))) (.seq (yQ [yM 14 0,yO 15 14,yC 16 (yK 0)] (.block 0 (Hm))) Hl))
def WF:AFn:=⟨27,[.tmp 6],UM,false⟩
def Y8:List Nat:=[]
def ZeC:Zn:=yQ [yI 2 (.box 97 3 (yV 0)),yC 3 (yK 0)] (.seq (yQ [yL 5 1,yH 6 0 2,yL 7 6,yP 8 30 [yA 5,yA 7],yU 4 8] (yQ [yM 9 4,yX 10 .neq (yV 9) (yK 0)] (.cond (yV 10) (yQ [yU 11 4,yU 3 11] (.ret)) (.skip)))) (.seq (yQ [yH 12 1 2,yL 13 12,yP 14 65 [yA 13,yB (yK 1),yB (yK 1000)],yI 15 (.un .not (yV 14)),yM 16 15,yJ 17 (.fa 2 (yV 2)) 16 false,yJ 18 (.ldc (yV 17)) 16 false,yJ 19 (.call (yG 65) [yA 18,yB (yK 1),yB (yK 1000)]) 16 false,yJ 20 (.un .not (yV 19)) 16 false,yI 21 (.pick (yV 16) yT (yV 20))] (.cond (yV 21) (yQ [yC 3 (yK 2)] (.ret)) (.skip))) (yQ [yC 3 (yK 0)] (.ret))))
def RS:AFn:=⟨22,[.tmp 3],ZeC,false⟩
def Zfq:List Nat:=[17,18,19,20]
def Hf:Zn:=yQ [yX 17 .lss (yV 16) (yV 15)] (.seq (.cond (yV 17) (.skip) (.exit 0)) (.seq (.block 1 (yQ [yE 18 3 14 16,yD 19 3 18,yI 8 (.mk 97 [(.str []),(.int .i64 0),(.int .i64 0)]),yN (.st 3 (yV 8) (yV 19))] (yQ [yM 20 2,yD 21 3 8,yI 22 (.call (yV 20) [yA 21]),yU 9 22] (yQ [yM 23 9,yX 24 .neq (yV 23) (yK 0)] (.cond (yV 24) (yQ [yU 25 9,yU 6 25] (.ret)) (.skip)))))) (yR [yX 26 .add (yV 16) (yK 1),yM 16 26])))
def Ii:Zn:=.loop Hf
def Ih:Zn:=yQ [yC 6 (yK 0)] (.ret)
def Ku:Zn:=yQ [yC 6 (yK 0)] (.seq (yQ [yM 10 0,yO 11 10,yM 12 1,yX 13 .gtr (yV 11) (yV 12)] (.cond (yV 13) (yQ [yC 6 (yK 6)] (.ret)) (.skip))) (.seq (yQ [yM 14 0,yO 15 14,yC 16 (yK 0)] (.block 0 (Ii))) Ih))
def WP:AFn:=⟨27,[.tmp 6],Ku,false⟩
def YD:List Nat:=[]
def Zdl:Zn:=yQ [yI 2 (.box 79 4 (yV 0)),yC 3 (yK 0)] (.seq (yQ [yL 5 1,yH 6 0 2,yL 7 6,yP 8 30 [yA 5,yA 7],yU 4 8] (yQ [yM 9 4,yX 10 .neq (yV 9) (yK 0)] (.cond (yV 10) (yQ [yU 11 4,yU 3 11] (.ret)) (.skip)))) (yQ [yD 12 4 2,yP 13 82 [yA 12],yU 3 13] (.ret)))
def LC:AFn:=⟨14,[.tmp 3],Zdl,false⟩
def Zeq:List Nat:=[]
def Ij:Zn:=yQ [yX 17 .lss (yV 16) (yV 15)] (.seq (.cond (yV 17) (.skip) (.exit 0)) (.seq (.block 1 (yQ [yE 18 4 14 16,yD 19 4 18,yI 8 (.mk 79 [(.str []),(.own 2 []),(.own 2 []),(.own 21 [])]),yN (.st 4 (yV 8) (yV 19))] (yQ [yM 20 2,yD 21 4 8,yI 22 (.call (yV 20) [yA 21]),yU 9 22] (yQ [yM 23 9,yX 24 .neq (yV 23) (yK 0)] (.cond (yV 24) (yQ [yU 25 9,yU 6 25] (.ret)) (.skip)))))) (yR [yX 26 .add (yV 16) (yK 1),yM 16 26])))
def IP:Zn:=.loop Ij
def IM:Zn:=yQ [yC 6 (yK 0)] (.ret)
def Ga:Zn:=yQ [yC 6 (yK 0)] (.seq (yQ [yM 10 0,yO 11 10,yM 12 1,yX 13 .gtr (yV 11) (yV 12)] (.cond (yV 13) (yQ [yC 6 (yK 6)] (.ret)) (.skip))) (.seq (yQ [yM 14 0,yO 15 14,yC 16 (yK 0)] (.block 0 (IP))) IM))
def WZ:AFn:=⟨27,[.tmp 6],Ga,false⟩
def YK:List Nat:=[]
def Zdm:Zn:=yQ [yI 2 (.box 105 5 (yV 0)),yC 3 (yK 0)] (yQ [yD 4 13 1,yD 5 5 2,yP 6 86 [yA 4,yA 5],yU 3 6] (.ret))
def LF:AFn:=⟨7,[.tmp 3],Zdm,false⟩
def Zer:List Nat:=[]
def Oq:Zn:=yQ [yX 17 .lss (yV 16) (yV 15)] (.seq (.cond (yV 17) (.skip) (.exit 0)) (.seq (.block 1 (yQ [yE 18 5 14 16,yD 19 5 18,yI 8 (.mk 105 [(.str []),(.own 1 []),(.int .i64 0),(.int .i64 0),(.int .i64 0)]),yN (.st 5 (yV 8) (yV 19))] (yQ [yM 20 2,yD 21 5 8,yI 22 (.call (yV 20) [yA 21]),yU 9 22] (yQ [yM 23 9,yX 24 .neq (yV 23) (yK 0)] (.cond (yV 24) (yQ [yU 25 9,yU 6 25] (.ret)) (.skip)))))) (yR [yX 26 .add (yV 16) (yK 1),yM 16 26])))
def OZ:Zn:=.loop Oq
def OY:Zn:=yQ [yC 6 (yK 0)] (.ret)
def H6:Zn:=yQ [yC 6 (yK 0)] (.seq (yQ [yM 10 0,yO 11 10,yM 12 1,yX 13 .gtr (yV 11) (yV 12)] (.cond (yV 13) (yQ [yC 6 (yK 6)] (.ret)) (.skip))) (.seq (yQ [yM 14 0,yO 15 14,yC 16 (yK 0)] (.block 0 (OZ))) OY))
def Qr:AFn:=⟨27,[.tmp 6],H6,false⟩
def WH:List Nat:=[]
def ZkQ:Zn:=yQ [yI 1 (.box 42 13 (yV 0)),yC 2 (yK 0)] (yQ [yI 4 (.mkmap),yI 3 (.mk 60 [.nilm]),yN (.stt (yV 3) 4)] (yQ [yH 5 12 1,yL 6 5,yI 7 (.mkfn 133 [] [(yV 3),(yV 1)]),yP 8 132 [yA 6,yB (yK 32),yA 7],yU 2 8] (.ret)))
def Fu:AFn:=⟨9,[.tmp 2],ZkQ,false⟩
def ZlA:List Nat:=[]
def Dj:Zn:=.cond (yV 30) (yQ [yC 2 (yK 2)] (.ret)) (.seq (.region true [yM 43 3,yX 44 .gtr (yV 43) (yK 0),yM 45 44,yJ 46 (.fa 0 (yV 4)) 45 true,yJ 47 (.ldc (yV 46)) 45 true,yJ 48 (.fa 2 (yV 1)) 45 true,yJ 49 (.ldc (yV 48)) 45 true,yJ 50 (.mv (yV 3)) 45 true,yJ 51 (.bin .sub .prim (yV 50) (yK 1)) 45 true,yJ 52 (.ia (.slice 2) (yV 49) (yV 51)) 45 true,yJ 53 (.fa 0 (yV 52)) 45 true,yJ 54 (.ldc (yV 53)) 45 true,yJ 55 (.bin .leq .prim (yV 47) (yV 54)) 45 true,yI 56 (.pick (yV 45) (yV 55) yF),yM 42 56]) (.cond (yV 42) (yQ [yC 2 (yK 12)] (.ret)) (.skip)))
def Dk:Zn:=yR [yX 57 .add (yV 25) (yK 1),yM 25 57]
def Gu:Zn:=yQ [yX 26 .lss (yV 25) (yV 24)] (.seq (.cond (yV 26) (.skip) (.exit 1)) (.seq (.block 2 (yQ [yM 27 25,yE 28 2 23 25,yD 29 2 28,yI 4 (.mk 159 [(.int .i64 0),(.int .i64 0)]),yU 3 27,yN (.st 2 (yV 4) (yV 29))] (.block 3 (.seq (yQ [yH 31 0 4,yL 32 31,yH 33 3 1,yL 34 33,yX 35 .sub (yV 34) (yK 1),yP 36 65 [yA 32,yB (yK 0),yA 35],yI 37 (.un .not (yV 36)),yU 30 37] (.cond (yV 30) (.skip) (yR [yH 38 1 4,yL 39 38,yP 40 65 [yA 39,yB (yK 0),yB (yK 1000)],yI 41 (.un .not (yV 40)),yU 30 41]))) Dj)))) Dk))
def Dm:Zn:=.loop Gu
def Dl:Zn:=yQ [yC 2 (yK 0)] (.ret)
def RU:Zn:=yQ [yI 1 (.box 92 17 (yV 0)),yC 2 (yK 0)] (.seq (yQ [yH 5 2 1,yL 6 5,yO 7 6,yX 8 .eql (yV 7) (yK 0)] (.cond (yV 8) (.seq (yQ [yH 9 3 1,yL 10 9,yX 11 .neq (yV 10) (yK 0)] (.cond (yV 11) (yQ [yC 2 (yK 1)] (.ret)) (.skip))) (yQ [yC 2 (yK 0)] (.ret))) (.skip))) (.seq (.block 0 (yQ [yH 13 2 1,yL 14 13,yO 15 14,yX 16 .gtr (yV 15) (yK 20),yU 12 16] (.cond (yV 12) (yQ [yC 2 (yK 6)] (.ret)) (yQ [yH 18 3 1,yL 19 18,yP 20 65 [yA 19,yB (yK 1),yB (yK 1000000000)],yI 21 (.un .not (yV 20)),yU 17 21] (.cond (yV 17) (yQ [yC 2 (yK 2)] (.ret)) (.skip)))))) (.seq (yQ [yH 22 2 1,yL 23 22,yO 24 23,yC 25 (yK 0)] (.block 1 (Dm))) Dl)))
def Xc:AFn:=⟨58,[.tmp 2],RU,false⟩
def WN:List Nat:=[46,47,48,49,50,51,52,53,54,55]
def Ze8:Zn:=yQ [yI 2 (.box 42 13 (yV 0)),yI 3 (.box 90 13 (yV 1)),yC 4 (yK 0)] (.seq (.block 0 (yQ [yH 7 0 3,yL 8 7,yX 9 .eql (yV 8) (yS []),yM 10 9,yJ 11 (.fa 1 (yV 3)) 10 true,yJ 12 (.lda 6 (yV 11)) 10 true,yJ 13 (.build [(.int .i64 0),(.int .i64 0),(.int .i64 0),(.int .i64 0),(.own 1 []),(.own 1 [])] []) 10 true,yJ 14 (.call (yG 127) [yA 12,yA 13]) 10 true,yJ 15 (.un .not (yV 14)) 10 true,yJ 16 (.mv (yV 15)) 10 true,yJ 17 (.fa 7 (yV 3)) 16 false,yJ 18 (.lda 6 (yV 17)) 16 false,yJ 19 (.build [(.int .i64 0),(.int .i64 0),(.int .i64 0),(.int .i64 0),(.own 1 []),(.own 1 [])] []) 16 false,yJ 20 (.call (yG 127) [yA 18,yA 19]) 16 false,yJ 21 (.un .not (yV 20)) 16 false,yJ 22 (.pick (yV 16) yT (yV 21)) 10 true,yI 23 (.pick (yV 10) (yV 22) yF),yU 6 23] (.cond (yV 6) (yQ [yC 4 (yK 1)] (.ret)) (yQ [yH 25 0 3,yL 26 25,yX 27 .eql (yV 26) (yS []),yU 24 27] (.cond (yV 24) (yQ [yC 4 (yK 0)] (.ret)) (yQ [yH 29 6 2,yL 30 29,yH 31 0 3,yL 32 31,yP 33 128 [yA 30,yA 32],yI 34 (.un .not (yV 33)),yU 28 34] (.cond (yV 28) (yQ [yC 4 (yK 5)] (.ret)) (.skip)))))))) (.seq (yQ [yH 35 1 3,yD 36 6 35,yP 37 129 [yA 36],yU 5 37] (yQ [yM 38 5,yX 39 .neq (yV 38) (yK 0)] (.cond (yV 39) (yQ [yU 40 5,yU 4 40] (.ret)) (.skip)))) (yQ [yH 41 7 3,yD 42 6 41,yP 43 129 [yA 42],yU 4 43] (.ret))))
def RN:AFn:=⟨44,[.tmp 4],Ze8,false⟩
def Zfm:List Nat:=[11,12,13,14,15,16,17,18,19,20,21,22]
def Di:Zn:=yQ [yX 30 .lss (yV 29) (yV 28)] (.seq (.cond (yV 30) (.skip) (.exit 0)) (.seq (.block 1 (yQ [yE 31 2 27 29,yD 32 2 31,yI 5 (.mk 103 [(.str []),(.int .i64 0)]),yN (.st 2 (yV 5) (yV 32))] (.seq (yQ [yM 33 3,yH 34 0 5,yL 35 34,yP 36 30 [yA 33,yA 35],yU 6 36] (yQ [yM 37 6,yX 38 .neq (yV 37) (yK 0)] (.cond (yV 38) (yQ [yU 39 6,yU 2 39] (.ret)) (.skip)))) (yQ [yH 40 1 5,yL 41 40,yP 42 125 [yA 41],yI 43 (.un .not (yV 42))] (.cond (yV 43) (yQ [yC 2 (yK 1)] (.ret)) (.skip)))))) (yR [yX 44 .add (yV 29) (yK 1),yM 29 44])))
def Pt:Zn:=.loop Di
def Ps:Zn:=yQ [yH 45 3 1,yL 46 45,yP 47 131 [yA 46],yU 2 47] (.ret)
def Dh:Zn:=yQ [yI 1 (.box 79 4 (yV 0)),yC 2 (yK 0)] (.seq (yQ [yH 7 1 1,yL 8 7,yO 9 8,yX 10 .gtr (yV 9) (yK 6),yM 11 10,yJ 12 (.fa 1 (yV 1)) 11 false,yJ 13 (.ldc (yV 12)) 11 false,yJ 14 (.len .slice (yV 13)) 11 false,yJ 15 (.fa 2 (yV 1)) 11 false,yJ 16 (.ldc (yV 15)) 11 false,yJ 17 (.len .slice (yV 16)) 11 false,yJ 18 (.bin .add .prim (yV 14) (yV 17)) 11 false,yJ 19 (.bin .gtr .prim (yV 18) (yK 16)) 11 false,yI 20 (.pick (yV 11) yT (yV 19))] (.cond (yV 20) (yQ [yC 2 (yK 6)] (.ret)) (.skip))) (yQ [yI 21 (.mkmap),yU 3 21] (.seq (yQ [yH 22 1 1,yL 23 22,yH 24 2 1,yL 25 24,yI 26 (.lit 76 1 [(yV 23),(yV 25)]),yP 27 130 [yA 26],yO 28 27,yC 29 (yK 0)] (.block 0 (Pt))) Ps)))
def VP:AFn:=⟨48,[.tmp 2],Dh,false⟩
def Ve:List Nat:=[12,13,14,15,16,17,18,19]
def NR:Zn:=yQ [yX 31 .lss (yV 30) (yV 29)] (.seq (.cond (yV 31) (.skip) (.exit 0)) (.seq (.block 1 (yQ [yM 32 30,yE 33 1 28 30,yL 34 33,yU 7 32,yU 8 34] (yQ [yM 35 6,yM 36 7,yE 37 2 35 36,yH 38 1 37,yL 39 38,yM 40 8,yP 41 126 [yA 39,yA 40],yI 42 (.un .not (yV 41))] (.cond (yV 42) (yQ [yC 4 (yK 2)] (.ret)) (.skip))))) (yR [yX 43 .add (yV 30) (yK 1),yM 30 43])))
def Ae:Zn:=.loop NR
def Ad:Zn:=.seq (yQ [yH 44 2 3,yL 45 44,yP 46 65 [yA 45,yB (yK 0),yB (yK 1000000000)],yI 47 (.un .not (yV 46)),yM 48 47,yJ 49 (.fa 3 (yV 3)) 48 false,yJ 50 (.ldc (yV 49)) 48 false,yJ 51 (.call (yG 65) [yA 50,yB (yK 0),yB (yK 1000000000)]) 48 false,yJ 52 (.un .not (yV 51)) 48 false,yI 53 (.pick (yV 48) yT (yV 52)),yM 54 53,yJ 55 (.fa 4 (yV 3)) 54 false,yJ 56 (.ldc (yV 55)) 54 false,yJ 57 (.call (yG 65) [yA 56,yB (yK 0),yB (yK 1000000000)]) 54 false,yJ 58 (.un .not (yV 57)) 54 false,yI 59 (.pick (yV 54) yT (yV 58)),yM 60 59,yJ 61 (.fa 3 (yV 3)) 60 false,yJ 62 (.ldc (yV 61)) 60 false,yJ 63 (.bin .eql .prim (yV 62) (yK 0)) 60 false,yJ 64 (.mv (yV 63)) 60 false,yJ 65 (.fa 4 (yV 3)) 64 true,yJ 66 (.ldc (yV 65)) 64 true,yJ 67 (.bin .neq .prim (yV 66) (yK 0)) 64 true,yJ 68 (.pick (yV 64) (yV 67) yF) 60 false,yI 69 (.pick (yV 60) yT (yV 68))] (.cond (yV 69) (yQ [yC 4 (yK 2)] (.ret)) (.skip))) (yQ [yC 4 (yK 0)] (.ret))
def Ep:Zn:=yQ [yI 2 (.box 42 13 (yV 0)),yI 3 (.box 105 5 (yV 1)),yC 4 (yK 0)] (yQ [yD 9 13 2,yH 10 0 3,yL 11 10,yP 12 16 [yA 9,yA 11],yU 5 12] (.seq (yQ [yM 13 5,yX 14 .lss (yV 13) (yK 0)] (.cond (yV 14) (yQ [yC 4 (yK 5)] (.ret)) (.skip))) (yQ [yH 15 10 2,yL 16 15,yM 17 5,yE 18 4 16 17,yH 19 1 18,yL 20 19,yU 6 20] (.seq (yQ [yH 21 1 3,yL 22 21,yO 23 22,yM 24 6,yO 25 24,yX 26 .neq (yV 23) (yV 25)] (.cond (yV 26) (yQ [yC 4 (yK 8)] (.ret)) (.skip))) (.seq (yQ [yH 27 1 3,yL 28 27,yO 29 28,yC 30 (yK 0)] (.block 0 (Ae))) Ad)))))
def Ux:AFn:=⟨70,[.tmp 4],Ep,false⟩
def VY:List Nat:=[49,50,51,52,55,56,57,58,61,62,63,64,65,66,67,68]
def ZhH:Zn:=yQ [yI 3 (.box 57 3 (yV 0)),yC 4 (yK 0)] (.seq (yQ [yL 7 1,yH 8 0 3,yL 9 8,yP 10 30 [yA 7,yA 9],yU 5 10] (yQ [yM 11 5,yX 12 .neq (yV 11) (yK 0)] (.cond (yV 12) (yQ [yU 13 5,yU 4 13] (.ret)) (.skip)))) (.seq (yQ [yH 14 1 3,yL 15 14,yO 16 15,yX 17 .eql (yV 16) (yK 0)] (.cond (yV 17) (yQ [yC 4 (yK 7)] (.ret)) (.skip))) (.seq (yQ [yH 18 1 3,yL 19 18,yI 20 (.mkfn 135 [] [(yV 2)]),yP 21 134 [yA 19,yB (yK 8),yA 20],yU 6 21] (yQ [yM 22 6,yX 23 .neq (yV 22) (yK 0)] (.cond (yV 23) (yQ [yU 24 6,yU 4 24] (.ret)) (.skip)))) (.seq (yQ [yH 25 2 3,yL 26 25,yP 27 137 [yA 26],yI 28 (.un .not (yV 27))] (.cond (yV 28) (yQ [yC 4 (yK 2)] (.ret)) (.skip))) (yQ [yC 4 (yK 0)] (.ret))))))
def PL:AFn:=⟨29,[.tmp 4],ZhH,false⟩
def Ziz:List Nat:=[]
def Tq:Zn:=yQ [yX 17 .lss (yV 16) (yV 15)] (.seq (.cond (yV 17) (.skip) (.exit 0)) (.seq (.block 1 (yQ [yE 18 3 14 16,yD 19 3 18,yI 8 (.mk 57 [(.str []),(.own 3 []),(.int .i64 0)]),yN (.st 3 (yV 8) (yV 19))] (yQ [yM 20 2,yD 21 3 8,yI 22 (.call (yV 20) [yA 21]),yU 9 22] (yQ [yM 23 9,yX 24 .neq (yV 23) (yK 0)] (.cond (yV 24) (yQ [yU 25 9,yU 6 25] (.ret)) (.skip)))))) (yR [yX 26 .add (yV 16) (yK 1),yM 16 26])))
def Mq:Zn:=.loop Tq
def Mo:Zn:=yQ [yC 6 (yK 0)] (.ret)
def Oo:Zn:=yQ [yC 6 (yK 0)] (.seq (yQ [yM 10 0,yO 11 10,yM 12 1,yX 13 .gtr (yV 11) (yV 12)] (.cond (yV 13) (yQ [yC 6 (yK 6)] (.ret)) (.skip))) (.seq (yQ [yM 14 0,yO 15 14,yC 16 (yK 0)] (.block 0 (Mq))) Mo))
def QK:AFn:=⟨27,[.tmp 6],Oo,false⟩
def Qe:List Nat:=[]
def F9:Zn:=yQ [yX 39 .lss (yV 38) (yV 37)] (.seq (.cond (yV 39) (.skip) (.exit 0)) (.seq (.block 1 (yQ [yM 40 38,yE 41 4 36 38,yD 42 4 41,yI 6 (.mk 179 [(.int .i64 0),(.str []),(.int .i64 0),(.own 4 [])]),yU 5 40,yN (.st 4 (yV 6) (yV 42))] (.seq (.region true [yD 43 4 6,yH 44 3 3,yL 45 44,yM 46 5,yE 47 4 45 46,yD 48 4 47,yP 49 177 [yA 43,yA 48],yI 50 (.un .not (yV 49))]) (.cond (yV 50) (yQ [yC 4 yF] (.ret)) (.skip))))) (yR [yX 51 .add (yV 38) (yK 1),yM 38 51])))
def Za5:Zn:=.loop F9
def Za4:Zn:=yQ [yC 4 yT] (.ret)
def Zbc:Zn:=yQ [yI 2 (.box 179 4 (yV 0)),yI 3 (.box 179 4 (yV 1)),yC 4 yF] (.seq (yQ [yH 7 0 2,yL 8 7,yH 9 0 3,yL 10 9,yX 11 .neq (yV 8) (yV 10),yM 12 11,yJ 13 (.fa 1 (yV 2)) 12 false,yJ 14 (.ldc (yV 13)) 12 false,yJ 15 (.fa 1 (yV 3)) 12 false,yJ 16 (.ldc (yV 15)) 12 false,yJ 17 (.bin .neq .prim (yV 14) (yV 16)) 12 false,yI 18 (.pick (yV 12) yT (yV 17)),yM 19 18,yJ 20 (.fa 2 (yV 2)) 19 false,yJ 21 (.ldc (yV 20)) 19 false,yJ 22 (.fa 2 (yV 3)) 19 false,yJ 23 (.ldc (yV 22)) 19 false,yJ 24 (.bin .neq .prim (yV 21) (yV 23)) 19 false,yI 25 (.pick (yV 19) yT (yV 24)),yM 26 25,yJ 27 (.fa 3 (yV 2)) 26 false,yJ 28 (.ldc (yV 27)) 26 false,yJ 29 (.len .slice (yV 28)) 26 false,yJ 30 (.fa 3 (yV 3)) 26 false,yJ 31 (.ldc (yV 30)) 26 false,yJ 32 (.len .slice (yV 31)) 26 false,yJ 33 (.bin .neq .prim (yV 29) (yV 32)) 26 false,yI 34 (.pick (yV 26) yT (yV 33))] (.cond (yV 34) (yQ [yC 4 yF] (.ret)) (.skip))) (.seq (yQ [yH 35 3 2,yL 36 35,yO 37 36,yC 38 (yK 0)] (.block 0 (Za5))) Za4))
def Hz:AFn:=⟨52,[.tmp 4],Zbc,false⟩
def UZ:List Nat:=[13,14,15,16,17,20,21,22,23,24,27,28,29,30,31,32,33]
def MN:Zn:=yQ [yC 4 yF] (yQ [yM 5 0,yM 6 1,yP 7 107 [yA 5,yA 6],yX 8 .geq (yV 7) (yK 0),yU 4 8] (.ret))
def VQ:AFn:=⟨9,[.tmp 4],MN,false⟩
def Lf:List Nat:=[]
def ZkK:Zn:=yQ [yI 1 (.box 88 6 (yV 0)),yC 2 (yK 0)] (.seq (yQ [yD 5 6 1,yP 6 151 [yA 5],yI 7 (.un .not (yV 6))] (.cond (yV 7) (yQ [yC 2 (yK 1)] (.ret)) (.skip))) (yQ [yC 3 yF] (.seq (yQ [yH 8 0 1,yL 9 8] (.block 0 (yQ [yX 11 .eql (yV 9) (yK 1),yU 10 11] (.cond (yV 10) (yR [yH 12 1 1,yL 13 12,yI 14 (.lit 3 1 [(yV 13)]),yP 15 152 [yB (yK 0),yB (yK 1000000000),yA 14],yU 3 15]) (yQ [yX 17 .eql (yV 9) (yK 2),yU 16 17] (.cond (yV 16) (yR [yH 18 1 1,yL 19 18,yH 20 2 1,yL 21 20,yI 22 (.lit 3 1 [(yV 19),(yV 21)]),yP 23 152 [yB (yK 0),yB (yK 1000000000),yA 22],yM 24 23,yJ 25 (.fa 1 (yV 1)) 24 true,yJ 26 (.ldc (yV 25)) 24 true,yJ 27 (.fa 2 (yV 1)) 24 true,yJ 28 (.ldc (yV 27)) 24 true,yJ 29 (.bin .leq .prim (yV 26) (yV 28)) 24 true,yI 30 (.pick (yV 24) (yV 29) yF),yU 3 30]) (yQ [yX 32 .eql (yV 9) (yK 4),yU 31 32] (.cond (yV 31) (yR [yH 33 3 1,yL 34 33,yI 35 (.lit 3 1 [(yV 34)]),yP 36 152 [yB (yK 1),yB (yK 20),yA 35],yM 37 36,yJ 38 (.fa 1 (yV 1)) 37 true,yJ 39 (.ldc (yV 38)) 37 true,yJ 40 (.fa 2 (yV 1)) 37 true,yJ 41 (.ldc (yV 40)) 37 true,yJ 42 (.lit 3 1 [(yV 39),(yV 41)]) 37 true,yJ 43 (.call (yG 152) [yB (yK 0),yB (yK 1000000),yA 42]) 37 true,yI 44 (.pick (yV 37) (yV 43) yF),yM 45 44,yJ 46 (.fa 1 (yV 1)) 45 true,yJ 47 (.ldc (yV 46)) 45 true,yJ 48 (.fa 2 (yV 1)) 45 true,yJ 49 (.ldc (yV 48)) 45 true,yJ 50 (.bin .leq .prim (yV 47) (yV 49)) 45 true,yI 51 (.pick (yV 45) (yV 50) yF),yU 3 51]) (yQ [yX 53 .eql (yV 9) (yK 5),yU 52 53] (.cond (yV 52) (yR [yH 54 1 1,yL 55 54,yH 56 2 1,yL 57 56,yI 58 (.lit 3 1 [(yV 55),(yV 57)]),yP 59 152 [yB (yK 1),yB (yK 1000),yA 58],yU 3 59]) (yQ [yX 61 .eql (yV 9) (yK 3),yU 60 61] (.cond (yV 60) (.seq (yQ [yH 62 4 1,yL 63 62,yO 64 63,yU 4 64] (.block 1 (yQ [yM 66 4,yH 67 5 1,yL 68 67,yO 69 68,yX 70 .neq (yV 66) (yV 69),yU 65 70] (.cond (yV 65) (yQ [yC 2 (yK 8)] (.ret)) (yQ [yM 72 4,yX 73 .eql (yV 72) (yK 0),yU 71 73] (.cond (yV 71) (yQ [yC 2 (yK 7)] (.ret)) (yQ [yM 75 4,yX 76 .gtr (yV 75) (yK 20),yU 74 76] (.cond (yV 74) (yQ [yC 2 (yK 6)] (.ret)) (.skip))))))))) (yR [yH 77 4 1,yL 78 77,yP 79 152 [yB (yK 0),yB (yK 1000000000),yA 78],yM 80 79,yJ 81 (.fa 5 (yV 1)) 80 true,yJ 82 (.ldc (yV 81)) 80 true,yJ 83 (.call (yG 152) [yB (yK 1),yB (yK 1000),yA 82]) 80 true,yI 84 (.pick (yV 80) (yV 83) yF),yU 3 84])) (.skip))))))))))))) (.seq (yQ [yM 85 3,yI 86 (.un .not (yV 85))] (.cond (yV 86) (yQ [yC 2 (yK 2)] (.ret)) (.skip))) (yQ [yC 2 (yK 0)] (.ret))))))
def Fg:AFn:=⟨87,[.tmp 2],ZkK,false⟩
def Zl4:List Nat:=[25,26,27,28,29,38,39,40,41,42,43,46,47,48,49,50,81,82,83]
def Jn:Zn:=yQ [yX 12 .lss (yV 11) (yV 10)] (.seq (.cond (yV 12) (.skip) (.exit 0)) (.seq (.block 1 (yQ [yE 13 1 9 11,yL 14 13,yU 5 14] (yQ [yM 15 3,yM 16 5,yO 17 16,yX 18 .add (yV 15) (yV 17),yU 3 18] (yQ [yM 19 3,yX 20 .lss (yV 19) (yK 0)] (.cond (yV 20) (yR [yI 21 (.bad),yN (.bad)]) (.skip)))))) (yR [yX 22 .add (yV 11) (yK 1),yM 11 22])))
def J6:Zn:=.loop Jn
def Jo:Zn:=yQ [yX 28 .lss (yV 27) (yV 26)] (.seq (.cond (yV 28) (.skip) (.exit 2)) (.seq (.block 3 (yQ [yE 29 1 25 27,yL 30 29,yU 8 30] (yR [yU 31 6,yM 32 8,yI 33 (.app 2 24 31 (yV 32)),yU 6 33]))) (yR [yX 34 .add (yV 27) (yK 1),yM 27 34])))
def J7:Zn:=.loop Jo
def J5:Zn:=yQ [yU 35 6,yU 2 35] (.ret)
def XQ:Zn:=yQ [yM 23 3,yP 24 153 [(.inr (.const (.own 2 []))),yA 23],yU 6 24] (.seq (yQ [yM 25 0,yO 26 25,yC 27 (yK 0)] (.block 2 (J7))) J5)
def Vy:Zn:=yQ [yI 2 (.mv (.const (.own 2 [])))] (yQ [yC 3 (yK 0)] (.seq (yQ [yM 9 0,yO 10 9,yC 11 (yK 0)] (.block 0 (J6))) XQ))
def Z7:AFn:=⟨36,[.tmp 2],Vy,false⟩
def Zi:List Nat:=[]
def ZkS:Zn:=yQ [yC 2 (yK 0)] (.seq (yQ [yM 3 0,yP 4 154 [yA 3],yX 5 .gtr (yV 4) (yK 200)] (.cond (yV 5) (yQ [yC 2 (yK 6)] (.ret)) (.skip))) (.seq (yQ [yM 6 0,yP 7 155 [yA 6],yX 8 .gtr (yV 7) (yK 12)] (.cond (yV 8) (yQ [yC 2 (yK 11)] (.ret)) (.skip))) (yQ [yM 9 0,yP 10 156 [yA 9],yU 2 10] (.ret))))
def Fw:AFn:=⟨11,[.tmp 2],ZkS,false⟩
def ZlC:List Nat:=[]
def Ze9:Zn:=yQ [yI 2 (.box 54 3 (yV 0)),yC 3 (yK 0)] (yQ [yD 4 13 1,yD 5 3 2,yP 6 136 [yA 4,yA 5],yU 3 6] (.ret))
def RO:AFn:=⟨7,[.tmp 3],Ze9,false⟩
def Zfn:List Nat:=[]
def Ta:Zn:=yQ [yX 17 .lss (yV 16) (yV 15)] (.seq (.cond (yV 17) (.skip) (.exit 0)) (.seq (.block 1 (yQ [yE 18 3 14 16,yD 19 3 18,yI 8 (.mk 54 [(.int .i64 0),(.str []),(.str [])]),yN (.st 3 (yV 8) (yV 19))] (yQ [yM 20 2,yD 21 3 8,yI 22 (.call (yV 20) [yA 21]),yU 9 22] (yQ [yM 23 9,yX 24 .neq (yV 23) (yK 0)] (.cond (yV 24) (yQ [yU 25 9,yU 6 25] (.ret)) (.skip)))))) (yR [yX 26 .add (yV 16) (yK 1),yM 16 26])))
def Tw:Zn:=.loop Ta
def Tv:Zn:=yQ [yC 6 (yK 0)] (.ret)
def IC:Zn:=yQ [yC 6 (yK 0)] (.seq (yQ [yM 10 0,yO 11 10,yM 12 1,yX 13 .gtr (yV 11) (yV 12)] (.cond (yV 13) (yQ [yC 6 (yK 6)] (.ret)) (.skip))) (.seq (yQ [yM 14 0,yO 15 14,yC 16 (yK 0)] (.block 0 (Tw))) Tv))
def QA:AFn:=⟨27,[.tmp 6],IC,false⟩
def WU:List Nat:=[]
def EQ:Zn:=.cond (yV 27) (yQ [yM 30 3,yM 31 30,yJ 32 (.fa 3 (yV 1)) 31 true,yJ 33 (.ldc (yV 32)) 31 true,yJ 34 (.bin .eql .prim (yV 33) (yK 0)) 31 true,yI 35 (.pick (yV 31) (yV 34) yF),yU 2 35] (.ret)) (yQ [yX 37 .eql (yV 13) (yK 4),yU 36 37] (.cond (yV 36) (yQ [yU 38 3,yU 2 38] (.ret)) (yQ [yX 40 .eql (yV 13) (yK 3),yU 39 40] (.cond (yV 39) (yQ [yH 41 1 1,yL 42 41,yX 43 .eql (yV 42) (yK 0),yM 44 43,yJ 45 (.fa 2 (yV 1)) 44 true,yJ 46 (.ldc (yV 45)) 44 true,yJ 47 (.bin .eql .prim (yV 46) (yK 0)) 44 true,yI 48 (.pick (yV 44) (yV 47) yF),yM 49 48,yJ 50 (.fa 3 (yV 1)) 49 true,yJ 51 (.ldc (yV 50)) 49 true,yJ 52 (.bin .eql .prim (yV 51) (yK 0)) 49 true,yI 53 (.pick (yV 49) (yV 52) yF),yU 2 53] (.ret)) (.skip)))))
def ER:Zn:=yQ [yC 2 yF] (.ret)
def Em:Zn:=yQ [yI 1 (.box 88 6 (yV 0)),yC 2 yF] (yQ [yH 4 4 1,yL 5 4,yO 6 5,yH 7 5 1,yL 8 7,yO 9 8,yX 10 .add (yV 6) (yV 9),yX 11 .eql (yV 10) (yK 0),yU 3 11] (.seq (yQ [yH 12 0 1,yL 13 12] (.block 0 (yQ [yX 15 .eql (yV 13) (yK 1),yU 14 15] (.cond (yV 14) (yQ [yM 16 3,yM 17 16,yJ 18 (.fa 2 (yV 1)) 17 true,yJ 19 (.ldc (yV 18)) 17 true,yJ 20 (.bin .eql .prim (yV 19) (yK 0)) 17 true,yI 21 (.pick (yV 17) (yV 20) yF),yM 22 21,yJ 23 (.fa 3 (yV 1)) 22 true,yJ 24 (.ldc (yV 23)) 22 true,yJ 25 (.bin .eql .prim (yV 24) (yK 0)) 22 true,yI 26 (.pick (yV 22) (yV 25) yF),yU 2 26] (.ret)) (.seq (yQ [yX 28 .eql (yV 13) (yK 2),yU 27 28] (.cond (yV 27) (.skip) (yR [yX 29 .eql (yV 13) (yK 5),yU 27 29]))) EQ))))) ER))
def KA:AFn:=⟨54,[.tmp 2],Em,false⟩
def U2:List Nat:=[18,19,20,23,24,25,32,33,34,45,46,47,50,51,52]
def Zj3:Zn:=yQ [yI 3 (.box 3 1 (yV 0)),yI 4 (.box 3 1 (yV 1)),yC 6 yF] (yQ [yM 7 2,yI 8 (.mkfn 167 [] [(yV 3),(yV 4)]),yP 9 166 [yA 7,yA 8],yI 10 (.un .not (yV 9)),yU 6 10] (.ret))
def Ec:AFn:=⟨11,[.tmp 6],Zj3,false⟩
def Zkg:List Nat:=[]
def Ah:Zn:=yQ [yX 11 .lss (yV 10) (yV 9)] (.seq (.cond (yV 11) (.skip) (.exit 0)) (.seq (.block 1 (yQ [yE 12 21 8 10,yD 13 21 12,yI 5 (.mk 181 [(.int .i64 0),(.str []),(.str []),(.int .i64 0),(.str []),(.int .i64 0),(.own 4 []),(.int .i64 0),(.str []),(.int .i64 0),(.own 4 []),(.own 4 []),(.int .i64 0),(.int .i64 0),(.int .i64 0),(.int .i64 0),(.own 1 []),(.own 1 []),(.bool false),(.own 21 []),(.own 21 [])]),yN (.st 21 (yV 5) (yV 13))] (.region true [yM 14 3,yH 15 19 5,yL 16 15,yP 17 154 [yA 16],yH 18 20 5,yL 19 18,yP 20 154 [yA 19],yX 21 .add (yV 17) (yV 20),yX 22 .add (yV 14) (yV 21),yM 3 22]))) (yR [yX 23 .add (yV 10) (yK 1),yM 10 23])))
def FN:Zn:=.loop Ah
def FM:Zn:=yQ [yU 24 3,yU 2 24] (.ret)
def FL:Zn:=yQ [yC 2 (yK 0)] (yQ [yM 6 0,yO 7 6,yU 3 7] (.seq (yQ [yM 8 0,yO 9 8,yC 10 (yK 0)] (.block 0 (FN))) FM))
def KF:AFn:=⟨25,[.tmp 2],FL,false⟩
def JW:List Nat:=[]
def Ai:Zn:=yQ [yX 9 .lss (yV 8) (yV 7)] (.seq (.cond (yV 9) (.skip) (.exit 0)) (.seq (.block 1 (yQ [yE 10 21 6 8,yD 11 21 10,yI 5 (.mk 181 [(.int .i64 0),(.str []),(.str []),(.int .i64 0),(.str []),(.int .i64 0),(.own 4 []),(.int .i64 0),(.str []),(.int .i64 0),(.own 4 []),(.own 4 []),(.int .i64 0),(.int .i64 0),(.int .i64 0),(.int .i64 0),(.own 1 []),(.own 1 []),(.bool false),(.own 21 []),(.own 21 [])]),yN (.st 21 (yV 5) (yV 11))] (.region true [yM 12 3,yH 13 19 5,yL 14 13,yP 15 155 [yA 14],yX 16 .add (yK 1) (yV 15),yH 17 20 5,yL 18 17,yP 19 155 [yA 18],yX 20 .add (yK 1) (yV 19),yI 21 (.max [(yV 12),(yV 16),(yV 20)]),yU 3 21]))) (yR [yX 22 .add (yV 8) (yK 1),yM 8 22])))
def FQ:Zn:=.loop Ai
def FP:Zn:=yQ [yU 23 3,yU 2 23] (.ret)
def FO:Zn:=yQ [yC 2 (yK 0)] (yQ [yC 3 (yK 0)] (.seq (yQ [yM 6 0,yO 7 6,yC 8 (yK 0)] (.block 0 (FQ))) FP))
def KG:AFn:=⟨24,[.tmp 2],FO,false⟩
def JX:List Nat:=[]
def Aj:Zn:=yQ [yX 13 .lss (yV 12) (yV 11)] (.seq (.cond (yV 13) (.skip) (.exit 0)) (.seq (.block 1 (yQ [yE 14 21 10 12,yD 15 21 14,yI 4 (.mk 181 [(.int .i64 0),(.str []),(.str []),(.int .i64 0),(.str []),(.int .i64 0),(.own 4 []),(.int .i64 0),(.str []),(.int .i64 0),(.own 4 []),(.own 4 []),(.int .i64 0),(.int .i64 0),(.int .i64 0),(.int .i64 0),(.own 1 []),(.own 1 []),(.bool false),(.own 21 []),(.own 21 [])]),yN (.st 21 (yV 4) (yV 15))] (yQ [yH 17 0 4,yL 18 17,yP 19 168 [yA 18],yM 16 19,yI 20 (.extract (yV 16) 0),yI 21 (.extract (yV 16) 1),yI 5 (.mk 194 [(.bool false),(.bool false),(.bool false),(.bool false),(.bool false),(.bool false),(.bool false),(.bool false),(.bool false)]),yN (.st 9 (yV 5) (yV 20)),yU 6 21] (.seq (yQ [yM 22 6,yI 23 (.un .not (yV 22)),yM 24 23,yJ 25 (.lda 21 (yV 4)) 24 false,yJ 26 (.lda 9 (yV 5)) 24 false,yJ 27 (.call (yG 169) [yA 25,yA 26]) 24 false,yJ 28 (.un .not (yV 27)) 24 false,yI 29 (.pick (yV 24) yT (yV 28))] (.cond (yV 29) (yQ [yC 2 (yK 1)] (.ret)) (.skip))) (.seq (yQ [yD 30 21 4,yD 31 9 5,yP 32 170 [yA 30,yA 31],yU 7 32] (yQ [yM 33 7,yX 34 .neq (yV 33) (yK 0)] (.cond (yV 34) (yQ [yU 35 7,yU 2 35] (.ret)) (.skip)))) (.seq (yQ [yH 36 19 4,yL 37 36,yP 38 156 [yA 37],yU 8 38] (yQ [yM 39 8,yX 40 .neq (yV 39) (yK 0)] (.cond (yV 40) (yQ [yU 41 8,yU 2 41] (.ret)) (.skip)))) (yQ [yH 42 20 4,yL 43 42,yP 44 156 [yA 43],yU 9 44] (yQ [yM 45 9,yX 46 .neq (yV 45) (yK 0)] (.cond (yV 46) (yQ [yU 47 9,yU 2 47] (.ret)) (.skip)))))))))) (yR [yX 48 .add (yV 12) (yK 1),yM 12 48])))
def FU:Zn:=.loop Aj
def FT:Zn:=yQ [yC 2 (yK 0)] (.ret)
def FR:Zn:=yQ [yC 2 (yK 0)] (.seq (yQ [yM 10 0,yO 11 10,yC 12 (yK 0)] (.block 0 (FU))) FT)
def KH:AFn:=⟨49,[.tmp 2],FR,false⟩
def JY:List Nat:=[25,26,27,28]
def FC:Zn:=.cond (yV 17) (yR [yH 21 3 2,yL 22 21,yI 23 (.mkfn 158 [] [(yV 3)]),yP 24 157 [yA 22,yA 23],yU 5 24]) (yQ [yX 26 .eql (yV 7) (yS [99,111,117,110,116,101,100]),yU 25 26] (.cond (yV 25) (yR [yH 27 9 2,yL 28 27,yH 29 2 3,yL 30 29,yP 31 128 [yA 28,yA 30],yU 5 31]) (yQ [yC 4 (yK 1)] (.ret))))
def Dn:Zn:=.cond (yV 8) (yR [yD 12 13 2,yH 13 2 3,yL 14 13,yP 15 16 [yA 12,yA 14],yX 16 .geq (yV 15) (yK 0),yU 5 16]) (.seq (yQ [yX 18 .eql (yV 7) (yS [115,116,111,114,101,100]),yU 17 18] (.cond (yV 17) (.skip) (yQ [yX 19 .eql (yV 7) (yS [101,110,116,101,114,101,100]),yU 17 19] (.cond (yV 17) (.skip) (yR [yX 20 .eql (yV 7) (yS [108,101,102,116]),yU 17 20]))))) FC)
def FD:Zn:=.seq (.block 1 (yQ [yM 33 5,yI 34 (.un .not (yV 33)),yU 32 34] (.cond (yV 32) (yQ [yC 4 (yK 5)] (.ret)) (yQ [yH 36 0 3,yL 37 36,yP 38 65 [yA 37,(.inr (.const (.int .i64 (-1000)))),yB (yK 1000)],yI 39 (.un .not (yV 38)),yM 40 39,yJ 41 (.fa 0 (yV 3)) 40 false,yJ 42 (.ldc (yV 41)) 40 false,yJ 43 (.bin .eql .prim (yV 42) (yK 0)) 40 false,yI 44 (.pick (yV 40) yT (yV 43)),yU 35 44] (.cond (yV 35) (yQ [yC 4 (yK 2)] (.ret)) (.skip)))))) (yQ [yC 4 (yK 0)] (.ret))
def FB:Zn:=yQ [yI 2 (.box 42 13 (yV 0)),yI 3 (.box 54 3 (yV 1)),yC 4 (yK 0)] (yQ [yC 5 yF] (.seq (yQ [yH 6 1 3,yL 7 6] (.block 0 (.seq (yQ [yX 9 .eql (yV 7) (yS [99,114,101,97,116,101,100]),yU 8 9] (.cond (yV 8) (.skip) (yQ [yX 10 .eql (yV 7) (yS [101,110,100,101,100]),yU 8 10] (.cond (yV 8) (.skip) (yR [yX 11 .eql (yV 7) (yS [105,110,115,105,100,101]),yU 8 11]))))) Dn))) FD))
def KE:AFn:=⟨45,[.tmp 4],FB,false⟩
def JV:List Nat:=[41,42,43]
def ZfF:Zn:=yQ [yC 4 yF] (yQ [yM 5 0,yL 6 1,yX 7 .lss (yV 5) (yV 6),yM 8 7,yJ 9 (.mv (yV 0)) 8 false,yJ 10 (.ldc (yV 2)) 8 false,yJ 11 (.bin .gtr .prim (yV 9) (yV 10)) 8 false,yI 12 (.pick (yV 8) yT (yV 11)),yU 4 12] (.ret))
def BO:AFn:=⟨13,[.tmp 4],ZfF,false⟩
def Zhb:List Nat:=[9,10,11]
def LJ:Zn:=yQ [yC 4 yF] (yQ [yM 5 0,yM 6 1,yP 7 179 [yA 5,yA 6],yX 8 .geq (yV 7) (yK 0),yU 4 8] (.ret))
def Jz:AFn:=⟨9,[.tmp 4],LJ,false⟩
def Rb:List Nat:=[]
def ZaC:Zn:=.cond (yV 32) (yQ [yI 35 (.build [(.bool false),(.bool false),(.bool false),(.bool false),(.bool false),(.bool false),(.bool false),(.bool false),(.bool false)] [(0,1,yT)]),yN (.st 9 (yV 2) (yV 35)),yC 3 yT] (.ret)) (yQ [yX 37 .eql (yV 4) (yK 13),yU 36 37] (.cond (yV 36) (yQ [yI 38 (.build [(.bool false),(.bool false),(.bool false),(.bool false),(.bool false),(.bool false),(.bool false),(.bool false),(.bool false)] [(0,1,yT),(1,1,yT),(2,1,yT),(4,1,yT)]),yN (.st 9 (yV 2) (yV 38)),yC 3 yT] (.ret)) (yQ [yX 40 .eql (yV 4) (yK 14),yU 39 40] (.cond (yV 39) (yQ [yI 41 (.build [(.bool false),(.bool false),(.bool false),(.bool false),(.bool false),(.bool false),(.bool false),(.bool false),(.bool false)] [(0,1,yT),(2,1,yT),(4,1,yT)]),yN (.st 9 (yV 2) (yV 41)),yC 3 yT] (.ret)) (yQ [yX 43 .eql (yV 4) (yK 18),yU 42 43] (.cond (yV 42) (yQ [yI 44 (.build [(.bool false),(.bool false),(.bool false),(.bool false),(.bool false),(.bool false),(.bool false),(.bool false),(.bool false)] []),yN (.st 9 (yV 2) (yV 44)),yC 3 yT] (.ret)) (.skip)))))))
def Nc:Zn:=.cond (yV 5) (yQ [yI 13 (.build [(.bool false),(.bool false),(.bool false),(.bool false),(.bool false),(.bool false),(.bool false),(.bool false),(.bool false)] [(0,1,yT),(2,1,yT)]),yN (.st 9 (yV 2) (yV 13)),yC 3 yT] (.ret)) (yQ [yX 15 .eql (yV 4) (yK 2),yU 14 15] (.cond (yV 14) (yQ [yI 16 (.build [(.bool false),(.bool false),(.bool false),(.bool false),(.bool false),(.bool false),(.bool false),(.bool false),(.bool false)] [(0,1,yT),(1,1,yT),(5,1,yT)]),yN (.st 9 (yV 2) (yV 16)),yC 3 yT] (.ret)) (yQ [yX 18 .eql (yV 4) (yK 3),yU 17 18] (.cond (yV 17) (yQ [yI 19 (.build [(.bool false),(.bool false),(.bool false),(.bool false),(.bool false),(.bool false),(.bool false),(.bool false),(.bool false)] [(2,1,yT),(7,1,yT),(8,1,yT)]),yN (.st 9 (yV 2) (yV 19)),yC 3 yT] (.ret)) (yQ [yX 21 .eql (yV 4) (yK 4),yU 20 21] (.cond (yV 20) (yQ [yI 22 (.build [(.bool false),(.bool false),(.bool false),(.bool false),(.bool false),(.bool false),(.bool false),(.bool false),(.bool false)] [(2,1,yT),(7,1,yT)]),yN (.st 9 (yV 2) (yV 22)),yC 3 yT] (.ret)) (yQ [yX 24 .eql (yV 4) (yK 5),yU 23 24] (.cond (yV 23) (yQ [yI 25 (.build [(.bool false),(.bool false),(.bool false),(.bool false),(.bool false),(.bool false),(.bool false),(.bool false),(.bool false)] [(2,1,yT)]),yN (.st 9 (yV 2) (yV 25)),yC 3 yT] (.ret)) (yQ [yX 27 .eql (yV 4) (yK 6),yU 26 27] (.cond (yV 26) (yQ [yI 28 (.build [(.bool false),(.bool false),(.bool false),(.bool false),(.bool false),(.bool false),(.bool false),(.bool false),(.bool false)] [(0,1,yT),(2,1,yT),(3,1,yT),(6,1,yT)]),yN (.st 9 (yV 2) (yV 28)),yC 3 yT] (.ret)) (yQ [yX 30 .eql (yV 4) (yK 9),yU 29 30] (.cond (yV 29) (yQ [yI 31 (.build [(.bool false),(.bool false),(.bool false),(.bool false),(.bool false),(.bool false),(.bool false),(.bool false),(.bool false)] [(0,1,yT),(1,1,yT)]),yN (.st 9 (yV 2) (yV 31)),yC 3 yT] (.ret)) (.seq (yQ [yX 33 .eql (yV 4) (yK 10),yU 32 33] (.cond (yV 32) (.skip) (yR [yX 34 .eql (yV 4) (yK 11),yU 32 34]))) ZaC)))))))))))))
def ZaD:Zn:=yQ [yI 45 (.build [(.bool false),(.bool false),(.bool false),(.bool false),(.bool false),(.bool false),(.bool false),(.bool false),(.bool false)] []),yN (.st 9 (yV 2) (yV 45)),yC 3 yF] (.ret)
def Zbe:Zn:=yQ [yI 2 (.mk 194 [(.bool false),(.bool false),(.bool false),(.bool false),(.bool false),(.bool false),(.bool false),(.bool false),(.bool false)]),yC 3 yF] (.seq (yQ [yM 4 0] (.block 0 (.seq (yQ [yX 6 .eql (yV 4) (yK 1),yU 5 6] (.cond (yV 5) (.skip) (yQ [yX 7 .eql (yV 4) (yK 7),yU 5 7] (.cond (yV 5) (.skip) (yQ [yX 8 .eql (yV 4) (yK 8),yU 5 8] (.cond (yV 5) (.skip) (yQ [yX 9 .eql (yV 4) (yK 12),yU 5 9] (.cond (yV 5) (.skip) (yQ [yX 10 .eql (yV 4) (yK 15),yU 5 10] (.cond (yV 5) (.skip) (yQ [yX 11 .eql (yV 4) (yK 16),yU 5 11] (.cond (yV 5) (.skip) (yR [yX 12 .eql (yV 4) (yK 17),yU 5 12]))))))))))))) Nc))) ZaD)
def H5:AFn:=⟨46,[.agg 2 9,.tmp 3],Zbe,false⟩
def Kb:List Nat:=[]
def Zml:Zn:=yQ [yI 2 (.box 181 21 (yV 0)),yI 3 (.box 194 9 (yV 1)),yC 4 yF] (yQ [yI 5 (.mv (yG 180))] (yQ [yH 6 0 3,yL 7 6,yM 8 7,yJ 9 (.fa 1 (yV 2)) 8 false,yJ 10 (.ldc (yV 9)) 8 false,yJ 11 (.bin .eql .prim (yV 10) (yS [])) 8 false,yI 12 (.pick (yV 8) yT (yV 11)),yM 13 12,yJ 14 (.fa 1 (yV 3)) 13 true,yJ 15 (.ldc (yV 14)) 13 true,yJ 16 (.mv (yV 15)) 13 true,yJ 17 (.fa 2 (yV 2)) 16 false,yJ 18 (.ldc (yV 17)) 16 false,yJ 19 (.bin .eql .prim (yV 18) (yS [])) 16 false,yJ 20 (.pick (yV 16) yT (yV 19)) 13 true,yI 21 (.pick (yV 13) (yV 20) yF),yM 22 21,yJ 23 (.fa 2 (yV 3)) 22 true,yJ 24 (.ldc (yV 23)) 22 true,yJ 25 (.mv (yV 24)) 22 true,yJ 26 (.mv (yV 5)) 25 false,yJ 27 (.fa 3 (yV 2)) 25 false,yJ 28 (.lda 4 (yV 27)) 25 false,yJ 29 (.call (yV 26) [yA 28]) 25 false,yJ 30 (.pick (yV 25) yT (yV 29)) 22 true,yI 31 (.pick (yV 22) (yV 30) yF),yM 32 31,yJ 33 (.fa 3 (yV 3)) 32 true,yJ 34 (.ldc (yV 33)) 32 true,yJ 35 (.mv (yV 34)) 32 true,yJ 36 (.mv (yV 5)) 35 false,yJ 37 (.fa 7 (yV 2)) 35 false,yJ 38 (.lda 4 (yV 37)) 35 false,yJ 39 (.call (yV 36) [yA 38]) 35 false,yJ 40 (.pick (yV 35) yT (yV 39)) 32 true,yI 41 (.pick (yV 32) (yV 40) yF),yM 42 41,yJ 43 (.fa 4 (yV 3)) 42 true,yJ 44 (.ldc (yV 43)) 42 true,yJ 45 (.mv (yV 44)) 42 true,yJ 46 (.fa 11 (yV 2)) 45 false,yJ 47 (.ldc (yV 46)) 45 false,yJ 48 (.len .slice (yV 47)) 45 false,yJ 49 (.bin .eql .prim (yV 48) (yK 0)) 45 false,yJ 50 (.pick (yV 45) yT (yV 49)) 42 true,yI 51 (.pick (yV 42) (yV 50) yF),yM 52 51,yJ 53 (.fa 5 (yV 3)) 52 true,yJ 54 (.ldc (yV 53)) 52 true,yJ 55 (.mv (yV 54)) 52 true,yJ 56 (.fa 12 (yV 2)) 55 false,yJ 57 (.lda 6 (yV 56)) 55 false,yJ 58 (.build [(.int .i64 0),(.int .i64 0),(.int .i64 0),(.int .i64 0),(.own 1 []),(.own 1 [])] []) 55 false,yJ 59 (.call (yG 127) [yA 57,yA 58]) 55 false,yJ 60 (.pick (yV 55) yT (yV 59)) 52 true,yI 61 (.pick (yV 52) (yV 60) yF),yM 62 61,yJ 63 (.fa 6 (yV 3)) 62 true,yJ 64 (.ldc (yV 63)) 62 true,yJ 65 (.mv (yV 64)) 62 true,yJ 66 (.fa 18 (yV 2)) 65 false,yJ 67 (.ldc (yV 66)) 65 false,yJ 68 (.un .not (yV 67)) 65 false,yJ 69 (.pick (yV 65) yT (yV 68)) 62 true,yI 70 (.pick (yV 62) (yV 69) yF),yM 71 70,yJ 72 (.fa 7 (yV 3)) 71 true,yJ 73 (.ldc (yV 72)) 71 true,yJ 74 (.mv (yV 73)) 71 true,yJ 75 (.fa 19 (yV 2)) 74 false,yJ 76 (.ldc (yV 75)) 74 false,yJ 77 (.len .slice (yV 76)) 74 false,yJ 78 (.bin .eql .prim (yV 77) (yK 0)) 74 false,yJ 79 (.pick (yV 74) yT (yV 78)) 71 true,yI 80 (.pick (yV 71) (yV 79) yF),yM 81 80,yJ 82 (.fa 8 (yV 3)) 81 true,yJ 83 (.ldc (yV 82)) 81 true,yJ 84 (.mv (yV 83)) 81 true,yJ 85 (.fa 20 (yV 2)) 84 false,yJ 86 (.ldc (yV 85)) 84 false,yJ 87 (.len .slice (yV 86)) 84 false,yJ 88 (.bin .eql .prim (yV 87) (yK 0)) 84 false,yJ 89 (.pick (yV 84) yT (yV 88)) 81 true,yI 90 (.pick (yV 81) (yV 89) yF),yU 4 90] (.ret)))
def ZaW:AFn:=⟨91,[.tmp 4],Zml,false⟩
def ZmF:List Nat:=[9,10,11,14,15,16,17,18,19,20,23,24,25,26,27,28,29,30,33,34,35,36,37,38,39,40,43,44,45,46,47,48,49,50,53,54,55,56,57,58,59,60,63,64,65,66,67,68,69,72,73,74,75,76,77,78,79,82,83,84,85,86,87,88,89]
def Ak:Zn:=yQ [yX 27 .lss (yV 26) (yV 25)] (.seq (.cond (yV 27) (.skip) (.exit 0)) (.seq (.block 1 (yQ [yE 28 2 24 26,yD 29 2 28,yI 6 (.mk 202 [(.bool false),(.str [])]),yN (.st 2 (yV 6) (yV 29))] (yQ [yH 30 1 6,yL 31 30,yP 32 26 [yA 31],yU 7 32] (yQ [yH 33 0 6,yL 34 33,yM 35 34,yJ 36 (.mv (yV 7)) 35 true,yJ 37 (.bin .neq .prim (yV 36) (yK 0)) 35 true,yI 38 (.pick (yV 35) (yV 37) yF)] (.cond (yV 38) (yQ [yU 39 7,yU 4 39] (.ret)) (.skip)))))) (yR [yX 40 .add (yV 26) (yK 1),yM 26 40])))
def FX:Zn:=.loop Ak
def Al:Zn:=yQ [yX 54 .lss (yV 53) (yV 52)] (.seq (.cond (yV 54) (.skip) (.exit 2)) (.seq (.block 3 (yQ [yE 55 5 51 53,yD 56 5 55,yI 9 (.mk 204 [(.bool false),(.int .i64 0),(.str []),(.int .i64 0),(.own 4 [])]),yN (.st 5 (yV 9) (yV 56))] (.seq (yQ [yH 57 0 9,yL 58 57,yI 59 (.un .not (yV 58))] (.cond (yV 59) (.exit 3) (.skip))) (yQ [yH 60 1 9,yD 61 4 60,yP 62 181 [yA 61],yU 10 62] (yQ [yM 63 10,yX 64 .neq (yV 63) (yK 0)] (.cond (yV 64) (yQ [yU 65 10,yU 4 65] (.ret)) (.skip))))))) (yR [yX 66 .add (yV 53) (yK 1),yM 53 66])))
def FY:Zn:=.loop Al
def Am:Zn:=yQ [yX 75 .lss (yV 74) (yV 73)] (.seq (.cond (yV 75) (.skip) (.exit 4)) (.seq (.block 5 (yQ [yE 76 4 72 74,yD 77 4 76,yI 12 (.mk 179 [(.int .i64 0),(.str []),(.int .i64 0),(.own 4 [])]),yN (.st 4 (yV 12) (yV 77))] (yQ [yD 78 4 12,yP 79 181 [yA 78],yU 13 79] (yQ [yM 80 13,yX 81 .neq (yV 80) (yK 0)] (.cond (yV 81) (yQ [yU 82 13,yU 4 82] (.ret)) (.skip)))))) (yR [yX 83 .add (yV 74) (yK 1),yM 74 83])))
def FZ:Zn:=.loop Am
def FW:Zn:=.seq (yQ [yH 84 5 3,yL 85 84] (.cond (yV 85) (yQ [yH 86 12 2,yD 87 6 86,yP 88 129 [yA 87],yU 4 88] (.ret)) (.skip))) (yQ [yC 4 (yK 0)] (.ret))
def Dq:Zn:=.seq (yQ [yH 67 11 2,yL 68 67,yO 69 68,yX 70 .gtr (yV 69) (yK 6)] (.cond (yV 70) (yQ [yC 4 (yK 6)] (.ret)) (.skip))) (.seq (yQ [yH 71 11 2,yL 72 71,yO 73 72,yC 74 (yK 0)] (.block 4 (FZ))) FW)
def Dp:Zn:=.seq (yQ [yH 41 2 3,yL 42 41,yH 43 3 2,yD 44 4 43,yI 45 (.build [(.bool false),(.int .i64 0),(.str []),(.int .i64 0),(.own 4 [])] [(0,1,(yV 42)),(1,4,(yV 44))]),yH 46 3 3,yL 47 46,yH 48 7 2,yD 49 4 48,yI 50 (.build [(.bool false),(.int .i64 0),(.str []),(.int .i64 0),(.own 4 [])] [(0,1,(yV 47)),(1,4,(yV 49))]),yI 51 (.lit 204 5 [(yV 45),(yV 50)]),yO 52 51,yC 53 (yK 0)] (.block 2 (FY))) Dq
def FV:Zn:=yQ [yI 2 (.box 181 21 (yV 0)),yI 3 (.box 194 9 (yV 1)),yC 4 (yK 0)] (.seq (yQ [yH 14 0 3,yL 15 14,yH 16 1 2,yL 17 16,yI 18 (.build [(.bool false),(.str [])] [(0,1,(yV 15)),(1,1,(yV 17))]),yH 19 1 3,yL 20 19,yH 21 2 2,yL 22 21,yI 23 (.build [(.bool false),(.str [])] [(0,1,(yV 20)),(1,1,(yV 22))]),yI 24 (.lit 202 2 [(yV 18),(yV 23)]),yO 25 24,yC 26 (yK 0)] (.block 0 (FX))) Dp)
def X7:AFn:=⟨89,[.tmp 4],FV,false⟩
def WO:List Nat:=[36,37]
def ZhR:Zn:=yQ [yI 2 (.box 95 3 (yV 0)),yC 3 yF] (yQ [yH 4 0 2,yL 5 4,yH 6 2 1,yL 7 6,yX 8 .eql (yV 5) (yV 7),yU 3 8] (.ret))
def PV:AFn:=⟨9,[.tmp 3],ZhR,false⟩
def Zi9:List Nat:=[]
def UN:Zn:=yQ [yC 4 yF] (yQ [yM 5 0,yM 6 1,yP 7 103 [yA 5,yA 6],yX 8 .geq (yV 7) (yK 0),yU 4 8] (.ret))
def Q5:AFn:=⟨9,[.tmp 4],UN,false⟩
def Ka:List Nat:=[]
def Gl:Zn:=yQ [yX 9 .lss (yV 8) (yV 7)] (.seq (.cond (yV 9) (.skip) (.exit 0)) (.seq (.block 1 (yQ [yM 10 8,yU 5 10] (yQ [yM 11 1,yM 12 0,yM 13 5,yE 14 1 12 13,yL 15 14,yI 16 (.call (yV 11) [yA 15])] (.cond (yV 16) (yQ [yU 17 5,yU 4 17] (.ret)) (.skip))))) (yR [yX 18 .add (yV 8) (yK 1),yM 8 18])))
def GK:Zn:=.loop Gl
def GJ:Zn:=yQ [yI 4 (.mv (.const (.int .i64 (-1))))] (.ret)
def Uz:Zn:=yQ [yC 4 (yK 0)] (.seq (yQ [yM 6 0,yO 7 6,yC 8 (yK 0)] (.block 0 (GK))) GJ)
def W9:AFn:=⟨19,[.tmp 4],Uz,false⟩
def Y3:List Nat:=[]
def ZjB:Zn:=yQ [yI 1 (.box 179 4 (yV 0)),yC 2 yF] (yQ [yD 3 4 1,yI 4 (.build [(.int .i64 0),(.str []),(.int .i64 0),(.own 4 [])] []),yP 5 177 [yA 3,yA 4],yU 2 5] (.ret))
def Ej:AFn:=⟨6,[.tmp 2],ZjB,false⟩
def Zkn:List Nat:=[]
def ZkL:Zn:=yQ [yI 1 (.box 179 4 (yV 0)),yC 2 (yK 0)] (yQ [yI 3 (.build [(.bool false)] []),yD 4 4 1,yP 5 183 [yA 3,yA 4],yU 2 5] (.ret))
def Fh:AFn:=⟨6,[.tmp 2],ZkL,false⟩
def Zl5:List Nat:=[]
def ZaZ:Zn:=yQ [yI 2 (.box 209 1 (yV 0)),yI 3 (.box 179 4 (yV 1)),yC 4 (yK 0)] (.seq (.block 0 (yQ [yD 6 4 3,yP 7 187 [yA 6],yX 8 .gtr (yV 7) (yK 60),yU 5 8] (.cond (yV 5) (yQ [yC 4 (yK 6)] (.ret)) (yQ [yD 10 4 3,yP 11 188 [yA 10],yX 12 .gtr (yV 11) (yK 12),yU 9 12] (.cond (yV 9) (yQ [yC 4 (yK 11)] (.ret)) (.skip)))))) (yQ [yD 13 1 2,yD 14 4 3,yP 15 189 [yA 13,yA 14],yU 4 15] (.ret)))
def TZ:AFn:=⟨16,[.tmp 4],ZaZ,false⟩
def ZbM:List Nat:=[]
def ET:Zn:=yQ [yX 10 .lss (yV 9) (yV 8)] (.seq (.cond (yV 10) (.skip) (.exit 0)) (.seq (.block 1 (yQ [yE 11 4 7 9,yD 12 4 11,yI 5 (.mk 179 [(.int .i64 0),(.str []),(.int .i64 0),(.own 4 [])]),yN (.st 4 (yV 5) (yV 12))] (yR [yM 13 3,yD 14 4 5,yP 15 187 [yA 14],yX 16 .add (yV 13) (yV 15),yU 3 16]))) (yR [yX 17 .add (yV 9) (yK 1),yM 9 17])))
def F8:Zn:=.loop ET
def F7:Zn:=yQ [yU 18 3,yU 2 18] (.ret)
def F6:Zn:=yQ [yI 1 (.box 179 4 (yV 0)),yC 2 (yK 0)] (yQ [yC 3 (yK 1)] (.seq (yQ [yH 6 3 1,yL 7 6,yO 8 7,yC 9 (yK 0)] (.block 0 (F8))) F7))
def KD:AFn:=⟨19,[.tmp 2],F6,false⟩
def JU:List Nat:=[]
def ES:Zn:=yQ [yX 10 .lss (yV 9) (yV 8)] (.seq (.cond (yV 10) (.skip) (.exit 0)) (.seq (.block 1 (yQ [yE 11 4 7 9,yD 12 4 11,yI 5 (.mk 179 [(.int .i64 0),(.str []),(.int .i64 0),(.own 4 [])]),yN (.st 4 (yV 5) (yV 12))] (yR [yM 13 3,yD 14 4 5,yP 15 188 [yA 14],yI 16 (.max [(yV 13),(yV 15)]),yU 3 16]))) (yR [yX 17 .add (yV 9) (yK 1),yM 9 17])))
def F5:Zn:=.loop ES
def F4:Zn:=yQ [yM 18 3,yX 19 .add (yV 18) (yK 1),yU 2 19] (.ret)
def F3:Zn:=yQ [yI 1 (.box 179 4 (yV 0)),yC 2 (yK 0)] (yQ [yC 3 (yK 0)] (.seq (yQ [yH 6 3 1,yL 7 6,yO 8 7,yC 9 (yK 0)] (.block 0 (F5))) F4))
def KC:AFn:=⟨20,[.tmp 2],F3,false⟩
def JS:List Nat:=[]
def MJ:Zn:=yQ [yX 19 .lss (yV 18) (yV 17)] (.seq (.cond (yV 19) (.skip) (.exit 0)) (.seq (.block 1 (yQ [yE 20 4 16 18,yD 21 4 20,yI 7 (.mk 179 [(.int .i64 0),(.str []),(.int .i64 0),(.own 4 [])]),yN (.st 4 (yV 7) (yV 21))] (yQ [yD 22 1 2,yD 23 4 7,yP 24 189 [yA 22,yA 23],yU 8 24] (yQ [yM 25 8,yX 26 .neq (yV 25) (yK 0)] (.cond (yV 26) (yQ [yU 27 8,yU 4 27] (.ret)) (.skip)))))) (yR [yX 28 .add (yV 18) (yK 1),yM 18 28])))
def Lu:Zn:=.loop MJ
def Lt:Zn:=yQ [yC 4 (yK 0)] (.ret)
def Md:Zn:=yQ [yI 2 (.box 209 1 (yV 0)),yI 3 (.box 179 4 (yV 1)),yC 4 (yK 0)] (.seq (yQ [yD 9 1 2,yD 10 4 3,yP 11 192 [yA 9,yA 10],yU 5 11] (yQ [yM 12 5,yX 13 .neq (yV 12) (yK 0)] (.cond (yV 13) (yQ [yU 14 5,yU 4 14] (.ret)) (.skip)))) (.seq (yQ [yH 15 3 3,yL 16 15,yO 17 16,yC 18 (yK 0)] (.block 0 (Lu))) Lt))
def XE:AFn:=⟨29,[.tmp 4],Md,false⟩
def Q8:List Nat:=[]
def ZbW:Zn:=yQ [yI 2 (.box 209 1 (yV 0)),yI 3 (.box 179 4 (yV 1)),yC 4 (yK 0)] (.seq (.seq (.region true [yD 8 1 2,yH 9 0 3,yL 10 9,yP 11 194 [yA 8,yA 10],yI 12 (.un .not (yV 11)),yM 13 12,yJ 14 (.fa 3 (yV 3)) 13 false,yJ 15 (.ldc (yV 14)) 13 false,yJ 16 (.len .slice (yV 15)) 13 false,yJ 17 (.fa 0 (yV 3)) 13 false,yJ 18 (.ldc (yV 17)) 13 false,yJ 19 (.call (yG 195) [yA 18]) 13 false,yJ 20 (.bin .neq .prim (yV 16) (yV 19)) 13 false,yI 21 (.pick (yV 13) yT (yV 20)),yM 22 21,yJ 23 (.fa 1 (yV 3)) 22 false,yJ 24 (.ldc (yV 23)) 22 false,yJ 25 (.bin .neq .prim (yV 24) (yS [])) 22 false,yJ 26 (.mv (yV 25)) 22 false,yJ 27 (.lda 1 (yV 2)) 26 true,yJ 28 (.fa 0 (yV 3)) 26 true,yJ 29 (.ldc (yV 28)) 26 true,yJ 30 (.call (yG 196) [yA 27,yA 29]) 26 true,yJ 31 (.un .not (yV 30)) 26 true,yJ 32 (.pick (yV 26) (yV 31) yF) 22 false,yI 33 (.pick (yV 22) yT (yV 32))]) (.cond (yV 33) (yQ [yC 4 (yK 1)] (.ret)) (.skip))) (.seq (yQ [yH 34 0 3,yL 35 34,yX 36 .eql (yV 35) (yK 1)] (.cond (yV 36) (.seq (yQ [yH 37 2 3,yL 38 37,yP 39 137 [yA 38],yI 40 (.un .not (yV 39))] (.cond (yV 40) (yQ [yC 4 (yK 2)] (.ret)) (.skip))) (yQ [yC 4 (yK 0)] (.ret))) (.skip))) (yQ [yD 42 1 2,yH 43 0 3,yL 44 43,yP 45 197 [yA 42,yA 44],yM 41 45,yI 46 (.extract (yV 41) 0),yI 47 (.extract (yV 41) 1),yI 48 (.extract (yV 41) 2),yU 5 46,yU 6 47,yU 7 48] (.seq (.block 0 (yQ [yM 50 7,yI 51 (.un .not (yV 50)),yM 52 51,yJ 53 (.fa 2 (yV 3)) 52 true,yJ 54 (.ldc (yV 53)) 52 true,yJ 55 (.bin .neq .prim (yV 54) (yK 0)) 52 true,yI 56 (.pick (yV 52) (yV 55) yF),yU 49 56] (.cond (yV 49) (yQ [yC 4 (yK 1)] (.ret)) (yQ [yM 58 7,yM 59 58,yJ 60 (.fa 2 (yV 3)) 59 true,yJ 61 (.ldc (yV 60)) 59 true,yJ 62 (.mv (yV 5)) 59 true,yJ 63 (.bin .lss .prim (yV 61) (yV 62)) 59 true,yJ 64 (.mv (yV 63)) 59 true,yJ 65 (.fa 2 (yV 3)) 64 false,yJ 66 (.ldc (yV 65)) 64 false,yJ 67 (.mv (yV 6)) 64 false,yJ 68 (.bin .gtr .prim (yV 66) (yV 67)) 64 false,yJ 69 (.pick (yV 64) yT (yV 68)) 59 true,yI 70 (.pick (yV 59) (yV 69) yF),yU 57 70] (.cond (yV 57) (yQ [yC 4 (yK 2)] (.ret)) (yQ [yD 72 1 2,yH 73 0 3,yL 74 73,yP 75 196 [yA 72,yA 74],yU 71 75] (.cond (yV 71) (yQ [yH 76 1 3,yL 77 76,yP 78 26 [yA 77],yU 4 78] (.ret)) (.skip)))))))) (yQ [yC 4 (yK 0)] (.ret))))))
def MI:AFn:=⟨79,[.tmp 4],ZbW,false⟩
def ZcZ:List Nat:=[14,15,16,17,18,19,20,23,24,25,26,27,28,29,30,31,32,53,54,55,60,61,62,63,64,65,66,67,68,69]
def Zba:Zn:=yQ [yI 2 (.box 209 1 (yV 0)),yC 4 yF] (.seq (yQ [yM 5 1] (.block 0 (yQ [yX 7 .eql (yV 5) (yK 3),yU 6 7] (.cond (yV 6) (yQ [yH 8 0 2,yL 9 8,yI 10 (.un .not (yV 9)),yU 4 10] (.ret)) (.seq (yQ [yX 12 .eql (yV 5) (yK 25),yU 11 12] (.cond (yV 11) (.skip) (yR [yX 13 .eql (yV 5) (yK 26),yU 11 13]))) (.cond (yV 11) (yQ [yH 14 0 2,yL 15 14,yU 4 15] (.ret)) (.skip))))))) (yQ [yM 16 1,yP 17 195 [yA 16],yX 18 .geq (yV 17) (yK 0),yU 4 18] (.ret)))
def Ma:AFn:=⟨19,[.tmp 4],Zba,false⟩
def ZbN:List Nat:=[]
def Zmk:Zn:=yQ [yC 2 (yK 0)] (.seq (.block 0 (yQ [yM 4 0,yX 5 .eql (yV 4) (yK 1),yM 6 5,yJ 7 (.mv (yV 0)) 6 false,yJ 8 (.bin .eql .prim (yV 7) (yK 2)) 6 false,yI 9 (.pick (yV 6) yT (yV 8)),yM 10 9,yJ 11 (.mv (yV 0)) 10 false,yJ 12 (.bin .eql .prim (yV 11) (yK 3)) 10 false,yI 13 (.pick (yV 10) yT (yV 12)),yM 14 13,yJ 15 (.mv (yV 0)) 14 false,yJ 16 (.bin .eql .prim (yV 15) (yK 4)) 14 false,yI 17 (.pick (yV 14) yT (yV 16)),yU 3 17] (.cond (yV 3) (yQ [yC 2 (yK 0)] (.ret)) (yQ [yM 19 0,yX 20 .geq (yV 19) (yK 5),yM 21 20,yJ 22 (.mv (yV 0)) 21 true,yJ 23 (.bin .leq .prim (yV 22) (yK 8)) 21 true,yI 24 (.pick (yV 21) (yV 23) yF),yU 18 24] (.cond (yV 18) (yQ [yC 2 (yK 1)] (.ret)) (yQ [yM 26 0,yX 27 .geq (yV 26) (yK 9),yM 28 27,yJ 29 (.mv (yV 0)) 28 true,yJ 30 (.bin .leq .prim (yV 29) (yK 21)) 28 true,yI 31 (.pick (yV 28) (yV 30) yF),yU 25 31] (.cond (yV 25) (yQ [yC 2 (yK 2)] (.ret)) (yQ [yM 33 0,yX 34 .geq (yV 33) (yK 22),yM 35 34,yJ 36 (.mv (yV 0)) 35 true,yJ 37 (.bin .leq .prim (yV 36) (yK 26)) 35 true,yI 38 (.pick (yV 35) (yV 37) yF),yU 32 38] (.cond (yV 32) (yQ [yC 2 (yK 0)] (.ret)) (.skip)))))))))) (yQ [yI 2 (.mv (.const (.int .i64 (-1))))] (.ret)))
def ZaV:AFn:=⟨39,[.tmp 2],Zmk,false⟩
def ZmE:List Nat:=[7,8,11,12,15,16,22,23,29,30,36,37]
def Zbb:Zn:=yQ [yI 2 (.box 209 1 (yV 0)),yC 4 yF] (yQ [yM 5 1,yX 6 .eql (yV 5) (yK 3),yM 7 6,yJ 8 (.mv (yV 1)) 7 false,yJ 9 (.call (yG 201) [yA 8]) 7 false,yJ 10 (.mv (yV 9)) 7 false,yJ 11 (.fa 0 (yV 2)) 10 true,yJ 12 (.ldc (yV 11)) 10 true,yJ 13 (.un .not (yV 12)) 10 true,yJ 14 (.pick (yV 10) (yV 13) yF) 7 false,yI 15 (.pick (yV 7) yT (yV 14)),yU 4 15] (.ret))
def Mc:AFn:=⟨16,[.tmp 4],Zbb,false⟩
def ZbO:List Nat:=[8,9,10,11,12,13,14]
def Fx:Zn:=yQ [yI 2 (.box 209 1 (yV 0)),yC 4 (yK 0),yC 5 (yK 0),yC 6 yF] (.seq (.block 0 (yQ [yM 8 1,yX 9 .eql (yV 8) (yK 2),yU 7 9] (.cond (yV 7) (yQ [yC 4 (yK 0),yC 5 (yK 1),yC 6 yT] (.ret)) (yQ [yM 11 1,yX 12 .eql (yV 11) (yK 25),yU 10 12] (.cond (yV 10) (yQ [yC 4 (yK 0),yC 5 (yK 15),yC 6 yT] (.ret)) (yQ [yM 14 1,yX 15 .eql (yV 14) (yK 26),yU 13 15] (.cond (yV 13) (yQ [yC 4 (yK 0),yC 5 (yK 31),yC 6 yT] (.ret)) (yQ [yM 17 1,yP 18 201 [yA 17],yM 19 18,yJ 20 (.fa 0 (yV 2)) 19 true,yJ 21 (.ldc (yV 20)) 19 true,yI 22 (.pick (yV 19) (yV 21) yF),yU 16 22] (.cond (yV 16) (yQ [yC 4 (yK 0),yC 5 (yK 63),yC 6 yT] (.ret)) (.skip)))))))))) (yQ [yC 4 (yK 0),yC 5 (yK 0),yC 6 yF] (.ret)))
def Oi:AFn:=⟨23,[.tmp 4,.tmp 5,.tmp 6],Fx,false⟩
def CV:List Nat:=[20,21]
def Zj4:Zn:=yQ [yC 2 yF] (yQ [yM 3 0,yX 4 .geq (yV 3) (yK 22),yM 5 4,yJ 6 (.mv (yV 0)) 5 true,yJ 7 (.bin .leq .prim (yV 6) (yK 24)) 5 true,yI 8 (.pick (yV 5) (yV 7) yF),yU 2 8] (.ret))
def Ed:AFn:=⟨9,[.tmp 2],Zj4,false⟩
def Zkh:List Nat:=[6,7]
def tab:List (Nat×AFn):=[(5,Yt),(8,XM),(10,Ee),(12,Fp),(14,Fq),(16,BQ),(18,Fj),(20,Ef),(22,Ql),(26,Uy),(27,IA),(29,BP),(28,WQ),(32,Eh),(41,PI),(40,Ye),(43,PK),(42,ZH),(45,LB),(44,ZV),(47,Ei),(54,PX),(55,De),(57,Ol),(56,Qs),(30,Oj),(31,Fv),(90,BR),(89,Q9),(100,BS),(99,ZZ),(102,BU),(101,Zw),(104,BV),(103,ZA),(106,BX),(105,ZG),(107,YG),(125,Eg),(126,Fs),(58,PM),(61,PN),(62,PO),(68,PP),(71,PQ),(74,PR),(75,PS),(76,PT),(77,PU),(78,BZ),(79,Da),(83,Db),(87,Dc),(60,Uw),(65,PW),(127,ZaU),(146,Qh),(137,Zj0),(59,Xa),(64,RP),(63,YF),(70,RQ),(69,WF),(73,RS),(72,WP),(81,LC),(80,WZ),(85,LF),(84,Qr),(88,Fu),(66,Xc),(67,RN),(82,VP),(86,Ux),(133,PL),(132,QK),(177,Hz),(128,VQ),(129,Fg),(130,Z7),(131,Fw),(135,RO),(134,QA),(151,KA),(152,Ec),(154,KF),(155,KG),(156,KH),(136,KE),(167,BO),(166,Jz),(168,H5),(169,ZaW),(170,X7),(158,PV),(157,Q5),(179,W9),(180,Ej),(181,Fh),(183,TZ),(187,KD),(188,KC),(189,XE),(192,MI),(194,Ma),(195,ZaV),(196,Mc),(197,Oi),(201,Ed)]
theorem Zse:∀ p ∈ tab,∃ fn takes,Tryz.prog.funcs[p.1]? = some fn∧(fn.name == "runtime.NumGoroutine")=false∧cFn Tryz.prog takes fn=some p.2:=by
  intro p hp
  simp only [tab,List.mem_cons,List.not_mem_nil,or_false] at hp
  rcases hp with rfl | rfl | rfl | rfl | rfl | rfl | rfl | rfl | rfl | rfl | rfl | rfl | rfl | rfl | rfl | rfl | rfl | rfl | rfl | rfl | rfl | rfl | rfl | rfl | rfl | rfl | rfl | rfl | rfl | rfl | rfl | rfl | rfl | rfl | rfl | rfl | rfl | rfl | rfl | rfl | rfl | rfl | rfl | rfl | rfl | rfl | rfl | rfl | rfl | rfl | rfl | rfl | rfl | rfl | rfl | rfl | rfl | rfl | rfl | rfl | rfl | rfl | rfl | rfl | rfl | rfl | rfl | rfl | rfl | rfl | rfl | rfl | rfl | rfl | rfl | rfl | rfl | rfl | rfl | rfl | rfl | rfl | rfl | rfl | rfl | rfl | rfl | rfl | rfl | rfl | rfl | rfl | rfl | rfl | rfl | rfl | rfl | rfl | rfl | rfl | rfl | rfl | rfl | rfl | rfl | rfl | rfl | rfl | rfl
  · exact ⟨_,takes,Tryz.func5,by kernel_rfl,by kernel_rfl⟩
  · exact ⟨_,takes,Tryz.func8,by kernel_rfl,by kernel_rfl⟩
  · exact ⟨_,takes,Tryz.func10,by kernel_rfl,by kernel_rfl⟩
  · exact ⟨_,takes,Tryz.func12,by kernel_rfl,by kernel_rfl⟩
  · exact ⟨_,takes,Tryz.func14,by kernel_rfl,by kernel_rfl⟩
  · exact ⟨_,takes,Tryz.func16,by kernel_rfl,by kernel_rfl⟩
  · exact ⟨_,takes,Tryz.func18,by kernel_rfl,by kernel_rfl⟩
  · exact ⟨_,takes,Tryz.func20,by kernel_rfl,by kernel_rfl⟩
  · exact ⟨_,takes,Tryz.func22,by kernel_rfl,by kernel_rfl⟩
  · exact ⟨_,takes,Tryz.func26,by kernel_rfl,by kernel_rfl⟩
  · exact ⟨_,takes,Tryz.func27,by kernel_rfl,by kernel_rfl⟩
  · exact ⟨_,takes,Tryz.func29,by kernel_rfl,by kernel_rfl⟩
  · exact ⟨_,takes,Tryz.func28,by kernel_rfl,by kernel_rfl⟩
  · exact ⟨_,takes,Tryz.func32,by kernel_rfl,by kernel_rfl⟩
  · exact ⟨_,takes,Tryz.func41,by kernel_rfl,by kernel_rfl⟩
  · exact ⟨_,takes,Tryz.func40,by kernel_rfl,by kernel_rfl⟩
  · exact ⟨_,takes,Tryz.func43,by kernel_rfl,by kernel_rfl⟩
  · exact ⟨_,takes,Tryz.func42,by kernel_rfl,by kernel_rfl⟩
  · exact ⟨_,takes,Tryz.func45,by kernel_rfl,by kernel_rfl⟩
  · exact ⟨_,takes,Tryz.func44,by kernel_rfl,by kernel_rfl⟩
  · exact ⟨_,takes,Tryz.func47,by kernel_rfl,by kernel_rfl⟩
  · exact ⟨_,takes,Tryz.func54,by kernel_rfl,by kernel_rfl⟩
  · exact ⟨_,takes,Tryz.func55,by kernel_rfl,by kernel_rfl⟩
  · exact ⟨_,takes,Tryz.func57,by kernel_rfl,by kernel_rfl⟩
  · exact ⟨_,takes,Tryz.func56,by kernel_rfl,by kernel_rfl⟩
  · exact ⟨_,takes,Tryz.func30,by kernel_rfl,by kernel_rfl⟩
  · exact ⟨_,takes,Tryz.func31,by kernel_rfl,by kernel_rfl⟩
  · exact ⟨_,takes,Tryz.func90,by kernel_rfl,by kernel_rfl⟩
  · exact ⟨_,takes,Tryz.func89,by kernel_rfl,by kernel_rfl⟩
  · exact ⟨_,takes,Tryz.func100,by kernel_rfl,by kernel_rfl⟩
  · exact ⟨_,takes,Tryz.func99,by kernel_rfl,by kernel_rfl⟩
  · exact ⟨_,takes,Tryz.func102,by kernel_rfl,by kernel_rfl⟩
  · exact ⟨_,takes,Tryz.func101,by kernel_rfl,by kernel_rfl⟩
  · exact ⟨_,takes,Tryz.func104,by kernel_rfl,by kernel_rfl⟩
  · exact ⟨_,takes,Tryz.func103,by kernel_rfl,by kernel_rfl⟩
  · exact ⟨_,takes,Tryz.func106,by kernel_rfl,by kernel_rfl⟩
  · exact ⟨_,takes,Tryz.func105,by kernel_rfl,by kernel_rfl⟩
  · exact ⟨_,takes,Tryz.func107,by kernel_rfl,by kernel_rfl⟩
  · exact ⟨_,takes,Tryz.func125,by kernel_rfl,by kernel_rfl⟩
  · exact ⟨_,takes,Tryz.func126,by kernel_rfl,by kernel_rfl⟩
  · exact ⟨_,takes,Tryz.func58,by kernel_rfl,by kernel_rfl⟩
  · exact ⟨_,takes,Tryz.func61,by kernel_rfl,by kernel_rfl⟩
  · exact ⟨_,takes,Tryz.func62,by kernel_rfl,by kernel_rfl⟩
  · exact ⟨_,takes,Tryz.func68,by kernel_rfl,by kernel_rfl⟩
  · exact ⟨_,takes,Tryz.func71,by kernel_rfl,by kernel_rfl⟩
  · exact ⟨_,takes,Tryz.func74,by kernel_rfl,by kernel_rfl⟩
  · exact ⟨_,takes,Tryz.func75,by kernel_rfl,by kernel_rfl⟩
  · exact ⟨_,takes,Tryz.func76,by kernel_rfl,by kernel_rfl⟩
  · exact ⟨_,takes,Tryz.func77,by kernel_rfl,by kernel_rfl⟩
  · exact ⟨_,takes,Tryz.func78,by kernel_rfl,by kernel_rfl⟩
  · exact ⟨_,takes,Tryz.func79,by kernel_rfl,by kernel_rfl⟩
  · exact ⟨_,takes,Tryz.func83,by kernel_rfl,by kernel_rfl⟩
  · exact ⟨_,takes,Tryz.func87,by kernel_rfl,by kernel_rfl⟩
  · exact ⟨_,takes,Tryz.func60,by kernel_rfl,by kernel_rfl⟩
  · exact ⟨_,takes,Tryz.func65,by kernel_rfl,by kernel_rfl⟩
  · exact ⟨_,takes,Tryz.func127,by kernel_rfl,by kernel_rfl⟩
  · exact ⟨_,takes,Tryz.func146,by kernel_rfl,by kernel_rfl⟩
  · exact ⟨_,takes,Tryz.func137,by kernel_rfl,by kernel_rfl⟩
  · exact ⟨_,takes,Tryz.func59,by kernel_rfl,by kernel_rfl⟩
  · exact ⟨_,takes,Tryz.func64,by kernel_rfl,by kernel_rfl⟩
  · exact ⟨_,takes,Tryz.func63,by kernel_rfl,by kernel_rfl⟩
  · exact ⟨_,takes,Tryz.func70,by kernel_rfl,by kernel_rfl⟩
  · exact ⟨_,takes,Tryz.func69,by kernel_rfl,by kernel_rfl⟩
  · exact ⟨_,takes,Tryz.func73,by kernel_rfl,by kernel_rfl⟩
  · exact ⟨_,takes,Tryz.func72,by kernel_rfl,by kernel_rfl⟩
  · exact ⟨_,takes,Tryz.func81,by kernel_rfl,by kernel_rfl⟩
  · exact ⟨_,takes,Tryz.func80,by kernel_rfl,by kernel_rfl⟩
  · exact ⟨_,takes,Tryz.func85,by kernel_rfl,by kernel_rfl⟩
  · exact ⟨_,takes,Tryz.func84,by kernel_rfl,by kernel_rfl⟩
  · exact ⟨_,takes,Tryz.func88,by kernel_rfl,by kernel_rfl⟩
  · exact ⟨_,takes,Tryz.func66,by kernel_rfl,by kernel_rfl⟩
  · exact ⟨_,takes,Tryz.func67,by kernel_rfl,by kernel_rfl⟩
  · exact ⟨_,takes,Tryz.func82,by kernel_rfl,by kernel_rfl⟩
  · exact ⟨_,takes,Tryz.func86,by kernel_rfl,by kernel_rfl⟩
  · exact ⟨_,takes,Tryz.func133,by kernel_rfl,by kernel_rfl⟩
  · exact ⟨_,takes,Tryz.func132,by kernel_rfl,by kernel_rfl⟩
  · exact ⟨_,takes,Tryz.func177,by kernel_rfl,by kernel_rfl⟩
  · exact ⟨_,takes,Tryz.func128,by kernel_rfl,by kernel_rfl⟩
  · exact ⟨_,takes,Tryz.func129,by kernel_rfl,by kernel_rfl⟩
  · exact ⟨_,takes,Tryz.func130,by kernel_rfl,by kernel_rfl⟩
  · exact ⟨_,takes,Tryz.func131,by kernel_rfl,by kernel_rfl⟩
  · exact ⟨_,takes,Tryz.func135,by kernel_rfl,by kernel_rfl⟩
  · exact ⟨_,takes,Tryz.func134,by kernel_rfl,by kernel_rfl⟩
  · exact ⟨_,takes,Tryz.func151,by kernel_rfl,by kernel_rfl⟩
  · exact ⟨_,takes,Tryz.func152,by kernel_rfl,by kernel_rfl⟩
  · exact ⟨_,takes,Tryz.func154,by kernel_rfl,by kernel_rfl⟩
  · exact ⟨_,takes,Tryz.func155,by kernel_rfl,by kernel_rfl⟩
  · exact ⟨_,takes,Tryz.func156,by kernel_rfl,by kernel_rfl⟩
  · exact ⟨_,takes,Tryz.func136,by kernel_rfl,by kernel_rfl⟩
  · exact ⟨_,takes,Tryz.func167,by kernel_rfl,by kernel_rfl⟩
  · exact ⟨_,takes,Tryz.func166,by kernel_rfl,by kernel_rfl⟩
  · exact ⟨_,takes,Tryz.func168,by kernel_rfl,by kernel_rfl⟩
  · exact ⟨_,takes,Tryz.func169,by kernel_rfl,by kernel_rfl⟩
  · exact ⟨_,takes,Tryz.func170,by kernel_rfl,by kernel_rfl⟩
  · exact ⟨_,takes,Tryz.func158,by kernel_rfl,by kernel_rfl⟩
  · exact ⟨_,takes,Tryz.func157,by kernel_rfl,by kernel_rfl⟩
  · exact ⟨_,takes,Tryz.func179,by kernel_rfl,by kernel_rfl⟩
  · exact ⟨_,takes,Tryz.func180,by kernel_rfl,by kernel_rfl⟩
  · exact ⟨_,takes,Tryz.func181,by kernel_rfl,by kernel_rfl⟩
  · exact ⟨_,takes,Tryz.func183,by kernel_rfl,by kernel_rfl⟩
  · exact ⟨_,takes,Tryz.func187,by kernel_rfl,by kernel_rfl⟩
  · exact ⟨_,takes,Tryz.func188,by kernel_rfl,by kernel_rfl⟩
  · exact ⟨_,takes,Tryz.func189,by kernel_rfl,by kernel_rfl⟩
  · exact ⟨_,takes,Tryz.func192,by kernel_rfl,by kernel_rfl⟩
  · exact ⟨_,takes,Tryz.func194,by kernel_rfl,by kernel_rfl⟩
  · exact ⟨_,takes,Tryz.func195,by kernel_rfl,by kernel_rfl⟩
  · exact ⟨_,takes,Tryz.func196,by kernel_rfl,by kernel_rfl⟩
  · exact ⟨_,takes,Tryz.func197,by kernel_rfl,by kernel_rfl⟩
  · exact ⟨_,takes,Tryz.func201,by kernel_rfl,by kernel_rfl⟩
end Go.Proofs.YtlmfmmclnboglaaGreat
end
