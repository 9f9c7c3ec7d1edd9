import Derived.Test.YtleomfgijkapfaaGreatDoorRows
import Derived.ProofKit
import Derived.LoopN
import Derived.Scope
import Derived.Orders
import Derived.Shelf.Spec.SlicesGrow
import Derived.Test.YtleomfgijkapfaaGreatDoorProg
import Derived.Shelf.RegionOpenPlain
import Derived.Lib.Builder
import Derived.Lib.UnsafeStr
import Derived.Lib.MakeNoZero
import Derived.Lib.Strings
import Derived.Lib.Slices
import Derived.Lib.Walk
import Derived.WalkKit
import Derived.Laws.Externs
import Derived.Laws.IdiomCopy
import Derived.Lib.AppendStr
import Derived.Laws.AppendOwn
import Derived.Test.YtleomfgijkapfaaGreatDoorR2
set_option linter.all false
section
namespace Go.Proofs.YtleomfgijkapfaaGreatDoor
open Go Go.Proofs.YtleomfgijkapfaaGreatDoor.Abs
set_option maxRecDepth 100000
set_option maxHeartbeats 0
abbrev HP:=List Zw
abbrev GT:=Nat→Option (List AV)
abbrev KT:=FuncId→List AV→HP→KR
def takes:FuncId→List Nat:=fun _=>[]
abbrev Ii:FuncId:=4
abbrev CP:FuncId:=9
abbrev J5:FuncId:=10
abbrev Rh:FuncId:=13
abbrev Dw:FuncId:=14
abbrev PN:FuncId:=15
abbrev Zcn:FuncId:=22
abbrev Zfh:FuncId:=23
abbrev Jd:FuncId:=25
abbrev OG:FuncId:=27
abbrev TY:FuncId:=31
abbrev Ih:FuncId:=35
abbrev CZ:FuncId:=36
abbrev BV:FuncId:=37
abbrev OD:FuncId:=41
abbrev Hw:FuncId:=47
abbrev Zco:FuncId:=48
abbrev QQ:FuncId:=52
abbrev Gu:FuncId:=53
abbrev ML:FuncId:=57
abbrev RH:FuncId:=58
abbrev BX:FuncId:=67
abbrev PL:FuncId:=68
abbrev SG:FuncId:=75
abbrev Qa:FuncId:=76
abbrev LJ:FuncId:=77
abbrev YT:FuncId:=78
abbrev SH:FuncId:=79
abbrev PP:FuncId:=80
abbrev Zaa:FuncId:=81
abbrev PQ:FuncId:=82
abbrev CX:FuncId:=83
abbrev RI:FuncId:=84
abbrev Oi:FuncId:=85
abbrev CQ:FuncId:=86
abbrev UF:FuncId:=91
abbrev PM:FuncId:=95
abbrev KC:FuncId:=96
abbrev ZhW:FuncId:=109
abbrev Zcp:FuncId:=143
abbrev MM:FuncId:=144
abbrev PH:FuncId:=153
abbrev CJ:FuncId:=154
abbrev Jc:FuncId:=155
abbrev IR:FuncId:=156
abbrev WY:FuncId:=157
abbrev WI:FuncId:=158
abbrev PI:FuncId:=159
abbrev VF:FuncId:=160
abbrev Dc:FuncId:=161
abbrev PO:FuncId:=162
abbrev CV:FuncId:=163
abbrev SK:FuncId:=164
abbrev Xz:FuncId:=165
abbrev CS:FuncId:=166
abbrev ZeW:FuncId:=188
abbrev ZeX:FuncId:=191
abbrev PK:FuncId:=196
abbrev Qh:FuncId:=197
abbrev Gw:FuncId:=198
abbrev Gv:FuncId:=199
abbrev Xc:FuncId:=200
abbrev Q4:FuncId:=201
abbrev Va:FuncId:=202
abbrev OE:FuncId:=203
abbrev CY:FuncId:=204
abbrev IW:FuncId:=205
abbrev IV:FuncId:=206
abbrev TZ:FuncId:=207
abbrev Je:FuncId:=223
abbrev OC:FuncId:=234
abbrev VG:FuncId:=235
abbrev CU:FuncId:=236
abbrev BZ:FuncId:=237
abbrev Zcq:FuncId:=238
abbrev IU:FuncId:=254
abbrev RG:FuncId:=255
abbrev UE:FuncId:=256
abbrev Gt:FuncId:=257
abbrev Rf:FuncId:=268
abbrev Dv:TypeId:=3
abbrev ZtT:TypeId:=9
abbrev Zy:TypeId:=25
abbrev Yp:TypeId:=32
abbrev Yz:TypeId:=55
abbrev Zkh:TypeId:=60
abbrev Zv:TypeId:=71
abbrev Jq:TypeId:=75
abbrev Yb:TypeId:=77
abbrev ZnG:TypeId:=84
abbrev Yr:TypeId:=87
abbrev YQ:TypeId:=97
abbrev DX:TypeId:=129
abbrev YA:TypeId:=152
abbrev BR:TypeId:=183
abbrev Ac:TypeId:=199
abbrev UC:TypeId:=216
abbrev yI (n:Nat)(o:AOp):YZ:=⟨some n,o,none⟩
abbrev yJ (n:Nat) (o:AOp) (g:Nat) (b:Bool):YZ:=⟨some n,o,some (g,b)⟩
abbrev yN (o:AOp):YZ:=⟨none,o,none⟩
abbrev yV (n:Nat):QN:=.tmp n
abbrev yK (n:Int):QN:=.const (.int .i64 n)
abbrev yS (s:List UInt8):QN:=.const (.str s)
abbrev yT:QN:=.const (.bool true)
abbrev yF:QN:=.const (.bool false)
abbrev yG (n:Nat):QN:=.const (.fn n [] [])
abbrev yA (n:Nat):Nat ⊕ QN:=.inr (.tmp n)
abbrev yB (o:QN):Nat ⊕ QN:=.inr o
abbrev yR (l:List YZ):Zd:=.region false l
abbrev yQ (l:List YZ) (c:Zd):Zd:=.seq (.region false l) c
abbrev yM (n x:Nat):YZ:=⟨some n,.mv (.tmp x),none⟩
abbrev yU (n x:Nat):YZ:=⟨some n,.take x,none⟩
abbrev yL (n x:Nat):YZ:=⟨some n,.ldc (.tmp x),none⟩
abbrev yH (n k x:Nat):YZ:=⟨some n,.fa k (.tmp x),none⟩
abbrev yC (n:Nat) (x:QN):YZ:=⟨some n,.mv x,none⟩
abbrev yD (n k x:Nat):YZ:=⟨some n,.lda k (.tmp x),none⟩
abbrev yE (n k x i:Nat):YZ:=⟨some n,.ia (.slice k) (.tmp x) (.tmp i),none⟩
abbrev yO (n x:Nat):YZ:=⟨some n,.len .slice (.tmp x),none⟩
abbrev yP (n f:Nat) (l:List (Nat ⊕ QN)):YZ:=⟨some n,.call (.const (.fn f [] [])) l,none⟩
abbrev yw:Zd:=.skip
abbrev yr:Zd:=.ret
abbrev yc (n:Nat) (a b:Zd):Zd:=.cond (.tmp n) a b
abbrev yf:AV:=.bool false
abbrev ye:AV:=.str []
abbrev y0:AV:=.int .i64 0
abbrev yX (n:Nat) (o:BinOp) (x y:QN):YZ:=⟨some n,.bin o .prim x y,none⟩
def Az:Zd:=yQ [yI 3 (.box 25 3 (yV 0)),yI 5 (.box 32 4 (yV 2)),yC 6 yF] (.seq (yQ [yD 7 3 3,yP 8 9 [yA 7],yI 9 (.un .not (yV 8)),yM 10 9,yJ 11 (.lda 4 (yV 5)) 10 false,yJ 12 (.call (yG 13) [yA 11]) 10 false,yJ 13 (.un .not (yV 12)) 10 false,yI 14 (.pick (yV 10) yT (yV 13))] (yc 14 (yQ [yP 15 10 [],yU 6 15] yr) yw)) (.seq (.region true [yD 16 3 3,yM 17 1,yD 18 4 5,yP 19 14 [yA 16,yA 17,yA 18],yD 20 3 3,yM 21 1,yD 22 4 5,yP 23 15 [yA 20,yA 21,yA 22],yX 24 .eql (yV 19) (yV 23),yM 25 24,yJ 26 (.call (yG 10) []) 25 true,yI 27 (.pick (yV 25) (yV 26) yF),yM 6 27]) yr))
def LX:AFn:=⟨28,[.tmp 6],Az,false⟩
def AU:List Nat:=[11,12,13,26]
def ZfX:Zd:=.seq (yQ [yM 64 5,yH 65 1 1,yL 66 65,yM 67 3,yE 68 14 66 67,yH 69 13 68,yL 70 69,yO 71 70,yX 72 .lss (yV 64) (yV 71)] (yc 72 yw (.exit 2))) (.seq (.block 3 (yQ [yH 75 1 1,yL 76 75,yM 77 3,yE 78 14 76 77,yH 79 13 78,yL 80 79,yM 81 5,yE 82 4 80 81,yD 83 4 82,yP 84 13 [yA 83],yI 85 (.un .not (yV 84))] (yc 85 (yQ [yC 2 yF] yr) yw))) (yR [yM 73 5,yX 74 .add (yV 73) (yK 1),yU 5 74]))
def Fv:Zd:=.loop ZfX
def ZfY:Zd:=.seq (yQ [yM 86 6,yH 87 10 4,yL 88 87,yO 89 88,yX 90 .lss (yV 86) (yV 89)] (yc 90 yw (.exit 4))) (.seq (.block 5 (yQ [yH 93 10 4,yL 94 93,yM 95 6,yE 96 4 94 95,yH 97 3 96,yL 98 97,yP 99 25 [yA 98],yX 100 .gtr (yV 99) (yK 40)] (yc 100 (yQ [yC 2 yF] yr) yw))) (yR [yM 91 6,yX 92 .add (yV 91) (yK 1),yU 6 92]))
def Fz:Zd:=.loop ZfY
def D6:Zd:=yQ [yC 6 (yK 0)] (.block 4 (Fz))
def Fj:Zd:=yR [yM 12 3,yX 13 .add (yV 12) (yK 1),yU 3 13]
def OW:Zd:=.seq (yQ [yM 7 3,yH 8 1 1,yL 9 8,yO 10 9,yX 11 .lss (yV 7) (yV 10)] (yc 11 yw (.exit 0))) (.seq (.block 1 (yQ [yH 14 1 1,yL 15 14,yM 16 3,yE 17 14 15 16,yH 18 0 17,yD 19 13 18,yI 4 (.mk 55 [ye,(.own 3 []),(.own 17 []),(.own 3 []),(.own 3 []),(.own 1 []),(.own 1 []),(.own 1 []),(.own 1 []),(.own 1 []),(.own 4 []),(.own 5 []),(.own 3 [])]),yN (.st 13 (yV 4) (yV 19))] (.seq (yQ [yH 20 1 1,yL 21 20,yM 22 3,yE 23 14 21 22,yH 24 13 23,yL 25 24,yO 26 25,yX 27 .gtr (yV 26) (yK 6),yM 28 27,yJ 29 (.fa 10 (yV 4)) 28 false,yJ 30 (.ldc (yV 29)) 28 false,yJ 31 (.len .slice (yV 30)) 28 false,yJ 32 (.bin .gtr .prim (yV 31) (yK 6)) 28 false,yI 33 (.pick (yV 28) yT (yV 32)),yM 34 33,yJ 35 (.fa 1 (yV 4)) 34 false,yJ 36 (.ldc (yV 35)) 34 false,yJ 37 (.len .slice (yV 36)) 34 false,yJ 38 (.fa 2 (yV 4)) 34 false,yJ 39 (.ldc (yV 38)) 34 false,yJ 40 (.len .slice (yV 39)) 34 false,yJ 41 (.bin .add .prim (yV 37) (yV 40)) 34 false,yJ 42 (.fa 3 (yV 4)) 34 false,yJ 43 (.ldc (yV 42)) 34 false,yJ 44 (.len .slice (yV 43)) 34 false,yJ 45 (.bin .add .prim (yV 41) (yV 44)) 34 false,yJ 46 (.fa 5 (yV 4)) 34 false,yJ 47 (.ldc (yV 46)) 34 false,yJ 48 (.len .slice (yV 47)) 34 false,yJ 49 (.bin .add .prim (yV 45) (yV 48)) 34 false,yJ 50 (.fa 6 (yV 4)) 34 false,yJ 51 (.ldc (yV 50)) 34 false,yJ 52 (.len .slice (yV 51)) 34 false,yJ 53 (.bin .add .prim (yV 49) (yV 52)) 34 false,yJ 54 (.fa 11 (yV 4)) 34 false,yJ 55 (.ldc (yV 54)) 34 false,yJ 56 (.len .slice (yV 55)) 34 false,yJ 57 (.bin .add .prim (yV 53) (yV 56)) 34 false,yJ 58 (.fa 12 (yV 4)) 34 false,yJ 59 (.ldc (yV 58)) 34 false,yJ 60 (.len .slice (yV 59)) 34 false,yJ 61 (.bin .add .prim (yV 57) (yV 60)) 34 false,yJ 62 (.bin .gtr .prim (yV 61) (yK 60)) 34 false,yI 63 (.pick (yV 34) yT (yV 62))] (yc 63 (yQ [yC 2 yF] yr) yw)) (.seq (yQ [yC 5 (yK 0)] (.block 2 (Fv))) D6)))) Fj)
def Fq:Zd:=.loop OW
def Fp:Zd:=yQ [yH 101 1 1,yL 102 101,yO 103 102,yX 104 .leq (yV 103) (yK 20),yM 105 104,yJ 106 (.fa 2 (yV 1)) 105 true,yJ 107 (.ldc (yV 106)) 105 true,yJ 108 (.len .slice (yV 107)) 105 true,yJ 109 (.bin .leq .prim (yV 108) (yK 40)) 105 true,yI 110 (.pick (yV 105) (yV 109) yF),yU 2 110] yr
def Zam:Zd:=yQ [yI 1 (.box 25 3 (yV 0)),yC 2 yF] (.seq (yQ [yC 3 (yK 0)] (.block 0 (Fq))) Fp)
def X0:AFn:=⟨111,[.tmp 2],Zam,false⟩
def Wu:List Nat:=[29,30,31,32,35,36,37,38,39,40,41,42,43,44,45,46,47,48,49,50,51,52,53,54,55,56,57,58,59,60,61,62,106,107,108,109]
def Zef:Zd:=yQ [yX 35 .lss (yV 34) (yV 33)] (.seq (yc 35 yw (.exit 1)) (.seq (.block 2 (yQ [yE 36 14 32 34,yD 37 14 36,yI 6 (.mk 58 [ye,(.own 3 []),(.own 17 []),(.own 3 []),(.own 3 []),(.own 1 []),(.own 1 []),(.own 1 []),(.own 1 []),(.own 1 []),(.own 4 []),(.own 5 []),(.own 3 []),(.own 4 [])]),yN (.st 14 (yV 6) (yV 37))] (.seq (yQ [yH 38 0 1,yL 39 38,yH 40 0 6,yD 41 13 40,yI 42 (.lit 55 13 [(yV 41)]),yI 43 (.build [ye,(.own 3 []),(.own 13 []),(.own 3 [])] [(0,1,(yV 39)),(2,1,(yV 42))]),yP 44 28 [yA 43],yU 7 44] (yQ [yM 45 7,yX 46 .neq (yV 45) (yK 0)] (yc 46 (yQ [yU 47 7,yU 2 47] yr) yw))) (.seq (.block 3 (yQ [yM 49 4,yH 50 0 6,yH 51 0 50,yL 52 51,yI 53 (.look (.one .str) yf (yV 49) (yV 52) false),yU 48 53] (yc 48 (yQ [yC 2 (yK 4)] yr) (yQ [yD 55 14 6,yP 56 29 [yA 55],yI 57 (.un .not (yV 56)),yU 54 57] (yc 54 (yQ [yC 2 (yK 8)] yr) yw))))) (yR [yM 58 4,yH 59 0 6,yH 60 0 59,yL 61 60,yN (.mupd (.one .str) (yV 58) (yV 61) yT)]))))) (yR [yX 62 .add (yV 34) (yK 1),yM 34 62])))
def ZfI:Zd:=.loop Zef
def Zeh:Zd:=yQ [yX 80 .lss (yV 79) (yV 78)] (.seq (yc 80 yw (.exit 6)) (.seq (.block 7 (yQ [yE 81 4 77 79,yD 82 4 81,yI 12 (.mk 32 [ye,y0,y0,(.own 20 [])]),yN (.st 4 (yV 12) (yV 82))] (yQ [yD 83 3 1,yM 84 9,yD 85 4 12,yP 86 14 [yA 83,yA 84,yA 85],yU 13 86] (yQ [yM 87 13,yX 88 .neq (yV 87) (yK 0)] (yc 88 (yQ [yU 89 13,yU 2 89] yr) yw))))) (yR [yX 90 .add (yV 79) (yK 1),yM 79 90])))
def ZfK:Zd:=.loop Zeh
def ZfG:Zd:=yR [yX 91 .add (yV 71) (yK 1),yM 71 91]
def Zeg:Zd:=yQ [yX 72 .lss (yV 71) (yV 70)] (.seq (yc 72 yw (.exit 4)) (.seq (.block 5 (yQ [yM 73 71,yE 74 14 69 71,yD 75 14 74,yI 10 (.mk 58 [ye,(.own 3 []),(.own 17 []),(.own 3 []),(.own 3 []),(.own 1 []),(.own 1 []),(.own 1 []),(.own 1 []),(.own 1 []),(.own 4 []),(.own 5 []),(.own 3 []),(.own 4 [])]),yU 9 73,yN (.st 14 (yV 10) (yV 75))] (yQ [yH 76 13 10,yL 77 76,yO 78 77,yC 79 (yK 0)] (.block 6 (ZfK))))) ZfG))
def ZfJ:Zd:=.loop Zeg
def ZfH:Zd:=yQ [yC 2 (yK 0)] yr
def ZfF:Zd:=.seq (yQ [yD 63 3 1,yP 64 30 [yA 63],yU 8 64] (yQ [yM 65 8,yX 66 .neq (yV 65) (yK 0)] (yc 66 (yQ [yU 67 8,yU 2 67] yr) yw))) (.seq (yQ [yH 68 1 1,yL 69 68,yO 70 69,yC 71 (yK 0)] (.block 4 (ZfJ))) ZfH)
def Zmj:Zd:=yQ [yI 1 (.box 25 3 (yV 0)),yC 2 (yK 0)] (.seq (yQ [yH 14 0 1,yL 15 14,yP 16 27 [yA 15],yU 3 16] (yQ [yM 17 3,yX 18 .neq (yV 17) (yK 0)] (yc 18 (yQ [yU 19 3,yU 2 19] yr) yw))) (.seq (.block 0 (yQ [yH 21 1 1,yL 22 21,yO 23 22,yX 24 .eql (yV 23) (yK 0),yU 20 24] (yc 20 (yQ [yC 2 (yK 7)] yr) (yQ [yH 26 1 1,yL 27 26,yO 28 27,yX 29 .gtr (yV 28) (yK 16),yU 25 29] (yc 25 (yQ [yC 2 (yK 6)] yr) yw))))) (yQ [yI 30 (.mkmap),yU 4 30] (.seq (yQ [yH 31 1 1,yL 32 31,yO 33 32,yC 34 (yK 0)] (.block 1 (ZfI))) ZfF))))
def ZlK:AFn:=⟨92,[.tmp 2],Zmj,false⟩
def Zcz:Zd:=.seq (yQ [yM 4 3,yH 5 3 1,yL 6 5,yO 7 6,yX 8 .lss (yV 4) (yV 7)] (yc 8 yw (.exit 0))) (.seq (.block 1 (yQ [yH 11 3 1,yL 12 11,yM 13 3,yE 14 20 12 13,yH 15 12 14,yL 16 15,yO 17 16,yX 18 .gtr (yV 17) (yK 10)] (yc 18 (yQ [yC 2 yF] yr) yw))) (yR [yM 9 3,yX 10 .add (yV 9) (yK 1),yU 3 10]))
def NJ:Zd:=.loop Zcz
def NI:Zd:=yQ [yH 19 3 1,yL 20 19,yO 21 20,yX 22 .leq (yV 21) (yK 60),yU 2 22] yr
def PZ:Zd:=yQ [yI 1 (.box 32 4 (yV 0)),yC 2 yF] (.seq (yQ [yC 3 (yK 0)] (.block 0 (NJ))) NI)
def J7:AFn:=⟨23,[.tmp 2],PZ,false⟩
def VO:List Nat:=[]
def Zbu:Zd:=yQ [yX 67 .lss (yV 66) (yV 65)] (.seq (yc 67 yw (.exit 1)) (.seq (.block 2 (yQ [yE 68 20 64 66,yD 69 20 68,yI 10 (.mk 77 [y0,y0,y0,y0,y0,ye,y0,(.own 4 []),y0,ye,y0,(.own 4 []),(.own 4 []),y0,y0,y0,y0,(.own 1 []),(.own 1 []),yf]),yN (.st 20 (yV 10) (yV 69))] (yQ [yD 70 8 8,yD 71 20 10,yP 72 35 [yA 70,yA 71],yU 11 72] (yQ [yM 73 11,yX 74 .neq (yV 73) (yK 0)] (yc 74 (yQ [yU 75 11,yU 6 75] yr) yw))))) (yR [yX 76 .add (yV 66) (yK 1),yM 66 76])))
def Ph:Zd:=.loop Zbu
def Pg:Zd:=.seq (yQ [yH 77 3 5,yL 78 77,yH 79 3 5,yL 80 79,yO 81 80,yX 82 .sub (yV 81) (yK 1),yE 83 20 78 82,yH 84 0 83,yL 85 84,yU 12 85] (yQ [yM 86 12,yX 87 .neq (yV 86) (yK 19),yM 88 87,yJ 89 (.mv (yV 12)) 88 true,yJ 90 (.bin .neq .prim (yV 89) (yK 4)) 88 true,yI 91 (.pick (yV 88) (yV 90) yF)] (yc 91 (yQ [yC 6 (yK 8)] yr) yw))) (yQ [yC 6 (yK 0)] yr)
def D5:Zd:=yQ [yI 3 (.box 25 3 (yV 0)),yI 5 (.box 32 4 (yV 2)),yC 6 (yK 0)] (.seq (yQ [yM 13 1,yX 14 .lss (yV 13) (yK 0),yM 15 14,yJ 16 (.mv (yV 1)) 15 false,yJ 17 (.fa 1 (yV 3)) 15 false,yJ 18 (.ldc (yV 17)) 15 false,yJ 19 (.len .slice (yV 18)) 15 false,yJ 20 (.bin .geq .prim (yV 16) (yV 19)) 15 false,yI 21 (.pick (yV 15) yT (yV 20))] (yc 21 (yQ [yC 6 (yK 2)] yr) yw)) (.seq (yQ [yH 22 0 5,yL 23 22,yP 24 27 [yA 23],yU 7 24] (yQ [yM 25 7,yX 26 .neq (yV 25) (yK 0)] (yc 26 (yQ [yU 27 7,yU 6 27] yr) yw))) (.seq (.block 0 (yQ [yH 29 1 5,yL 30 29,yX 31 .lss (yV 30) (yK 0),yM 32 31,yJ 33 (.fa 1 (yV 5)) 32 false,yJ 34 (.ldc (yV 33)) 32 false,yJ 35 (.fa 2 (yV 5)) 32 false,yJ 36 (.ldc (yV 35)) 32 false,yJ 37 (.bin .gtr .prim (yV 34) (yV 36)) 32 false,yI 38 (.pick (yV 32) yT (yV 37)),yM 39 38,yJ 40 (.fa 1 (yV 5)) 39 false,yJ 41 (.ldc (yV 40)) 39 false,yJ 42 (.bin .gtr .prim (yV 41) (yK 6)) 39 false,yI 43 (.pick (yV 39) yT (yV 42)),yM 44 43,yJ 45 (.fa 2 (yV 5)) 44 false,yJ 46 (.ldc (yV 45)) 44 false,yJ 47 (.bin .gtr .prim (yV 46) (yK 16)) 44 false,yI 48 (.pick (yV 44) yT (yV 47)),yU 28 48] (yc 28 (yQ [yC 6 (yK 2)] yr) (yQ [yH 50 3 5,yL 51 50,yO 52 51,yX 53 .eql (yV 52) (yK 0),yU 49 53] (yc 49 (yQ [yC 6 (yK 7)] yr) (yQ [yH 55 3 5,yL 56 55,yO 57 56,yX 58 .gtr (yV 57) (yK 1000),yU 54 58] (yc 54 (yQ [yC 6 (yK 6)] yr) yw))))))) (yQ [yD 59 3 3,yM 60 1,yD 61 4 5,yI 62 (.build [ye,(.own 14 []),(.own 3 []),y0,ye,y0,y0,(.own 20 [])] [(0,3,(yV 59)),(3,1,(yV 60)),(4,4,(yV 61))]),yI 8 (.mk 87 [ye,(.own 14 []),(.own 3 []),y0,ye,y0,y0,(.own 20 [])]),yN (.st 8 (yV 8) (yV 62))] (.seq (yQ [yH 63 3 5,yL 64 63,yO 65 64,yC 66 (yK 0)] (.block 1 (Ph))) Pg)))))
def VX:AFn:=⟨92,[.tmp 6],D5,false⟩
def Vg:List Nat:=[16,17,18,19,20,33,34,35,36,37,40,41,42,45,46,47,89,90]
def ZcA:Zd:=.seq (yQ [yM 56 8,yH 57 3 5,yL 58 57,yO 59 58,yX 60 .lss (yV 56) (yV 59)] (yc 60 yw (.exit 1))) (.seq (.block 2 (.seq (.region true [yD 63 3 3,yM 64 1,yD 65 4 5,yH 66 3 5,yL 67 66,yM 68 8,yE 69 20 67 68,yD 70 20 69,yP 71 36 [yA 63,yA 64,yA 65,yA 70],yM 7 71]) (yQ [yM 72 7,yX 73 .neq (yV 72) (yK 0)] (yc 73 (yQ [yU 74 7,yU 6 74] yr) yw)))) (yR [yM 61 8,yX 62 .add (yV 61) (yK 1),yU 8 62]))
def NR:Zd:=.loop ZcA
def NQ:Zd:=yQ [yH 75 3 5,yL 76 75,yH 77 3 5,yL 78 77,yO 79 78,yX 80 .sub (yV 79) (yK 1),yE 81 20 76 80,yH 82 0 81,yL 83 82,yU 9 83] (.seq (yQ [yM 84 9,yX 85 .neq (yV 84) (yK 19),yM 86 85,yJ 87 (.mv (yV 9)) 86 true,yJ 88 (.bin .neq .prim (yV 87) (yK 4)) 86 true,yI 89 (.pick (yV 86) (yV 88) yF)] (yc 89 (yQ [yC 6 (yK 8)] yr) yw)) (yQ [yC 6 (yK 0)] yr))
def Nl:Zd:=yQ [yI 3 (.box 25 3 (yV 0)),yI 5 (.box 32 4 (yV 2)),yC 6 (yK 0)] (.seq (yQ [yM 10 1,yX 11 .lss (yV 10) (yK 0),yM 12 11,yJ 13 (.mv (yV 1)) 12 false,yJ 14 (.fa 1 (yV 3)) 12 false,yJ 15 (.ldc (yV 14)) 12 false,yJ 16 (.len .slice (yV 15)) 12 false,yJ 17 (.bin .geq .prim (yV 13) (yV 16)) 12 false,yI 18 (.pick (yV 12) yT (yV 17))] (yc 18 (yQ [yC 6 (yK 2)] yr) yw)) (yQ [yH 19 0 5,yL 20 19,yP 21 31 [yA 20],yU 7 21] (.seq (yQ [yM 22 7,yX 23 .neq (yV 22) (yK 0)] (yc 23 (yQ [yU 24 7,yU 6 24] yr) yw)) (.seq (.block 0 (yQ [yH 26 1 5,yL 27 26,yX 28 .lss (yV 27) (yK 0),yM 29 28,yJ 30 (.fa 1 (yV 5)) 29 false,yJ 31 (.ldc (yV 30)) 29 false,yJ 32 (.fa 2 (yV 5)) 29 false,yJ 33 (.ldc (yV 32)) 29 false,yJ 34 (.bin .gtr .prim (yV 31) (yV 33)) 29 false,yI 35 (.pick (yV 29) yT (yV 34)),yM 36 35,yJ 37 (.fa 1 (yV 5)) 36 false,yJ 38 (.ldc (yV 37)) 36 false,yJ 39 (.bin .gtr .prim (yV 38) (yK 6)) 36 false,yI 40 (.pick (yV 36) yT (yV 39)),yM 41 40,yJ 42 (.fa 2 (yV 5)) 41 false,yJ 43 (.ldc (yV 42)) 41 false,yJ 44 (.bin .gtr .prim (yV 43) (yK 16)) 41 false,yI 45 (.pick (yV 41) yT (yV 44)),yU 25 45] (yc 25 (yQ [yC 6 (yK 2)] yr) (yQ [yH 47 3 5,yL 48 47,yO 49 48,yX 50 .eql (yV 49) (yK 0),yU 46 50] (yc 46 (yQ [yC 6 (yK 7)] yr) (yQ [yH 52 3 5,yL 53 52,yO 54 53,yX 55 .gtr (yV 54) (yK 1000),yU 51 55] (yc 51 (yQ [yC 6 (yK 6)] yr) yw))))))) (.seq (yQ [yC 8 (yK 0)] (.block 1 (NR))) NQ)))))
def JA:AFn:=⟨90,[.tmp 6],Nl,false⟩
def VR:List Nat:=[13,14,15,16,17,30,31,32,33,34,37,38,39,42,43,44,87,88]
def Zei:Zd:=yQ [yX 10 .lss (yV 9) (yV 8)] (.seq (yc 10 yw (.exit 0)) (.seq (.block 1 (yQ [yM 11 9,yE 12 20 7 9,yD 13 20 12,yI 5 (.mk 77 [y0,y0,y0,y0,y0,ye,y0,(.own 4 []),y0,ye,y0,(.own 4 []),(.own 4 []),y0,y0,y0,y0,(.own 1 []),(.own 1 []),yf]),yU 4 11,yN (.st 20 (yV 5) (yV 13))] (yQ [yH 14 0 5,yL 15 14,yX 16 .eql (yV 15) (yK 4),yM 17 16,yJ 18 (.fa 0 (yV 5)) 17 false,yJ 19 (.ldc (yV 18)) 17 false,yJ 20 (.bin .eql .prim (yV 19) (yK 5)) 17 false,yI 21 (.pick (yV 17) yT (yV 20))] (yc 21 (yR [yU 22 3,yM 23 4,yH 24 1 5,yL 25 24,yI 26 (.build [y0,y0] [(0,1,(yV 23)),(1,1,(yV 25))]),yI 27 (.lit 39 2 [(yV 26)]),yI 28 (.app 2 16 22 (yV 27)),yU 3 28]) yw)))) (yR [yX 29 .add (yV 9) (yK 1),yM 9 29])))
def ZfM:Zd:=.loop Zei
def ZfL:Zd:=yQ [yU 30 3,yU 2 30] yr
def Zmk:Zd:=yQ [yI 1 (.box 32 4 (yV 0)),yI 2 (.mv (.const (.own 2 [])))] (yQ [yI 3 (.mv (.const (.own 2 [])))] (.seq (yQ [yH 6 3 1,yL 7 6,yO 8 7,yC 9 (yK 0)] (.block 0 (ZfM))) ZfL))
def ZlL:AFn:=⟨31,[.tmp 2],Zmk,false⟩
def ZfO:Zd:=yQ [yX 49 .lss (yV 48) (yV 47)] (.seq (yc 49 yw (.exit 2)) (.seq (.block 3 (yQ [yE 50 4 46 48,yD 51 4 50,yI 9 (.mk 71 [y0,ye,y0,(.own 4 [])]),yN (.st 4 (yV 9) (yV 51))] (yR [yD 52 4 9,yP 53 42 [yA 52],yX 54 .add (yS [32]) (yV 53),yP 55 38 [yA 3,yA 54]]))) (yR [yX 56 .add (yV 48) (yK 1),yM 48 56])))
def Zit:Zd:=.loop ZfO
def Zip:Zd:=.seq (yQ [yH 57 0 5,yL 58 57,yX 59 .eql (yV 58) (yK 3)] (yc 59 (yR [yH 60 13 5,yD 61 6 60,yP 62 43 [yA 61],yX 63 .add (yS [32]) (yV 62),yP 64 38 [yA 3,yA 63]]) yw)) (yR [yP 65 44 [yA 3,(.inr (.const (.int .u8 10)))]])
def Zio:Zd:=.seq (.seq (.region true [yM 29 4,yP 30 40 [yA 29],yM 31 6,yH 32 1 5,yL 33 32,yP 34 40 [yA 33],yH 35 2 5,yL 36 35,yP 37 40 [yA 36],yH 38 3 5,yL 39 38,yP 40 40 [yA 39],yM 41 7]) (yR [yI 42 (.lit 9 1 [(yV 30),(yV 31),(yV 34),(yV 37),(yV 40),(yV 41)]),yP 43 39 [yA 42],yP 44 38 [yA 3,yA 43]])) (.seq (yQ [yD 45 20 5,yP 46 41 [yA 45],yO 47 46,yC 48 (yK 0)] (.block 2 (Zit))) Zip)
def Zin:Zd:=.seq (yQ [yH 27 19 5,yL 28 27] (yc 28 (yR [yC 7 (yS [49])]) yw)) Zio
def Ziq:Zd:=yR [yX 66 .add (yV 13) (yK 1),yM 13 66]
def ZfN:Zd:=yQ [yX 14 .lss (yV 13) (yV 12)] (.seq (yc 14 yw (.exit 0)) (.seq (.block 1 (yQ [yM 15 13,yE 16 20 11 13,yD 17 20 16,yI 5 (.mk 77 [y0,y0,y0,y0,y0,ye,y0,(.own 4 []),y0,ye,y0,(.own 4 []),(.own 4 []),y0,y0,y0,y0,(.own 1 []),(.own 1 []),yf]),yU 4 15,yN (.st 20 (yV 5) (yV 17))] (yQ [yC 6 (yS [63]),yC 7 (yS [48])] (.seq (yQ [yH 18 0 5,yL 19 18,yP 20 37 [yA 19]] (yc 20 (yR [yI 21 (.ldc (.glob 0)),yH 22 0 5,yL 23 22,yE 24 9 21 23,yH 25 0 24,yL 26 25,yU 6 26]) yw)) Zin)))) Ziq))
def Zis:Zd:=.loop ZfN
def Zir:Zd:=yQ [yP 67 45 [yA 3],yU 2 67] yr
def Zoe:Zd:=yQ [yI 1 (.box 32 4 (yV 0)),yC 2 (yS [])] (yQ [yI 3 (.mk 93 [.nilp,(.nils 1)])] (.seq (yQ [yH 10 3 1,yL 11 10,yO 12 11,yC 13 (yK 0)] (.block 0 (Zis))) Zir))
def ZnT:AFn:=⟨68,[.tmp 2],Zoe,false⟩
def Zod:Zd:=yQ [yI 2 (.box 25 3 (yV 0)),yI 3 (.box 25 3 (yV 1)),yC 4 yF] (yQ [yH 5 0 2,yL 6 5,yH 7 0 3,yL 8 7,yX 9 .eql (yV 6) (yV 8),yM 10 9,yJ 11 (.fa 1 (yV 2)) 10 true,yJ 12 (.ldc (yV 11)) 10 true,yJ 13 (.fa 1 (yV 3)) 10 true,yJ 14 (.ldc (yV 13)) 10 true,yJ 15 (.call (yG 49) [yA 12,yA 14,(.inr (yG 50))]) 10 true,yI 16 (.pick (yV 10) (yV 15) yF),yM 17 16,yJ 18 (.fa 2 (yV 2)) 17 true,yJ 19 (.ldc (yV 18)) 17 true,yJ 20 (.fa 2 (yV 3)) 17 true,yJ 21 (.ldc (yV 20)) 17 true,yJ 22 (.call (yG 51) [yA 19,yA 21]) 17 true,yI 23 (.pick (yV 17) (yV 22) yF),yU 4 23] yr)
def ZnS:AFn:=⟨24,[.tmp 4],Zod,false⟩
def ZqN:Zd:=yQ [yI 3 (.box 25 3 (yV 0)),yI 4 (.box 3 1 (yV 1)),yI 5 (.box 3 1 (yV 2)),yC 6 (yK 0),yC 7 yF] (yQ [yH 9 2 3,yL 10 9,yI 11 (.mkfn 53 [] [(yV 4),(yV 5)]),yP 12 52 [yA 10,yA 11],yU 8 12] (.seq (yQ [yM 13 8,yX 14 .lss (yV 13) (yK 0)] (yc 14 (yQ [yC 6 (yK 0),yC 7 yF] yr) yw)) (yQ [yH 15 2 3,yL 16 15,yM 17 8,yE 18 3 16 17,yH 19 2 18,yL 20 19,yU 6 20,yC 7 yT] yr)))
def Zjy:AFn:=⟨21,[.tmp 6,.tmp 7],ZqN,false⟩
def Zru:List Nat:=[]
def Zk9:Zd:=.seq (yQ [yM 9 8,yH 10 2 3,yL 11 10,yO 12 11,yX 13 .lss (yV 9) (yV 12)] (yc 13 yw (.exit 0))) (.seq (.block 1 (yQ [yH 16 2 3,yL 17 16,yM 18 8,yE 19 3 17 18,yH 20 0 19,yL 21 20,yM 22 1,yX 23 .eql (yV 21) (yV 22),yM 24 23,yJ 25 (.fa 2 (yV 3)) 24 true,yJ 26 (.ldc (yV 25)) 24 true,yJ 27 (.mv (yV 8)) 24 true,yJ 28 (.ia (.slice 3) (yV 26) (yV 27)) 24 true,yJ 29 (.fa 1 (yV 28)) 24 true,yJ 30 (.ldc (yV 29)) 24 true,yJ 31 (.mv (yV 2)) 24 true,yJ 32 (.bin .eql .prim (yV 30) (yV 31)) 24 true,yI 33 (.pick (yV 24) (yV 32) yF)] (yc 33 (yQ [yH 34 2 3,yL 35 34,yM 36 8,yE 37 3 35 36,yH 38 2 37,yL 39 38,yU 6 39,yC 7 yT] yr) yw))) (yR [yM 14 8,yX 15 .add (yV 14) (yK 1),yU 8 15]))
def Zd7:Zd:=.loop Zk9
def Zd6:Zd:=yQ [yC 6 (yK 0),yC 7 yF] yr
def Zgs:Zd:=yQ [yI 3 (.box 25 3 (yV 0)),yC 6 (yK 0),yC 7 yF] (.seq (yQ [yC 8 (yK 0)] (.block 0 (Zd7))) Zd6)
def MW:AFn:=⟨40,[.tmp 6,.tmp 7],Zgs,false⟩
def TD:List Nat:=[25,26,27,28,29,30,31,32]
def Zgr:Zd:=.seq (yQ [yM 5 4,yM 6 0,yO 7 6,yX 8 .lss (yV 5) (yV 7)] (yc 8 yw (.exit 0))) (.seq (.block 1 (.region true [yM 11 3,yX 12 .add (yV 11) (yK 1),yM 13 0,yM 14 4,yE 15 21 13 14,yH 16 19 15,yL 17 16,yP 18 25 [yA 17],yX 19 .add (yV 12) (yV 18),yM 20 0,yM 21 4,yE 22 21 20 21,yH 23 20 22,yL 24 23,yP 25 25 [yA 24],yX 26 .add (yV 19) (yV 25),yM 3 26])) (yR [yM 9 4,yX 10 .add (yV 9) (yK 1),yU 4 10]))
def FI:Zd:=.loop Zgr
def FH:Zd:=yQ [yU 27 3,yU 2 27] yr
def Zax:Zd:=yQ [yC 2 (yK 0)] (yQ [yC 3 (yK 0)] (.seq (yQ [yC 4 (yK 0)] (.block 0 (FI))) FH))
def G8:AFn:=⟨28,[.tmp 2],Zax,false⟩
def UT:List Nat:=[]
def Zc6:Zd:=yQ [yX 25 .lss (yV 24) (yV 23)] (.seq (yc 25 yw (.exit 0)) (.seq (.block 1 (yQ [yM 26 24,yU 3 26] (yQ [yM 27 0,yM 28 3,yI 29 (.idx (yV 27) (yV 28)),yU 4 29] (yQ [yM 30 4,yP 31 57 [yA 30],yI 32 (.un .not (yV 31)),yM 33 32,yJ 34 (.mv (yV 4)) 33 true,yJ 35 (.bin .lss .prim (yV 34) (.const (.int .u8 48))) 33 true,yJ 36 (.mv (yV 35)) 33 true,yJ 37 (.mv (yV 4)) 36 false,yJ 38 (.bin .gtr .prim (yV 37) (.const (.int .u8 57))) 36 false,yJ 39 (.pick (yV 36) yT (yV 38)) 33 true,yI 40 (.pick (yV 33) (yV 39) yF),yM 41 40,yJ 42 (.mv (yV 4)) 41 true,yJ 43 (.bin .neq .prim (yV 42) (.const (.int .u8 95))) 41 true,yI 44 (.pick (yV 41) (yV 43) yF)] (yc 44 (yQ [yC 2 (yK 3)] yr) yw))))) (yR [yX 45 .add (yV 24) (yK 1),yM 24 45])))
def NL:Zd:=.loop Zc6
def NK:Zd:=yQ [yC 2 (yK 0)] yr
def Nj:Zd:=yQ [yC 2 (yK 0)] (.seq (yQ [yM 5 0,yX 6 .eql (yV 5) (yS []),yM 7 6,yJ 8 (.mv (yV 0)) 7 false,yJ 9 (.len .str (yV 8)) 7 false,yJ 10 (.bin .gtr .prim (yV 9) (yK 24)) 7 false,yI 11 (.pick (yV 7) yT (yV 10)),yM 12 11,yJ 13 (.mv (yV 0)) 12 false,yJ 14 (.idx (yV 13) (yK 0)) 12 false,yJ 15 (.call (yG 57) [yA 14]) 12 false,yJ 16 (.un .not (yV 15)) 12 false,yI 17 (.pick (yV 12) yT (yV 16)),yM 18 17,yJ 19 (.mv (yV 0)) 18 false,yJ 20 (.call (yG 58) [yA 19]) 18 false,yI 21 (.pick (yV 18) yT (yV 20))] (yc 21 (yQ [yC 2 (yK 3)] yr) yw)) (.seq (yQ [yM 22 0,yI 23 (.len .str (yV 22)),yC 24 (yK 0)] (.block 0 (NL))) NK))
def J8:AFn:=⟨46,[.tmp 2],Nj,false⟩
def VP:List Nat:=[8,9,10,13,14,15,16,19,20,34,35,36,37,38,39,42,43]
def Zk2:Zd:=yQ [yI 1 (.box 84 4 (yV 0)),yC 2 (yK 0)] (.seq (yQ [yH 7 0 1,yL 8 7,yP 9 27 [yA 8],yU 3 9] (yQ [yM 10 3,yX 11 .neq (yV 10) (yK 0)] (yc 11 (yQ [yU 12 3,yU 2 12] yr) yw))) (.seq (yQ [yI 13 (.mkmap),yH 14 1 1,yL 15 14,yP 16 59 [yA 13,yA 15],yU 4 16] (yQ [yM 17 4,yX 18 .neq (yV 17) (yK 0)] (yc 18 (yQ [yU 19 4,yU 2 19] yr) yw))) (.seq (yQ [yH 20 2 1,yL 21 20,yO 22 21,yX 23 .eql (yV 22) (yK 0)] (yc 23 (yQ [yC 2 (yK 7)] yr) yw)) (yQ [yI 24 (.mkmap),yI 5 (.mk 129 [.nilm]),yN (.stt (yV 5) 24)] (yQ [yH 25 2 1,yL 26 25,yI 27 (.mkfn 61 [] [(yV 5)]),yP 28 60 [yA 26,yB (yK 16),yA 27],yU 6 28] (.seq (yQ [yM 29 6,yX 30 .neq (yV 29) (yK 0)] (yc 30 (yQ [yU 31 6,yU 2 31] yr) yw)) (yQ [yD 32 4 1,yP 33 64 [yA 32],yU 2 33] yr)))))))
def Zkm:AFn:=⟨34,[.tmp 2],Zk2,false⟩
def Zkw:Zd:=yQ [yI 1 (.box 58 14 (yV 0)),yC 2 yF] (yQ [yH 3 13 1,yL 4 3,yH 5 0 1,yH 6 10 5,yL 7 6,yP 8 65 [yA 4,yA 7,(.inr (yG 66))],yU 2 8] yr)
def Zkj:AFn:=⟨9,[.tmp 2],Zkw,false⟩
def Ziu:Zd:=yc 24 (yQ [yC 2 (yK 2)] yr) (yQ [yM 58 3,yD 59 2 6,yI 60 (.look (.pair .int) yf (yV 58) (yV 59) false),yU 57 60] (yc 57 (yQ [yC 2 (yK 4)] yr) yw))
def Ziv:Zd:=yR [yM 61 3,yD 62 2 6,yN (.mupd (.pair .int) (yV 61) (yV 62) yT)]
def Ziw:Zd:=yR [yX 63 .add (yV 15) (yK 1),yM 15 63]
def ZfQ:Zd:=yQ [yX 16 .lss (yV 15) (yV 14)] (.seq (yc 16 yw (.exit 0)) (.seq (.block 1 (yQ [yE 17 3 13 15,yD 18 3 17,yI 5 (.mk 60 [y0,y0,y0]),yN (.st 3 (yV 5) (yV 18))] (yQ [yH 19 0 5,yL 20 19,yH 21 1 5,yL 22 21,yI 23 (.build [y0,y0] [(0,1,(yV 20)),(1,1,(yV 22))]),yI 6 (.mk 39 [y0,y0]),yN (.st 2 (yV 6) (yV 23))] (.seq (.block 2 (.seq (yQ [yH 25 0 5,yL 26 25,yH 27 1 5,yL 28 27,yI 29 (.min [(yV 26),(yV 28)]),yX 30 .lss (yV 29) (yK 0),yM 31 30,yJ 32 (.fa 0 (yV 5)) 31 false,yJ 33 (.ldc (yV 32)) 31 false,yJ 34 (.fa 1 (yV 5)) 31 false,yJ 35 (.ldc (yV 34)) 31 false,yJ 36 (.max [(yV 33),(yV 35)]) 31 false,yJ 37 (.fa 1 (yV 1)) 31 false,yJ 38 (.ldc (yV 37)) 31 false,yJ 39 (.len .slice (yV 38)) 31 false,yJ 40 (.bin .geq .prim (yV 36) (yV 39)) 31 false,yI 41 (.pick (yV 31) yT (yV 40)),yM 42 41,yJ 43 (.fa 0 (yV 5)) 42 false,yJ 44 (.ldc (yV 43)) 42 false,yJ 45 (.fa 1 (yV 5)) 42 false,yJ 46 (.ldc (yV 45)) 42 false,yJ 47 (.bin .eql .prim (yV 44) (yV 46)) 42 false,yI 48 (.pick (yV 42) yT (yV 47)),yU 24 48] (yc 24 yw (yR [yH 49 2 5,yL 50 49,yX 51 .lss (yV 50) (yK 1),yM 52 51,yJ 53 (.fa 2 (yV 5)) 52 false,yJ 54 (.ldc (yV 53)) 52 false,yJ 55 (.bin .gtr .prim (yV 54) (yK 1000000000)) 52 false,yI 56 (.pick (yV 52) yT (yV 55)),yU 24 56]))) Ziu)) Ziv)))) Ziw))
def Ziy:Zd:=.loop ZfQ
def Zix:Zd:=yQ [yC 2 (yK 0)] yr
def Zof:Zd:=yQ [yI 1 (.box 25 3 (yV 0)),yC 2 (yK 0)] (.seq (yQ [yH 7 2 1,yL 8 7,yO 9 8,yX 10 .gtr (yV 9) (yK 32)] (yc 10 (yQ [yC 2 (yK 6)] yr) yw)) (yQ [yI 11 (.mkmap),yU 3 11] (.seq (yQ [yH 12 2 1,yL 13 12,yO 14 13,yC 15 (yK 0)] (.block 0 (Ziy))) Zix)))
def ZnU:AFn:=⟨64,[.tmp 2],Zof,false⟩
def Zgn:Zd:=.seq (yQ [yM 22 3,yM 23 0,yI 24 (.len .str (yV 23)),yX 25 .lss (yV 22) (yV 24)] (yc 25 yw (.exit 0))) (.seq (.block 1 (yQ [yM 28 0,yM 29 3,yI 30 (.idx (yV 28) (yV 29)),yP 31 67 [yA 30],yI 32 (.un .not (yV 31)),yM 33 32,yJ 34 (.mv (yV 0)) 33 true,yJ 35 (.mv (yV 3)) 33 true,yJ 36 (.idx (yV 34) (yV 35)) 33 true,yJ 37 (.bin .neq .prim (yV 36) (.const (.int .u8 95))) 33 true,yI 38 (.pick (yV 33) (yV 37) yF),yM 39 38,yJ 40 (.mv (yV 0)) 39 true,yJ 41 (.mv (yV 3)) 39 true,yJ 42 (.idx (yV 40) (yV 41)) 39 true,yJ 43 (.bin .lss .prim (yV 42) (.const (.int .u8 48))) 39 true,yJ 44 (.mv (yV 43)) 39 true,yJ 45 (.mv (yV 0)) 44 false,yJ 46 (.mv (yV 3)) 44 false,yJ 47 (.idx (yV 45) (yV 46)) 44 false,yJ 48 (.bin .gtr .prim (yV 47) (.const (.int .u8 57))) 44 false,yJ 49 (.pick (yV 44) yT (yV 48)) 39 true,yI 50 (.pick (yV 39) (yV 49) yF)] (yc 50 (yQ [yC 2 (yK 3)] yr) yw))) (yR [yM 26 3,yX 27 .add (yV 26) (yK 1),yU 3 27]))
def F8:Zd:=.loop Zgn
def F7:Zd:=yQ [yC 2 (yK 0)] yr
def Zau:Zd:=yQ [yC 2 (yK 0)] (.seq (yQ [yM 4 0,yI 5 (.len .str (yV 4)),yX 6 .lss (yV 5) (yK 1),yM 7 6,yJ 8 (.mv (yV 0)) 7 false,yJ 9 (.len .str (yV 8)) 7 false,yJ 10 (.bin .gtr .prim (yV 9) (yK 24)) 7 false,yI 11 (.pick (yV 7) yT (yV 10)),yM 12 11,yJ 13 (.mv (yV 0)) 12 false,yJ 14 (.idx (yV 13) (yK 0)) 12 false,yJ 15 (.call (yG 67) [yA 14]) 12 false,yJ 16 (.un .not (yV 15)) 12 false,yI 17 (.pick (yV 12) yT (yV 16)),yM 18 17,yJ 19 (.mv (yV 0)) 18 false,yJ 20 (.call (yG 68) [yA 19]) 18 false,yI 21 (.pick (yV 18) yT (yV 20))] (yc 21 (yQ [yC 2 (yK 3)] yr) yw)) (.seq (yQ [yC 3 (yK 0)] (.block 0 (F8))) F7))
def G5:AFn:=⟨51,[.tmp 2],Zau,false⟩
def UO:List Nat:=[8,9,10,13,14,15,16,19,20,34,35,36,37,40,41,42,43,44,45,46,47,48,49]
def OO:Zd:=.seq (.seq (yQ [yD 66 8 2,yH 67 2 3,yL 68 67,yM 69 6,yP 70 76 [yA 66,yB (yK 10),yA 68,yA 69],yI 71 (.un .not (yV 70))] (yc 71 (yQ [yC 4 (yK 2)] yr) yw)) (.seq (.region true [yH 72 12 3,yL 73 72,yO 74 73,yH 75 0 2,yH 76 1 75,yL 77 76,yM 78 6,yE 79 14 77 78,yH 80 13 79,yL 81 80,yH 82 2 3,yL 83 82,yE 84 4 81 83,yH 85 1 84,yL 86 85,yX 87 .neq (yV 74) (yV 86)]) (yc 87 (yQ [yC 4 (yK 8)] yr) yw))) (.exit 0)
def OQ:Zd:=.seq (yQ [yH 88 2 5,yL 89 88,yX 90 .neq (yV 89) (yK 0),yM 91 90,yJ 92 (.lda 8 (yV 2)) 91 true,yJ 93 (.fa 2 (yV 5)) 91 true,yJ 94 (.ldc (yV 93)) 91 true,yJ 95 (.fa 2 (yV 3)) 91 true,yJ 96 (.ldc (yV 95)) 91 true,yJ 97 (.call (yG 76) [yA 92,yA 94,yA 96,yB (yK 0)]) 91 true,yJ 98 (.un .not (yV 97)) 91 true,yI 99 (.pick (yV 91) (yV 98) yF)] (yc 99 (yQ [yC 4 (yK 2)] yr) yw)) (.exit 0)
def Pe:Zd:=yQ [yX 104 .lss (yV 103) (yV 102)] (.seq (yc 104 yw (.exit 4)) (.seq (.block 5 (yQ [yE 105 4 101 103,yD 106 4 105,yI 10 (.mk 71 [y0,ye,y0,(.own 4 [])]),yN (.st 4 (yV 10) (yV 106))] (.seq (yQ [yD 107 4 10,yP 108 77 [yA 107],yU 11 108] (yQ [yM 109 11,yX 110 .neq (yV 109) (yK 0)] (yc 110 (yQ [yU 111 11,yU 4 111] yr) yw))) (yQ [yD 112 8 2,yD 113 4 10,yP 114 78 [yA 112,yA 113],yI 115 (.un .not (yV 114))] (yc 115 (yQ [yC 4 (yK 2)] yr) yw))))) (yR [yX 116 .add (yV 103) (yK 1),yM 103 116])))
def OU:Zd:=.loop Pe
def OT:Zd:=.seq (yQ [yH 117 7 5,yL 118 117] (yc 118 (yQ [yH 119 13 3,yD 120 6 119,yP 121 79 [yA 120],yU 4 121] yr) yw)) (yQ [yC 4 (yK 0)] yr)
def UI:Zd:=.seq (yQ [yD 100 20 3,yP 101 41 [yA 100],yO 102 101,yC 103 (yK 0)] (.block 4 (OU))) OT
def Ik:Zd:=yQ [yI 2 (.box 87 8 (yV 0)),yI 3 (.box 77 20 (yV 1)),yC 4 (yK 0)] (.seq (yQ [yH 12 0 3,yL 13 12,yP 14 37 [yA 13],yI 15 (.un .not (yV 14)),yM 16 15,yJ 17 (.lda 20 (yV 3)) 16 false,yJ 18 (.call (yG 75) [yA 17]) 16 false,yJ 19 (.un .not (yV 18)) 16 false,yI 20 (.pick (yV 16) yT (yV 19))] (yc 20 (yQ [yC 4 (yK 1)] yr) yw)) (yQ [yI 21 (.ldc (.glob 0)),yH 22 0 3,yL 23 22,yE 24 9 21 23,yD 25 9 24,yI 5 (.mk 97 [ye,y0,y0,yf,yf,yf,yf,yf,yf]),yN (.st 9 (yV 5) (yV 25))] (.seq (yQ [yD 26 8 2,yH 27 1 5,yL 28 27,yH 29 1 3,yL 30 29,yP 31 76 [yA 26,yA 28,yA 30,yB (yK 0)],yI 32 (.un .not (yV 31)),yM 33 32,yJ 34 (.fa 1 (yV 5)) 33 true,yJ 35 (.ldc (yV 34)) 33 true,yJ 36 (.bin .neq .prim (yV 35) (yK 0)) 33 true,yI 37 (.pick (yV 33) (yV 36) yF)] (yc 37 (yQ [yC 4 (yK 2)] yr) yw)) (yQ [yH 38 3 2,yL 39 38,yU 6 39] (.seq (yQ [yH 40 0 3,yL 41 40] (.block 0 (.seq (.block 3 (.seq (.block 2 (.seq (.block 1 (.seq (.seq (yQ [yX 43 .eql (yV 41) (yK 14),yU 42 43] (yc 42 (.exit 1) yw)) (yQ [yX 45 .eql (yV 41) (yK 15),yU 44 45] (yc 44 (.exit 2) yw))) (.exit 3))) (yQ [yH 46 1 3,yL 47 46,yU 6 47] (yQ [yH 49 0 2,yD 50 3 49,yH 51 3 2,yL 52 51,yH 53 1 3,yL 54 53,yP 55 22 [yA 50,yA 52,yA 54],yM 48 55,yI 56 (.extract (yV 48) 0),yI 57 (.extract (yV 48) 1),yU 7 56,yU 8 57] (yQ [yM 58 8,yI 59 (.un .not (yV 58)),yM 60 59,yJ 61 (.mv (yV 7)) 60 false,yJ 62 (.fa 3 (yV 3)) 60 false,yJ 63 (.ldc (yV 62)) 60 false,yJ 64 (.bin .neq .prim (yV 61) (yV 63)) 60 false,yI 65 (.pick (yV 60) yT (yV 64))] (yc 65 (yQ [yC 4 (yK 16)] yr) yw)))))) OO)) OQ))) UI)))))
def YF:AFn:=⟨122,[.tmp 4],Ik,false⟩
def Yf:List Nat:=[17,18,19,34,35,36,61,62,63,64,92,93,94,95,96,97,98]
def Zgt:Zd:=.seq (yQ [yM 31 11,yM 32 10,yO 33 32,yX 34 .lss (yV 31) (yV 33)] (yc 34 yw (.exit 0))) (.seq (.block 1 (yQ [yM 37 10,yM 38 11,yE 39 4 37 38,yD 40 4 39,yP 41 84 [yA 40],yU 9 41] (.seq (.seq (.region true [yM 42 9,yX 43 .eql (yV 42) (yK 0),yM 44 43,yJ 45 (.lda 3 (yV 4)) 44 true,yJ 46 (.mv (yV 1)) 44 true,yJ 47 (.lda 4 (yV 6)) 44 true,yJ 48 (.mv (yV 10)) 44 true,yJ 49 (.mv (yV 11)) 44 true,yJ 50 (.ia (.slice 4) (yV 48) (yV 49)) 44 true,yJ 51 (.lda 4 (yV 50)) 44 true,yJ 52 (.call (yG 85) [yA 45,yA 46,yA 47,yA 51]) 44 true,yJ 53 (.un .not (yV 52)) 44 true,yI 54 (.pick (yV 44) (yV 53) yF)]) (yc 54 (yR [yC 9 (yK 2)]) yw)) (yQ [yM 55 9,yX 56 .neq (yV 55) (yK 0)] (yc 56 (yQ [yU 57 9,yU 8 57] yr) yw))))) (yR [yM 35 11,yX 36 .add (yV 35) (yK 1),yU 11 36]))
def FN:Zd:=.loop Zgt
def FM:Zd:=.seq (yQ [yH 58 0 7,yL 59 58,yX 60 .eql (yV 59) (yK 3)] (yc 60 (yQ [yH 61 13 7,yD 62 6 61,yP 63 86 [yA 62],yU 8 63] yr) yw)) (yQ [yC 8 (yK 0)] yr)
def Zaz:Zd:=yQ [yI 4 (.box 25 3 (yV 0)),yI 6 (.box 32 4 (yV 2)),yI 7 (.box 77 20 (yV 3)),yC 8 (yK 0)] (.seq (yQ [yH 12 0 7,yL 13 12,yP 14 80 [yA 13],yI 15 (.un .not (yV 14)),yM 16 15,yJ 17 (.lda 20 (yV 7)) 16 false,yJ 18 (.call (yG 81) [yA 17]) 16 false,yJ 19 (.un .not (yV 18)) 16 false,yI 20 (.pick (yV 16) yT (yV 19))] (yc 20 (yQ [yC 8 (yK 1)] yr) yw)) (yQ [yD 21 3 4,yM 22 1,yD 23 4 6,yD 24 20 7,yP 25 82 [yA 21,yA 22,yA 23,yA 24],yU 9 25] (.seq (yQ [yM 26 9,yX 27 .neq (yV 26) (yK 0)] (yc 27 (yQ [yU 28 9,yU 8 28] yr) yw)) (yQ [yD 29 20 7,yP 30 83 [yA 29],yU 10 30] (.seq (yQ [yC 11 (yK 0)] (.block 0 (FN))) FM)))))
def G9:AFn:=⟨64,[.tmp 8],Zaz,false⟩
def UU:List Nat:=[17,18,19,45,46,47,48,49,50,51,52,53]
def Zmm:Zd:=yQ [yC 2 yF] (yQ [yM 3 0,yX 4 .geq (yV 3) (yK 1),yM 5 4,yJ 6 (.mv (yV 0)) 5 true,yJ 7 (.bin .leq .prim (yV 6) (yK 19)) 5 true,yI 8 (.pick (yV 5) (yV 7) yF),yU 2 8] yr)
def Zd0:AFn:=⟨9,[.tmp 2],Zmm,false⟩
def Znf:List Nat:=[6,7]
def Zkx:Zd:=yQ [yC 2 (yS [])] (yQ [yM 3 0,yP 4 88 [yA 3,yB (yS [32])],yU 2 4] yr)
def Zkk:AFn:=⟨5,[.tmp 2],Zkx,false⟩
def La:Zd:=.seq (yQ [yH 28 6 4,yL 29 28] (yc 29 (yR [yU 30 3,yH 31 12 1,yL 32 31,yI 33 (.app 4 56 30 (yV 32)),yU 3 33]) yw)) (yQ [yU 34 3,yU 2 34] yr)
def GH:Zd:=.seq (yQ [yH 21 5 4,yL 22 21] (yc 22 (yR [yU 23 3,yH 24 8 1,yD 25 4 24,yI 26 (.lit 71 4 [(yV 25)]),yI 27 (.app 4 56 23 (yV 26)),yU 3 27]) yw)) La
def OV:Zd:=yQ [yI 1 (.box 77 20 (yV 0)),yI 2 (.mv (.const (.own 4 [])))] (yQ [yI 3 (.mv (.const (.own 4 [])))] (.seq (yQ [yH 5 0 1,yL 6 5,yP 7 37 [yA 6],yI 8 (.un .not (yV 7))] (yc 8 (yQ [yI 2 (.mv (.const (.own 4 [])))] yr) yw)) (yQ [yI 9 (.ldc (.glob 0)),yH 10 0 1,yL 11 10,yE 12 9 9 11,yD 13 9 12,yI 4 (.mk 97 [ye,y0,y0,yf,yf,yf,yf,yf,yf]),yN (.st 9 (yV 4) (yV 13))] (.seq (yQ [yH 14 4 4,yL 15 14] (yc 15 (yR [yU 16 3,yH 17 4 1,yD 18 4 17,yI 19 (.lit 71 4 [(yV 18)]),yI 20 (.app 4 56 16 (yV 19)),yU 3 20]) yw)) GH))))
def Qb:AFn:=⟨35,[.tmp 2],OV,false⟩
def WG:List Nat:=[]
def Zak:Zd:=yQ [yX 17 .lss (yV 16) (yV 15)] (.seq (yc 17 yw (.exit 0)) (.seq (.block 1 (yQ [yE 18 4 14 16,yD 19 4 18,yI 5 (.mk 71 [y0,ye,y0,(.own 4 [])]),yN (.st 4 (yV 5) (yV 19))] (yR [yU 20 3,yD 21 4 5,yP 22 42 [yA 21],yI 23 (.lit 9 1 [(yV 22)]),yI 24 (.app 1 16 20 (yV 23)),yU 3 24]))) (yR [yX 25 .add (yV 16) (yK 1),yM 16 25])))
def Zbw:Zd:=.loop Zak
def Zbv:Zd:=yQ [yM 26 3,yP 27 39 [yA 26],yX 28 .add (yS [40]) (yV 27),yX 29 .add (yV 28) (yS [41]),yU 2 29] yr
def ZfR:Zd:=yQ [yI 1 (.box 71 4 (yV 0)),yC 2 (yS [])] (.seq (.region true [yH 6 0 1,yL 7 6,yP 8 40 [yA 7],yH 9 2 1,yL 10 9,yP 11 40 [yA 10],yI 12 (.lit 9 1 [(yV 8),(yV 11)]),yU 3 12]) (.seq (yQ [yH 13 3 1,yL 14 13,yO 15 14,yC 16 (yK 0)] (.block 0 (Zbw))) Zbv))
def Zfl:AFn:=⟨30,[.tmp 2],ZfR,false⟩
def ZfU:Zd:=yQ [yX 53 .lss (yV 52) (yV 51)] (.seq (yc 53 yw (.exit 1)) (.seq (.block 2 (yQ [yM 54 52,yE 55 1 50 52,yL 56 55,yU 5 54,yU 6 56] (.seq (.region true [yM 57 6,yP 58 40 [yA 57],yX 59 .add (yS [32]) (yV 58),yX 60 .add (yV 59) (yS [58]),yH 61 5 1,yL 62 61,yM 63 5,yE 64 1 62 63,yL 65 64,yP 66 40 [yA 65]]) (yR [yX 67 .add (yV 60) (yV 66),yP 68 38 [yA 4,yA 67]])))) (yR [yX 69 .add (yV 52) (yK 1),yM 52 69])))
def Zi0:Zd:=.loop ZfU
def Ziz:Zd:=yQ [yP 70 45 [yA 4],yU 2 70] yr
def Zoj:Zd:=yQ [yI 1 (.box 75 6 (yV 0)),yC 2 (yS [])] (.seq (yQ [yD 7 6 1,yP 8 79 [yA 7],yX 9 .neq (yV 8) (yK 0)] (yc 9 (yQ [yC 2 (yS [])] yr) yw)) (yQ [yI 3 (.mv (yG 90))] (.seq (yQ [yH 10 0 1,yL 11 10] (.block 0 (yQ [yX 13 .eql (yV 11) (yK 1),yU 12 13] (yc 12 (yQ [yM 14 3,yH 15 1 1,yL 16 15,yI 17 (.lit 3 1 [(yV 16)]),yI 18 (.call (yV 14) [yB (yS [99,111,110,115,116]),yA 17]),yU 2 18] yr) (yQ [yX 20 .eql (yV 11) (yK 2),yU 19 20] (yc 19 (yQ [yM 21 3,yH 22 1 1,yL 23 22,yH 24 2 1,yL 25 24,yI 26 (.lit 3 1 [(yV 23),(yV 25)]),yI 27 (.call (yV 21) [yB (yS [117,110,105,102,111,114,109]),yA 26]),yU 2 27] yr) (yQ [yX 29 .eql (yV 11) (yK 4),yU 28 29] (yc 28 (yQ [yM 30 3,yH 31 3 1,yL 32 31,yH 33 1 1,yL 34 33,yH 35 2 1,yL 36 35,yI 37 (.lit 3 1 [(yV 32),(yV 34),(yV 36)]),yI 38 (.call (yV 30) [yB (yS [115,117,109]),yA 37]),yU 2 38] yr) (yQ [yX 40 .eql (yV 11) (yK 5),yU 39 40] (yc 39 (yQ [yM 41 3,yH 42 1 1,yL 43 42,yH 44 2 1,yL 45 44,yI 46 (.lit 3 1 [(yV 43),(yV 45)]),yI 47 (.call (yV 41) [yB (yS [103,101,111,109]),yA 46]),yU 2 47] yr) yw)))))))))) (yQ [yI 4 (.mk 93 [.nilp,(.nils 1)])] (yQ [yP 48 38 [yA 4,yB (yS [116,97,98,108,101])]] (.seq (yQ [yH 49 4 1,yL 50 49,yO 51 50,yC 52 (yK 0)] (.block 1 (Zi0))) Ziz))))))
def ZnV:AFn:=⟨71,[.tmp 2],Zoj,false⟩
def ZqP:Zd:=yQ [yI 2 (.box 71 4 (yV 0)),yI 3 (.box 71 4 (yV 1)),yC 4 yF] (.seq (yQ [yH 5 0 2,yL 6 5,yH 7 0 3,yL 8 7,yX 9 .neq (yV 6) (yV 8),yM 10 9,yJ 11 (.fa 1 (yV 2)) 10 false,yJ 12 (.ldc (yV 11)) 10 false,yJ 13 (.fa 1 (yV 3)) 10 false,yJ 14 (.ldc (yV 13)) 10 false,yJ 15 (.bin .neq .prim (yV 12) (yV 14)) 10 false,yI 16 (.pick (yV 10) yT (yV 15)),yM 17 16,yJ 18 (.fa 2 (yV 2)) 17 false,yJ 19 (.ldc (yV 18)) 17 false,yJ 20 (.fa 2 (yV 3)) 17 false,yJ 21 (.ldc (yV 20)) 17 false,yJ 22 (.bin .neq .prim (yV 19) (yV 21)) 17 false,yI 23 (.pick (yV 17) yT (yV 22))] (yc 23 (yQ [yC 4 yF] yr) yw)) (yQ [yH 24 3 2,yL 25 24,yH 26 3 3,yL 27 26,yP 28 95 [yA 25,yA 27],yU 4 28] yr))
def Zj0:AFn:=⟨29,[.tmp 4],ZqP,false⟩
def Zrw:List Nat:=[11,12,13,14,15,18,19,20,21,22]
def ZqO:Zd:=yQ [yI 2 (.box 75 6 (yV 0)),yI 3 (.box 75 6 (yV 1)),yC 4 yF] (yQ [yH 5 0 2,yL 6 5,yH 7 0 3,yL 8 7,yX 9 .eql (yV 6) (yV 8),yM 10 9,yJ 11 (.fa 1 (yV 2)) 10 true,yJ 12 (.ldc (yV 11)) 10 true,yJ 13 (.fa 1 (yV 3)) 10 true,yJ 14 (.ldc (yV 13)) 10 true,yJ 15 (.bin .eql .prim (yV 12) (yV 14)) 10 true,yI 16 (.pick (yV 10) (yV 15) yF),yM 17 16,yJ 18 (.fa 2 (yV 2)) 17 true,yJ 19 (.ldc (yV 18)) 17 true,yJ 20 (.fa 2 (yV 3)) 17 true,yJ 21 (.ldc (yV 20)) 17 true,yJ 22 (.bin .eql .prim (yV 19) (yV 21)) 17 true,yI 23 (.pick (yV 17) (yV 22) yF),yM 24 23,yJ 25 (.fa 3 (yV 2)) 24 true,yJ 26 (.ldc (yV 25)) 24 true,yJ 27 (.fa 3 (yV 3)) 24 true,yJ 28 (.ldc (yV 27)) 24 true,yJ 29 (.bin .eql .prim (yV 26) (yV 28)) 24 true,yI 30 (.pick (yV 24) (yV 29) yF),yM 31 30,yJ 32 (.fa 4 (yV 2)) 31 true,yJ 33 (.ldc (yV 32)) 31 true,yJ 34 (.fa 4 (yV 3)) 31 true,yJ 35 (.ldc (yV 34)) 31 true,yJ 36 (.call (yG 96) [yA 33,yA 35]) 31 true,yI 37 (.pick (yV 31) (yV 36) yF),yM 38 37,yJ 39 (.fa 5 (yV 2)) 38 true,yJ 40 (.ldc (yV 39)) 38 true,yJ 41 (.fa 5 (yV 3)) 38 true,yJ 42 (.ldc (yV 41)) 38 true,yJ 43 (.call (yG 96) [yA 40,yA 42]) 38 true,yI 44 (.pick (yV 38) (yV 43) yF),yU 4 44] yr)
def Zjz:AFn:=⟨45,[.tmp 4],ZqO,false⟩
def Zrv:List Nat:=[11,12,13,14,15,18,19,20,21,22,25,26,27,28,29,32,33,34,35,36,39,40,41,42,43]
def Qd:Zd:=yQ [yX 18 .lss (yV 17) (yV 16)] (.seq (yc 18 yw (.exit 0)) (.seq (.block 1 (yQ [yM 19 17,yE 20 14 15 17,yD 21 14 20,yI 8 (.mk 58 [ye,(.own 3 []),(.own 17 []),(.own 3 []),(.own 3 []),(.own 1 []),(.own 1 []),(.own 1 []),(.own 1 []),(.own 1 []),(.own 4 []),(.own 5 []),(.own 3 []),(.own 4 [])]),yU 7 19,yN (.st 14 (yV 8) (yV 21))] (yQ [yM 22 1,yM 23 7,yE 24 14 22 23,yD 25 14 24,yI 9 (.mk 58 [ye,(.own 3 []),(.own 17 []),(.own 3 []),(.own 3 []),(.own 1 []),(.own 1 []),(.own 1 []),(.own 1 []),(.own 1 []),(.own 4 []),(.own 5 []),(.own 3 []),(.own 4 [])]),yN (.st 14 (yV 9) (yV 25))] (yQ [yM 26 2,yD 27 14 8,yD 28 14 9,yI 29 (.call (yV 26) [yA 27,yA 28]),yI 30 (.un .not (yV 29))] (yc 30 (yQ [yC 6 yF] yr) yw))))) (yR [yX 31 .add (yV 17) (yK 1),yM 17 31])))
def Qk:Zd:=.loop Qd
def Qj:Zd:=yQ [yC 6 yT] yr
def Q9:Zd:=yQ [yC 6 yF] (.seq (yQ [yM 10 0,yO 11 10,yM 12 1,yO 13 12,yX 14 .neq (yV 11) (yV 13)] (yc 14 (yQ [yC 6 yF] yr) yw)) (.seq (yQ [yM 15 0,yO 16 15,yC 17 (yK 0)] (.block 0 (Qk))) Qj))
def Q5:AFn:=⟨32,[.tmp 6],Q9,false⟩
def ZfT:Zd:=yQ [yI 2 (.box 58 14 (yV 0)),yI 3 (.box 58 14 (yV 1)),yC 4 yF] (yQ [yH 5 0 2,yD 6 13 5,yI 7 (.lit 55 13 [(yV 6)]),yI 8 (.build [ye,(.own 3 []),(.own 13 []),(.own 3 [])] [(2,1,(yV 7))]),yH 9 0 3,yD 10 13 9,yI 11 (.lit 55 13 [(yV 10)]),yI 12 (.build [ye,(.own 3 []),(.own 13 []),(.own 3 [])] [(2,1,(yV 11))]),yP 13 97 [yA 8,yA 12],yM 14 13,yJ 15 (.fa 13 (yV 2)) 14 true,yJ 16 (.ldc (yV 15)) 14 true,yJ 17 (.fa 13 (yV 3)) 14 true,yJ 18 (.ldc (yV 17)) 14 true,yJ 19 (.call (yG 98) [yA 16,yA 18,(.inr (yG 99))]) 14 true,yI 20 (.pick (yV 14) (yV 19) yF),yU 4 20] yr)
def Zfn:AFn:=⟨21,[.tmp 4],ZfT,false⟩
def I5:Zd:=yQ [yX 14 .lss (yV 13) (yV 12)] (.seq (yc 14 yw (.exit 0)) (.seq (.block 1 (yQ [yM 15 13,yU 5 15] (.seq (.region true [yM 16 0,yM 17 5,yE 18 3 16 17,yD 19 3 18,yM 20 1,yM 21 5,yE 22 3 20 21,yD 23 3 22,yI 24 (.bin .neq (.struct [.int,.int,.int]) (yV 19) (yV 23))]) (yc 24 (yQ [yC 4 yF] yr) yw)))) (yR [yX 25 .add (yV 13) (yK 1),yM 13 25])))
def Oa:Zd:=.loop I5
def IZ:Zd:=yQ [yC 4 yT] yr
def TM:Zd:=yQ [yC 4 yF] (.seq (yQ [yM 6 0,yO 7 6,yM 8 1,yO 9 8,yX 10 .neq (yV 7) (yV 9)] (yc 10 (yQ [yC 4 yF] yr) yw)) (.seq (yQ [yM 11 0,yO 12 11,yC 13 (yK 0)] (.block 0 (Oa))) IZ))
def TL:AFn:=⟨26,[.tmp 4],TM,false⟩
def Zmi:Zd:=yQ [yI 3 (.box 60 3 (yV 0)),yC 4 yF] (yQ [yH 5 0 3,yL 6 5,yL 7 1,yX 8 .eql (yV 6) (yV 7),yM 9 8,yJ 10 (.fa 1 (yV 3)) 9 true,yJ 11 (.ldc (yV 10)) 9 true,yJ 12 (.ldc (yV 2)) 9 true,yJ 13 (.bin .eql .prim (yV 11) (yV 12)) 9 true,yI 14 (.pick (yV 9) (yV 13) yF),yU 4 14] yr)
def Zdy:AFn:=⟨15,[.tmp 4],Zmi,false⟩
def Znd:List Nat:=[10,11,12,13]
def Gp:Zd:=yQ [yX 9 .lss (yV 8) (yV 7)] (.seq (yc 9 yw (.exit 0)) (.seq (.block 1 (yQ [yM 10 8,yU 5 10] (yQ [yM 11 1,yM 12 0,yM 13 5,yE 14 3 12 13,yD 15 3 14,yI 16 (.call (yV 11) [yA 15])] (yc 16 (yQ [yU 17 5,yU 4 17] yr) yw)))) (yR [yX 18 .add (yV 8) (yK 1),yM 8 18])))
def Vu:Zd:=.loop Gp
def Vt:Zd:=yQ [yI 4 (.mv (.const (.int .i64 (-1))))] yr
def QT:Zd:=yQ [yC 4 (yK 0)] (.seq (yQ [yM 6 0,yO 7 6,yC 8 (yK 0)] (.block 0 (Vu))) Vt)
def Ye:AFn:=⟨19,[.tmp 4],QT,false⟩
def ZW:List Nat:=[]
def ZiF:Zd:=yQ [yC 2 yF] (yQ [yM 3 0,yX 4 .geq (yV 3) (.const (.int .u8 97)),yM 5 4,yJ 6 (.mv (yV 0)) 5 true,yJ 7 (.bin .leq .prim (yV 6) (.const (.int .u8 122))) 5 true,yI 8 (.pick (yV 5) (yV 7) yF),yU 2 8] yr)
def Fe:AFn:=⟨9,[.tmp 2],ZiF,false⟩
def Zjk:List Nat:=[6,7]
def Zgl:Zd:=yQ [yC 2 yF] (.seq (yQ [yM 3 0] (.block 0 (.seq (yQ [yX 5 .eql (yV 3) (yS [97,100,100]),yU 4 5] (yc 4 yw (yQ [yX 6 .eql (yV 3) (yS [97,102,116,101,114]),yU 4 6] (yc 4 yw (yQ [yX 7 .eql (yV 3) (yS [97,110,100]),yU 4 7] (yc 4 yw (yQ [yX 8 .eql (yV 3) (yS [97,116]),yU 4 8] (yc 4 yw (yQ [yX 9 .eql (yV 3) (yS [98,101,108,116]),yU 4 9] (yc 4 yw (yQ [yX 10 .eql (yV 3) (yS [98,111,111,108]),yU 4 10] (yc 4 yw (yQ [yX 11 .eql (yV 3) (yS [99,111,110,115,101,114,118,101]),yU 4 11] (yc 4 yw (yQ [yX 12 .eql (yV 3) (yS [99,111,110,115,116]),yU 4 12] (yc 4 yw (yQ [yX 13 .eql (yV 3) (yS [99,111,117,110,116]),yU 4 13] (yc 4 yw (yQ [yX 14 .eql (yV 3) (yS [99,121,99,108,101]),yU 4 14] (yc 4 yw (yQ [yX 15 .eql (yV 3) (yS [100,111,119,110]),yU 4 15] (yc 4 yw (yQ [yX 16 .eql (yV 3) (yS [100,114,97,119]),yU 4 16] (yc 4 yw (yQ [yX 17 .eql (yV 3) (yS [100,117,114]),yU 4 17] (yc 4 yw (yQ [yX 18 .eql (yV 3) (yS [101,108,115,101]),yU 4 18] (yc 4 yw (yQ [yX 19 .eql (yV 3) (yS [101,110,100]),yU 4 19] (yc 4 yw (yQ [yX 20 .eql (yV 3) (yS [101,118,101,114,121]),yU 4 20] (yc 4 yw (yQ [yX 21 .eql (yV 3) (yS [102,97,108,115,101]),yU 4 21] (yc 4 yw (yQ [yX 22 .eql (yV 3) (yS [102,97,117,108,116]),yU 4 22] (yc 4 yw (yQ [yX 23 .eql (yV 3) (yS [102,105,102,111]),yU 4 23] (yc 4 yw (yQ [yX 24 .eql (yV 3) (yS [102,114,101,101]),yU 4 24] (yc 4 yw (yQ [yX 25 .eql (yV 3) (yS [102,114,111,109]),yU 4 25] (yc 4 yw (yQ [yX 26 .eql (yV 3) (yS [103,101,111,109]),yU 4 26] (yc 4 yw (yQ [yX 27 .eql (yV 3) (yS [103,101,116]),yU 4 27] (yc 4 yw (yQ [yX 28 .eql (yV 3) (yS [104,111,108,100]),yU 4 28] (yc 4 yw (yQ [yX 29 .eql (yV 3) (yS [105,102]),yU 4 29] (yc 4 yw (yQ [yX 30 .eql (yV 3) (yS [105,110,116]),yU 4 30] (yc 4 yw (yQ [yX 31 .eql (yV 3) (yS [105,110,116,111]),yU 4 31] (yc 4 yw (yQ [yX 32 .eql (yV 3) (yS [108,101,97,115,116]),yU 4 32] (yc 4 yw (yQ [yX 33 .eql (yV 3) (yS [108,101,118,101,108]),yU 4 33] (yc 4 yw (yQ [yX 34 .eql (yV 3) (yS [108,105,102,111]),yU 4 34] (yc 4 yw (yQ [yX 35 .eql (yV 3) (yS [108,105,110,107]),yU 4 35] (yc 4 yw (yQ [yX 36 .eql (yV 3) (yS [108,111,99,97,108]),yU 4 36] (yc 4 yw (yQ [yX 37 .eql (yV 3) (yS [109,97,120]),yU 4 37] (yc 4 yw (yQ [yX 38 .eql (yV 3) (yS [109,105,110]),yU 4 38] (yc 4 yw (yQ [yX 39 .eql (yV 3) (yS [109,111,100,101,108]),yU 4 39] (yc 4 yw (yQ [yX 40 .eql (yV 3) (yS [110,111,116]),yU 4 40] (yc 4 yw (yQ [yX 41 .eql (yV 3) (yS [110,111,119]),yU 4 41] (yc 4 yw (yQ [yX 42 .eql (yV 3) (yS [111,98,115,101,114,118,101]),yU 4 42] (yc 4 yw (yQ [yX 43 .eql (yV 3) (yS [111,114]),yU 4 43] (yc 4 yw (yQ [yX 44 .eql (yV 3) (yS [112,97,114,97,109]),yU 4 44] (yc 4 yw (yQ [yX 45 .eql (yV 3) (yS [112,114,101,101,109,112,116]),yU 4 45] (yc 4 yw (yQ [yX 46 .eql (yV 3) (yS [112,114,105,111]),yU 4 46] (yc 4 yw (yQ [yX 47 .eql (yV 3) (yS [112,117,116]),yU 4 47] (yc 4 yw (yQ [yX 48 .eql (yV 3) (yS [113,117,101,117,101]),yU 4 48] (yc 4 yw (yQ [yX 49 .eql (yV 3) (yS [114,101,108,101,97,115,101]),yU 4 49] (yc 4 yw (yQ [yX 50 .eql (yV 3) (yS [114,101,115,111,117,114,99,101]),yU 4 50] (yc 4 yw (yQ [yX 51 .eql (yV 3) (yS [114,105,100,101]),yU 4 51] (yc 4 yw (yQ [yX 52 .eql (yV 3) (yS [114,111,117,116,105,110,101]),yU 4 52] (yc 4 yw (yQ [yX 53 .eql (yV 3) (yS [115,101,105,122,101]),yU 4 53] (yc 4 yw (yQ [yX 54 .eql (yV 3) (yS [115,101,110,100]),yU 4 54] (yc 4 yw (yQ [yX 55 .eql (yV 3) (yS [115,101,116]),yU 4 55] (yc 4 yw (yQ [yX 56 .eql (yV 3) (yS [115,104,105,102,116]),yU 4 56] (yc 4 yw (yQ [yX 57 .eql (yV 3) (yS [115,105,103,110,97,108]),yU 4 57] (yc 4 yw (yQ [yX 58 .eql (yV 3) (yS [115,105,116,101]),yU 4 58] (yc 4 yw (yQ [yX 59 .eql (yV 3) (yS [115,105,122,101]),yU 4 59] (yc 4 yw (yQ [yX 60 .eql (yV 3) (yS [115,112,97,119,110]),yU 4 60] (yc 4 yw (yQ [yX 61 .eql (yV 3) (yS [115,116,97,114,116]),yU 4 61] (yc 4 yw (yQ [yX 62 .eql (yV 3) (yS [115,116,111,112]),yU 4 62] (yc 4 yw (yQ [yX 63 .eql (yV 3) (yS [115,116,111,114,101]),yU 4 63] (yc 4 yw (yQ [yX 64 .eql (yV 3) (yS [115,116,114,101,97,109]),yU 4 64] (yc 4 yw (yQ [yX 65 .eql (yV 3) (yS [115,117,109]),yU 4 65] (yc 4 yw (yQ [yX 66 .eql (yV 3) (yS [116,97,98,108,101]),yU 4 66] (yc 4 yw (yQ [yX 67 .eql (yV 3) (yS [116,97,108,108,121]),yU 4 67] (yc 4 yw (yQ [yX 68 .eql (yV 3) (yS [116,105,99,107,115]),yU 4 68] (yc 4 yw (yQ [yX 69 .eql (yV 3) (yS [116,105,109,101]),yU 4 69] (yc 4 yw (yQ [yX 70 .eql (yV 3) (yS [116,114,117,101]),yU 4 70] (yc 4 yw (yQ [yX 71 .eql (yV 3) (yS [117,110,105,102,111,114,109]),yU 4 71] (yc 4 yw (yQ [yX 72 .eql (yV 3) (yS [117,110,116,105,108]),yU 4 72] (yc 4 yw (yQ [yX 73 .eql (yV 3) (yS [117,112]),yU 4 73] (yc 4 yw (yQ [yX 74 .eql (yV 3) (yS [118,97,114]),yU 4 74] (yc 4 yw (yQ [yX 75 .eql (yV 3) (yS [119,97,105,116]),yU 4 75] (yc 4 yw (yQ [yX 76 .eql (yV 3) (yS [119,97,105,116,105,110,103]),yU 4 76] (yc 4 yw (yR [yX 77 .eql (yV 3) (yS [119,104,105,108,101]),yU 4 77]))))))))))))))))))))))))))))))))))))))))))))))))))))))))))))))))))))))))))))))))))))))))))))))))))))))))))))))))))))))))))))))))))))))))))))))))) (yc 4 (yQ [yC 2 yT] yr) yw)))) (yQ [yC 2 yF] yr))
def Ef:AFn:=⟨78,[.tmp 2],Zgl,false⟩
def Zhy:List Nat:=[]
def Sr:Zd:=yQ [yC 4 (yK 0)] (yQ [yM 5 1,yM 6 0,yI 7 (.mkfn 108 [(yV 6)] []),yP 8 107 [yA 5,yB (yK 32),yA 7],yU 4 8] yr)
def Sj:AFn:=⟨9,[.tmp 4],Sr,false⟩
def ZfZ:Zd:=yQ [yI 2 (.box 55 13 (yV 0)),yC 3 (yK 0)] (.seq (yQ [yL 5 1,yH 6 0 2,yL 7 6,yP 8 62 [yA 5,yA 7],yU 4 8] (yQ [yM 9 4,yX 10 .neq (yV 9) (yK 0)] (yc 10 (yQ [yU 11 4,yU 3 11] yr) yw))) (yQ [yD 12 13 2,yP 13 63 [yA 12],yU 3 13] yr))
def Zfs:AFn:=⟨14,[.tmp 3],ZfZ,false⟩
def Le:Zd:=yQ [yX 17 .lss (yV 16) (yV 15)] (.seq (yc 17 yw (.exit 0)) (.seq (.block 1 (yQ [yE 18 13 14 16,yD 19 13 18,yI 8 (.mk 55 [ye,(.own 3 []),(.own 17 []),(.own 3 []),(.own 3 []),(.own 1 []),(.own 1 []),(.own 1 []),(.own 1 []),(.own 1 []),(.own 4 []),(.own 5 []),(.own 3 [])]),yN (.st 13 (yV 8) (yV 19))] (yQ [yM 20 2,yD 21 13 8,yI 22 (.call (yV 20) [yA 21]),yU 9 22] (yQ [yM 23 9,yX 24 .neq (yV 23) (yK 0)] (yc 24 (yQ [yU 25 9,yU 6 25] yr) yw))))) (yR [yX 26 .add (yV 16) (yK 1),yM 16 26])))
def LV:Zd:=.loop Le
def LU:Zd:=yQ [yC 6 (yK 0)] yr
def BD:Zd:=yQ [yC 6 (yK 0)] (.seq (yQ [yM 10 0,yO 11 10,yM 12 1,yX 13 .gtr (yV 11) (yV 12)] (yc 13 (yQ [yC 6 (yK 6)] yr) yw)) (.seq (yQ [yM 14 0,yO 15 14,yC 16 (yK 0)] (.block 0 (LV))) LU))
def BA:AFn:=⟨27,[.tmp 6],BD,false⟩
def Zk5:Zd:=yQ [yI 1 (.box 84 4 (yV 0)),yC 2 (yK 0)] (yQ [yI 4 (.mkmap),yI 3 (.mk 199 [.nilm]),yN (.stt (yV 3) 4)] (yQ [yH 5 3 1,yL 6 5,yI 7 (.mkfn 141 [] [(yV 1),(yV 3)]),yP 8 140 [yA 6,yB (yK 32),yA 7],yU 2 8] yr))
def Zkp:AFn:=⟨9,[.tmp 2],Zk5,false⟩
def Xf:Zd:=yQ [yX 18 .lss (yV 17) (yV 16)] (.seq (yc 18 yw (.exit 0)) (.seq (.block 1 (yQ [yM 19 17,yE 20 4 15 17,yD 21 4 20,yI 8 (.mk 32 [ye,y0,y0,(.own 20 [])]),yU 7 19,yN (.st 4 (yV 8) (yV 21))] (yQ [yM 22 1,yM 23 7,yE 24 4 22 23,yD 25 4 24,yI 9 (.mk 65 [ye,(.own 2 []),(.own 2 []),(.own 21 [])]),yN (.st 4 (yV 9) (yV 25))] (yQ [yM 26 2,yD 27 4 8,yD 28 4 9,yI 29 (.call (yV 26) [yA 27,yA 28]),yI 30 (.un .not (yV 29))] (yc 30 (yQ [yC 6 yF] yr) yw))))) (yR [yX 31 .add (yV 17) (yK 1),yM 17 31])))
def Xi:Zd:=.loop Xf
def Xh:Zd:=yQ [yC 6 yT] yr
def X4:Zd:=yQ [yC 6 yF] (.seq (yQ [yM 10 0,yO 11 10,yM 12 1,yO 13 12,yX 14 .neq (yV 11) (yV 13)] (yc 14 (yQ [yC 6 yF] yr) yw)) (.seq (yQ [yM 15 0,yO 16 15,yC 17 (yK 0)] (.block 0 (Xi))) Xh))
def X3:AFn:=⟨32,[.tmp 6],X4,false⟩
def ZfP:Zd:=yQ [yI 2 (.box 32 4 (yV 0)),yI 3 (.box 65 4 (yV 1)),yC 4 yF] (yQ [yH 5 0 2,yL 6 5,yH 7 0 3,yL 8 7,yX 9 .eql (yV 6) (yV 8),yM 10 9,yJ 11 (.fa 1 (yV 2)) 10 true,yJ 12 (.ldc (yV 11)) 10 true,yJ 13 (.fa 1 (yV 3)) 10 true,yJ 14 (.ldc (yV 13)) 10 true,yJ 15 (.len .slice (yV 14)) 10 true,yJ 16 (.bin .eql .prim (yV 12) (yV 15)) 10 true,yI 17 (.pick (yV 10) (yV 16) yF),yM 18 17,yJ 19 (.fa 3 (yV 3)) 18 true,yJ 20 (.ldc (yV 19)) 18 true,yJ 21 (.len .slice (yV 20)) 18 true,yJ 22 (.bin .eql .prim (yV 21) (yK 0)) 18 true,yI 23 (.pick (yV 18) (yV 22) yF),yU 4 23] yr)
def Zfk:AFn:=⟨24,[.tmp 4],ZfP,false⟩
def Zmw:Zd:=yQ [yC 2 yF] (yQ [yM 3 0,yX 4 .geq (yV 3) (.const (.int .u8 97)),yM 5 4,yJ 6 (.mv (yV 0)) 5 true,yJ 7 (.bin .leq .prim (yV 6) (.const (.int .u8 122))) 5 true,yI 8 (.pick (yV 5) (yV 7) yF),yU 2 8] yr)
def Zd2:AFn:=⟨9,[.tmp 2],Zmw,false⟩
def Znh:List Nat:=[6,7]
def Zk8:Zd:=yQ [yC 2 yF] (yQ [yP 3 144 [],yM 4 0,yP 5 143 [yA 3,yA 4],yX 6 .geq (yV 5) (yK 0),yU 2 6] yr)
def Zbn:AFn:=⟨7,[.tmp 2],Zk8,false⟩
def Zll:List Nat:=[]
def Zml:Zd:=yQ [yI 1 (.box 77 20 (yV 0)),yC 2 yF] (yQ [yI 4 (.ldc (.glob 0)),yH 5 0 1,yL 6 5,yE 7 9 4 6,yD 8 9 7,yI 3 (.mk 97 [ye,y0,y0,yf,yf,yf,yf,yf,yf]),yN (.st 9 (yV 3) (yV 8))] (yQ [yH 9 1 3,yL 10 9,yX 11 .neq (yV 10) (yK 0),yM 12 11,yJ 13 (.fa 1 (yV 1)) 12 false,yJ 14 (.ldc (yV 13)) 12 false,yJ 15 (.bin .eql .prim (yV 14) (yK 0)) 12 false,yI 16 (.pick (yV 12) yT (yV 15)),yM 17 16,yJ 18 (.fa 2 (yV 3)) 17 true,yJ 19 (.ldc (yV 18)) 17 true,yJ 20 (.bin .neq .prim (yV 19) (yK 0)) 17 true,yJ 21 (.mv (yV 20)) 17 true,yJ 22 (.fa 2 (yV 1)) 21 false,yJ 23 (.ldc (yV 22)) 21 false,yJ 24 (.bin .eql .prim (yV 23) (yK 0)) 21 false,yJ 25 (.pick (yV 21) yT (yV 24)) 17 true,yI 26 (.pick (yV 17) (yV 25) yF),yM 27 26,yJ 28 (.fa 3 (yV 3)) 27 true,yJ 29 (.ldc (yV 28)) 27 true,yJ 30 (.mv (yV 29)) 27 true,yJ 31 (.fa 3 (yV 1)) 30 false,yJ 32 (.ldc (yV 31)) 30 false,yJ 33 (.bin .eql .prim (yV 32) (yK 0)) 30 false,yJ 34 (.pick (yV 30) yT (yV 33)) 27 true,yI 35 (.pick (yV 27) (yV 34) yF),yM 36 35,yJ 37 (.fa 4 (yV 3)) 36 true,yJ 38 (.ldc (yV 37)) 36 true,yJ 39 (.mv (yV 38)) 36 true,yJ 40 (.fa 4 (yV 1)) 39 false,yJ 41 (.lda 4 (yV 40)) 39 false,yJ 42 (.call (yG 153) [yA 41]) 39 false,yJ 43 (.pick (yV 39) yT (yV 42)) 36 true,yI 44 (.pick (yV 36) (yV 43) yF),yM 45 44,yJ 46 (.fa 5 (yV 3)) 45 true,yJ 47 (.ldc (yV 46)) 45 true,yJ 48 (.mv (yV 47)) 45 true,yJ 49 (.fa 8 (yV 1)) 48 false,yJ 50 (.lda 4 (yV 49)) 48 false,yJ 51 (.call (yG 153) [yA 50]) 48 false,yJ 52 (.pick (yV 48) yT (yV 51)) 45 true,yI 53 (.pick (yV 45) (yV 52) yF),yM 54 53,yJ 55 (.fa 6 (yV 3)) 54 true,yJ 56 (.ldc (yV 55)) 54 true,yJ 57 (.mv (yV 56)) 54 true,yJ 58 (.fa 12 (yV 1)) 57 false,yJ 59 (.ldc (yV 58)) 57 false,yJ 60 (.len .slice (yV 59)) 57 false,yJ 61 (.bin .eql .prim (yV 60) (yK 0)) 57 false,yJ 62 (.pick (yV 57) yT (yV 61)) 54 true,yI 63 (.pick (yV 54) (yV 62) yF),yM 64 63,yJ 65 (.fa 7 (yV 3)) 64 true,yJ 66 (.ldc (yV 65)) 64 true,yJ 67 (.mv (yV 66)) 64 true,yJ 68 (.fa 13 (yV 1)) 67 false,yJ 69 (.lda 6 (yV 68)) 67 false,yJ 70 (.build [y0,y0,y0,y0,(.own 1 []),(.own 1 [])] []) 67 false,yJ 71 (.call (yG 154) [yA 69,yA 70]) 67 false,yJ 72 (.pick (yV 67) yT (yV 71)) 64 true,yI 73 (.pick (yV 64) (yV 72) yF),yM 74 73,yJ 75 (.fa 8 (yV 3)) 74 true,yJ 76 (.ldc (yV 75)) 74 true,yJ 77 (.mv (yV 76)) 74 true,yJ 78 (.fa 19 (yV 1)) 77 false,yJ 79 (.ldc (yV 78)) 77 false,yJ 80 (.un .not (yV 79)) 77 false,yJ 81 (.pick (yV 77) yT (yV 80)) 74 true,yI 82 (.pick (yV 74) (yV 81) yF),yU 2 82] yr))
def Zdz:AFn:=⟨83,[.tmp 2],Zml,false⟩
def Zne:List Nat:=[13,14,15,18,19,20,21,22,23,24,25,28,29,30,31,32,33,34,37,38,39,40,41,42,43,46,47,48,49,50,51,52,55,56,57,58,59,60,61,62,65,66,67,68,69,70,71,72,75,76,77,78,79,80,81]
def Zbs:Zd:=yQ [yI 4 (.box 87 8 (yV 0)),yC 8 yF] (yQ [yM 9 2,yX 10 .geq (yV 9) (yK 0),yM 11 10,yJ 12 (.mv (yV 2)) 11 true,yJ 13 (.lda 8 (yV 4)) 11 true,yJ 14 (.mv (yV 1)) 11 true,yJ 15 (.mv (yV 3)) 11 true,yJ 16 (.call (yG 155) [yA 13,yA 14,yA 15]) 11 true,yJ 17 (.bin .lss .prim (yV 12) (yV 16)) 11 true,yI 18 (.pick (yV 11) (yV 17) yF),yU 8 18] yr)
def Df:AFn:=⟨19,[.tmp 8],Zbs,false⟩
def Zcd:List Nat:=[12,13,14,15,16,17]
def Zem:Zd:=yQ [yI 1 (.box 71 4 (yV 0)),yC 2 (yK 0)] (yQ [yI 3 (.build [yf] [(0,1,yT)]),yD 4 4 1,yP 5 156 [yA 3,yA 4],yU 2 5] yr)
def ND:AFn:=⟨6,[.tmp 2],Zem,false⟩
def ZeQ:List Nat:=[]
def TS:Zd:=yQ [yM 42 5,yM 43 42,yJ 44 (.fa 3 (yV 3)) 43 true,yJ 45 (.ldc (yV 44)) 43 true,yJ 46 (.mkfn 158 [] [(yV 2)]) 43 true,yJ 47 (.call (yG 157) [yA 45,yA 46]) 43 true,yJ 48 (.un .not (yV 47)) 43 true,yI 49 (.pick (yV 43) (yV 48) yF),yU 4 49] yr
def IX:Zd:=yQ [yI 2 (.box 87 8 (yV 0)),yI 3 (.box 71 4 (yV 1)),yC 4 yF] (yQ [yC 5 yT] (.seq (yQ [yH 6 0 3,yL 7 6] (.block 0 (yQ [yX 9 .eql (yV 7) (yK 25),yU 8 9] (yc 8 (yR [yD 10 8 2,yH 11 2 3,yL 12 11,yP 13 76 [yA 10,yB (yK 1),yA 12,yB (yK 0)],yU 5 13]) (yQ [yX 15 .eql (yV 7) (yK 26),yU 14 15] (yc 14 (yR [yD 16 8 2,yH 17 2 3,yL 18 17,yP 19 76 [yA 16,yB (yK 2),yA 18,yB (yK 0)],yU 5 19]) (yQ [yX 21 .eql (yV 7) (yK 22),yU 20 21] (yc 20 (yR [yD 22 8 2,yH 23 2 3,yL 24 23,yP 25 76 [yA 22,yB (yK 5),yA 24,yB (yK 0)],yU 5 25]) (yQ [yX 27 .eql (yV 7) (yK 23),yU 26 27] (yc 26 (yR [yD 28 8 2,yH 29 2 3,yL 30 29,yP 31 76 [yA 28,yB (yK 6),yA 30,yB (yK 0)],yU 5 31]) (yQ [yX 33 .eql (yV 7) (yK 24),yU 32 33] (yc 32 (.region true [yH 34 2 3,yL 35 34,yD 36 8 2,yP 37 155 [yA 36,yB (yK 5),yB (yK 0)],yD 38 8 2,yP 39 155 [yA 38,yB (yK 8),yB (yK 0)],yX 40 .add (yV 37) (yV 39),yX 41 .lss (yV 35) (yV 40),yM 5 41]) yw)))))))))))) TS))
def Xe:AFn:=⟨50,[.tmp 4],IX,false⟩
def Xg:List Nat:=[44,45,46,47,48]
def Zmn:Zd:=yQ [yI 1 (.box 75 6 (yV 0)),yC 2 (yK 0)] (.seq (yQ [yD 5 6 1,yP 6 159 [yA 5],yI 7 (.un .not (yV 6))] (yc 7 (yQ [yC 2 (yK 1)] yr) yw)) (yQ [yC 3 yF] (.seq (yQ [yH 8 0 1,yL 9 8] (.block 0 (yQ [yX 11 .eql (yV 9) (yK 1),yU 10 11] (yc 10 (yR [yH 12 1 1,yL 13 12,yI 14 (.lit 3 1 [(yV 13)]),yP 15 160 [yB (yK 0),yB (yK 1000000000),yA 14],yU 3 15]) (yQ [yX 17 .eql (yV 9) (yK 2),yU 16 17] (yc 16 (yR [yH 18 1 1,yL 19 18,yH 20 2 1,yL 21 20,yI 22 (.lit 3 1 [(yV 19),(yV 21)]),yP 23 160 [yB (yK 0),yB (yK 1000000000),yA 22],yM 24 23,yJ 25 (.fa 1 (yV 1)) 24 true,yJ 26 (.ldc (yV 25)) 24 true,yJ 27 (.fa 2 (yV 1)) 24 true,yJ 28 (.ldc (yV 27)) 24 true,yJ 29 (.bin .leq .prim (yV 26) (yV 28)) 24 true,yI 30 (.pick (yV 24) (yV 29) yF),yU 3 30]) (yQ [yX 32 .eql (yV 9) (yK 4),yU 31 32] (yc 31 (yR [yH 33 3 1,yL 34 33,yI 35 (.lit 3 1 [(yV 34)]),yP 36 160 [yB (yK 1),yB (yK 20),yA 35],yM 37 36,yJ 38 (.fa 1 (yV 1)) 37 true,yJ 39 (.ldc (yV 38)) 37 true,yJ 40 (.fa 2 (yV 1)) 37 true,yJ 41 (.ldc (yV 40)) 37 true,yJ 42 (.lit 3 1 [(yV 39),(yV 41)]) 37 true,yJ 43 (.call (yG 160) [yB (yK 0),yB (yK 1000000),yA 42]) 37 true,yI 44 (.pick (yV 37) (yV 43) yF),yM 45 44,yJ 46 (.fa 1 (yV 1)) 45 true,yJ 47 (.ldc (yV 46)) 45 true,yJ 48 (.fa 2 (yV 1)) 45 true,yJ 49 (.ldc (yV 48)) 45 true,yJ 50 (.bin .leq .prim (yV 47) (yV 49)) 45 true,yI 51 (.pick (yV 45) (yV 50) yF),yU 3 51]) (yQ [yX 53 .eql (yV 9) (yK 5),yU 52 53] (yc 52 (yR [yH 54 1 1,yL 55 54,yH 56 2 1,yL 57 56,yI 58 (.lit 3 1 [(yV 55),(yV 57)]),yP 59 160 [yB (yK 1),yB (yK 1000),yA 58],yU 3 59]) (yQ [yX 61 .eql (yV 9) (yK 3),yU 60 61] (yc 60 (.seq (yQ [yH 62 4 1,yL 63 62,yO 64 63,yU 4 64] (.block 1 (yQ [yM 66 4,yH 67 5 1,yL 68 67,yO 69 68,yX 70 .neq (yV 66) (yV 69),yU 65 70] (yc 65 (yQ [yC 2 (yK 8)] yr) (yQ [yM 72 4,yX 73 .eql (yV 72) (yK 0),yU 71 73] (yc 71 (yQ [yC 2 (yK 7)] yr) (yQ [yM 75 4,yX 76 .gtr (yV 75) (yK 20),yU 74 76] (yc 74 (yQ [yC 2 (yK 6)] yr) yw)))))))) (yR [yH 77 4 1,yL 78 77,yP 79 160 [yB (yK 0),yB (yK 1000000000),yA 78],yM 80 79,yJ 81 (.fa 5 (yV 1)) 80 true,yJ 82 (.ldc (yV 81)) 80 true,yJ 83 (.call (yG 160) [yB (yK 1),yB (yK 1000),yA 82]) 80 true,yI 84 (.pick (yV 80) (yV 83) yF),yU 3 84])) yw)))))))))))) (.seq (yQ [yM 85 3,yI 86 (.un .not (yV 85))] (yc 86 (yQ [yC 2 (yK 2)] yr) yw)) (yQ [yC 2 (yK 0)] yr)))))
def Zd1:AFn:=⟨87,[.tmp 2],Zmn,false⟩
def Zng:List Nat:=[25,26,27,28,29,38,39,40,41,42,43,46,47,48,49,50,81,82,83]
def Zos:Zd:=yQ [yC 2 yF] (yQ [yM 3 0,yX 4 .geq (yV 3) (yK 1),yM 5 4,yJ 6 (.mv (yV 0)) 5 true,yJ 7 (.bin .leq .prim (yV 6) (yK 19)) 5 true,yI 8 (.pick (yV 5) (yV 7) yF),yU 2 8] yr)
def Zf6:AFn:=⟨9,[.tmp 2],Zos,false⟩
def Zpi:List Nat:=[6,7]
def FO:Zd:=yc 11 (yQ [yC 2 yF] yr) (.seq (yQ [yH 44 4 3,yL 45 44,yI 46 (.un .not (yV 45)),yM 47 46,yJ 48 (.fa 4 (yV 1)) 47 true,yJ 49 (.lda 4 (yV 48)) 47 true,yJ 50 (.lda 4 (yV 4)) 47 true,yJ 51 (.call (yG 47) [yA 49,yA 50]) 47 true,yJ 52 (.un .not (yV 51)) 47 true,yI 53 (.pick (yV 47) (yV 52) yF),yU 43 53] (yc 43 yw (yQ [yH 54 5 3,yL 55 54,yI 56 (.un .not (yV 55)),yM 57 56,yJ 58 (.fa 8 (yV 1)) 57 true,yJ 59 (.lda 4 (yV 58)) 57 true,yJ 60 (.lda 4 (yV 4)) 57 true,yJ 61 (.call (yG 47) [yA 59,yA 60]) 57 true,yJ 62 (.un .not (yV 61)) 57 true,yI 63 (.pick (yV 57) (yV 62) yF),yU 43 63] (yc 43 yw (yR [yH 64 7 3,yL 65 64,yI 66 (.un .not (yV 65)),yM 67 66,yJ 68 (.fa 12 (yV 1)) 67 true,yJ 69 (.ldc (yV 68)) 67 true,yJ 70 (.len .slice (yV 69)) 67 true,yJ 71 (.bin .gtr .prim (yV 70) (yK 0)) 67 true,yI 72 (.pick (yV 67) (yV 71) yF),yU 43 72]))))) (yc 43 (yQ [yC 2 yF] yr) yw))
def FP:Zd:=yQ [yH 73 8 3,yL 74 73,yM 75 74,yJ 76 (.fa 13 (yV 1)) 75 false,yJ 77 (.lda 6 (yV 76)) 75 false,yJ 78 (.build [y0,y0,y0,y0,(.own 1 []),(.own 1 [])] []) 75 false,yJ 79 (.call (yG 48) [yA 77,yA 78]) 75 false,yI 80 (.pick (yV 75) yT (yV 79)),yU 2 80] yr
def Za0:Zd:=yQ [yI 1 (.box 77 20 (yV 0)),yC 2 yF] (.seq (.regionB [yP 5 91 [],yH 6 0 1,yL 7 6,yE 8 9 5 7,yD 9 9 8,yI 3 (.mk 152 [ye,ye,ye,yf,yf,yf,yf,yf,yf]),yN (.st 9 (yV 3) (yV 9))]) (yQ [yI 10 (.build [y0,ye,y0,(.own 4 [])] []),yI 4 (.mk 71 [y0,ye,y0,(.own 4 [])]),yN (.st 4 (yV 4) (yV 10))] (.seq (.block 0 (.seq (yQ [yH 12 1 3,yL 13 12,yX 14 .eql (yV 13) (yS []),yM 15 14,yJ 16 (.fa 1 (yV 1)) 15 true,yJ 17 (.ldc (yV 16)) 15 true,yJ 18 (.bin .neq .prim (yV 17) (yK 0)) 15 true,yI 19 (.pick (yV 15) (yV 18) yF),yU 11 19] (yc 11 yw (yQ [yH 20 2 3,yL 21 20,yX 22 .eql (yV 21) (yS []),yM 23 22,yJ 24 (.fa 2 (yV 1)) 23 true,yJ 25 (.ldc (yV 24)) 23 true,yJ 26 (.bin .neq .prim (yV 25) (yK 0)) 23 true,yI 27 (.pick (yV 23) (yV 26) yF),yU 11 27] (yc 11 yw (yQ [yH 28 3 3,yL 29 28,yI 30 (.un .not (yV 29)),yM 31 30,yJ 32 (.fa 3 (yV 1)) 31 true,yJ 33 (.ldc (yV 32)) 31 true,yJ 34 (.bin .neq .prim (yV 33) (yK 0)) 31 true,yI 35 (.pick (yV 31) (yV 34) yF),yU 11 35] (yc 11 yw (yR [yH 36 6 3,yL 37 36,yI 38 (.un .not (yV 37)),yM 39 38,yJ 40 (.fa 19 (yV 1)) 39 true,yJ 41 (.ldc (yV 40)) 39 true,yI 42 (.pick (yV 39) (yV 41) yF),yU 11 42]))))))) FO)) FP)))
def GG:AFn:=⟨81,[.tmp 2],Za0,false⟩
def UV:List Nat:=[16,17,18,24,25,26,32,33,34,40,41,48,49,50,51,52,58,59,60,61,62,68,69,70,71,76,77,78,79]
def ZkA:Zd:=yQ [yI 4 (.box 25 3 (yV 0)),yI 6 (.box 32 4 (yV 2)),yI 7 (.box 77 20 (yV 3)),yC 8 (yK 0)] (.seq (.regionB [yP 12 91 [],yH 13 0 7,yL 14 13,yE 15 9 12 14,yD 16 9 15,yI 9 (.mk 152 [ye,ye,ye,yf,yf,yf,yf,yf,yf]),yN (.st 9 (yV 9) (yV 16))]) (.seq (yQ [yD 17 3 4,yM 18 1,yD 19 4 6,yH 20 1 9,yL 21 20,yH 22 1 7,yL 23 22,yP 24 161 [yA 17,yA 18,yA 19,yA 21,yA 23],yI 25 (.un .not (yV 24))] (yc 25 (yQ [yC 8 (yK 2)] yr) yw)) (.seq (yQ [yH 26 0 7,yL 27 26] (.block 0 (yQ [yX 29 .eql (yV 27) (yK 15),yU 28 29] (yc 28 (yQ [yD 30 3 4,yM 31 1,yD 32 20 7,yP 33 162 [yA 30,yA 31,yA 32],yU 8 33] yr) (yQ [yX 35 .eql (yV 27) (yK 14),yU 34 35] (yc 34 (yQ [yD 37 3 4,yM 38 1,yH 39 1 7,yL 40 39,yP 41 23 [yA 37,yA 38,yA 40],yM 36 41,yI 42 (.extract (yV 36) 0),yI 43 (.extract (yV 36) 1),yU 10 42,yU 11 43] (.seq (yQ [yM 44 11,yI 45 (.un .not (yV 44)),yM 46 45,yJ 47 (.mv (yV 10)) 46 false,yJ 48 (.fa 3 (yV 7)) 46 false,yJ 49 (.ldc (yV 48)) 46 false,yJ 50 (.bin .neq .prim (yV 47) (yV 49)) 46 false,yI 51 (.pick (yV 46) yT (yV 50))] (yc 51 (yQ [yC 8 (yK 16)] yr) yw)) (yQ [yD 52 3 4,yH 53 1 7,yL 54 53,yD 55 20 7,yP 56 162 [yA 52,yA 54,yA 55],yU 8 56] yr))) yw)))))) (.seq (yQ [yD 57 3 4,yM 58 1,yD 59 4 6,yH 60 2 9,yL 61 60,yH 62 2 7,yL 63 62,yP 64 161 [yA 57,yA 58,yA 59,yA 61,yA 63],yI 65 (.un .not (yV 64))] (yc 65 (yQ [yC 8 (yK 2)] yr) yw)) (yQ [yC 8 (yK 0)] yr)))))
def Zbo:AFn:=⟨66,[.tmp 8],ZkA,false⟩
def Zlm:List Nat:=[47,48,49,50]
def FK:Zd:=.seq (yQ [yH 28 7 3,yL 29 28] (yc 29 (yR [yU 30 4,yH 31 12 1,yL 32 31,yI 33 (.app 4 56 30 (yV 32)),yU 4 33]) yw)) (yQ [yU 34 4,yU 2 34] yr)
def DJ:Zd:=.seq (yQ [yH 21 5 3,yL 22 21] (yc 22 (yR [yU 23 4,yH 24 8 1,yD 25 4 24,yI 26 (.lit 71 4 [(yV 25)]),yI 27 (.app 4 56 23 (yV 26)),yU 4 27]) yw)) FK
def Zay:Zd:=yQ [yI 1 (.box 77 20 (yV 0)),yI 2 (.mv (.const (.own 4 [])))] (.seq (yQ [yH 5 0 1,yL 6 5,yP 7 80 [yA 6],yI 8 (.un .not (yV 7))] (yc 8 (yQ [yI 2 (.mv (.const (.own 4 [])))] yr) yw)) (.seq (.regionB [yP 9 91 [],yH 10 0 1,yL 11 10,yE 12 9 9 11,yD 13 9 12,yI 3 (.mk 152 [ye,ye,ye,yf,yf,yf,yf,yf,yf]),yN (.st 9 (yV 3) (yV 13))]) (yQ [yI 4 (.mv (.const (.own 4 [])))] (.seq (yQ [yH 14 4 3,yL 15 14] (yc 15 (yR [yU 16 4,yH 17 4 1,yD 18 4 17,yI 19 (.lit 71 4 [(yV 18)]),yI 20 (.app 4 56 16 (yV 19)),yU 4 20]) yw)) DJ))))
def UH:AFn:=⟨35,[.tmp 2],Zay,false⟩
def Ub:List Nat:=[]
def Zgo:Zd:=yQ [yI 1 (.box 71 4 (yV 0)),yC 2 (yK 0)] (yQ [yD 3 4 1,yP 4 163 [yA 3,yB yT],yU 2 4] yr)
def Eg:AFn:=⟨5,[.tmp 2],Zgo,false⟩
def Zhz:List Nat:=[]
def Zb4:Zd:=yc 39 (yQ [yC 8 yF] yr) (yQ [yH 63 0 7,yL 64 63,yX 65 .eql (yV 64) (yK 24),yM 66 65,yJ 67 (.fa 2 (yV 7)) 66 true,yJ 68 (.ldc (yV 67)) 66 true,yJ 69 (.fa 2 (yV 9)) 66 true,yJ 70 (.ldc (yV 69)) 66 true,yJ 71 (.len .slice (yV 70)) 66 true,yJ 72 (.fa 5 (yV 9)) 66 true,yJ 73 (.ldc (yV 72)) 66 true,yJ 74 (.len .slice (yV 73)) 66 true,yJ 75 (.bin .add .prim (yV 71) (yV 74)) 66 true,yJ 76 (.bin .geq .prim (yV 68) (yV 75)) 66 true,yI 77 (.pick (yV 66) (yV 76) yF),yU 62 77] (yc 62 (yQ [yC 8 yF] yr) yw))
def Np:Zd:=yc 17 (yQ [yC 8 yF] yr) (.seq (yQ [yH 40 0 7,yL 41 40,yX 42 .eql (yV 41) (yK 22),yM 43 42,yJ 44 (.fa 2 (yV 7)) 43 true,yJ 45 (.ldc (yV 44)) 43 true,yJ 46 (.fa 2 (yV 9)) 43 true,yJ 47 (.ldc (yV 46)) 43 true,yJ 48 (.len .slice (yV 47)) 43 true,yJ 49 (.bin .geq .prim (yV 45) (yV 48)) 43 true,yI 50 (.pick (yV 43) (yV 49) yF),yU 39 50] (yc 39 yw (yR [yH 51 0 7,yL 52 51,yX 53 .eql (yV 52) (yK 23),yM 54 53,yJ 55 (.fa 2 (yV 7)) 54 true,yJ 56 (.ldc (yV 55)) 54 true,yJ 57 (.fa 3 (yV 9)) 54 true,yJ 58 (.ldc (yV 57)) 54 true,yJ 59 (.len .slice (yV 58)) 54 true,yJ 60 (.bin .geq .prim (yV 56) (yV 59)) 54 true,yI 61 (.pick (yV 54) (yV 60) yF),yU 39 61]))) Zb4)
def ZiJ:Zd:=.seq (yQ [yM 78 10,yH 79 3 7,yL 80 79,yO 81 80,yX 82 .lss (yV 78) (yV 81)] (yc 82 yw (.exit 1))) (.seq (.block 2 (.seq (.region true [yD 85 3 4,yM 86 1,yD 87 4 6,yH 88 3 7,yL 89 88,yM 90 10,yE 91 4 89 90,yD 92 4 91,yP 93 85 [yA 85,yA 86,yA 87,yA 92],yI 94 (.un .not (yV 93))]) (yc 94 (yQ [yC 8 yF] yr) yw))) (yR [yM 83 10,yX 84 .add (yV 83) (yK 1),yU 10 84]))
def Zb6:Zd:=.loop ZiJ
def Zb5:Zd:=yQ [yC 8 yT] yr
def Nq:Zd:=.seq (yQ [yC 10 (yK 0)] (.block 1 (Zb6))) Zb5
def ZcB:Zd:=yQ [yI 4 (.box 25 3 (yV 0)),yI 6 (.box 32 4 (yV 2)),yI 7 (.box 71 4 (yV 3)),yC 8 yF] (yQ [yH 11 1 4,yL 12 11,yM 13 1,yE 14 14 12 13,yH 15 0 14,yD 16 13 15,yI 9 (.mk 55 [ye,(.own 3 []),(.own 17 []),(.own 3 []),(.own 3 []),(.own 1 []),(.own 1 []),(.own 1 []),(.own 1 []),(.own 1 []),(.own 4 []),(.own 5 []),(.own 3 [])]),yN (.st 13 (yV 9) (yV 16))] (.seq (.block 0 (.seq (yQ [yH 18 0 7,yL 19 18,yX 20 .eql (yV 19) (yK 25),yM 21 20,yJ 22 (.fa 2 (yV 7)) 21 true,yJ 23 (.ldc (yV 22)) 21 true,yJ 24 (.fa 2 (yV 6)) 21 true,yJ 25 (.ldc (yV 24)) 21 true,yJ 26 (.bin .geq .prim (yV 23) (yV 25)) 21 true,yI 27 (.pick (yV 21) (yV 26) yF),yU 17 27] (yc 17 yw (yR [yH 28 0 7,yL 29 28,yX 30 .eql (yV 29) (yK 26),yM 31 30,yJ 32 (.fa 2 (yV 7)) 31 true,yJ 33 (.ldc (yV 32)) 31 true,yJ 34 (.fa 1 (yV 9)) 31 true,yJ 35 (.ldc (yV 34)) 31 true,yJ 36 (.len .slice (yV 35)) 31 true,yJ 37 (.bin .geq .prim (yV 33) (yV 36)) 31 true,yI 38 (.pick (yV 31) (yV 37) yF),yU 17 38]))) Np)) Nq))
def Jz:AFn:=⟨95,[.tmp 8],ZcB,false⟩
def X9:List Nat:=[22,23,24,25,26,32,33,34,35,36,37,44,45,46,47,48,49,55,56,57,58,59,60,67,68,69,70,71,72,73,74,75,76]
def Zom:Zd:=yQ [yI 1 (.box 75 6 (yV 0)),yC 2 (yK 0)] (.seq (yQ [yD 4 6 1,yP 5 164 [yA 4],yI 6 (.un .not (yV 5))] (yc 6 (yQ [yC 2 (yK 1)] yr) yw)) (yQ [yC 3 yT] (.seq (yQ [yH 7 0 1,yL 8 7] (.block 0 (yQ [yX 10 .eql (yV 8) (yK 1),yU 9 10] (yc 9 (yR [yH 11 1 1,yL 12 11,yP 13 165 [yA 12,yB (yK 0),yB (yK 1000000000)],yU 3 13]) (yQ [yX 15 .eql (yV 8) (yK 2),yU 14 15] (yc 14 (yR [yH 16 1 1,yL 17 16,yH 18 2 1,yL 19 18,yP 20 165 [yA 17,yB (yK 0),yA 19],yM 21 20,yJ 22 (.fa 2 (yV 1)) 21 true,yJ 23 (.ldc (yV 22)) 21 true,yJ 24 (.bin .leq .prim (yV 23) (yK 1000000000)) 21 true,yI 25 (.pick (yV 21) (yV 24) yF),yU 3 25]) (yQ [yX 27 .eql (yV 8) (yK 3),yU 26 27] (yc 26 (yQ [yD 28 6 1,yP 29 166 [yA 28],yU 2 29] yr) (yQ [yX 31 .eql (yV 8) (yK 4),yU 30 31] (yc 30 (yR [yH 32 3 1,yL 33 32,yP 34 165 [yA 33,yB (yK 1),yB (yK 20)],yM 35 34,yJ 36 (.fa 1 (yV 1)) 35 true,yJ 37 (.ldc (yV 36)) 35 true,yJ 38 (.fa 2 (yV 1)) 35 true,yJ 39 (.ldc (yV 38)) 35 true,yJ 40 (.call (yG 165) [yA 37,yB (yK 0),yA 39]) 35 true,yI 41 (.pick (yV 35) (yV 40) yF),yM 42 41,yJ 43 (.fa 2 (yV 1)) 42 true,yJ 44 (.ldc (yV 43)) 42 true,yJ 45 (.bin .leq .prim (yV 44) (yK 1000000)) 42 true,yI 46 (.pick (yV 42) (yV 45) yF),yU 3 46]) (yQ [yX 48 .eql (yV 8) (yK 5),yU 47 48] (yc 47 (yR [yH 49 1 1,yL 50 49,yP 51 165 [yA 50,yB (yK 1),yB (yK 1000)],yM 52 51,yJ 53 (.fa 2 (yV 1)) 52 true,yJ 54 (.ldc (yV 53)) 52 true,yJ 55 (.call (yG 165) [yA 54,yB (yK 1),yB (yK 1000)]) 52 true,yI 56 (.pick (yV 52) (yV 55) yF),yU 3 56]) yw)))))))))))) (.seq (yQ [yM 57 3,yI 58 (.un .not (yV 57))] (yc 58 (yQ [yC 2 (yK 2)] yr) yw)) (yQ [yC 2 (yK 0)] yr)))))
def Zf1:AFn:=⟨59,[.tmp 2],Zom,false⟩
def Zpc:List Nat:=[22,23,24,36,37,38,39,40,43,44,45,53,54,55]
def ZcC:Zd:=yR [yM 31 5,yM 32 1,yI 33 (.len .str (yV 32)),yM 34 0,yO 35 34,yX 36 .sub (yV 35) (yK 1),yX 37 .mul (yV 33) (yV 36),yX 38 .add (yV 31) (yV 37),yU 5 38]
def Zb7:Zd:=yQ [yX 42 .lss (yV 41) (yV 40)] (.seq (yc 42 yw (.exit 1)) (.seq (.block 2 (yQ [yE 43 1 39 41,yL 44 43,yU 7 44] (.seq (yQ [yM 45 7,yI 46 (.len .str (yV 45)),yM 47 5,yX 48 .sub (yK 9223372036854775807) (yV 47),yX 49 .gtr (yV 46) (yV 48)] (yc 49 (yR [yI 50 (.bad),yN (.bad)]) yw)) (yR [yM 51 5,yM 52 7,yI 53 (.len .str (yV 52)),yX 54 .add (yV 51) (yV 53),yU 5 54])))) (yR [yX 55 .add (yV 41) (yK 1),yM 41 55])))
def ZcG:Zd:=.loop Zb7
def Zb8:Zd:=yQ [yX 66 .lss (yV 65) (yV 64)] (.seq (yc 66 yw (.exit 3)) (.seq (.block 4 (yQ [yE 67 1 63 65,yL 68 67,yU 10 68] (yQ [yM 69 1,yP 70 38 [yA 8,yA 69]] (yR [yM 71 10,yP 72 38 [yA 8,yA 71]])))) (yR [yX 73 .add (yV 65) (yK 1),yM 65 73])))
def ZcH:Zd:=.loop Zb8
def ZcF:Zd:=yQ [yP 74 45 [yA 8],yU 4 74] yr
def ZcE:Zd:=yQ [yI 8 (.mk 93 [.nilp,(.nils 1)])] (yQ [yM 56 5,yP 57 168 [yA 8,yA 56]] (yQ [yM 58 0,yI 59 (.ia (.slice 1) (yV 58) (yK 0)),yL 60 59,yP 61 38 [yA 8,yA 60]] (.seq (yQ [yM 62 0,yI 63 (.slice (.slice 1) (yV 62) (some (yK 1)) none),yO 64 63,yC 65 (yK 0)] (.block 3 (ZcH))) ZcF)))
def ZcD:Zd:=.seq (yQ [yM 39 0,yO 40 39,yC 41 (yK 0)] (.block 1 (ZcG))) ZcE
def ZiN:Zd:=yQ [yC 4 (yS [])] (.seq (yQ [yM 11 0,yO 12 11] (.block 0 (yQ [yX 14 .eql (yV 12) (yK 0),yU 13 14] (yc 13 (yQ [yC 4 (yS [])] yr) (yQ [yX 16 .eql (yV 12) (yK 1),yU 15 16] (yc 15 (yQ [yM 17 0,yI 18 (.ia (.slice 1) (yV 17) (yK 0)),yL 19 18,yU 4 19] yr) yw)))))) (yQ [yC 5 (yK 0)] (.seq (yQ [yM 20 1,yI 21 (.len .str (yV 20)),yX 22 .gtr (yV 21) (yK 0)] (yc 22 (.seq (yQ [yM 23 1,yI 24 (.len .str (yV 23)),yM 25 0,yO 26 25,yX 27 .sub (yV 26) (yK 1),yX 28 .quo (yK 9223372036854775807) (yV 27),yX 29 .geq (yV 24) (yV 28)] (yc 29 (yR [yI 30 (.bad),yN (.bad)]) yw)) ZcC) yw)) ZcD)))
def Zil:AFn:=⟨75,[.tmp 4],ZiN,false⟩
def Zcy:Zd:=yQ [yX 10 .lss (yV 9) (yV 8)] (.seq (yc 10 yw (.exit 0)) (.seq (.block 1 (yQ [yE 11 1 7 9,yL 12 11,yU 6 12] (yR [yM 13 0,yM 14 6,yP 15 40 [yA 14],yX 16 .add (yS [32]) (yV 15),yX 17 .add (yV 13) (yV 16),yU 0 17]))) (yR [yX 18 .add (yV 9) (yK 1),yM 9 18])))
def Zel:Zd:=.loop Zcy
def Zek:Zd:=yQ [yU 19 0,yU 4 19] yr
def Zky:Zd:=yQ [yC 4 (yS [])] (.seq (yQ [yM 7 1,yO 8 7,yC 9 (yK 0)] (.block 0 (Zel))) Zek)
def Zkl:AFn:=⟨20,[.tmp 4],Zky,false⟩
def Zop:Zd:=yQ [yI 0 (.mv (.const (.own 9 [])))] (yQ [yI 1 (.build [ye,ye,ye,yf,yf,yf,yf,yf,yf] []),yI 2 (.build [ye,ye,ye,yf,yf,yf,yf,yf,yf] [(0,1,(yS [115,108,111,116])),(1,1,(yS [115,108,111,116])),(4,1,yT)]),yI 3 (.build [ye,ye,ye,yf,yf,yf,yf,yf,yf] [(0,1,(yS [118,97,114])),(1,1,(yS [118,97,114])),(4,1,yT)]),yI 4 (.build [ye,ye,ye,yf,yf,yf,yf,yf,yf] [(0,1,(yS [100,114,97,119])),(1,1,(yS [115,108,111,116])),(2,1,(yS [115,116,114,101,97,109])),(8,1,yT)]),yI 5 (.build [ye,ye,ye,yf,yf,yf,yf,yf,yf] [(0,1,(yS [106,117,109,112])),(1,1,(yS [105,110,115,116,114]))]),yI 6 (.build [ye,ye,ye,yf,yf,yf,yf,yf,yf] [(0,1,(yS [98,114,97,110,99,104])),(1,1,(yS [105,110,115,116,114])),(4,1,yT)]),yI 7 (.build [ye,ye,ye,yf,yf,yf,yf,yf,yf] [(0,1,(yS [104,111,108,100])),(4,1,yT)]),yI 8 (.build [ye,ye,ye,yf,yf,yf,yf,yf,yf] [(0,1,(yS [115,101,105,122,101])),(1,1,(yS [114,101,115,111,117,114,99,101])),(4,1,yT),(5,1,yT),(6,1,yT)]),yI 9 (.build [ye,ye,ye,yf,yf,yf,yf,yf,yf] [(0,1,(yS [114,101,108,101,97,115,101])),(1,1,(yS [114,101,115,111,117,114,99,101])),(4,1,yT)]),yI 10 (.build [ye,ye,ye,yf,yf,yf,yf,yf,yf] [(0,1,(yS [112,117,116])),(1,1,(yS [115,116,111,114,101])),(4,1,yT)]),yI 11 (.build [ye,ye,ye,yf,yf,yf,yf,yf,yf] [(0,1,(yS [103,101,116])),(1,1,(yS [115,116,111,114,101])),(2,1,(yS [115,108,111,116]))]),yI 12 (.build [ye,ye,ye,yf,yf,yf,yf,yf,yf] [(0,1,(yS [114,105,100,101])),(1,1,(yS [98,101,108,116]))]),yI 13 (.build [ye,ye,ye,yf,yf,yf,yf,yf,yf] [(0,1,(yS [119,97,105,116])),(1,1,(yS [113,117,101,117,101]))]),yI 14 (.build [ye,ye,ye,yf,yf,yf,yf,yf,yf] [(0,1,(yS [115,105,103,110,97,108])),(1,1,(yS [113,117,101,117,101])),(4,1,yT)]),yI 15 (.build [ye,ye,ye,yf,yf,yf,yf,yf,yf] [(0,1,(yS [115,101,110,100])),(1,1,(yS [115,105,116,101])),(2,1,(yS [114,111,117,116,105,110,101])),(3,1,yT),(4,1,yT),(7,1,yT)]),yI 16 (.build [ye,ye,ye,yf,yf,yf,yf,yf,yf] [(0,1,(yS [115,112,97,119,110])),(2,1,(yS [114,111,117,116,105,110,101])),(4,1,yT),(7,1,yT)]),yI 17 (.build [ye,ye,ye,yf,yf,yf,yf,yf,yf] [(0,1,(yS [111,98,115,101,114,118,101])),(1,1,(yS [116,97,108,108,121])),(4,1,yT)]),yI 18 (.build [ye,ye,ye,yf,yf,yf,yf,yf,yf] [(0,1,(yS [108,101,118,101,108])),(1,1,(yS [108,101,118,101,108])),(4,1,yT)]),yI 19 (.build [ye,ye,ye,yf,yf,yf,yf,yf,yf] [(0,1,(yS [99,111,117,110,116])),(1,1,(yS [99,111,117,110,116])),(4,1,yT)]),yI 20 (.build [ye,ye,ye,yf,yf,yf,yf,yf,yf] [(0,1,(yS [101,110,100]))]),yI 21 (.lit 152 9 [(yV 1),(yV 2),(yV 3),(yV 4),(yV 5),(yV 6),(yV 7),(yV 8),(yV 9),(yV 10),(yV 11),(yV 12),(yV 13),(yV 14),(yV 15),(yV 16),(yV 17),(yV 18),(yV 19),(yV 20)]),yU 0 21] yr)
def Zac:AFn:=⟨22,[.tmp 0],Zop,false⟩
def Zpf:List Nat:=[]
def Zc8:Zd:=.seq (yQ [yM 11 5,yM 12 0,yO 13 12,yX 14 .lss (yV 11) (yV 13)] (yc 14 yw (.exit 0))) (.seq (.block 1 (.seq (.region true [yM 17 0,yM 18 5,yE 19 4 17 18,yD 20 4 19,yM 21 1,yM 22 5,yE 23 4 21 22,yD 24 4 23,yP 25 47 [yA 20,yA 24],yI 26 (.un .not (yV 25))]) (yc 26 (yQ [yC 4 yF] yr) yw))) (yR [yM 15 5,yX 16 .add (yV 15) (yK 1),yU 5 16]))
def NP:Zd:=.loop Zc8
def NM:Zd:=yQ [yC 4 yT] yr
def Nk:Zd:=yQ [yC 4 yF] (.seq (yQ [yM 6 0,yO 7 6,yM 8 1,yO 9 8,yX 10 .neq (yV 7) (yV 9)] (yc 10 (yQ [yC 4 yF] yr) yw)) (.seq (yQ [yC 5 (yK 0)] (.block 0 (NP))) NM))
def J9:AFn:=⟨27,[.tmp 4],Nk,false⟩
def VQ:List Nat:=[]
def Zbz:Zd:=.seq (yQ [yM 11 5,yM 12 0,yO 13 12,yX 14 .lss (yV 11) (yV 13)] (yc 14 yw (.exit 0))) (.seq (.block 1 (.seq (.region true [yM 17 0,yM 18 5,yE 19 1 17 18,yL 20 19,yM 21 1,yM 22 5,yE 23 1 21 22,yL 24 23,yX 25 .neq (yV 20) (yV 24)]) (yc 25 (yQ [yC 4 yF] yr) yw))) (yR [yM 15 5,yX 16 .add (yV 15) (yK 1),yU 5 16]))
def Po:Zd:=.loop Zbz
def Pn:Zd:=yQ [yC 4 yT] yr
def DI:Zd:=yQ [yC 4 yF] (.seq (yQ [yM 6 0,yO 7 6,yM 8 1,yO 9 8,yX 10 .neq (yV 7) (yV 9)] (yc 10 (yQ [yC 4 yF] yr) yw)) (.seq (yQ [yC 5 (yK 0)] (.block 0 (Po))) Pn))
def VY:AFn:=⟨26,[.tmp 4],DI,false⟩
def Vh:List Nat:=[]
def Zmq:Zd:=yQ [yI 2 (.box 84 4 (yV 0)),yI 3 (.box 84 4 (yV 1)),yC 4 yF] (yQ [yH 5 0 2,yL 6 5,yH 7 0 3,yL 8 7,yX 9 .eql (yV 6) (yV 8),yM 10 9,yJ 11 (.fa 1 (yV 2)) 10 true,yJ 12 (.ldc (yV 11)) 10 true,yJ 13 (.fa 1 (yV 3)) 10 true,yJ 14 (.ldc (yV 13)) 10 true,yJ 15 (.call (yG 170) [yA 12,yA 14]) 10 true,yI 16 (.pick (yV 10) (yV 15) yF),yM 17 16,yJ 18 (.fa 2 (yV 2)) 17 true,yJ 19 (.ldc (yV 18)) 17 true,yJ 20 (.fa 2 (yV 3)) 17 true,yJ 21 (.ldc (yV 20)) 17 true,yJ 22 (.call (yG 171) [yA 19,yA 21,(.inr (yG 172))]) 17 true,yI 23 (.pick (yV 17) (yV 22) yF),yM 24 23,yJ 25 (.fa 3 (yV 2)) 24 true,yJ 26 (.ldc (yV 25)) 24 true,yJ 27 (.fa 3 (yV 3)) 24 true,yJ 28 (.ldc (yV 27)) 24 true,yJ 29 (.call (yG 173) [yA 26,yA 28]) 24 true,yI 30 (.pick (yV 24) (yV 29) yF),yU 4 30] yr)
def ZlN:AFn:=⟨31,[.tmp 4],Zmq,false⟩
def XF:Zd:=yQ [yX 18 .lss (yV 17) (yV 16)] (.seq (yc 18 yw (.exit 0)) (.seq (.block 1 (yQ [yM 19 17,yE 20 4 15 17,yD 21 4 20,yI 8 (.mk 32 [ye,y0,y0,(.own 20 [])]),yU 7 19,yN (.st 4 (yV 8) (yV 21))] (yQ [yM 22 1,yM 23 7,yE 24 4 22 23,yD 25 4 24,yI 9 (.mk 32 [ye,y0,y0,(.own 20 [])]),yN (.st 4 (yV 9) (yV 25))] (yQ [yM 26 2,yD 27 4 8,yD 28 4 9,yI 29 (.call (yV 26) [yA 27,yA 28]),yI 30 (.un .not (yV 29))] (yc 30 (yQ [yC 6 yF] yr) yw))))) (yR [yX 31 .add (yV 17) (yK 1),yM 17 31])))
def XO:Zd:=.loop XF
def XN:Zd:=yQ [yC 6 yT] yr
def Vp:Zd:=yQ [yC 6 yF] (.seq (yQ [yM 10 0,yO 11 10,yM 12 1,yO 13 12,yX 14 .neq (yV 11) (yV 13)] (yc 14 (yQ [yC 6 yF] yr) yw)) (.seq (yQ [yM 15 0,yO 16 15,yC 17 (yK 0)] (.block 0 (XO))) XN))
def Vl:AFn:=⟨32,[.tmp 6],Vp,false⟩
def ZfS:Zd:=yQ [yI 2 (.box 32 4 (yV 0)),yI 3 (.box 32 4 (yV 1)),yC 4 yF] (yQ [yH 5 0 2,yL 6 5,yH 7 0 3,yL 8 7,yX 9 .eql (yV 6) (yV 8),yM 10 9,yJ 11 (.fa 1 (yV 2)) 10 true,yJ 12 (.ldc (yV 11)) 10 true,yJ 13 (.fa 1 (yV 3)) 10 true,yJ 14 (.ldc (yV 13)) 10 true,yJ 15 (.bin .eql .prim (yV 12) (yV 14)) 10 true,yI 16 (.pick (yV 10) (yV 15) yF),yM 17 16,yJ 18 (.fa 2 (yV 2)) 17 true,yJ 19 (.ldc (yV 18)) 17 true,yJ 20 (.fa 2 (yV 3)) 17 true,yJ 21 (.ldc (yV 20)) 17 true,yJ 22 (.bin .eql .prim (yV 19) (yV 21)) 17 true,yI 23 (.pick (yV 17) (yV 22) yF),yM 24 23,yJ 25 (.fa 3 (yV 2)) 24 true,yJ 26 (.ldc (yV 25)) 24 true,yJ 27 (.fa 3 (yV 3)) 24 true,yJ 28 (.ldc (yV 27)) 24 true,yJ 29 (.call (yG 174) [yA 26,yA 28,(.inr (yG 175))]) 24 true,yI 30 (.pick (yV 24) (yV 29) yF),yU 4 30] yr)
def Zfm:AFn:=⟨31,[.tmp 4],ZfS,false⟩
def Ep:Zd:=yQ [yI 3 (.box 140 3 (yV 1)),yC 4 (yK 0)] (.seq (yQ [yM 6 0,yH 7 0 3,yL 8 7,yP 9 62 [yA 6,yA 8],yU 5 9] (yQ [yM 10 5,yX 11 .neq (yV 10) (yK 0)] (yc 11 (yQ [yU 12 5,yU 4 12] yr) yw))) (.seq (.block 0 (yQ [yH 14 1 3,yL 15 14,yP 16 177 [yA 15],yI 17 (.un .not (yV 16)),yU 13 17] (yc 13 (yQ [yC 4 (yK 1)] yr) (yQ [yH 19 1 3,yL 20 19,yH 21 2 3,yL 22 21,yP 23 178 [yA 20,yA 22],yI 24 (.un .not (yV 23)),yU 18 24] (yc 18 (yQ [yC 4 (yK 2)] yr) yw))))) (yQ [yC 4 (yK 0)] yr)))
def Ec:AFn:=⟨25,[.tmp 4],Ep,false⟩
def RY:Zd:=yQ [yX 17 .lss (yV 16) (yV 15)] (.seq (yc 17 yw (.exit 0)) (.seq (.block 1 (yQ [yE 18 3 14 16,yD 19 3 18,yI 8 (.mk 140 [ye,y0,y0]),yN (.st 3 (yV 8) (yV 19))] (yQ [yM 20 2,yD 21 3 8,yI 22 (.call (yV 20) [yA 21]),yU 9 22] (yQ [yM 23 9,yX 24 .neq (yV 23) (yK 0)] (yc 24 (yQ [yU 25 9,yU 6 25] yr) yw))))) (yR [yX 26 .add (yV 16) (yK 1),yM 16 26])))
def BJ:Zd:=.loop RY
def BI:Zd:=yQ [yC 6 (yK 0)] yr
def Nb:Zd:=yQ [yC 6 (yK 0)] (.seq (yQ [yM 10 0,yO 11 10,yM 12 1,yX 13 .gtr (yV 11) (yV 12)] (yc 13 (yQ [yC 6 (yK 6)] yr) yw)) (.seq (yQ [yM 14 0,yO 15 14,yC 16 (yK 0)] (.block 0 (BJ))) BI))
def PU:AFn:=⟨27,[.tmp 6],Nb,false⟩
def Eo:Zd:=yQ [yC 4 (yK 0)] (.seq (yQ [yM 6 1,yP 7 27 [yA 6],yU 5 7] (yQ [yM 8 5,yX 9 .neq (yV 8) (yK 0)] (yc 9 (yQ [yU 10 5,yU 4 10] yr) yw))) (.seq (yQ [yM 11 0,yM 12 1,yI 13 (.look (.one .str) yf (yV 11) (yV 12) false)] (yc 13 (yQ [yC 4 (yK 4)] yr) yw)) (yQ [yM 14 0,yM 15 1,yN (.mupd (.one .str) (yV 14) (yV 15) yT)] (yQ [yC 4 (yK 0)] yr))))
def Eb:AFn:=⟨16,[.tmp 4],Eo,false⟩
def Zmu:Zd:=yQ [yI 1 (.box 55 13 (yV 0)),yC 2 (yK 0)] (yQ [yI 5 (.mkmap),yI 3 (.mk 129 [.nilm]),yN (.stt (yV 3) 5)] (yQ [yI 6 (.mkfn 109 [] [(yV 3)]),yI 4 (.mk 183 [.nilf]),yN (.stt (yV 4) 6)] (yQ [yI 7 (.mkfn 112 [] [(yV 3),(yV 1)]),yI 8 (.mkfn 113 [] [(yV 1),(yV 3)]),yI 9 (.mkfn 119 [] [(yV 1),(yV 3)]),yI 10 (.mkfn 122 [] [(yV 1),(yV 3)]),yI 11 (.mkfn 125 [] [(yV 4),(yV 1)]),yI 12 (.mkfn 126 [] [(yV 4),(yV 1)]),yI 13 (.mkfn 127 [] [(yV 4),(yV 1)]),yI 14 (.mkfn 128 [] [(yV 4),(yV 1)]),yI 15 (.mkfn 129 [] [(yV 4),(yV 1)]),yI 16 (.mkfn 130 [] [(yV 1),(yV 3)]),yI 17 (.mkfn 134 [] [(yV 1)]),yI 18 (.mkfn 138 [] [(yV 1)]),yI 19 (.lit 185 1 [(yV 7),(yV 8),(yV 9),(yV 10),(yV 11),(yV 12),(yV 13),(yV 14),(yV 15),(yV 16),(yV 17),(yV 18)]),yP 20 111 [yA 19],yU 2 20] yr)))
def ZlR:AFn:=⟨21,[.tmp 2],Zmu,false⟩
def Zgb:Zd:=yQ [yI 3 (.box 202 3 (yV 0)),yC 4 (yK 0)] (yQ [yH 6 0 3,yL 7 6,yH 8 1 3,yL 9 8,yI 10 (.build [ye,ye] [(0,1,(yV 7)),(1,1,(yV 9))]),yI 5 (.mk 203 [ye,ye]),yN (.st 2 (yV 5) (yV 10))] (.seq (.block 0 (yQ [yD 12 4 1,yH 13 0 3,yL 14 13,yP 15 142 [yA 12,yA 14],yX 16 .lss (yV 15) (yK 0),yM 17 16,yJ 18 (.lda 4 (yV 1)) 17 false,yJ 19 (.fa 1 (yV 3)) 17 false,yJ 20 (.ldc (yV 19)) 17 false,yJ 21 (.call (yG 142) [yA 18,yA 20]) 17 false,yJ 22 (.bin .lss .prim (yV 21) (yK 0)) 17 false,yI 23 (.pick (yV 17) yT (yV 22)),yU 11 23] (yc 11 (yQ [yC 4 (yK 5)] yr) (yQ [yH 25 0 3,yL 26 25,yH 27 1 3,yL 28 27,yX 29 .eql (yV 26) (yV 28),yU 24 29] (yc 24 (yQ [yC 4 (yK 1)] yr) (yQ [yH 31 2 3,yL 32 31,yP 33 116 [yA 32,yB (yK 1),yB (yK 1000000000)],yI 34 (.un .not (yV 33)),yU 30 34] (yc 30 (yQ [yC 4 (yK 2)] yr) (yQ [yL 36 2,yD 37 2 5,yI 38 (.look (.pair .str) yf (yV 36) (yV 37) false),yU 35 38] (yc 35 (yQ [yC 4 (yK 4)] yr) yw))))))))) (yQ [yL 39 2,yD 40 2 5,yN (.mupd (.pair .str) (yV 39) (yV 40) yT)] (yQ [yC 4 (yK 0)] yr))))
def Zfu:AFn:=⟨41,[.tmp 4],Zgb,false⟩
def BC:Zd:=yQ [yX 17 .lss (yV 16) (yV 15)] (.seq (yc 17 yw (.exit 0)) (.seq (.block 1 (yQ [yE 18 3 14 16,yD 19 3 18,yI 8 (.mk 202 [ye,ye,y0]),yN (.st 3 (yV 8) (yV 19))] (yQ [yM 20 2,yD 21 3 8,yI 22 (.call (yV 20) [yA 21]),yU 9 22] (yQ [yM 23 9,yX 24 .neq (yV 23) (yK 0)] (yc 24 (yQ [yU 25 9,yU 6 25] yr) yw))))) (yR [yX 26 .add (yV 16) (yK 1),yM 16 26])))
def D9:Zd:=.loop BC
def D8:Zd:=yQ [yC 6 (yK 0)] yr
def Su:Zd:=yQ [yC 6 (yK 0)] (.seq (yQ [yM 10 0,yO 11 10,yM 12 1,yX 13 .gtr (yV 11) (yV 12)] (yc 13 (yQ [yC 6 (yK 6)] yr) yw)) (.seq (yQ [yM 14 0,yO 15 14,yC 16 (yK 0)] (.block 0 (D9))) D8))
def Sl:AFn:=⟨27,[.tmp 6],Su,false⟩
def ZiH:Zd:=yQ [yI 0 (.mv (.const (.own 1 [])))] (yQ [yI 1 (.lit 9 1 [(yS [97,100,100]),(yS [97,102,116,101,114]),(yS [97,110,100]),(yS [97,116]),(yS [98,101,108,116]),(yS [98,111,111,108]),(yS [99,111,110,115,101,114,118,101]),(yS [99,111,110,115,116]),(yS [99,111,117,110,116]),(yS [99,121,99,108,101]),(yS [100,111,119,110]),(yS [100,114,97,119]),(yS [100,117,114]),(yS [101,108,115,101]),(yS [101,110,100]),(yS [101,118,101,114,121]),(yS [102,97,108,115,101]),(yS [102,97,117,108,116]),(yS [102,105,102,111]),(yS [102,114,101,101]),(yS [102,114,111,109]),(yS [103,101,111,109]),(yS [103,101,116]),(yS [104,111,108,100]),(yS [105,102]),(yS [105,110,116]),(yS [105,110,116,111]),(yS [108,101,97,115,116]),(yS [108,101,118,101,108]),(yS [108,105,102,111]),(yS [108,105,110,107]),(yS [108,111,99,97,108]),(yS [109,97,120]),(yS [109,105,110]),(yS [109,111,100,101,108]),(yS [110,111,116]),(yS [110,111,119]),(yS [111,98,115,101,114,118,101]),(yS [111,114]),(yS [112,97,114,97,109]),(yS [112,114,101,101,109,112,116]),(yS [112,114,105,111]),(yS [112,117,116]),(yS [113,117,101,117,101]),(yS [114,101,108,101,97,115,101]),(yS [114,101,115,111,117,114,99,101]),(yS [114,105,100,101]),(yS [114,111,117,116,105,110,101]),(yS [115,101,105,122,101]),(yS [115,101,110,100]),(yS [115,101,116]),(yS [115,104,105,102,116]),(yS [115,105,103,110,97,108]),(yS [115,105,116,101]),(yS [115,105,122,101]),(yS [115,112,97,119,110]),(yS [115,116,97,114,116]),(yS [115,116,111,112]),(yS [115,116,111,114,101]),(yS [115,116,114,101,97,109]),(yS [115,117,109]),(yS [116,97,98,108,101]),(yS [116,97,108,108,121]),(yS [116,105,99,107,115]),(yS [116,105,109,101]),(yS [116,114,117,101]),(yS [117,110,105,102,111,114,109]),(yS [117,110,116,105,108]),(yS [117,112]),(yS [118,97,114]),(yS [119,97,105,116]),(yS [119,97,105,116,105,110,103]),(yS [119,104,105,108,101])]),yU 0 1] yr)
def Dz:AFn:=⟨2,[.tmp 0],ZiH,false⟩
def Zjl:List Nat:=[]
def ZiG:Zd:=.seq (yQ [yM 6 5,yM 7 0,yO 8 7,yX 9 .lss (yV 6) (yV 8)] (yc 9 yw (.exit 0))) (.seq (.block 1 (yQ [yM 12 0,yM 13 5,yE 14 1 12 13,yL 15 14,yM 16 1,yX 17 .eql (yV 15) (yV 16)] (yc 17 (yQ [yU 18 5,yU 4 18] yr) yw))) (yR [yM 10 5,yX 11 .add (yV 10) (yK 1),yU 5 11]))
def Zb1:Zd:=.loop ZiG
def Zb0:Zd:=yQ [yI 4 (.mv (.const (.int .i64 (-1))))] yr
def Zc7:Zd:=yQ [yC 4 (yK 0)] (.seq (yQ [yC 5 (yK 0)] (.block 0 (Zb1))) Zb0)
def Ol:AFn:=⟨19,[.tmp 4],Zc7,false⟩
def HY:List Nat:=[]
def Zog:Zd:=yQ [yI 1 (.box 71 4 (yV 0)),yC 2 yF] (yQ [yD 3 4 1,yI 4 (.build [y0,ye,y0,(.own 4 [])] []),yP 5 196 [yA 3,yA 4],yU 2 5] yr)
def Zfo:AFn:=⟨6,[.tmp 2],Zog,false⟩
def ZoZ:List Nat:=[]
def Zoi:Zd:=yQ [yI 2 (.box 75 6 (yV 0)),yI 3 (.box 75 6 (yV 1)),yC 4 yF] (yQ [yH 5 0 2,yL 6 5,yH 7 0 3,yL 8 7,yX 9 .eql (yV 6) (yV 8),yM 10 9,yJ 11 (.fa 1 (yV 2)) 10 true,yJ 12 (.ldc (yV 11)) 10 true,yJ 13 (.fa 1 (yV 3)) 10 true,yJ 14 (.ldc (yV 13)) 10 true,yJ 15 (.bin .eql .prim (yV 12) (yV 14)) 10 true,yI 16 (.pick (yV 10) (yV 15) yF),yM 17 16,yJ 18 (.fa 2 (yV 2)) 17 true,yJ 19 (.ldc (yV 18)) 17 true,yJ 20 (.fa 2 (yV 3)) 17 true,yJ 21 (.ldc (yV 20)) 17 true,yJ 22 (.bin .eql .prim (yV 19) (yV 21)) 17 true,yI 23 (.pick (yV 17) (yV 22) yF),yM 24 23,yJ 25 (.fa 3 (yV 2)) 24 true,yJ 26 (.ldc (yV 25)) 24 true,yJ 27 (.fa 3 (yV 3)) 24 true,yJ 28 (.ldc (yV 27)) 24 true,yJ 29 (.bin .eql .prim (yV 26) (yV 28)) 24 true,yI 30 (.pick (yV 24) (yV 29) yF),yM 31 30,yJ 32 (.fa 4 (yV 2)) 31 true,yJ 33 (.ldc (yV 32)) 31 true,yJ 34 (.fa 4 (yV 3)) 31 true,yJ 35 (.ldc (yV 34)) 31 true,yJ 36 (.call (yG 197) [yA 33,yA 35]) 31 true,yI 37 (.pick (yV 31) (yV 36) yF),yM 38 37,yJ 39 (.fa 5 (yV 2)) 38 true,yJ 40 (.ldc (yV 39)) 38 true,yJ 41 (.fa 5 (yV 3)) 38 true,yJ 42 (.ldc (yV 41)) 38 true,yJ 43 (.call (yG 197) [yA 40,yA 42]) 38 true,yI 44 (.pick (yV 38) (yV 43) yF),yU 4 44] yr)
def Zfp:AFn:=⟨45,[.tmp 4],Zoi,false⟩
def Zpa:List Nat:=[11,12,13,14,15,18,19,20,21,22,25,26,27,28,29,32,33,34,35,36,39,40,41,42,43]
def Zag:Zd:=yQ [yI 3 (.box 87 8 (yV 0)),yC 6 (yK 0)] (yQ [yH 8 0 3,yH 9 1 8,yL 10 9,yH 11 3 3,yL 12 11,yE 13 14 10 12,yH 14 0 13,yD 15 13 14,yI 7 (.mk 55 [ye,(.own 3 []),(.own 17 []),(.own 3 []),(.own 3 []),(.own 1 []),(.own 1 []),(.own 1 []),(.own 1 []),(.own 1 []),(.own 4 []),(.own 5 []),(.own 3 [])]),yN (.st 13 (yV 7) (yV 15))] (.seq (yQ [yM 16 1] (.block 0 (yQ [yX 18 .eql (yV 16) (yK 1),yU 17 18] (yc 17 (yQ [yH 19 4 3,yH 20 2 19,yL 21 20,yU 6 21] yr) (yQ [yX 23 .eql (yV 16) (yK 2),yU 22 23] (yc 22 (yQ [yH 24 1 7,yL 25 24,yO 26 25,yU 6 26] yr) (yQ [yX 28 .eql (yV 16) (yK 3),yU 27 28] (yc 27 (yQ [yH 29 6 7,yL 30 29,yO 31 30,yU 6 31] yr) (yQ [yX 33 .eql (yV 16) (yK 4),yU 32 33] (yc 32 (yQ [yH 34 4 3,yH 35 3 34,yL 36 35,yO 37 36,yU 6 37] yr) (yQ [yX 39 .eql (yV 16) (yK 5),yU 38 39] (yc 38 (yQ [yH 40 2 7,yL 41 40,yO 42 41,yU 6 42] yr) (yQ [yX 44 .eql (yV 16) (yK 6),yU 43 44] (yc 43 (yQ [yH 45 3 7,yL 46 45,yO 47 46,yU 6 47] yr) (yQ [yX 49 .eql (yV 16) (yK 7),yU 48 49] (yc 48 (yQ [yH 50 4 7,yL 51 50,yO 52 51,yU 6 52] yr) (yQ [yX 54 .eql (yV 16) (yK 8),yU 53 54] (yc 53 (yQ [yH 55 5 7,yL 56 55,yO 57 56,yU 6 57] yr) (yQ [yX 59 .eql (yV 16) (yK 9),yU 58 59] (yc 58 (yQ [yH 60 0 3,yH 61 1 60,yL 62 61,yO 63 62,yU 6 63] yr) (yQ [yX 65 .eql (yV 16) (yK 10),yU 64 65] (yc 64 (yQ [yH 66 0 3,yH 67 1 66,yL 68 67,yM 69 2,yE 70 14 68 69,yH 71 13 70,yL 72 71,yO 73 72,yU 6 73] yr) (yQ [yX 75 .eql (yV 16) (yK 11),yU 74 75] (yc 74 (yQ [yH 76 7 7,yL 77 76,yO 78 77,yU 6 78] yr) (yQ [yX 80 .eql (yV 16) (yK 12),yU 79 80] (yc 79 (yQ [yH 81 8 7,yL 82 81,yO 83 82,yU 6 83] yr) (yQ [yX 85 .eql (yV 16) (yK 13),yU 84 85] (yc 84 (yQ [yH 86 9 7,yL 87 86,yO 88 87,yU 6 88] yr) yw)))))))))))))))))))))))))))) (yQ [yC 6 (yK 1)] yr)))
def RN:AFn:=⟨89,[.tmp 6],Zag,false⟩
def ZaW:List Nat:=[]
def Zah:Zd:=yQ [yI 2 (.box 216 1 (yV 0)),yI 3 (.box 71 4 (yV 1)),yC 4 (yK 0)] (.seq (.block 0 (yQ [yD 6 4 3,yP 7 198 [yA 6],yX 8 .gtr (yV 7) (yK 60),yU 5 8] (yc 5 (yQ [yC 4 (yK 6)] yr) (yQ [yD 10 4 3,yP 11 199 [yA 10],yX 12 .gtr (yV 11) (yK 12),yU 9 12] (yc 9 (yQ [yC 4 (yK 11)] yr) yw))))) (yQ [yD 13 1 2,yD 14 4 3,yP 15 200 [yA 13,yA 14],yU 4 15] yr))
def RP:AFn:=⟨16,[.tmp 4],Zah,false⟩
def ZaX:List Nat:=[]
def Em:Zd:=yQ [yI 2 (.box 71 4 (yV 0)),yC 3 yF] (yQ [yD 4 8 1,yD 5 4 2,yP 6 78 [yA 4,yA 5],yI 7 (.un .not (yV 6)),yU 3 7] yr)
def MR:AFn:=⟨8,[.tmp 3],Em,false⟩
def EW:List Nat:=[]
def KL:Zd:=yQ [yC 4 yF] (yQ [yM 5 0,yM 6 1,yP 7 201 [yA 5,yA 6],yX 8 .geq (yV 7) (yK 0),yU 4 8] yr)
def XM:AFn:=⟨9,[.tmp 4],KL,false⟩
def KU:List Nat:=[]
def NG:Zd:=yc 27 (yQ [yM 30 3,yM 31 30,yJ 32 (.fa 3 (yV 1)) 31 true,yJ 33 (.ldc (yV 32)) 31 true,yJ 34 (.bin .eql .prim (yV 33) (yK 0)) 31 true,yI 35 (.pick (yV 31) (yV 34) yF),yU 2 35] yr) (yQ [yX 37 .eql (yV 13) (yK 4),yU 36 37] (yc 36 (yQ [yU 38 3,yU 2 38] yr) (yQ [yX 40 .eql (yV 13) (yK 3),yU 39 40] (yc 39 (yQ [yH 41 1 1,yL 42 41,yX 43 .eql (yV 42) (yK 0),yM 44 43,yJ 45 (.fa 2 (yV 1)) 44 true,yJ 46 (.ldc (yV 45)) 44 true,yJ 47 (.bin .eql .prim (yV 46) (yK 0)) 44 true,yI 48 (.pick (yV 44) (yV 47) yF),yM 49 48,yJ 50 (.fa 3 (yV 1)) 49 true,yJ 51 (.ldc (yV 50)) 49 true,yJ 52 (.bin .eql .prim (yV 51) (yK 0)) 49 true,yI 53 (.pick (yV 49) (yV 52) yF),yU 2 53] yr) yw))))
def NH:Zd:=yQ [yC 2 yF] yr
def PY:Zd:=yQ [yI 1 (.box 75 6 (yV 0)),yC 2 yF] (yQ [yH 4 4 1,yL 5 4,yO 6 5,yH 7 5 1,yL 8 7,yO 9 8,yX 10 .add (yV 6) (yV 9),yX 11 .eql (yV 10) (yK 0),yU 3 11] (.seq (yQ [yH 12 0 1,yL 13 12] (.block 0 (yQ [yX 15 .eql (yV 13) (yK 1),yU 14 15] (yc 14 (yQ [yM 16 3,yM 17 16,yJ 18 (.fa 2 (yV 1)) 17 true,yJ 19 (.ldc (yV 18)) 17 true,yJ 20 (.bin .eql .prim (yV 19) (yK 0)) 17 true,yI 21 (.pick (yV 17) (yV 20) yF),yM 22 21,yJ 23 (.fa 3 (yV 1)) 22 true,yJ 24 (.ldc (yV 23)) 22 true,yJ 25 (.bin .eql .prim (yV 24) (yK 0)) 22 true,yI 26 (.pick (yV 22) (yV 25) yF),yU 2 26] yr) (.seq (yQ [yX 28 .eql (yV 13) (yK 2),yU 27 28] (yc 27 yw (yR [yX 29 .eql (yV 13) (yK 5),yU 27 29]))) NG))))) NH))
def J6:AFn:=⟨54,[.tmp 2],PY,false⟩
def VN:List Nat:=[18,19,20,23,24,25,32,33,34,45,46,47,50,51,52]
def Zkz:Zd:=yQ [yI 3 (.box 3 1 (yV 0)),yI 4 (.box 3 1 (yV 1)),yC 6 yF] (yQ [yM 7 2,yI 8 (.mkfn 203 [] [(yV 3),(yV 4)]),yP 9 202 [yA 7,yA 8],yI 10 (.un .not (yV 9)),yU 6 10] yr)
def Zbj:AFn:=⟨11,[.tmp 6],Zkz,false⟩
def Zli:List Nat:=[]
def Zmy:Zd:=yQ [yI 5 (.box 25 3 (yV 0)),yI 7 (.box 32 4 (yV 2)),yC 10 yF] (yQ [yM 11 3,yX 12 .eql (yV 11) (yS []),yM 13 12,yJ 14 (.mv (yV 4)) 13 false,yJ 15 (.bin .geq .prim (yV 14) (yK 0)) 13 false,yJ 16 (.mv (yV 15)) 13 false,yJ 17 (.mv (yV 4)) 16 true,yJ 18 (.lda 3 (yV 5)) 16 true,yJ 19 (.mv (yV 1)) 16 true,yJ 20 (.lda 4 (yV 7)) 16 true,yJ 21 (.mv (yV 3)) 16 true,yJ 22 (.call (yG 204) [yA 18,yA 19,yA 20,yA 21]) 16 true,yJ 23 (.bin .lss .prim (yV 17) (yV 22)) 16 true,yJ 24 (.pick (yV 16) (yV 23) yF) 13 false,yI 25 (.pick (yV 13) yT (yV 24)),yU 10 25] yr)
def Zd4:AFn:=⟨26,[.tmp 10],Zmy,false⟩
def Znj:List Nat:=[14,15,16,17,18,19,20,21,22,23,24]
def Zoq:Zd:=yQ [yI 3 (.box 25 3 (yV 0)),yI 5 (.box 77 20 (yV 2)),yC 6 (yK 0)] (yQ [yH 8 1 3,yL 9 8,yM 10 1,yE 11 14 9 10,yH 12 13 11,yL 13 12,yU 7 13] (.seq (yQ [yH 14 2 5,yL 15 14,yX 16 .lss (yV 15) (yK 0),yM 17 16,yJ 18 (.fa 2 (yV 5)) 17 false,yJ 19 (.ldc (yV 18)) 17 false,yJ 20 (.mv (yV 7)) 17 false,yJ 21 (.len .slice (yV 20)) 17 false,yJ 22 (.bin .geq .prim (yV 19) (yV 21)) 17 false,yI 23 (.pick (yV 17) yT (yV 22))] (yc 23 (yQ [yC 6 (yK 2)] yr) yw)) (.seq (.seq (.region true [yH 24 12 5,yL 25 24,yO 26 25,yM 27 7,yH 28 2 5,yL 29 28,yE 30 4 27 29,yH 31 1 30,yL 32 31,yX 33 .neq (yV 26) (yV 32)]) (yc 33 (yQ [yC 6 (yK 8)] yr) yw)) (yQ [yC 6 (yK 0)] yr))))
def Zf4:AFn:=⟨34,[.tmp 6],Zoq,false⟩
def Zpg:List Nat:=[18,19,20,21,22]
def Zoo:Zd:=yQ [yI 2 (.box 71 4 (yV 0)),yC 4 (yK 0)] (.seq (yQ [yD 5 4 2,yP 6 205 [yA 5],yX 7 .gtr (yV 6) (yK 60)] (yc 7 (yQ [yC 4 (yK 6)] yr) yw)) (.seq (yQ [yD 8 4 2,yP 9 206 [yA 8],yX 10 .gtr (yV 9) (yK 12)] (yc 10 (yQ [yC 4 (yK 11)] yr) yw)) (yQ [yD 11 4 2,yM 12 1,yP 13 207 [yA 11,yA 12],yU 4 13] yr)))
def Zf3:AFn:=⟨14,[.tmp 4],Zoo,false⟩
def Zpe:List Nat:=[]
def EC:Zd:=yc 29 (yQ [yH 32 3 1,yL 33 32,yX 34 .eql (yV 33) (yK 0),yM 35 34,yJ 36 (.mv (yV 3)) 35 true,yI 37 (.pick (yV 35) (yV 36) yF),yU 2 37] yr) (yQ [yX 39 .eql (yV 15) (yK 3),yU 38 39] (yc 38 (yQ [yH 40 1 1,yL 41 40,yX 42 .eql (yV 41) (yK 0),yM 43 42,yJ 44 (.fa 2 (yV 1)) 43 true,yJ 45 (.ldc (yV 44)) 43 true,yJ 46 (.bin .eql .prim (yV 45) (yK 0)) 43 true,yI 47 (.pick (yV 43) (yV 46) yF),yM 48 47,yJ 49 (.fa 3 (yV 1)) 48 true,yJ 50 (.ldc (yV 49)) 48 true,yJ 51 (.bin .eql .prim (yV 50) (yK 0)) 48 true,yI 52 (.pick (yV 48) (yV 51) yF),yU 2 52] yr) (yQ [yX 54 .eql (yV 15) (yK 4),yU 53 54] (yc 53 (yQ [yU 55 3,yU 2 55] yr) yw))))
def ED:Zd:=yQ [yC 2 yF] yr
def E8:Zd:=yQ [yI 1 (.box 75 6 (yV 0)),yC 2 yF] (yQ [yH 4 4 1,yL 5 4,yO 6 5,yX 7 .eql (yV 6) (yK 0),yM 8 7,yJ 9 (.fa 5 (yV 1)) 8 true,yJ 10 (.ldc (yV 9)) 8 true,yJ 11 (.len .slice (yV 10)) 8 true,yJ 12 (.bin .eql .prim (yV 11) (yK 0)) 8 true,yI 13 (.pick (yV 8) (yV 12) yF),yU 3 13] (.seq (yQ [yH 14 0 1,yL 15 14] (.block 0 (yQ [yX 17 .eql (yV 15) (yK 1),yU 16 17] (yc 16 (yQ [yH 18 2 1,yL 19 18,yX 20 .eql (yV 19) (yK 0),yM 21 20,yJ 22 (.fa 3 (yV 1)) 21 true,yJ 23 (.ldc (yV 22)) 21 true,yJ 24 (.bin .eql .prim (yV 23) (yK 0)) 21 true,yI 25 (.pick (yV 21) (yV 24) yF),yM 26 25,yJ 27 (.mv (yV 3)) 26 true,yI 28 (.pick (yV 26) (yV 27) yF),yU 2 28] yr) (.seq (yQ [yX 30 .eql (yV 15) (yK 2),yU 29 30] (yc 29 yw (yR [yX 31 .eql (yV 15) (yK 5),yU 29 31]))) EC))))) ED))
def U9:AFn:=⟨56,[.tmp 2],E8,false⟩
def JM:List Nat:=[9,10,11,12,22,23,24,27,36,44,45,46,49,50,51]
def Zk7:Zd:=yQ [yC 6 yF] (yQ [yM 7 0,yM 8 1,yX 9 .geq (yV 7) (yV 8),yM 10 9,yJ 11 (.mv (yV 0)) 10 true,yJ 12 (.mv (yV 2)) 10 true,yJ 13 (.bin .leq .prim (yV 11) (yV 12)) 10 true,yI 14 (.pick (yV 10) (yV 13) yF),yU 6 14] yr)
def Zbm:AFn:=⟨15,[.tmp 6],Zk7,false⟩
def Zlk:List Nat:=[11,12,13]
def Zgm:Zd:=.seq (yQ [yM 19 3,yH 20 4 1,yL 21 20,yO 22 21,yX 23 .lss (yV 19) (yV 22)] (yc 23 yw (.exit 0))) (.seq (.block 1 (yQ [yH 26 4 1,yL 27 26,yM 28 3,yE 29 1 27 28,yL 30 29,yP 31 165 [yA 30,yB (yK 0),yB (yK 1000000000)],yI 32 (.un .not (yV 31)),yM 33 32,yJ 34 (.fa 5 (yV 1)) 33 false,yJ 35 (.ldc (yV 34)) 33 false,yJ 36 (.mv (yV 3)) 33 false,yJ 37 (.ia (.slice 1) (yV 35) (yV 36)) 33 false,yJ 38 (.ldc (yV 37)) 33 false,yJ 39 (.call (yG 165) [yA 38,yB (yK 1),yB (yK 1000)]) 33 false,yJ 40 (.un .not (yV 39)) 33 false,yI 41 (.pick (yV 33) yT (yV 40))] (yc 41 (yQ [yC 2 (yK 2)] yr) yw))) (yR [yM 24 3,yX 25 .add (yV 24) (yK 1),yU 3 25]))
def F6:Zd:=.loop Zgm
def F5:Zd:=yQ [yC 2 (yK 0)] yr
def Zat:Zd:=yQ [yI 1 (.box 75 6 (yV 0)),yC 2 (yK 0)] (.seq (yQ [yH 4 4 1,yL 5 4,yO 6 5,yH 7 5 1,yL 8 7,yO 9 8,yX 10 .neq (yV 6) (yV 9)] (yc 10 (yQ [yC 2 (yK 8)] yr) yw)) (.seq (yQ [yH 11 4 1,yL 12 11,yO 13 12,yX 14 .eql (yV 13) (yK 0)] (yc 14 (yQ [yC 2 (yK 7)] yr) yw)) (.seq (yQ [yH 15 4 1,yL 16 15,yO 17 16,yX 18 .gtr (yV 17) (yK 20)] (yc 18 (yQ [yC 2 (yK 6)] yr) yw)) (.seq (yQ [yC 3 (yK 0)] (.block 0 (F6))) F5))))
def Gz:AFn:=⟨42,[.tmp 2],Zat,false⟩
def UN:List Nat:=[34,35,36,37,38,39,40]
def Gn:Zd:=yQ [yX 14 .lss (yV 13) (yV 12)] (.seq (yc 14 yw (.exit 0)) (.seq (.block 1 (yQ [yM 15 13,yU 5 15] (.seq (.region true [yM 16 0,yM 17 5,yE 18 3 16 17,yD 19 3 18,yM 20 1,yM 21 5,yE 22 3 20 21,yD 23 3 22,yI 24 (.bin .neq (.struct [.str,.int,.int]) (yV 19) (yV 23))]) (yc 24 (yQ [yC 4 yF] yr) yw)))) (yR [yX 25 .add (yV 13) (yK 1),yM 13 25])))
def GN:Zd:=.loop Gn
def GM:Zd:=yQ [yC 4 yT] yr
def I8:Zd:=yQ [yC 4 yF] (.seq (yQ [yM 6 0,yO 7 6,yM 8 1,yO 9 8,yX 10 .neq (yV 7) (yV 9)] (yc 10 (yQ [yC 4 yF] yr) yw)) (.seq (yQ [yM 11 0,yO 12 11,yC 13 (yK 0)] (.block 0 (GN))) GM))
def I4:AFn:=⟨26,[.tmp 4],I8,false⟩
def Qe:Zd:=yQ [yX 18 .lss (yV 17) (yV 16)] (.seq (yc 18 yw (.exit 0)) (.seq (.block 1 (yQ [yM 19 17,yE 20 13 15 17,yD 21 13 20,yI 8 (.mk 55 [ye,(.own 3 []),(.own 17 []),(.own 3 []),(.own 3 []),(.own 1 []),(.own 1 []),(.own 1 []),(.own 1 []),(.own 1 []),(.own 4 []),(.own 5 []),(.own 3 [])]),yU 7 19,yN (.st 13 (yV 8) (yV 21))] (yQ [yM 22 1,yM 23 7,yE 24 13 22 23,yD 25 13 24,yI 9 (.mk 55 [ye,(.own 3 []),(.own 17 []),(.own 3 []),(.own 3 []),(.own 1 []),(.own 1 []),(.own 1 []),(.own 1 []),(.own 1 []),(.own 4 []),(.own 5 []),(.own 3 [])]),yN (.st 13 (yV 9) (yV 25))] (yQ [yM 26 2,yD 27 13 8,yD 28 13 9,yI 29 (.call (yV 26) [yA 27,yA 28]),yI 30 (.un .not (yV 29))] (yc 30 (yQ [yC 6 yF] yr) yw))))) (yR [yX 31 .add (yV 17) (yK 1),yM 17 31])))
def Qm:Zd:=.loop Qe
def Ql:Zd:=yQ [yC 6 yT] yr
def QA:Zd:=yQ [yC 6 yF] (.seq (yQ [yM 10 0,yO 11 10,yM 12 1,yO 13 12,yX 14 .neq (yV 11) (yV 13)] (yc 14 (yQ [yC 6 yF] yr) yw)) (.seq (yQ [yM 15 0,yO 16 15,yC 17 (yK 0)] (.block 0 (Qm))) Ql))
def Q7:AFn:=⟨32,[.tmp 6],QA,false⟩
def Zet:Zd:=yQ [yI 2 (.box 55 13 (yV 0)),yI 3 (.box 55 13 (yV 1)),yC 4 yF] (yQ [yH 5 0 2,yL 6 5,yH 7 0 3,yL 8 7,yX 9 .eql (yV 6) (yV 8),yM 10 9,yJ 11 (.fa 1 (yV 2)) 10 true,yJ 12 (.ldc (yV 11)) 10 true,yJ 13 (.fa 1 (yV 3)) 10 true,yJ 14 (.ldc (yV 13)) 10 true,yJ 15 (.call (yG 170) [yA 12,yA 14]) 10 true,yI 16 (.pick (yV 10) (yV 15) yF),yM 17 16,yJ 18 (.fa 2 (yV 2)) 17 true,yJ 19 (.ldc (yV 18)) 17 true,yJ 20 (.fa 2 (yV 3)) 17 true,yJ 21 (.ldc (yV 20)) 17 true,yJ 22 (.call (yG 210) [yA 19,yA 21,(.inr (yG 211))]) 17 true,yI 23 (.pick (yV 17) (yV 22) yF),yM 24 23,yJ 25 (.fa 3 (yV 2)) 24 true,yJ 26 (.ldc (yV 25)) 24 true,yJ 27 (.fa 3 (yV 3)) 24 true,yJ 28 (.ldc (yV 27)) 24 true,yJ 29 (.call (yG 212) [yA 26,yA 28]) 24 true,yI 30 (.pick (yV 24) (yV 29) yF),yM 31 30,yJ 32 (.fa 4 (yV 2)) 31 true,yJ 33 (.ldc (yV 32)) 31 true,yJ 34 (.fa 4 (yV 3)) 31 true,yJ 35 (.ldc (yV 34)) 31 true,yJ 36 (.call (yG 213) [yA 33,yA 35]) 31 true,yI 37 (.pick (yV 31) (yV 36) yF),yM 38 37,yJ 39 (.fa 5 (yV 2)) 38 true,yJ 40 (.ldc (yV 39)) 38 true,yJ 41 (.fa 5 (yV 3)) 38 true,yJ 42 (.ldc (yV 41)) 38 true,yJ 43 (.call (yG 214) [yA 40,yA 42]) 38 true,yI 44 (.pick (yV 38) (yV 43) yF),yM 45 44,yJ 46 (.fa 6 (yV 2)) 45 true,yJ 47 (.ldc (yV 46)) 45 true,yJ 48 (.fa 6 (yV 3)) 45 true,yJ 49 (.ldc (yV 48)) 45 true,yJ 50 (.call (yG 214) [yA 47,yA 49]) 45 true,yI 51 (.pick (yV 45) (yV 50) yF),yM 52 51,yJ 53 (.fa 7 (yV 2)) 52 true,yJ 54 (.ldc (yV 53)) 52 true,yJ 55 (.fa 7 (yV 3)) 52 true,yJ 56 (.ldc (yV 55)) 52 true,yJ 57 (.call (yG 214) [yA 54,yA 56]) 52 true,yI 58 (.pick (yV 52) (yV 57) yF),yM 59 58,yJ 60 (.fa 8 (yV 2)) 59 true,yJ 61 (.ldc (yV 60)) 59 true,yJ 62 (.fa 8 (yV 3)) 59 true,yJ 63 (.ldc (yV 62)) 59 true,yJ 64 (.call (yG 214) [yA 61,yA 63]) 59 true,yI 65 (.pick (yV 59) (yV 64) yF),yM 66 65,yJ 67 (.fa 9 (yV 2)) 66 true,yJ 68 (.ldc (yV 67)) 66 true,yJ 69 (.fa 9 (yV 3)) 66 true,yJ 70 (.ldc (yV 69)) 66 true,yJ 71 (.call (yG 214) [yA 68,yA 70]) 66 true,yI 72 (.pick (yV 66) (yV 71) yF),yM 73 72,yJ 74 (.fa 10 (yV 2)) 73 true,yJ 75 (.ldc (yV 74)) 73 true,yJ 76 (.fa 10 (yV 3)) 73 true,yJ 77 (.ldc (yV 76)) 73 true,yJ 78 (.call (yG 215) [yA 75,yA 77,(.inr (yG 216))]) 73 true,yI 79 (.pick (yV 73) (yV 78) yF),yM 80 79,yJ 81 (.fa 11 (yV 2)) 80 true,yJ 82 (.ldc (yV 81)) 80 true,yJ 83 (.fa 11 (yV 3)) 80 true,yJ 84 (.ldc (yV 83)) 80 true,yJ 85 (.call (yG 217) [yA 82,yA 84,(.inr (yG 218))]) 80 true,yI 86 (.pick (yV 80) (yV 85) yF),yM 87 86,yJ 88 (.fa 12 (yV 2)) 87 true,yJ 89 (.ldc (yV 88)) 87 true,yJ 90 (.fa 12 (yV 3)) 87 true,yJ 91 (.ldc (yV 90)) 87 true,yJ 92 (.call (yG 219) [yA 89,yA 91,(.inr (yG 220))]) 87 true,yI 93 (.pick (yV 87) (yV 92) yF),yU 4 93] yr)
def ZdZ:AFn:=⟨94,[.tmp 4],Zet,false⟩
def H6:Zd:=yQ [yX 14 .lss (yV 13) (yV 12)] (.seq (yc 14 yw (.exit 0)) (.seq (.block 1 (yQ [yM 15 13,yU 5 15] (.seq (.region true [yM 16 0,yM 17 5,yE 18 3 16 17,yD 19 3 18,yM 20 1,yM 21 5,yE 22 3 20 21,yD 23 3 22,yI 24 (.bin .neq (.struct [.str,.str,.int]) (yV 19) (yV 23))]) (yc 24 (yQ [yC 4 yF] yr) yw)))) (yR [yX 25 .add (yV 13) (yK 1),yM 13 25])))
def Ip:Zd:=.loop H6
def Io:Zd:=yQ [yC 4 yT] yr
def O3:Zd:=yQ [yC 4 yF] (.seq (yQ [yM 6 0,yO 7 6,yM 8 1,yO 9 8,yX 10 .neq (yV 7) (yV 9)] (yc 10 (yQ [yC 4 yF] yr) yw)) (.seq (yQ [yM 11 0,yO 12 11,yC 13 (yK 0)] (.block 0 (Ip))) Io))
def Oy:AFn:=⟨26,[.tmp 4],O3,false⟩
def Xq:Zd:=yQ [yX 18 .lss (yV 17) (yV 16)] (.seq (yc 18 yw (.exit 0)) (.seq (.block 1 (yQ [yM 19 17,yE 20 20 15 17,yD 21 20 20,yI 8 (.mk 77 [y0,y0,y0,y0,y0,ye,y0,(.own 4 []),y0,ye,y0,(.own 4 []),(.own 4 []),y0,y0,y0,y0,(.own 1 []),(.own 1 []),yf]),yU 7 19,yN (.st 20 (yV 8) (yV 21))] (yQ [yM 22 1,yM 23 7,yE 24 20 22 23,yD 25 20 24,yI 9 (.mk 77 [y0,y0,y0,y0,y0,ye,y0,(.own 4 []),y0,ye,y0,(.own 4 []),(.own 4 []),y0,y0,y0,y0,(.own 1 []),(.own 1 []),yf]),yN (.st 20 (yV 9) (yV 25))] (yQ [yM 26 2,yD 27 20 8,yD 28 20 9,yI 29 (.call (yV 26) [yA 27,yA 28]),yI 30 (.un .not (yV 29))] (yc 30 (yQ [yC 6 yF] yr) yw))))) (yR [yX 31 .add (yV 17) (yK 1),yM 17 31])))
def Xv:Zd:=.loop Xq
def Xu:Zd:=yQ [yC 6 yT] yr
def XH:Zd:=yQ [yC 6 yF] (.seq (yQ [yM 10 0,yO 11 10,yM 12 1,yO 13 12,yX 14 .neq (yV 11) (yV 13)] (yc 14 (yQ [yC 6 yF] yr) yw)) (.seq (yQ [yM 15 0,yO 16 15,yC 17 (yK 0)] (.block 0 (Xv))) Xu))
def XD:AFn:=⟨32,[.tmp 6],XH,false⟩
def Zej:Zd:=yQ [yI 2 (.box 77 20 (yV 0)),yI 3 (.box 77 20 (yV 1)),yC 4 yF] (yQ [yH 5 0 2,yL 6 5,yH 7 0 3,yL 8 7,yX 9 .eql (yV 6) (yV 8),yM 10 9,yJ 11 (.fa 1 (yV 2)) 10 true,yJ 12 (.ldc (yV 11)) 10 true,yJ 13 (.fa 1 (yV 3)) 10 true,yJ 14 (.ldc (yV 13)) 10 true,yJ 15 (.bin .eql .prim (yV 12) (yV 14)) 10 true,yI 16 (.pick (yV 10) (yV 15) yF),yM 17 16,yJ 18 (.fa 2 (yV 2)) 17 true,yJ 19 (.ldc (yV 18)) 17 true,yJ 20 (.fa 2 (yV 3)) 17 true,yJ 21 (.ldc (yV 20)) 17 true,yJ 22 (.bin .eql .prim (yV 19) (yV 21)) 17 true,yI 23 (.pick (yV 17) (yV 22) yF),yM 24 23,yJ 25 (.fa 3 (yV 2)) 24 true,yJ 26 (.ldc (yV 25)) 24 true,yJ 27 (.fa 3 (yV 3)) 24 true,yJ 28 (.ldc (yV 27)) 24 true,yJ 29 (.bin .eql .prim (yV 26) (yV 28)) 24 true,yI 30 (.pick (yV 24) (yV 29) yF),yM 31 30,yJ 32 (.fa 19 (yV 2)) 31 true,yJ 33 (.ldc (yV 32)) 31 true,yJ 34 (.fa 19 (yV 3)) 31 true,yJ 35 (.ldc (yV 34)) 31 true,yJ 36 (.bin .eql .bool (yV 33) (yV 35)) 31 true,yI 37 (.pick (yV 31) (yV 36) yF),yM 38 37,yJ 39 (.fa 4 (yV 2)) 38 true,yJ 40 (.lda 4 (yV 39)) 38 true,yJ 41 (.fa 4 (yV 3)) 38 true,yJ 42 (.lda 4 (yV 41)) 38 true,yJ 43 (.call (yG 196) [yA 40,yA 42]) 38 true,yI 44 (.pick (yV 38) (yV 43) yF),yM 45 44,yJ 46 (.fa 8 (yV 2)) 45 true,yJ 47 (.lda 4 (yV 46)) 45 true,yJ 48 (.fa 8 (yV 3)) 45 true,yJ 49 (.lda 4 (yV 48)) 45 true,yJ 50 (.call (yG 196) [yA 47,yA 49]) 45 true,yI 51 (.pick (yV 45) (yV 50) yF),yM 52 51,yJ 53 (.fa 12 (yV 2)) 52 true,yJ 54 (.ldc (yV 53)) 52 true,yJ 55 (.fa 12 (yV 3)) 52 true,yJ 56 (.ldc (yV 55)) 52 true,yJ 57 (.call (yG 221) [yA 54,yA 56,(.inr (yG 196))]) 52 true,yI 58 (.pick (yV 52) (yV 57) yF),yM 59 58,yJ 60 (.fa 13 (yV 2)) 59 true,yJ 61 (.lda 6 (yV 60)) 59 true,yJ 62 (.fa 13 (yV 3)) 59 true,yJ 63 (.lda 6 (yV 62)) 59 true,yJ 64 (.call (yG 154) [yA 61,yA 63]) 59 true,yI 65 (.pick (yV 59) (yV 64) yF),yU 4 65] yr)
def ZdW:AFn:=⟨66,[.tmp 4],Zej,false⟩
def Zk4:Zd:=yQ [yC 2 yF] (yQ [yM 3 0,yX 4 .geq (yV 3) (yK 1),yM 5 4,yJ 6 (.mv (yV 0)) 5 true,yJ 7 (.bin .leq .prim (yV 6) (yK 3)) 5 true,yI 8 (.pick (yV 5) (yV 7) yF),yU 2 8] yr)
def Zko:AFn:=⟨9,[.tmp 2],Zk4,false⟩
def Zms:Zd:=yQ [yC 4 yF] (.seq (yQ [yM 5 0] (.block 0 (yQ [yX 7 .eql (yV 5) (yK 1),yU 6 7] (yc 6 (yQ [yM 8 1,yP 9 188 [yA 8],yU 4 9] yr) (yQ [yX 11 .eql (yV 5) (yK 2),yU 10 11] (yc 10 (yQ [yM 12 1,yX 13 .eql (yV 12) (yK 0),yM 14 13,yJ 15 (.mv (yV 1)) 14 false,yJ 16 (.bin .eql .prim (yV 15) (yK 1)) 14 false,yI 17 (.pick (yV 14) yT (yV 16)),yU 4 17] yr) (yQ [yX 19 .eql (yV 5) (yK 3),yU 18 19] (yc 18 (yQ [yM 20 1,yP 21 116 [yA 20,yB (yK 0),yB (yK 1000000000)],yU 4 21] yr) yw)))))))) (yQ [yC 4 yF] yr))
def ZlP:AFn:=⟨22,[.tmp 4],Zms,false⟩
def Zi4:Zd:=yQ [yC 3 (yK 0)] (yQ [yM 4 0,yL 5 1,yI 6 (.mkfn 62 [(yV 5)] []),yP 7 110 [yA 4,yB (yK 32),yA 6],yU 3 7] yr)
def Zia:AFn:=⟨8,[.tmp 3],Zi4,false⟩
def Zi5:Zd:=yQ [yC 2 (yK 0)] (yQ [yL 3 0,yH 4 1 1,yL 5 4,yP 6 59 [yA 3,yA 5],yU 2 6] yr)
def Zib:AFn:=⟨7,[.tmp 2],Zi5,false⟩
def Zi6:Zd:=yQ [yC 2 (yK 0)] (yQ [yH 3 2 0,yL 4 3,yI 5 (.mkfn 115 [] [(yV 1),(yV 0)]),yP 6 114 [yA 4,yB (yK 32),yA 5],yU 2 6] yr)
def Zic:AFn:=⟨7,[.tmp 2],Zi6,false⟩
def Zi7:Zd:=yQ [yC 2 (yK 0)] (yQ [yH 3 3 0,yL 4 3,yI 5 (.mkfn 121 [] [(yV 1)]),yP 6 120 [yA 4,yB (yK 32),yA 5],yU 2 6] yr)
def Zid:AFn:=⟨7,[.tmp 2],Zi7,false⟩
def Zi8:Zd:=yQ [yC 2 (yK 0)] (yQ [yH 3 4 0,yL 4 3,yI 5 (.mkfn 124 [] [(yV 1)]),yP 6 123 [yA 4,yB (yK 32),yA 5],yU 2 6] yr)
def Zie:AFn:=⟨7,[.tmp 2],Zi8,false⟩
def Zi9:Zd:=yQ [yC 2 (yK 0)] (yQ [yL 3 0,yH 4 5 1,yL 5 4,yI 6 (.call (yV 3) [yA 5]),yU 2 6] yr)
def Zif:AFn:=⟨7,[.tmp 2],Zi9,false⟩
def ZiA:Zd:=yQ [yC 2 (yK 0)] (yQ [yL 3 0,yH 4 6 1,yL 5 4,yI 6 (.call (yV 3) [yA 5]),yU 2 6] yr)
def Zig:AFn:=⟨7,[.tmp 2],ZiA,false⟩
def ZiB:Zd:=yQ [yC 2 (yK 0)] (yQ [yL 3 0,yH 4 7 1,yL 5 4,yI 6 (.call (yV 3) [yA 5]),yU 2 6] yr)
def Zih:AFn:=⟨7,[.tmp 2],ZiB,false⟩
def ZiC:Zd:=yQ [yC 2 (yK 0)] (yQ [yL 3 0,yH 4 8 1,yL 5 4,yI 6 (.call (yV 3) [yA 5]),yU 2 6] yr)
def Zii:AFn:=⟨7,[.tmp 2],ZiC,false⟩
def Zge:Zd:=yQ [yC 2 (yK 0)] (yQ [yL 3 0,yH 4 9 1,yL 5 4,yI 6 (.call (yV 3) [yA 5]),yU 2 6] yr)
def Zfx:AFn:=⟨7,[.tmp 2],Zge,false⟩
def Zgf:Zd:=yQ [yC 2 (yK 0)] (yQ [yH 3 10 0,yL 4 3,yI 5 (.mkfn 132 [] [(yV 1)]),yP 6 131 [yA 4,yB (yK 16),yA 5],yU 2 6] yr)
def Zfy:AFn:=⟨7,[.tmp 2],Zgf,false⟩
def Zgg:Zd:=yQ [yC 1 (yK 0)] (yQ [yH 2 11 0,yL 3 2,yI 4 (.mkfn 136 [] [(yV 0)]),yP 5 135 [yA 3,yB (yK 32),yA 4],yU 1 5] yr)
def Zfz:AFn:=⟨6,[.tmp 1],Zgg,false⟩
def Zgh:Zd:=yQ [yC 1 (yK 0)] (yQ [yD 2 13 0,yP 3 139 [yA 2],yU 1 3] yr)
def Zf0:AFn:=⟨4,[.tmp 1],Zgh,false⟩
def Zc1:Zd:=yQ [yX 9 .lss (yV 8) (yV 7)] (.seq (yc 9 yw (.exit 0)) (.seq (.block 1 (yQ [yE 10 1 6 8,yL 11 10,yU 4 11] (yQ [yM 12 4,yI 13 (.call (yV 12) []),yU 5 13] (yQ [yM 14 5,yX 15 .neq (yV 14) (yK 0)] (yc 15 (yQ [yU 16 5,yU 2 16] yr) yw))))) (yR [yX 17 .add (yV 8) (yK 1),yM 8 17])))
def Zer:Zd:=.loop Zc1
def Zeq:Zd:=yQ [yC 2 (yK 0)] yr
def Zk3:Zd:=yQ [yC 2 (yK 0)] (.seq (yQ [yM 6 0,yO 7 6,yC 8 (yK 0)] (.block 0 (Zer))) Zeq)
def Zkn:AFn:=⟨18,[.tmp 2],Zk3,false⟩
def Zmr:Zd:=yQ [yI 2 (.box 84 4 (yV 0)),yI 3 (.box 9 1 (yV 1)),yC 4 (yK 0)] (yQ [yH 5 2 2,yL 6 5,yI 7 (.mkfn 190 [] [(yV 3)]),yP 8 189 [yA 6,yA 7],yU 4 8] yr)
def ZlO:AFn:=⟨9,[.tmp 4],Zmr,false⟩
def ZiE:Zd:=yQ [yC 6 yF] (yQ [yM 7 0,yM 8 1,yX 9 .geq (yV 7) (yV 8),yM 10 9,yJ 11 (.mv (yV 0)) 10 true,yJ 12 (.mv (yV 2)) 10 true,yJ 13 (.bin .leq .prim (yV 11) (yV 12)) 10 true,yI 14 (.pick (yV 10) (yV 13) yF),yU 6 14] yr)
def Zik:AFn:=⟨15,[.tmp 6],ZiE,false⟩
def Zuo:Zd:=yQ [yC 2 yF] (yQ [yM 3 0,yX 4 .geq (yV 3) (.const (.int .i64 (-1000000000000))),yM 5 4,yJ 6 (.mv (yV 0)) 5 true,yJ 7 (.bin .leq .prim (yV 6) (yK 1000000000000)) 5 true,yI 8 (.pick (yV 5) (yV 7) yF),yU 2 8] yr)
def ZpQ:AFn:=⟨9,[.tmp 2],Zuo,false⟩
def Zvi:List Nat:=[6,7]
def ZfW:Zd:=yQ [yX 39 .lss (yV 38) (yV 37)] (.seq (yc 39 yw (.exit 0)) (.seq (.block 1 (yQ [yM 40 38,yE 41 4 36 38,yD 42 4 41,yI 6 (.mk 71 [y0,ye,y0,(.own 4 [])]),yU 5 40,yN (.st 4 (yV 6) (yV 42))] (.seq (.region true [yD 43 4 6,yH 44 3 3,yL 45 44,yM 46 5,yE 47 4 45 46,yD 48 4 47,yP 49 196 [yA 43,yA 48],yI 50 (.un .not (yV 49))]) (yc 50 (yQ [yC 4 yF] yr) yw)))) (yR [yX 51 .add (yV 38) (yK 1),yM 38 51])))
def Fh:Zd:=.loop ZfW
def Fg:Zd:=yQ [yC 4 yT] yr
def Zal:Zd:=yQ [yI 2 (.box 71 4 (yV 0)),yI 3 (.box 71 4 (yV 1)),yC 4 yF] (.seq (yQ [yH 7 0 2,yL 8 7,yH 9 0 3,yL 10 9,yX 11 .neq (yV 8) (yV 10),yM 12 11,yJ 13 (.fa 1 (yV 2)) 12 false,yJ 14 (.ldc (yV 13)) 12 false,yJ 15 (.fa 1 (yV 3)) 12 false,yJ 16 (.ldc (yV 15)) 12 false,yJ 17 (.bin .neq .prim (yV 14) (yV 16)) 12 false,yI 18 (.pick (yV 12) yT (yV 17)),yM 19 18,yJ 20 (.fa 2 (yV 2)) 19 false,yJ 21 (.ldc (yV 20)) 19 false,yJ 22 (.fa 2 (yV 3)) 19 false,yJ 23 (.ldc (yV 22)) 19 false,yJ 24 (.bin .neq .prim (yV 21) (yV 23)) 19 false,yI 25 (.pick (yV 19) yT (yV 24)),yM 26 25,yJ 27 (.fa 3 (yV 2)) 26 false,yJ 28 (.ldc (yV 27)) 26 false,yJ 29 (.len .slice (yV 28)) 26 false,yJ 30 (.fa 3 (yV 3)) 26 false,yJ 31 (.ldc (yV 30)) 26 false,yJ 32 (.len .slice (yV 31)) 26 false,yJ 33 (.bin .neq .prim (yV 29) (yV 32)) 26 false,yI 34 (.pick (yV 26) yT (yV 33))] (yc 34 (yQ [yC 4 yF] yr) yw)) (.seq (yQ [yH 35 3 2,yL 36 35,yO 37 36,yC 38 (yK 0)] (.block 0 (Fh))) Fg))
def Gy:AFn:=⟨52,[.tmp 4],Zal,false⟩
def UM:List Nat:=[13,14,15,16,17,20,21,22,23,24,27,28,29,30,31,32,33]
def Rn:Zd:=yQ [yX 14 .lss (yV 13) (yV 12)] (.seq (yc 14 yw (.exit 0)) (.seq (.block 1 (yQ [yM 15 13,yU 5 15] (.seq (.region true [yM 16 0,yM 17 5,yE 18 1 16 17,yL 19 18,yM 20 1,yM 21 5,yE 22 1 20 21,yL 23 22,yX 24 .neq (yV 19) (yV 23)]) (yc 24 (yQ [yC 4 yF] yr) yw)))) (yR [yX 25 .add (yV 13) (yK 1),yM 13 25])))
def GU:Zd:=.loop Rn
def GR:Zd:=yQ [yC 4 yT] yr
def Us:Zd:=yQ [yC 4 yF] (.seq (yQ [yM 6 0,yO 7 6,yM 8 1,yO 9 8,yX 10 .neq (yV 7) (yV 9)] (yc 10 (yQ [yC 4 yF] yr) yw)) (.seq (yQ [yM 11 0,yO 12 11,yC 13 (yK 0)] (.block 0 (GU))) GR))
def YW:AFn:=⟨26,[.tmp 4],Us,false⟩
def YK:List Nat:=[]
def Zeo:Zd:=yQ [yX 10 .lss (yV 9) (yV 8)] (.seq (yc 10 yw (.exit 0)) (.seq (.block 1 (yQ [yE 11 4 7 9,yD 12 4 11,yI 5 (.mk 71 [y0,ye,y0,(.own 4 [])]),yN (.st 4 (yV 5) (yV 12))] (yR [yM 13 3,yD 14 4 5,yP 15 198 [yA 14],yX 16 .add (yV 13) (yV 15),yU 3 16]))) (yR [yX 17 .add (yV 9) (yK 1),yM 9 17])))
def Ez:Zd:=.loop Zeo
def Ey:Zd:=yQ [yU 18 3,yU 2 18] yr
def Ew:Zd:=yQ [yI 1 (.box 71 4 (yV 0)),yC 2 (yK 0)] (yQ [yC 3 (yK 1)] (.seq (yQ [yH 6 3 1,yL 7 6,yO 8 7,yC 9 (yK 0)] (.block 0 (Ez))) Ey))
def U8:AFn:=⟨19,[.tmp 2],Ew,false⟩
def JL:List Nat:=[]
def Zen:Zd:=yQ [yX 10 .lss (yV 9) (yV 8)] (.seq (yc 10 yw (.exit 0)) (.seq (.block 1 (yQ [yE 11 4 7 9,yD 12 4 11,yI 5 (.mk 71 [y0,ye,y0,(.own 4 [])]),yN (.st 4 (yV 5) (yV 12))] (yR [yM 13 3,yD 14 4 5,yP 15 199 [yA 14],yI 16 (.max [(yV 13),(yV 15)]),yU 3 16]))) (yR [yX 17 .add (yV 9) (yK 1),yM 9 17])))
def Eu:Zd:=.loop Zen
def Et:Zd:=yQ [yM 18 3,yX 19 .add (yV 18) (yK 1),yU 2 19] yr
def Es:Zd:=yQ [yI 1 (.box 71 4 (yV 0)),yC 2 (yK 0)] (yQ [yC 3 (yK 0)] (.seq (yQ [yH 6 3 1,yL 7 6,yO 8 7,yC 9 (yK 0)] (.block 0 (Eu))) Et))
def U7:AFn:=⟨20,[.tmp 2],Es,false⟩
def JK:List Nat:=[]
def PX:Zd:=yQ [yX 19 .lss (yV 18) (yV 17)] (.seq (yc 19 yw (.exit 0)) (.seq (.block 1 (yQ [yE 20 4 16 18,yD 21 4 20,yI 7 (.mk 71 [y0,ye,y0,(.own 4 [])]),yN (.st 4 (yV 7) (yV 21))] (yQ [yD 22 1 2,yD 23 4 7,yP 24 200 [yA 22,yA 23],yU 8 24] (yQ [yM 25 8,yX 26 .neq (yV 25) (yK 0)] (yc 26 (yQ [yU 27 8,yU 4 27] yr) yw))))) (yR [yX 28 .add (yV 18) (yK 1),yM 18 28])))
def TU:Zd:=.loop PX
def TT:Zd:=yQ [yC 4 (yK 0)] yr
def IY:Zd:=yQ [yI 2 (.box 216 1 (yV 0)),yI 3 (.box 71 4 (yV 1)),yC 4 (yK 0)] (.seq (yQ [yD 9 1 2,yD 10 4 3,yP 11 234 [yA 9,yA 10],yU 5 11] (yQ [yM 12 5,yX 13 .neq (yV 12) (yK 0)] (yc 13 (yQ [yU 14 5,yU 4 14] yr) yw))) (.seq (yQ [yH 15 3 3,yL 16 15,yO 17 16,yC 18 (yK 0)] (.block 0 (TU))) TT))
def Qo:AFn:=⟨29,[.tmp 4],IY,false⟩
def WL:List Nat:=[]
def Kq:Zd:=yQ [yX 9 .lss (yV 8) (yV 7)] (.seq (yc 9 yw (.exit 0)) (.seq (.block 1 (yQ [yM 10 8,yU 5 10] (yQ [yM 11 1,yM 12 0,yM 13 5,yE 14 4 12 13,yD 15 4 14,yI 16 (.call (yV 11) [yA 15])] (yc 16 (yQ [yU 17 5,yU 4 17] yr) yw)))) (yR [yX 18 .add (yV 8) (yK 1),yM 8 18])))
def XV:Zd:=.loop Kq
def XU:Zd:=yQ [yI 4 (.mv (.const (.int .i64 (-1))))] yr
def QB:Zd:=yQ [yC 4 (yK 0)] (.seq (yQ [yM 6 0,yO 7 6,yC 8 (yK 0)] (.block 0 (XV))) XU)
def Ya:AFn:=⟨19,[.tmp 4],QB,false⟩
def ZT:List Nat:=[]
def ZfV:Zd:=yQ [yC 4 yF] (yQ [yM 5 0,yL 6 1,yX 7 .lss (yV 5) (yV 6),yM 8 7,yJ 9 (.mv (yV 0)) 8 false,yJ 10 (.ldc (yV 2)) 8 false,yJ 11 (.bin .gtr .prim (yV 9) (yV 10)) 8 false,yI 12 (.pick (yV 8) yT (yV 11)),yU 4 12] yr)
def Ed:AFn:=⟨13,[.tmp 4],ZfV,false⟩
def Zhx:List Nat:=[9,10,11]
def Me:Zd:=yQ [yC 4 yF] (yQ [yM 5 0,yM 6 1,yP 7 235 [yA 5,yA 6],yX 8 .geq (yV 7) (yK 0),yU 4 8] yr)
def Ul:AFn:=⟨9,[.tmp 4],Me,false⟩
def MI:List Nat:=[]
def Zor:Zd:=yQ [yI 4 (.box 25 3 (yV 0)),yI 6 (.box 32 4 (yV 2)),yC 8 (yK 0)] (yQ [yH 10 1 4,yL 11 10,yM 12 1,yE 13 14 11 12,yH 14 0 13,yD 15 13 14,yI 9 (.mk 55 [ye,(.own 3 []),(.own 17 []),(.own 3 []),(.own 3 []),(.own 1 []),(.own 1 []),(.own 1 []),(.own 1 []),(.own 1 []),(.own 4 []),(.own 5 []),(.own 3 [])]),yN (.st 13 (yV 9) (yV 15))] (.seq (yQ [yM 16 3] (.block 0 (yQ [yX 18 .eql (yV 16) (yS [115,108,111,116]),yU 17 18] (yc 17 (yQ [yH 19 2 6,yL 20 19,yU 8 20] yr) (yQ [yX 22 .eql (yV 16) (yS [105,110,115,116,114]),yU 21 22] (yc 21 (yQ [yH 23 3 6,yL 24 23,yO 25 24,yU 8 25] yr) (yQ [yX 27 .eql (yV 16) (yS [115,105,116,101]),yU 26 27] (yc 26 (yQ [yH 28 1 4,yL 29 28,yO 30 29,yU 8 30] yr) (yQ [yX 32 .eql (yV 16) (yS [118,97,114]),yU 31 32] (yc 31 (yQ [yH 33 1 9,yL 34 33,yO 35 34,yU 8 35] yr) (yQ [yX 37 .eql (yV 16) (yS [114,101,115,111,117,114,99,101]),yU 36 37] (yc 36 (yQ [yH 38 2 9,yL 39 38,yO 40 39,yU 8 40] yr) (yQ [yX 42 .eql (yV 16) (yS [115,116,111,114,101]),yU 41 42] (yc 41 (yQ [yH 43 3 9,yL 44 43,yO 45 44,yU 8 45] yr) (yQ [yX 47 .eql (yV 16) (yS [98,101,108,116]),yU 46 47] (yc 46 (yQ [yH 48 4 9,yL 49 48,yO 50 49,yU 8 50] yr) (yQ [yX 52 .eql (yV 16) (yS [113,117,101,117,101]),yU 51 52] (yc 51 (yQ [yH 53 5 9,yL 54 53,yO 55 54,yU 8 55] yr) (yQ [yX 57 .eql (yV 16) (yS [115,116,114,101,97,109]),yU 56 57] (yc 56 (yQ [yH 58 6 9,yL 59 58,yO 60 59,yU 8 60] yr) (yQ [yX 62 .eql (yV 16) (yS [116,97,108,108,121]),yU 61 62] (yc 61 (yQ [yH 63 7 9,yL 64 63,yO 65 64,yU 8 65] yr) (yQ [yX 67 .eql (yV 16) (yS [108,101,118,101,108]),yU 66 67] (yc 66 (yQ [yH 68 8 9,yL 69 68,yO 70 69,yU 8 70] yr) yw)))))))))))))))))))))))) (yQ [yH 71 9 9,yL 72 71,yO 73 72,yU 8 73] yr)))
def Zf5:AFn:=⟨74,[.tmp 8],Zor,false⟩
def Zph:List Nat:=[]
def Zgq:Zd:=.seq (yQ [yM 5 4,yH 6 3 1,yL 7 6,yO 8 7,yX 9 .lss (yV 5) (yV 8)] (yc 9 yw (.exit 0))) (.seq (.block 1 (yR [yM 12 3,yH 13 3 1,yL 14 13,yM 15 4,yE 16 4 14 15,yD 17 4 16,yP 18 205 [yA 17],yX 19 .add (yV 12) (yV 18),yU 3 19])) (yR [yM 10 4,yX 11 .add (yV 10) (yK 1),yU 4 11]))
def FD:Zd:=.loop Zgq
def FC:Zd:=yQ [yU 20 3,yU 2 20] yr
def Zaw:Zd:=yQ [yI 1 (.box 71 4 (yV 0)),yC 2 (yK 0)] (yQ [yC 3 (yK 1)] (.seq (yQ [yC 4 (yK 0)] (.block 0 (FD))) FC))
def G7:AFn:=⟨21,[.tmp 2],Zaw,false⟩
def UR:List Nat:=[]
def Zgp:Zd:=.seq (yQ [yM 5 4,yH 6 3 1,yL 7 6,yO 8 7,yX 9 .lss (yV 5) (yV 8)] (yc 9 yw (.exit 0))) (.seq (.block 1 (yR [yM 12 3,yH 13 3 1,yL 14 13,yM 15 4,yE 16 4 14 15,yD 17 4 16,yP 18 206 [yA 17],yI 19 (.max [(yV 12),(yV 18)]),yU 3 19])) (yR [yM 10 4,yX 11 .add (yV 10) (yK 1),yU 4 11]))
def FB:Zd:=.loop Zgp
def F9:Zd:=yQ [yM 20 3,yX 21 .add (yV 20) (yK 1),yU 2 21] yr
def Zav:Zd:=yQ [yI 1 (.box 71 4 (yV 0)),yC 2 (yK 0)] (yQ [yC 3 (yK 0)] (.seq (yQ [yC 4 (yK 0)] (.block 0 (FB))) F9))
def G6:AFn:=⟨22,[.tmp 2],Zav,false⟩
def UQ:List Nat:=[]
def ZiI:Zd:=.seq (yQ [yM 150 10,yH 151 3 2,yL 152 151,yO 153 152,yX 154 .lss (yV 150) (yV 153)] (yc 154 yw (.exit 0))) (.seq (.block 1 (yQ [yH 157 3 2,yL 158 157,yM 159 10,yE 160 4 158 159,yD 161 4 160,yM 162 1,yP 163 207 [yA 161,yA 162],yU 11 163] (yQ [yM 164 11,yX 165 .neq (yV 164) (yK 0)] (yc 165 (yQ [yU 166 11,yU 4 166] yr) yw)))) (yR [yM 155 10,yX 156 .add (yV 155) (yK 1),yU 10 156]))
def Zb3:Zd:=.loop ZiI
def Zb2:Zd:=yQ [yC 4 (yK 0)] yr
def Zc9:Zd:=yQ [yI 2 (.box 71 4 (yV 0)),yC 4 (yK 0)] (yQ [yH 12 0 2,yL 13 12,yP 14 236 [yA 13],yU 5 14] (yQ [yM 15 5,yX 16 .geq (yV 15) (yK 0),yM 17 16,yJ 18 (.mv (yV 1)) 17 true,yJ 19 (.mv (yV 18)) 17 true,yJ 20 (.fa 0 (yV 2)) 19 true,yJ 21 (.ldc (yV 20)) 19 true,yJ 22 (.bin .neq .prim (yV 21) (yK 3)) 19 true,yJ 23 (.pick (yV 19) (yV 22) yF) 17 true,yJ 24 (.mv (yV 23)) 17 true,yJ 25 (.mv (yV 1)) 24 false,yJ 26 (.un .not (yV 25)) 24 false,yJ 27 (.mv (yV 26)) 24 false,yJ 28 (.fa 0 (yV 2)) 27 true,yJ 29 (.ldc (yV 28)) 27 true,yJ 30 (.bin .leq .prim (yV 29) (yK 24)) 27 true,yJ 31 (.pick (yV 27) (yV 30) yF) 24 false,yJ 32 (.pick (yV 24) yT (yV 31)) 17 true,yI 33 (.pick (yV 17) (yV 32) yF),yU 6 33] (yQ [yM 34 1,yI 35 (.un .not (yV 34)),yM 36 35,yJ 37 (.fa 0 (yV 2)) 36 true,yJ 38 (.ldc (yV 37)) 36 true,yJ 39 (.bin .eql .prim (yV 38) (yK 3)) 36 true,yJ 40 (.mv (yV 39)) 36 true,yJ 41 (.fa 0 (yV 2)) 40 false,yJ 42 (.ldc (yV 41)) 40 false,yJ 43 (.call (yG 237) [yA 42]) 40 false,yJ 44 (.pick (yV 40) yT (yV 43)) 36 true,yI 45 (.pick (yV 36) (yV 44) yF),yU 7 45] (yQ [yM 46 1,yM 47 46,yJ 48 (.fa 0 (yV 2)) 47 true,yJ 49 (.ldc (yV 48)) 47 true,yJ 50 (.call (yG 237) [yA 49]) 47 true,yJ 51 (.mv (yV 50)) 47 true,yJ 52 (.fa 0 (yV 2)) 51 false,yJ 53 (.ldc (yV 52)) 51 false,yJ 54 (.bin .eql .prim (yV 53) (yK 25)) 51 false,yJ 55 (.pick (yV 51) yT (yV 54)) 47 true,yJ 56 (.mv (yV 55)) 47 true,yJ 57 (.fa 0 (yV 2)) 56 false,yJ 58 (.ldc (yV 57)) 56 false,yJ 59 (.bin .eql .prim (yV 58) (yK 26)) 56 false,yJ 60 (.pick (yV 56) yT (yV 59)) 47 true,yI 61 (.pick (yV 47) (yV 60) yF),yU 8 61] (yQ [yH 62 0 2,yL 63 62,yX 64 .eql (yV 63) (yK 1),yM 65 64,yJ 66 (.fa 0 (yV 2)) 65 false,yJ 67 (.ldc (yV 66)) 65 false,yJ 68 (.bin .eql .prim (yV 67) (yK 2)) 65 false,yI 69 (.pick (yV 65) yT (yV 68)),yM 70 69,yJ 71 (.mv (yV 8)) 70 false,yI 72 (.pick (yV 70) yT (yV 71)),yU 9 72] (.seq (yQ [yM 73 6,yI 74 (.un .not (yV 73)),yM 75 74,yJ 76 (.mv (yV 7)) 75 false,yJ 77 (.un .not (yV 76)) 75 false,yJ 78 (.mv (yV 77)) 75 false,yJ 79 (.fa 1 (yV 2)) 78 true,yJ 80 (.ldc (yV 79)) 78 true,yJ 81 (.bin .neq .prim (yV 80) (yS [])) 78 true,yJ 82 (.pick (yV 78) (yV 81) yF) 75 false,yI 83 (.pick (yV 75) yT (yV 82)),yM 84 83,yJ 85 (.mv (yV 9)) 84 false,yJ 86 (.un .not (yV 85)) 84 false,yJ 87 (.mv (yV 86)) 84 false,yJ 88 (.fa 2 (yV 2)) 87 true,yJ 89 (.ldc (yV 88)) 87 true,yJ 90 (.bin .neq .prim (yV 89) (yK 0)) 87 true,yJ 91 (.pick (yV 87) (yV 90) yF) 84 false,yI 92 (.pick (yV 84) yT (yV 91)),yM 93 92,yJ 94 (.fa 3 (yV 2)) 93 false,yJ 95 (.ldc (yV 94)) 93 false,yJ 96 (.len .slice (yV 95)) 93 false,yJ 97 (.mv (yV 5)) 93 false,yJ 98 (.bin .neq .prim (yV 96) (yV 97)) 93 false,yI 99 (.pick (yV 93) yT (yV 98))] (yc 99 (yQ [yC 4 (yK 1)] yr) yw)) (.seq (.seq (.region true [yH 100 0 2,yL 101 100,yX 102 .eql (yV 101) (yK 1),yM 103 102,yJ 104 (.fa 2 (yV 2)) 103 true,yJ 105 (.ldc (yV 104)) 103 true,yJ 106 (.call (yG 191) [yA 105]) 103 true,yJ 107 (.un .not (yV 106)) 103 true,yI 108 (.pick (yV 103) (yV 107) yF),yM 109 108,yJ 110 (.fa 0 (yV 2)) 109 false,yJ 111 (.ldc (yV 110)) 109 false,yJ 112 (.bin .eql .prim (yV 111) (yK 2)) 109 false,yJ 113 (.mv (yV 112)) 109 false,yJ 114 (.fa 2 (yV 2)) 113 true,yJ 115 (.ldc (yV 114)) 113 true,yJ 116 (.bin .neq .prim (yV 115) (yK 0)) 113 true,yJ 117 (.pick (yV 113) (yV 116) yF) 109 false,yJ 118 (.mv (yV 117)) 109 false,yJ 119 (.fa 2 (yV 2)) 118 true,yJ 120 (.ldc (yV 119)) 118 true,yJ 121 (.bin .neq .prim (yV 120) (yK 1)) 118 true,yJ 122 (.pick (yV 118) (yV 121) yF) 109 false,yI 123 (.pick (yV 109) yT (yV 122)),yM 124 123,yJ 125 (.mv (yV 8)) 124 false,yJ 126 (.mv (yV 125)) 124 false,yJ 127 (.fa 2 (yV 2)) 126 true,yJ 128 (.ldc (yV 127)) 126 true,yJ 129 (.bin .lss .prim (yV 128) (yK 0)) 126 true,yJ 130 (.mv (yV 129)) 126 true,yJ 131 (.fa 2 (yV 2)) 130 false,yJ 132 (.ldc (yV 131)) 130 false,yJ 133 (.fa 0 (yV 2)) 130 false,yJ 134 (.ldc (yV 133)) 130 false,yJ 135 (.call (yG 238) [yA 134]) 130 false,yJ 136 (.bin .gtr .prim (yV 132) (yV 135)) 130 false,yJ 137 (.pick (yV 130) yT (yV 136)) 126 true,yJ 138 (.pick (yV 126) (yV 137) yF) 124 false,yI 139 (.pick (yV 124) yT (yV 138))]) (yc 139 (yQ [yC 4 (yK 2)] yr) yw)) (.seq (yQ [yM 140 7,yM 141 140,yJ 142 (.fa 1 (yV 2)) 141 true,yJ 143 (.ldc (yV 142)) 141 true,yJ 144 (.call (yG 31) [yA 143]) 141 true,yJ 145 (.bin .neq .prim (yV 144) (yK 0)) 141 true,yI 146 (.pick (yV 141) (yV 145) yF)] (yc 146 (yQ [yH 147 1 2,yL 148 147,yP 149 31 [yA 148],yU 4 149] yr) yw)) (.seq (yQ [yC 10 (yK 0)] (.block 0 (Zb3))) Zb2)))))))))
def Om:AFn:=⟨167,[.tmp 4],Zc9,false⟩
def Ia:List Nat:=[18,19,20,21,22,23,24,25,26,27,28,29,30,31,32,37,38,39,40,41,42,43,44,48,49,50,51,52,53,54,55,56,57,58,59,60,66,67,68,71,76,77,78,79,80,81,82,85,86,87,88,89,90,91,94,95,96,97,98,104,105,106,107,110,111,112,113,114,115,116,117,118,119,120,121,122,125,126,127,128,129,130,131,132,133,134,135,136,137,138,142,143,144,145]
def Wh:Zd:=yQ [yX 18 .lss (yV 17) (yV 16)] (.seq (yc 18 yw (.exit 0)) (.seq (.block 1 (yQ [yM 19 17,yE 20 17 15 17,yD 21 17 20,yI 8 (.mk 166 [ye,y0,(.own 2 []),y0,ye,y0,y0,y0,y0,(.own 1 []),(.own 1 []),y0,y0,y0,y0,(.own 1 []),(.own 1 [])]),yU 7 19,yN (.st 17 (yV 8) (yV 21))] (yQ [yM 22 1,yM 23 7,yE 24 17 22 23,yD 25 17 24,yI 9 (.mk 166 [ye,y0,(.own 2 []),y0,ye,y0,y0,y0,y0,(.own 1 []),(.own 1 []),y0,y0,y0,y0,(.own 1 []),(.own 1 [])]),yN (.st 17 (yV 9) (yV 25))] (yQ [yM 26 2,yD 27 17 8,yD 28 17 9,yI 29 (.call (yV 26) [yA 27,yA 28]),yI 30 (.un .not (yV 29))] (yc 30 (yQ [yC 6 yF] yr) yw))))) (yR [yX 31 .add (yV 17) (yK 1),yM 17 31])))
def Wq:Zd:=.loop Wh
def Wp:Zd:=yQ [yC 6 yT] yr
def W9:Zd:=yQ [yC 6 yF] (.seq (yQ [yM 10 0,yO 11 10,yM 12 1,yO 13 12,yX 14 .neq (yV 11) (yV 13)] (yc 14 (yQ [yC 6 yF] yr) yw)) (.seq (yQ [yM 15 0,yO 16 15,yC 17 (yK 0)] (.block 0 (Wq))) Wp))
def Wy:AFn:=⟨32,[.tmp 6],W9,false⟩
def A8:Zd:=yQ [yI 2 (.box 166 17 (yV 0)),yI 3 (.box 166 17 (yV 1)),yC 4 yF] (yQ [yH 5 0 2,yL 6 5,yH 7 0 3,yL 8 7,yX 9 .eql (yV 6) (yV 8),yM 10 9,yJ 11 (.fa 1 (yV 2)) 10 true,yJ 12 (.ldc (yV 11)) 10 true,yJ 13 (.fa 1 (yV 3)) 10 true,yJ 14 (.ldc (yV 13)) 10 true,yJ 15 (.bin .eql .prim (yV 12) (yV 14)) 10 true,yI 16 (.pick (yV 10) (yV 15) yF),yM 17 16,yJ 18 (.fa 3 (yV 2)) 17 true,yJ 19 (.ldc (yV 18)) 17 true,yJ 20 (.fa 3 (yV 3)) 17 true,yJ 21 (.ldc (yV 20)) 17 true,yJ 22 (.bin .eql .prim (yV 19) (yV 21)) 17 true,yI 23 (.pick (yV 17) (yV 22) yF),yM 24 23,yJ 25 (.fa 2 (yV 2)) 24 true,yJ 26 (.ldc (yV 25)) 24 true,yJ 27 (.fa 2 (yV 3)) 24 true,yJ 28 (.ldc (yV 27)) 24 true,yJ 29 (.call (yG 244) [yA 26,yA 28]) 24 true,yI 30 (.pick (yV 24) (yV 29) yF),yM 31 30,yJ 32 (.fa 4 (yV 2)) 31 true,yJ 33 (.fa 0 (yV 32)) 31 true,yJ 34 (.ldc (yV 33)) 31 true,yJ 35 (.fa 4 (yV 3)) 31 true,yJ 36 (.fa 0 (yV 35)) 31 true,yJ 37 (.ldc (yV 36)) 31 true,yJ 38 (.bin .eql .prim (yV 34) (yV 37)) 31 true,yI 39 (.pick (yV 31) (yV 38) yF),yM 40 39,yJ 41 (.fa 4 (yV 2)) 40 true,yJ 42 (.fa 1 (yV 41)) 40 true,yJ 43 (.lda 6 (yV 42)) 40 true,yJ 44 (.fa 4 (yV 3)) 40 true,yJ 45 (.fa 1 (yV 44)) 40 true,yJ 46 (.lda 6 (yV 45)) 40 true,yJ 47 (.call (yG 154) [yA 43,yA 46]) 40 true,yI 48 (.pick (yV 40) (yV 47) yF),yM 49 48,yJ 50 (.fa 4 (yV 2)) 49 true,yJ 51 (.fa 7 (yV 50)) 49 true,yJ 52 (.lda 6 (yV 51)) 49 true,yJ 53 (.fa 4 (yV 3)) 49 true,yJ 54 (.fa 7 (yV 53)) 49 true,yJ 55 (.lda 6 (yV 54)) 49 true,yJ 56 (.call (yG 154) [yA 52,yA 55]) 49 true,yI 57 (.pick (yV 49) (yV 56) yF),yU 4 57] yr)
def Ar:AFn:=⟨58,[.tmp 4],A8,false⟩
def JC:Zd:=yQ [yX 14 .lss (yV 13) (yV 12)] (.seq (yc 14 yw (.exit 0)) (.seq (.block 1 (yQ [yM 15 13,yU 5 15] (.seq (.region true [yM 16 0,yM 17 5,yE 18 3 16 17,yD 19 3 18,yM 20 1,yM 21 5,yE 22 3 20 21,yD 23 3 22,yI 24 (.bin .neq (.struct [.str,.int,.int]) (yV 19) (yV 23))]) (yc 24 (yQ [yC 4 yF] yr) yw)))) (yR [yX 25 .add (yV 13) (yK 1),yM 13 25])))
def JQ:Zd:=.loop JC
def JP:Zd:=yQ [yC 4 yT] yr
def U2:Zd:=yQ [yC 4 yF] (.seq (yQ [yM 6 0,yO 7 6,yM 8 1,yO 9 8,yX 10 .neq (yV 7) (yV 9)] (yc 10 (yQ [yC 4 yF] yr) yw)) (.seq (yQ [yM 11 0,yO 12 11,yC 13 (yK 0)] (.block 0 (JQ))) JP))
def U0:AFn:=⟨26,[.tmp 4],U2,false⟩
def Uh:Zd:=yQ [yX 14 .lss (yV 13) (yV 12)] (.seq (yc 14 yw (.exit 0)) (.seq (.block 1 (yQ [yM 15 13,yU 5 15] (.seq (.region true [yM 16 0,yM 17 5,yE 18 3 16 17,yD 19 3 18,yM 20 1,yM 21 5,yE 22 3 20 21,yD 23 3 22,yI 24 (.bin .neq (.struct [.str,.int,.int]) (yV 19) (yV 23))]) (yc 24 (yQ [yC 4 yF] yr) yw)))) (yR [yX 25 .add (yV 13) (yK 1),yM 13 25])))
def Ur:Zd:=.loop Uh
def Uo:Zd:=yQ [yC 4 yT] yr
def UZ:Zd:=yQ [yC 4 yF] (.seq (yQ [yM 6 0,yO 7 6,yM 8 1,yO 9 8,yX 10 .neq (yV 7) (yV 9)] (yc 10 (yQ [yC 4 yF] yr) yw)) (.seq (yQ [yM 11 0,yO 12 11,yC 13 (yK 0)] (.block 0 (Ur))) Uo))
def UY:AFn:=⟨26,[.tmp 4],UZ,false⟩
def O5:Zd:=yQ [yX 14 .lss (yV 13) (yV 12)] (.seq (yc 14 yw (.exit 0)) (.seq (.block 1 (yQ [yM 15 13,yU 5 15] (.seq (.region true [yM 16 0,yM 17 5,yE 18 1 16 17,yL 19 18,yM 20 1,yM 21 5,yE 22 1 20 21,yL 23 22,yX 24 .neq (yV 19) (yV 23)]) (yc 24 (yQ [yC 4 yF] yr) yw)))) (yR [yX 25 .add (yV 13) (yK 1),yM 13 25])))
def Td:Zd:=.loop O5
def Tc:Zd:=yQ [yC 4 yT] yr
def Ll:Zd:=yQ [yC 4 yF] (.seq (yQ [yM 6 0,yO 7 6,yM 8 1,yO 9 8,yX 10 .neq (yV 7) (yV 9)] (yc 10 (yQ [yC 4 yF] yr) yw)) (.seq (yQ [yM 11 0,yO 12 11,yC 13 (yK 0)] (.block 0 (Td))) Tc))
def MX:AFn:=⟨26,[.tmp 4],Ll,false⟩
def Q8:Zd:=yQ [yX 18 .lss (yV 17) (yV 16)] (.seq (yc 18 yw (.exit 0)) (.seq (.block 1 (yQ [yM 19 17,yE 20 4 15 17,yD 21 4 20,yI 8 (.mk 65 [ye,(.own 2 []),(.own 2 []),(.own 21 [])]),yU 7 19,yN (.st 4 (yV 8) (yV 21))] (yQ [yM 22 1,yM 23 7,yE 24 4 22 23,yD 25 4 24,yI 9 (.mk 65 [ye,(.own 2 []),(.own 2 []),(.own 21 [])]),yN (.st 4 (yV 9) (yV 25))] (yQ [yM 26 2,yD 27 4 8,yD 28 4 9,yI 29 (.call (yV 26) [yA 27,yA 28]),yI 30 (.un .not (yV 29))] (yc 30 (yQ [yC 6 yF] yr) yw))))) (yR [yX 31 .add (yV 17) (yK 1),yM 17 31])))
def QJ:Zd:=.loop Q8
def QI:Zd:=yQ [yC 6 yT] yr
def QS:Zd:=yQ [yC 6 yF] (.seq (yQ [yM 10 0,yO 11 10,yM 12 1,yO 13 12,yX 14 .neq (yV 11) (yV 13)] (yc 14 (yQ [yC 6 yF] yr) yw)) (.seq (yQ [yM 15 0,yO 16 15,yC 17 (yK 0)] (.block 0 (QJ))) QI))
def QR:AFn:=⟨32,[.tmp 6],QS,false⟩
def Zao:Zd:=yQ [yI 2 (.box 65 4 (yV 0)),yI 3 (.box 65 4 (yV 1)),yC 4 yF] (yQ [yH 5 0 2,yL 6 5,yH 7 0 3,yL 8 7,yX 9 .eql (yV 6) (yV 8),yM 10 9,yJ 11 (.fa 1 (yV 2)) 10 true,yJ 12 (.ldc (yV 11)) 10 true,yJ 13 (.fa 1 (yV 3)) 10 true,yJ 14 (.ldc (yV 13)) 10 true,yJ 15 (.call (yG 245) [yA 12,yA 14]) 10 true,yI 16 (.pick (yV 10) (yV 15) yF),yM 17 16,yJ 18 (.fa 2 (yV 2)) 17 true,yJ 19 (.ldc (yV 18)) 17 true,yJ 20 (.fa 2 (yV 3)) 17 true,yJ 21 (.ldc (yV 20)) 17 true,yJ 22 (.call (yG 245) [yA 19,yA 21]) 17 true,yI 23 (.pick (yV 17) (yV 22) yF),yM 24 23,yJ 25 (.fa 3 (yV 2)) 24 true,yJ 26 (.ldc (yV 25)) 24 true,yJ 27 (.fa 3 (yV 3)) 24 true,yJ 28 (.ldc (yV 27)) 24 true,yJ 29 (.call (yG 246) [yA 26,yA 28]) 24 true,yI 30 (.pick (yV 24) (yV 29) yF),yU 4 30] yr)
def Zab:AFn:=⟨31,[.tmp 4],Zao,false⟩
def Xr:Zd:=yQ [yX 18 .lss (yV 17) (yV 16)] (.seq (yc 18 yw (.exit 0)) (.seq (.block 1 (yQ [yM 19 17,yE 20 5 15 17,yD 21 5 20,yI 8 (.mk 175 [ye,(.own 1 []),y0,y0,y0]),yU 7 19,yN (.st 5 (yV 8) (yV 21))] (yQ [yM 22 1,yM 23 7,yE 24 5 22 23,yD 25 5 24,yI 9 (.mk 175 [ye,(.own 1 []),y0,y0,y0]),yN (.st 5 (yV 9) (yV 25))] (yQ [yM 26 2,yD 27 5 8,yD 28 5 9,yI 29 (.call (yV 26) [yA 27,yA 28]),yI 30 (.un .not (yV 29))] (yc 30 (yQ [yC 6 yF] yr) yw))))) (yR [yX 31 .add (yV 17) (yK 1),yM 17 31])))
def Xx:Zd:=.loop Xr
def Xw:Zd:=yQ [yC 6 yT] yr
def XI:Zd:=yQ [yC 6 yF] (.seq (yQ [yM 10 0,yO 11 10,yM 12 1,yO 13 12,yX 14 .neq (yV 11) (yV 13)] (yc 14 (yQ [yC 6 yF] yr) yw)) (.seq (yQ [yM 15 0,yO 16 15,yC 17 (yK 0)] (.block 0 (Xx))) Xw))
def XE:AFn:=⟨32,[.tmp 6],XI,false⟩
def Zc2:Zd:=yQ [yI 2 (.box 175 5 (yV 0)),yI 3 (.box 175 5 (yV 1)),yC 4 yF] (yQ [yH 5 0 2,yL 6 5,yH 7 0 3,yL 8 7,yX 9 .eql (yV 6) (yV 8),yM 10 9,yJ 11 (.fa 1 (yV 2)) 10 true,yJ 12 (.ldc (yV 11)) 10 true,yJ 13 (.fa 1 (yV 3)) 10 true,yJ 14 (.ldc (yV 13)) 10 true,yJ 15 (.call (yG 197) [yA 12,yA 14]) 10 true,yI 16 (.pick (yV 10) (yV 15) yF),yM 17 16,yJ 18 (.fa 2 (yV 2)) 17 true,yJ 19 (.ldc (yV 18)) 17 true,yJ 20 (.fa 2 (yV 3)) 17 true,yJ 21 (.ldc (yV 20)) 17 true,yJ 22 (.bin .eql .prim (yV 19) (yV 21)) 17 true,yI 23 (.pick (yV 17) (yV 22) yF),yM 24 23,yJ 25 (.fa 3 (yV 2)) 24 true,yJ 26 (.ldc (yV 25)) 24 true,yJ 27 (.fa 3 (yV 3)) 24 true,yJ 28 (.ldc (yV 27)) 24 true,yJ 29 (.bin .eql .prim (yV 26) (yV 28)) 24 true,yI 30 (.pick (yV 24) (yV 29) yF),yM 31 30,yJ 32 (.fa 4 (yV 2)) 31 true,yJ 33 (.ldc (yV 32)) 31 true,yJ 34 (.fa 4 (yV 3)) 31 true,yJ 35 (.ldc (yV 34)) 31 true,yJ 36 (.bin .eql .prim (yV 33) (yV 35)) 31 true,yI 37 (.pick (yV 31) (yV 36) yF),yU 4 37] yr)
def Zct:AFn:=⟨38,[.tmp 4],Zc2,false⟩
def Vr:Zd:=yQ [yX 18 .lss (yV 17) (yV 16)] (.seq (yc 18 yw (.exit 0)) (.seq (.block 1 (yQ [yM 19 17,yE 20 3 15 17,yD 21 3 20,yI 8 (.mk 179 [ye,(.own 3 []),y0]),yU 7 19,yN (.st 3 (yV 8) (yV 21))] (yQ [yM 22 1,yM 23 7,yE 24 3 22 23,yD 25 3 24,yI 9 (.mk 179 [ye,(.own 3 []),y0]),yN (.st 3 (yV 9) (yV 25))] (yQ [yM 26 2,yD 27 3 8,yD 28 3 9,yI 29 (.call (yV 26) [yA 27,yA 28]),yI 30 (.un .not (yV 29))] (yc 30 (yQ [yC 6 yF] yr) yw))))) (yR [yX 31 .add (yV 17) (yK 1),yM 17 31])))
def V3:Zd:=.loop Vr
def Vz:Zd:=yQ [yC 6 yT] yr
def VJ:Zd:=yQ [yC 6 yF] (.seq (yQ [yM 10 0,yO 11 10,yM 12 1,yO 13 12,yX 14 .neq (yV 11) (yV 13)] (yc 14 (yQ [yC 6 yF] yr) yw)) (.seq (yQ [yM 15 0,yO 16 15,yC 17 (yK 0)] (.block 0 (V3))) Vz))
def VI:AFn:=⟨32,[.tmp 6],VJ,false⟩
def Zgd:Zd:=yQ [yI 2 (.box 179 3 (yV 0)),yI 3 (.box 179 3 (yV 1)),yC 4 yF] (yQ [yH 5 0 2,yL 6 5,yH 7 0 3,yL 8 7,yX 9 .eql (yV 6) (yV 8),yM 10 9,yJ 11 (.fa 2 (yV 2)) 10 true,yJ 12 (.ldc (yV 11)) 10 true,yJ 13 (.fa 2 (yV 3)) 10 true,yJ 14 (.ldc (yV 13)) 10 true,yJ 15 (.bin .eql .prim (yV 12) (yV 14)) 10 true,yI 16 (.pick (yV 10) (yV 15) yF),yM 17 16,yJ 18 (.fa 1 (yV 2)) 17 true,yJ 19 (.ldc (yV 18)) 17 true,yJ 20 (.fa 1 (yV 3)) 17 true,yJ 21 (.ldc (yV 20)) 17 true,yJ 22 (.call (yG 247) [yA 19,yA 21]) 17 true,yI 23 (.pick (yV 17) (yV 22) yF),yU 4 23] yr)
def Zfw:AFn:=⟨24,[.tmp 4],Zgd,false⟩
def XG:Zd:=yQ [yX 18 .lss (yV 17) (yV 16)] (.seq (yc 18 yw (.exit 0)) (.seq (.block 1 (yQ [yM 19 17,yE 20 4 15 17,yD 21 4 20,yI 8 (.mk 71 [y0,ye,y0,(.own 4 [])]),yU 7 19,yN (.st 4 (yV 8) (yV 21))] (yQ [yM 22 1,yM 23 7,yE 24 4 22 23,yD 25 4 24,yI 9 (.mk 71 [y0,ye,y0,(.own 4 [])]),yN (.st 4 (yV 9) (yV 25))] (yQ [yM 26 2,yD 27 4 8,yD 28 4 9,yI 29 (.call (yV 26) [yA 27,yA 28]),yI 30 (.un .not (yV 29))] (yc 30 (yQ [yC 6 yF] yr) yw))))) (yR [yX 31 .add (yV 17) (yK 1),yM 17 31])))
def XQ:Zd:=.loop XG
def XP:Zd:=yQ [yC 6 yT] yr
def Vq:Zd:=yQ [yC 6 yF] (.seq (yQ [yM 10 0,yO 11 10,yM 12 1,yO 13 12,yX 14 .neq (yV 11) (yV 13)] (yc 14 (yQ [yC 6 yF] yr) yw)) (.seq (yQ [yM 15 0,yO 16 15,yC 17 (yK 0)] (.block 0 (XQ))) XP))
def Vm:AFn:=⟨32,[.tmp 6],Vq,false⟩
def Zun:Zd:=yQ [yC 2 yF] (yQ [yM 3 0,yX 4 .geq (yV 3) (.const (.int .i64 (-1000000000000))),yM 5 4,yJ 6 (.mv (yV 0)) 5 true,yJ 7 (.bin .leq .prim (yV 6) (yK 1000000000000)) 5 true,yI 8 (.pick (yV 5) (yV 7) yF),yU 2 8] yr)
def ZpP:AFn:=⟨9,[.tmp 2],Zun,false⟩
def Zvh:List Nat:=[6,7]
def Pm:Zd:=yQ [yX 17 .lss (yV 16) (yV 15)] (.seq (yc 17 yw (.exit 0)) (.seq (.block 1 (yQ [yE 18 1 14 16,yL 19 18,yU 8 19] (yQ [yM 20 2,yM 21 8,yI 22 (.call (yV 20) [yA 21]),yU 9 22] (yQ [yM 23 9,yX 24 .neq (yV 23) (yK 0)] (yc 24 (yQ [yU 25 9,yU 6 25] yr) yw))))) (yR [yX 26 .add (yV 16) (yK 1),yM 16 26])))
def Nh:Zd:=.loop Pm
def Nc:Zd:=yQ [yC 6 (yK 0)] yr
def A7:Zd:=yQ [yC 6 (yK 0)] (.seq (yQ [yM 10 0,yO 11 10,yM 12 1,yX 13 .gtr (yV 11) (yV 12)] (yc 13 (yQ [yC 6 (yK 6)] yr) yw)) (.seq (yQ [yM 14 0,yO 15 14,yC 16 (yK 0)] (.block 0 (Nh))) Nc))
def Aq:AFn:=⟨27,[.tmp 6],A7,false⟩
def Zev:Zd:=yQ [yI 3 (.box 166 17 (yV 0)),yC 4 (yK 0)] (.seq (yQ [yL 7 1,yH 8 0 3,yL 9 8,yP 10 62 [yA 7,yA 9],yU 5 10] (yQ [yM 11 5,yX 12 .neq (yV 11) (yK 0)] (yc 12 (yQ [yU 13 5,yU 4 13] yr) yw))) (.seq (yQ [yH 14 1 3,yL 15 14,yP 16 116 [yA 15,yB (yK 0),yB (yK 1000)],yI 17 (.un .not (yV 16))] (yc 17 (yQ [yC 4 (yK 2)] yr) yw)) (.seq (yQ [yD 18 17 3,yP 19 117 [yA 18],yU 6 19] (yQ [yM 20 6,yX 21 .neq (yV 20) (yK 0)] (yc 21 (yQ [yU 22 6,yU 4 22] yr) yw))) (yQ [yD 23 13 2,yH 24 4 3,yD 25 13 24,yP 26 118 [yA 23,yA 25],yU 4 26] yr))))
def Zeb:AFn:=⟨27,[.tmp 4],Zev,false⟩
def O0:Zd:=yQ [yX 17 .lss (yV 16) (yV 15)] (.seq (yc 17 yw (.exit 0)) (.seq (.block 1 (yQ [yE 18 17 14 16,yD 19 17 18,yI 8 (.mk 166 [ye,y0,(.own 2 []),y0,ye,y0,y0,y0,y0,(.own 1 []),(.own 1 []),y0,y0,y0,y0,(.own 1 []),(.own 1 [])]),yN (.st 17 (yV 8) (yV 19))] (yQ [yM 20 2,yD 21 17 8,yI 22 (.call (yV 20) [yA 21]),yU 9 22] (yQ [yM 23 9,yX 24 .neq (yV 23) (yK 0)] (yc 24 (yQ [yU 25 9,yU 6 25] yr) yw))))) (yR [yX 26 .add (yV 16) (yK 1),yM 16 26])))
def OY:Zd:=.loop O0
def OX:Zd:=yQ [yC 6 (yK 0)] yr
def Ld:Zd:=yQ [yC 6 (yK 0)] (.seq (yQ [yM 10 0,yO 11 10,yM 12 1,yX 13 .gtr (yV 11) (yV 12)] (yc 13 (yQ [yC 6 (yK 6)] yr) yw)) (.seq (yQ [yM 14 0,yO 15 14,yC 16 (yK 0)] (.block 0 (OY))) OX))
def MV:AFn:=⟨27,[.tmp 6],Ld,false⟩
def Zew:Zd:=yQ [yI 2 (.box 169 3 (yV 0)),yC 3 (yK 0)] (.seq (yQ [yL 5 1,yH 6 0 2,yL 7 6,yP 8 62 [yA 5,yA 7],yU 4 8] (yQ [yM 9 4,yX 10 .neq (yV 9) (yK 0)] (yc 10 (yQ [yU 11 4,yU 3 11] yr) yw))) (.seq (.block 0 (yQ [yH 13 1 2,yL 14 13,yP 15 116 [yA 14,yB (yK 1),yB (yK 1000)],yI 16 (.un .not (yV 15)),yU 12 16] (yc 12 (yQ [yC 3 (yK 2)] yr) (yQ [yH 18 2 2,yL 19 18,yX 20 .lss (yV 19) (yK 1),yM 21 20,yJ 22 (.fa 2 (yV 2)) 21 false,yJ 23 (.ldc (yV 22)) 21 false,yJ 24 (.bin .gtr .prim (yV 23) (yK 3)) 21 false,yI 25 (.pick (yV 21) yT (yV 24)),yU 17 25] (yc 17 (yQ [yC 3 (yK 1)] yr) yw))))) (yQ [yC 3 (yK 0)] yr)))
def Zec:AFn:=⟨26,[.tmp 3],Zew,false⟩
def Md:Zd:=yQ [yX 17 .lss (yV 16) (yV 15)] (.seq (yc 17 yw (.exit 0)) (.seq (.block 1 (yQ [yE 18 3 14 16,yD 19 3 18,yI 8 (.mk 169 [ye,y0,y0]),yN (.st 3 (yV 8) (yV 19))] (yQ [yM 20 2,yD 21 3 8,yI 22 (.call (yV 20) [yA 21]),yU 9 22] (yQ [yM 23 9,yX 24 .neq (yV 23) (yK 0)] (yc 24 (yQ [yU 25 9,yU 6 25] yr) yw))))) (yR [yX 26 .add (yV 16) (yK 1),yM 16 26])))
def Lj:Zd:=.loop Md
def Lh:Zd:=yQ [yC 6 (yK 0)] yr
def RX:Zd:=yQ [yC 6 (yK 0)] (.seq (yQ [yM 10 0,yO 11 10,yM 12 1,yX 13 .gtr (yV 11) (yV 12)] (yc 13 (yQ [yC 6 (yK 6)] yr) yw)) (.seq (yQ [yM 14 0,yO 15 14,yC 16 (yK 0)] (.block 0 (Lj))) Lh))
def RU:AFn:=⟨27,[.tmp 6],RX,false⟩
def Zex:Zd:=yQ [yI 2 (.box 171 3 (yV 0)),yC 3 (yK 0)] (.seq (yQ [yL 5 1,yH 6 0 2,yL 7 6,yP 8 62 [yA 5,yA 7],yU 4 8] (yQ [yM 9 4,yX 10 .neq (yV 9) (yK 0)] (yc 10 (yQ [yU 11 4,yU 3 11] yr) yw))) (.seq (yQ [yH 12 1 2,yL 13 12,yP 14 116 [yA 13,yB (yK 1),yB (yK 1000)],yI 15 (.un .not (yV 14)),yM 16 15,yJ 17 (.fa 2 (yV 2)) 16 false,yJ 18 (.ldc (yV 17)) 16 false,yJ 19 (.call (yG 116) [yA 18,yB (yK 1),yB (yK 1000)]) 16 false,yJ 20 (.un .not (yV 19)) 16 false,yI 21 (.pick (yV 16) yT (yV 20))] (yc 21 (yQ [yC 3 (yK 2)] yr) yw)) (yQ [yC 3 (yK 0)] yr)))
def Zed:AFn:=⟨22,[.tmp 3],Zex,false⟩
def Lc:Zd:=yQ [yX 17 .lss (yV 16) (yV 15)] (.seq (yc 17 yw (.exit 0)) (.seq (.block 1 (yQ [yE 18 3 14 16,yD 19 3 18,yI 8 (.mk 171 [ye,y0,y0]),yN (.st 3 (yV 8) (yV 19))] (yQ [yM 20 2,yD 21 3 8,yI 22 (.call (yV 20) [yA 21]),yU 9 22] (yQ [yM 23 9,yX 24 .neq (yV 23) (yK 0)] (yc 24 (yQ [yU 25 9,yU 6 25] yr) yw))))) (yR [yX 26 .add (yV 16) (yK 1),yM 16 26])))
def LP:Zd:=.loop Lc
def LM:Zd:=yQ [yC 6 (yK 0)] yr
def BB:Zd:=yQ [yC 6 (yK 0)] (.seq (yQ [yM 10 0,yO 11 10,yM 12 1,yX 13 .gtr (yV 11) (yV 12)] (yc 13 (yQ [yC 6 (yK 6)] yr) yw)) (.seq (yQ [yM 14 0,yO 15 14,yC 16 (yK 0)] (.block 0 (LP))) LM))
def Bz:AFn:=⟨27,[.tmp 6],BB,false⟩
def Zc3:Zd:=yQ [yI 2 (.box 65 4 (yV 0)),yC 3 (yK 0)] (.seq (yQ [yL 5 1,yH 6 0 2,yL 7 6,yP 8 62 [yA 5,yA 7],yU 4 8] (yQ [yM 9 4,yX 10 .neq (yV 9) (yK 0)] (yc 10 (yQ [yU 11 4,yU 3 11] yr) yw))) (yQ [yD 12 4 2,yP 13 133 [yA 12],yU 3 13] yr))
def Zcu:AFn:=⟨14,[.tmp 3],Zc3,false⟩
def LQ:Zd:=yQ [yX 17 .lss (yV 16) (yV 15)] (.seq (yc 17 yw (.exit 0)) (.seq (.block 1 (yQ [yE 18 4 14 16,yD 19 4 18,yI 8 (.mk 65 [ye,(.own 2 []),(.own 2 []),(.own 21 [])]),yN (.st 4 (yV 8) (yV 19))] (yQ [yM 20 2,yD 21 4 8,yI 22 (.call (yV 20) [yA 21]),yU 9 22] (yQ [yM 23 9,yX 24 .neq (yV 23) (yK 0)] (yc 24 (yQ [yU 25 9,yU 6 25] yr) yw))))) (yR [yX 26 .add (yV 16) (yK 1),yM 16 26])))
def Rl:Zd:=.loop LQ
def Rk:Zd:=yQ [yC 6 (yK 0)] yr
def DC:Zd:=yQ [yC 6 (yK 0)] (.seq (yQ [yM 10 0,yO 11 10,yM 12 1,yX 13 .gtr (yV 11) (yV 12)] (yc 13 (yQ [yC 6 (yK 6)] yr) yw)) (.seq (yQ [yM 14 0,yO 15 14,yC 16 (yK 0)] (.block 0 (Rl))) Rk))
def Dy:AFn:=⟨27,[.tmp 6],DC,false⟩
def Zc4:Zd:=yQ [yI 2 (.box 175 5 (yV 0)),yC 3 (yK 0)] (yQ [yD 4 13 1,yD 5 5 2,yP 6 137 [yA 4,yA 5],yU 3 6] yr)
def Zcv:AFn:=⟨7,[.tmp 3],Zc4,false⟩
def RV:Zd:=yQ [yX 17 .lss (yV 16) (yV 15)] (.seq (yc 17 yw (.exit 0)) (.seq (.block 1 (yQ [yE 18 5 14 16,yD 19 5 18,yI 8 (.mk 175 [ye,(.own 1 []),y0,y0,y0]),yN (.st 5 (yV 8) (yV 19))] (yQ [yM 20 2,yD 21 5 8,yI 22 (.call (yV 20) [yA 21]),yU 9 22] (yQ [yM 23 9,yX 24 .neq (yV 23) (yK 0)] (yc 24 (yQ [yU 25 9,yU 6 25] yr) yw))))) (yR [yX 26 .add (yV 16) (yK 1),yM 16 26])))
def BG:Zd:=.loop RV
def BF:Zd:=yQ [yC 6 (yK 0)] yr
def Na:Zd:=yQ [yC 6 (yK 0)] (.seq (yQ [yM 10 0,yO 11 10,yM 12 1,yX 13 .gtr (yV 11) (yV 12)] (yc 13 (yQ [yC 6 (yK 6)] yr) yw)) (.seq (yQ [yM 14 0,yO 15 14,yC 16 (yK 0)] (.block 0 (BG))) BF))
def PT:AFn:=⟨27,[.tmp 6],Na,false⟩
def Zmt:Zd:=yQ [yI 1 (.box 55 13 (yV 0)),yC 2 (yK 0)] (yQ [yI 4 (.mkmap),yI 3 (.mk 129 [.nilm]),yN (.stt (yV 3) 4)] (yQ [yH 5 12 1,yL 6 5,yI 7 (.mkfn 184 [] [(yV 3),(yV 1)]),yP 8 183 [yA 6,yB (yK 32),yA 7],yU 2 8] yr))
def ZlQ:AFn:=⟨9,[.tmp 2],Zmt,false⟩
def Zi2:Zd:=yQ [yI 2 (.box 55 13 (yV 0)),yC 3 yF] (yQ [yH 4 0 2,yL 5 4,yL 6 1,yX 7 .eql (yV 5) (yV 6),yU 3 7] yr)
def ZhY:AFn:=⟨8,[.tmp 3],Zi2,false⟩
def Ju:Zd:=yQ [yX 9 .lss (yV 8) (yV 7)] (.seq (yc 9 yw (.exit 0)) (.seq (.block 1 (yQ [yM 10 8,yU 5 10] (yQ [yM 11 1,yM 12 0,yM 13 5,yE 14 13 12 13,yD 15 13 14,yI 16 (.call (yV 11) [yA 15])] (yc 16 (yQ [yU 17 5,yU 4 17] yr) yw)))) (yR [yX 18 .add (yV 8) (yK 1),yM 8 18])))
def Jy:Zd:=.loop Ju
def Jw:Zd:=yQ [yI 4 (.mv (.const (.int .i64 (-1))))] yr
def Ui:Zd:=yQ [yC 4 (yK 0)] (.seq (yQ [yM 6 0,yO 7 6,yC 8 (yK 0)] (.block 0 (Jy))) Jw)
def Uf:AFn:=⟨19,[.tmp 4],Ui,false⟩
def Zbt:Zd:=yQ [yI 2 (.box 216 1 (yV 0)),yI 3 (.box 71 4 (yV 1)),yC 4 (yK 0)] (.seq (.seq (.region true [yD 8 1 2,yH 9 0 3,yL 10 9,yP 11 254 [yA 8,yA 10],yI 12 (.un .not (yV 11)),yM 13 12,yJ 14 (.fa 3 (yV 3)) 13 false,yJ 15 (.ldc (yV 14)) 13 false,yJ 16 (.len .slice (yV 15)) 13 false,yJ 17 (.fa 0 (yV 3)) 13 false,yJ 18 (.ldc (yV 17)) 13 false,yJ 19 (.call (yG 255) [yA 18]) 13 false,yJ 20 (.bin .neq .prim (yV 16) (yV 19)) 13 false,yI 21 (.pick (yV 13) yT (yV 20)),yM 22 21,yJ 23 (.fa 1 (yV 3)) 22 false,yJ 24 (.ldc (yV 23)) 22 false,yJ 25 (.bin .neq .prim (yV 24) (yS [])) 22 false,yJ 26 (.mv (yV 25)) 22 false,yJ 27 (.lda 1 (yV 2)) 26 true,yJ 28 (.fa 0 (yV 3)) 26 true,yJ 29 (.ldc (yV 28)) 26 true,yJ 30 (.call (yG 256) [yA 27,yA 29]) 26 true,yJ 31 (.un .not (yV 30)) 26 true,yJ 32 (.pick (yV 26) (yV 31) yF) 22 false,yI 33 (.pick (yV 22) yT (yV 32))]) (yc 33 (yQ [yC 4 (yK 1)] yr) yw)) (.seq (yQ [yH 34 0 3,yL 35 34,yX 36 .eql (yV 35) (yK 1)] (yc 36 (.seq (yQ [yH 37 2 3,yL 38 37,yP 39 188 [yA 38],yI 40 (.un .not (yV 39))] (yc 40 (yQ [yC 4 (yK 2)] yr) yw)) (yQ [yC 4 (yK 0)] yr)) yw)) (yQ [yD 42 1 2,yH 43 0 3,yL 44 43,yP 45 257 [yA 42,yA 44],yM 41 45,yI 46 (.extract (yV 41) 0),yI 47 (.extract (yV 41) 1),yI 48 (.extract (yV 41) 2),yU 5 46,yU 6 47,yU 7 48] (.seq (.block 0 (yQ [yM 50 7,yI 51 (.un .not (yV 50)),yM 52 51,yJ 53 (.fa 2 (yV 3)) 52 true,yJ 54 (.ldc (yV 53)) 52 true,yJ 55 (.bin .neq .prim (yV 54) (yK 0)) 52 true,yI 56 (.pick (yV 52) (yV 55) yF),yU 49 56] (yc 49 (yQ [yC 4 (yK 1)] yr) (yQ [yM 58 7,yM 59 58,yJ 60 (.fa 2 (yV 3)) 59 true,yJ 61 (.ldc (yV 60)) 59 true,yJ 62 (.mv (yV 5)) 59 true,yJ 63 (.bin .lss .prim (yV 61) (yV 62)) 59 true,yJ 64 (.mv (yV 63)) 59 true,yJ 65 (.fa 2 (yV 3)) 64 false,yJ 66 (.ldc (yV 65)) 64 false,yJ 67 (.mv (yV 6)) 64 false,yJ 68 (.bin .gtr .prim (yV 66) (yV 67)) 64 false,yJ 69 (.pick (yV 64) yT (yV 68)) 59 true,yI 70 (.pick (yV 59) (yV 69) yF),yU 57 70] (yc 57 (yQ [yC 4 (yK 2)] yr) (yQ [yD 72 1 2,yH 73 0 3,yL 74 73,yP 75 256 [yA 72,yA 74],yU 71 75] (yc 71 (yQ [yH 76 1 3,yL 77 76,yP 78 27 [yA 77],yU 4 78] yr) yw))))))) (yQ [yC 4 (yK 0)] yr)))))
def Dh:AFn:=⟨79,[.tmp 4],Zbt,false⟩
def Zce:List Nat:=[14,15,16,17,18,19,20,23,24,25,26,27,28,29,30,31,32,53,54,55,60,61,62,63,64,65,66,67,68,69]
def TN:Zd:=yQ [yX 9 .lss (yV 8) (yV 7)] (.seq (yc 9 yw (.exit 0)) (.seq (.block 1 (yQ [yM 10 8,yU 5 10] (yQ [yM 11 1,yM 12 0,yM 13 5,yE 14 1 12 13,yL 15 14,yI 16 (.call (yV 11) [yA 15])] (yc 16 (yQ [yU 17 5,yU 4 17] yr) yw)))) (yR [yX 18 .add (yV 8) (yK 1),yM 8 18])))
def Uu:Zd:=.loop TN
def Ut:Zd:=yQ [yI 4 (.mv (.const (.int .i64 (-1))))] yr
def VK:Zd:=yQ [yC 4 (yK 0)] (.seq (yQ [yM 6 0,yO 7 6,yC 8 (yK 0)] (.block 0 (Uu))) Ut)
def YB:AFn:=⟨19,[.tmp 4],VK,false⟩
def Y0:List Nat:=[]
def Zon:Zd:=yQ [yC 2 (yK 0)] (.seq (.block 0 (yQ [yM 4 0,yX 5 .lss (yV 4) (yK 1),yM 6 5,yJ 7 (.mv (yV 0)) 6 false,yJ 8 (.bin .gtr .prim (yV 7) (yK 26)) 6 false,yI 9 (.pick (yV 6) yT (yV 8)),yU 3 9] (yc 3 (yQ [yI 2 (.mv (.const (.int .i64 (-1))))] yr) (yQ [yM 11 0,yX 12 .geq (yV 11) (yK 5),yM 13 12,yJ 14 (.mv (yV 0)) 13 true,yJ 15 (.bin .leq .prim (yV 14) (yK 8)) 13 true,yI 16 (.pick (yV 13) (yV 15) yF),yU 10 16] (yc 10 (yQ [yC 2 (yK 1)] yr) (yQ [yM 18 0,yX 19 .geq (yV 18) (yK 9),yM 20 19,yJ 21 (.mv (yV 0)) 20 true,yJ 22 (.bin .leq .prim (yV 21) (yK 21)) 20 true,yI 23 (.pick (yV 20) (yV 22) yF),yU 17 23] (yc 17 (yQ [yC 2 (yK 2)] yr) yw))))))) (yQ [yC 2 (yK 0)] yr))
def Zf2:AFn:=⟨24,[.tmp 2],Zon,false⟩
def Zpd:List Nat:=[7,8,14,15,21,22]
def Zmx:Zd:=yQ [yC 2 yF] (yQ [yM 3 0,yX 4 .geq (yV 3) (yK 22),yM 5 4,yJ 6 (.mv (yV 0)) 5 true,yJ 7 (.bin .leq .prim (yV 6) (yK 24)) 5 true,yI 8 (.pick (yV 5) (yV 7) yF),yU 2 8] yr)
def Zd3:AFn:=⟨9,[.tmp 2],Zmx,false⟩
def Zni:List Nat:=[6,7]
def ZqQ:Zd:=yQ [yC 2 (yK 0)] (.seq (yQ [yM 3 0] (.block 0 (yQ [yX 5 .eql (yV 3) (yK 25),yU 4 5] (yc 4 (yQ [yC 2 (yK 15)] yr) (yQ [yX 7 .eql (yV 3) (yK 26),yU 6 7] (yc 6 (yQ [yC 2 (yK 31)] yr) yw)))))) (yQ [yC 2 (yK 63)] yr))
def Zj1:AFn:=⟨8,[.tmp 2],ZqQ,false⟩
def Zrx:List Nat:=[]
def Ko:Zd:=yQ [yX 14 .lss (yV 13) (yV 12)] (.seq (yc 14 yw (.exit 0)) (.seq (.block 1 (yQ [yM 15 13,yU 5 15] (.seq (.region true [yM 16 0,yM 17 5,yE 18 2 16 17,yD 19 2 18,yM 20 1,yM 21 5,yE 22 2 20 21,yD 23 2 22,yI 24 (.bin .neq (.struct [.int,.int]) (yV 19) (yV 23))]) (yc 24 (yQ [yC 4 yF] yr) yw)))) (yR [yX 25 .add (yV 13) (yK 1),yM 13 25])))
def KO:Zd:=.loop Ko
def KN:Zd:=yQ [yC 4 yT] yr
def H5:Zd:=yQ [yC 4 yF] (.seq (yQ [yM 6 0,yO 7 6,yM 8 1,yO 9 8,yX 10 .neq (yV 7) (yV 9)] (yc 10 (yQ [yC 4 yF] yr) yw)) (.seq (yQ [yM 11 0,yO 12 11,yC 13 (yK 0)] (.block 0 (KO))) KN))
def Hy:AFn:=⟨26,[.tmp 4],H5,false⟩
def Gm:Zd:=yQ [yX 14 .lss (yV 13) (yV 12)] (.seq (yc 14 yw (.exit 0)) (.seq (.block 1 (yQ [yM 15 13,yU 5 15] (.seq (.region true [yM 16 0,yM 17 5,yE 18 2 16 17,yD 19 2 18,yM 20 1,yM 21 5,yE 22 2 20 21,yD 23 2 22,yI 24 (.bin .neq (.struct [.str,.int]) (yV 19) (yV 23))]) (yc 24 (yQ [yC 4 yF] yr) yw)))) (yR [yX 25 .add (yV 13) (yK 1),yM 13 25])))
def GL:Zd:=.loop Gm
def GK:Zd:=yQ [yC 4 yT] yr
def I7:Zd:=yQ [yC 4 yF] (.seq (yQ [yM 6 0,yO 7 6,yM 8 1,yO 9 8,yX 10 .neq (yV 7) (yV 9)] (yc 10 (yQ [yC 4 yF] yr) yw)) (.seq (yQ [yM 11 0,yO 12 11,yC 13 (yK 0)] (.block 0 (GL))) GK))
def Iz:AFn:=⟨26,[.tmp 4],I7,false⟩
def Zot:Zd:=yQ [yC 4 yF] (yQ [yM 5 0,yM 6 1,yP 7 263 [yA 5,yA 6,(.inr (yG 264))],yU 4 7] yr)
def ZnW:AFn:=⟨8,[.tmp 4],Zot,false⟩
def H7:Zd:=yQ [yX 14 .lss (yV 13) (yV 12)] (.seq (yc 14 yw (.exit 0)) (.seq (.block 1 (yQ [yM 15 13,yU 5 15] (.seq (.region true [yM 16 0,yM 17 5,yE 18 3 16 17,yD 19 3 18,yM 20 1,yM 21 5,yE 22 3 20 21,yD 23 3 22,yI 24 (.bin .neq (.struct [.int,.str,.str]) (yV 19) (yV 23))]) (yc 24 (yQ [yC 4 yF] yr) yw)))) (yR [yX 25 .add (yV 13) (yK 1),yM 13 25])))
def Ir:Zd:=.loop H7
def Iq:Zd:=yQ [yC 4 yT] yr
def O4:Zd:=yQ [yC 4 yF] (.seq (yQ [yM 6 0,yO 7 6,yM 8 1,yO 9 8,yX 10 .neq (yV 7) (yV 9)] (yc 10 (yQ [yC 4 yF] yr) yw)) (.seq (yQ [yM 11 0,yO 12 11,yC 13 (yK 0)] (.block 0 (Ir))) Iq))
def Oz:AFn:=⟨26,[.tmp 4],O4,false⟩
def Zap:Zd:=yc 30 (yQ [yC 2 (yK 2)] yr) (.seq (.region true [yM 43 3,yX 44 .gtr (yV 43) (yK 0),yM 45 44,yJ 46 (.fa 0 (yV 4)) 45 true,yJ 47 (.ldc (yV 46)) 45 true,yJ 48 (.fa 2 (yV 1)) 45 true,yJ 49 (.ldc (yV 48)) 45 true,yJ 50 (.mv (yV 3)) 45 true,yJ 51 (.bin .sub .prim (yV 50) (yK 1)) 45 true,yJ 52 (.ia (.slice 2) (yV 49) (yV 51)) 45 true,yJ 53 (.fa 0 (yV 52)) 45 true,yJ 54 (.ldc (yV 53)) 45 true,yJ 55 (.bin .leq .prim (yV 47) (yV 54)) 45 true,yI 56 (.pick (yV 45) (yV 55) yF),yM 42 56]) (yc 42 (yQ [yC 2 (yK 12)] yr) yw))
def Zaq:Zd:=yR [yX 57 .add (yV 25) (yK 1),yM 25 57]
def AA:Zd:=yQ [yX 26 .lss (yV 25) (yV 24)] (.seq (yc 26 yw (.exit 1)) (.seq (.block 2 (yQ [yM 27 25,yE 28 2 23 25,yD 29 2 28,yI 4 (.mk 231 [y0,y0]),yU 3 27,yN (.st 2 (yV 4) (yV 29))] (.block 3 (.seq (yQ [yH 31 0 4,yL 32 31,yH 33 3 1,yL 34 33,yX 35 .sub (yV 34) (yK 1),yP 36 116 [yA 32,yB (yK 0),yA 35],yI 37 (.un .not (yV 36)),yU 30 37] (yc 30 yw (yR [yH 38 1 4,yL 39 38,yP 40 116 [yA 39,yB (yK 0),yB (yK 1000)],yI 41 (.un .not (yV 40)),yU 30 41]))) Zap)))) Zaq))
def Zas:Zd:=.loop AA
def Zar:Zd:=yQ [yC 2 (yK 0)] yr
def Zeu:Zd:=yQ [yI 1 (.box 166 17 (yV 0)),yC 2 (yK 0)] (.seq (yQ [yH 5 2 1,yL 6 5,yO 7 6,yX 8 .eql (yV 7) (yK 0)] (yc 8 (.seq (yQ [yH 9 3 1,yL 10 9,yX 11 .neq (yV 10) (yK 0)] (yc 11 (yQ [yC 2 (yK 1)] yr) yw)) (yQ [yC 2 (yK 0)] yr)) yw)) (.seq (.block 0 (yQ [yH 13 2 1,yL 14 13,yO 15 14,yX 16 .gtr (yV 15) (yK 20),yU 12 16] (yc 12 (yQ [yC 2 (yK 6)] yr) (yQ [yH 18 3 1,yL 19 18,yP 20 116 [yA 19,yB (yK 1),yB (yK 1000000000)],yI 21 (.un .not (yV 20)),yU 17 21] (yc 17 (yQ [yC 2 (yK 2)] yr) yw))))) (.seq (yQ [yH 22 2 1,yL 23 22,yO 24 23,yC 25 (yK 0)] (.block 1 (Zas))) Zar)))
def Zea:AFn:=⟨58,[.tmp 2],Zeu,false⟩
def Zep:Zd:=yQ [yI 2 (.box 55 13 (yV 0)),yI 3 (.box 164 13 (yV 1)),yC 4 (yK 0)] (.seq (.block 0 (yQ [yH 7 0 3,yL 8 7,yX 9 .eql (yV 8) (yS []),yM 10 9,yJ 11 (.fa 1 (yV 3)) 10 true,yJ 12 (.lda 6 (yV 11)) 10 true,yJ 13 (.build [y0,y0,y0,y0,(.own 1 []),(.own 1 [])] []) 10 true,yJ 14 (.call (yG 154) [yA 12,yA 13]) 10 true,yJ 15 (.un .not (yV 14)) 10 true,yJ 16 (.mv (yV 15)) 10 true,yJ 17 (.fa 7 (yV 3)) 16 false,yJ 18 (.lda 6 (yV 17)) 16 false,yJ 19 (.build [y0,y0,y0,y0,(.own 1 []),(.own 1 [])] []) 16 false,yJ 20 (.call (yG 154) [yA 18,yA 19]) 16 false,yJ 21 (.un .not (yV 20)) 16 false,yJ 22 (.pick (yV 16) yT (yV 21)) 10 true,yI 23 (.pick (yV 10) (yV 22) yF),yU 6 23] (yc 6 (yQ [yC 4 (yK 1)] yr) (yQ [yH 25 0 3,yL 26 25,yX 27 .eql (yV 26) (yS []),yU 24 27] (yc 24 (yQ [yC 4 (yK 0)] yr) (yQ [yH 29 6 2,yL 30 29,yH 31 0 3,yL 32 31,yP 33 179 [yA 30,yA 32],yI 34 (.un .not (yV 33)),yU 28 34] (yc 28 (yQ [yC 4 (yK 5)] yr) yw))))))) (.seq (yQ [yH 35 1 3,yD 36 6 35,yP 37 79 [yA 36],yU 5 37] (yQ [yM 38 5,yX 39 .neq (yV 38) (yK 0)] (yc 39 (yQ [yU 40 5,yU 4 40] yr) yw))) (yQ [yH 41 7 3,yD 42 6 41,yP 43 79 [yA 42],yU 4 43] yr)))
def ZdX:AFn:=⟨44,[.tmp 4],Zep,false⟩
def Zan:Zd:=yQ [yX 30 .lss (yV 29) (yV 28)] (.seq (yc 30 yw (.exit 0)) (.seq (.block 1 (yQ [yE 31 2 27 29,yD 32 2 31,yI 5 (.mk 126 [ye,y0]),yN (.st 2 (yV 5) (yV 32))] (.seq (yQ [yM 33 3,yH 34 0 5,yL 35 34,yP 36 62 [yA 33,yA 35],yU 6 36] (yQ [yM 37 6,yX 38 .neq (yV 37) (yK 0)] (yc 38 (yQ [yU 39 6,yU 2 39] yr) yw))) (yQ [yH 40 1 5,yL 41 40,yP 42 177 [yA 41],yI 43 (.un .not (yV 42))] (yc 43 (yQ [yC 2 (yK 1)] yr) yw))))) (yR [yX 44 .add (yV 29) (yK 1),yM 29 44])))
def Zby:Zd:=.loop Zan
def Zbx:Zd:=yQ [yH 45 3 1,yL 46 45,yP 47 181 [yA 46],yU 2 47] yr
def Zgc:Zd:=yQ [yI 1 (.box 65 4 (yV 0)),yC 2 (yK 0)] (.seq (yQ [yH 7 1 1,yL 8 7,yO 9 8,yX 10 .gtr (yV 9) (yK 6),yM 11 10,yJ 12 (.fa 1 (yV 1)) 11 false,yJ 13 (.ldc (yV 12)) 11 false,yJ 14 (.len .slice (yV 13)) 11 false,yJ 15 (.fa 2 (yV 1)) 11 false,yJ 16 (.ldc (yV 15)) 11 false,yJ 17 (.len .slice (yV 16)) 11 false,yJ 18 (.bin .add .prim (yV 14) (yV 17)) 11 false,yJ 19 (.bin .gtr .prim (yV 18) (yK 16)) 11 false,yI 20 (.pick (yV 11) yT (yV 19))] (yc 20 (yQ [yC 2 (yK 6)] yr) yw)) (yQ [yI 21 (.mkmap),yU 3 21] (.seq (yQ [yH 22 1 1,yL 23 22,yH 24 2 1,yL 25 24,yI 26 (.lit 62 1 [(yV 23),(yV 25)]),yP 27 180 [yA 26],yO 28 27,yC 29 (yK 0)] (.block 0 (Zby))) Zbx)))
def Zfv:AFn:=⟨48,[.tmp 2],Zgc,false⟩
def Zc5:Zd:=yQ [yX 31 .lss (yV 30) (yV 29)] (.seq (yc 31 yw (.exit 0)) (.seq (.block 1 (yQ [yM 32 30,yE 33 1 28 30,yL 34 33,yU 7 32,yU 8 34] (yQ [yM 35 6,yM 36 7,yE 37 2 35 36,yH 38 1 37,yL 39 38,yM 40 8,yP 41 178 [yA 39,yA 40],yI 42 (.un .not (yV 41))] (yc 42 (yQ [yC 4 (yK 2)] yr) yw)))) (yR [yX 43 .add (yV 30) (yK 1),yM 30 43])))
def Zez:Zd:=.loop Zc5
def Zey:Zd:=.seq (yQ [yH 44 2 3,yL 45 44,yP 46 116 [yA 45,yB (yK 0),yB (yK 1000000000)],yI 47 (.un .not (yV 46)),yM 48 47,yJ 49 (.fa 3 (yV 3)) 48 false,yJ 50 (.ldc (yV 49)) 48 false,yJ 51 (.call (yG 116) [yA 50,yB (yK 0),yB (yK 1000000000)]) 48 false,yJ 52 (.un .not (yV 51)) 48 false,yI 53 (.pick (yV 48) yT (yV 52)),yM 54 53,yJ 55 (.fa 4 (yV 3)) 54 false,yJ 56 (.ldc (yV 55)) 54 false,yJ 57 (.call (yG 116) [yA 56,yB (yK 0),yB (yK 1000000000)]) 54 false,yJ 58 (.un .not (yV 57)) 54 false,yI 59 (.pick (yV 54) yT (yV 58)),yM 60 59,yJ 61 (.fa 3 (yV 3)) 60 false,yJ 62 (.ldc (yV 61)) 60 false,yJ 63 (.bin .eql .prim (yV 62) (yK 0)) 60 false,yJ 64 (.mv (yV 63)) 60 false,yJ 65 (.fa 4 (yV 3)) 64 true,yJ 66 (.ldc (yV 65)) 64 true,yJ 67 (.bin .neq .prim (yV 66) (yK 0)) 64 true,yJ 68 (.pick (yV 64) (yV 67) yF) 60 false,yI 69 (.pick (yV 60) yT (yV 68))] (yc 69 (yQ [yC 4 (yK 2)] yr) yw)) (yQ [yC 4 (yK 0)] yr)
def Zk6:Zd:=yQ [yI 2 (.box 55 13 (yV 0)),yI 3 (.box 175 5 (yV 1)),yC 4 (yK 0)] (yQ [yD 9 13 2,yH 10 0 3,yL 11 10,yP 12 182 [yA 9,yA 11],yU 5 12] (.seq (yQ [yM 13 5,yX 14 .lss (yV 13) (yK 0)] (yc 14 (yQ [yC 4 (yK 5)] yr) yw)) (yQ [yH 15 10 2,yL 16 15,yM 17 5,yE 18 4 16 17,yH 19 1 18,yL 20 19,yU 6 20] (.seq (yQ [yH 21 1 3,yL 22 21,yO 23 22,yM 24 6,yO 25 24,yX 26 .neq (yV 23) (yV 25)] (yc 26 (yQ [yC 4 (yK 8)] yr) yw)) (.seq (yQ [yH 27 1 3,yL 28 27,yO 29 28,yC 30 (yK 0)] (.block 0 (Zez))) Zey)))))
def Zkq:AFn:=⟨70,[.tmp 4],Zk6,false⟩
def Zi3:Zd:=yQ [yI 3 (.box 179 3 (yV 0)),yC 4 (yK 0)] (.seq (yQ [yL 7 1,yH 8 0 3,yL 9 8,yP 10 62 [yA 7,yA 9],yU 5 10] (yQ [yM 11 5,yX 12 .neq (yV 11) (yK 0)] (yc 12 (yQ [yU 13 5,yU 4 13] yr) yw))) (.seq (yQ [yH 14 1 3,yL 15 14,yO 16 15,yX 17 .eql (yV 16) (yK 0)] (yc 17 (yQ [yC 4 (yK 7)] yr) yw)) (.seq (yQ [yH 18 1 3,yL 19 18,yI 20 (.mkfn 186 [] [(yV 2)]),yP 21 185 [yA 19,yB (yK 8),yA 20],yU 6 21] (yQ [yM 22 6,yX 23 .neq (yV 22) (yK 0)] (yc 23 (yQ [yU 24 6,yU 4 24] yr) yw))) (.seq (yQ [yH 25 2 3,yL 26 25,yP 27 188 [yA 26],yI 28 (.un .not (yV 27))] (yc 28 (yQ [yC 4 (yK 2)] yr) yw)) (yQ [yC 4 (yK 0)] yr)))))
def ZhZ:AFn:=⟨29,[.tmp 4],Zi3,false⟩
def D7:Zd:=yQ [yX 17 .lss (yV 16) (yV 15)] (.seq (yc 17 yw (.exit 0)) (.seq (.block 1 (yQ [yE 18 3 14 16,yD 19 3 18,yI 8 (.mk 179 [ye,(.own 3 []),y0]),yN (.st 3 (yV 8) (yV 19))] (yQ [yM 20 2,yD 21 3 8,yI 22 (.call (yV 20) [yA 21]),yU 9 22] (yQ [yM 23 9,yX 24 .neq (yV 23) (yK 0)] (yc 24 (yQ [yU 25 9,yU 6 25] yr) yw))))) (yR [yX 26 .add (yV 16) (yK 1),yM 16 26])))
def Pj:Zd:=.loop D7
def Pi:Zd:=yQ [yC 6 (yK 0)] yr
def E5:Zd:=yQ [yC 6 (yK 0)] (.seq (yQ [yM 10 0,yO 11 10,yM 12 1,yX 13 .gtr (yV 11) (yV 12)] (yc 13 (yQ [yC 6 (yK 6)] yr) yw)) (.seq (yQ [yM 14 0,yO 15 14,yC 16 (yK 0)] (.block 0 (Pj))) Pi))
def Ee:AFn:=⟨27,[.tmp 6],E5,false⟩
def Zai:Zd:=yQ [yI 2 (.box 216 1 (yV 0)),yC 4 yF] (.seq (yQ [yM 5 1] (.block 0 (yQ [yX 7 .eql (yV 5) (yK 3),yU 6 7] (yc 6 (yQ [yH 8 0 2,yL 9 8,yI 10 (.un .not (yV 9)),yU 4 10] yr) (.seq (yQ [yX 12 .eql (yV 5) (yK 25),yU 11 12] (yc 11 yw (yR [yX 13 .eql (yV 5) (yK 26),yU 11 13]))) (yc 11 (yQ [yH 14 0 2,yL 15 14,yU 4 15] yr) yw)))))) (yQ [yM 16 1,yP 17 255 [yA 16],yX 18 .geq (yV 17) (yK 0),yU 4 18] yr))
def RQ:AFn:=⟨19,[.tmp 4],Zai,false⟩
def ZaY:List Nat:=[]
def Zok:Zd:=yQ [yC 2 (yK 0)] (.seq (.block 0 (yQ [yM 4 0,yX 5 .eql (yV 4) (yK 1),yM 6 5,yJ 7 (.mv (yV 0)) 6 false,yJ 8 (.bin .eql .prim (yV 7) (yK 2)) 6 false,yI 9 (.pick (yV 6) yT (yV 8)),yM 10 9,yJ 11 (.mv (yV 0)) 10 false,yJ 12 (.bin .eql .prim (yV 11) (yK 3)) 10 false,yI 13 (.pick (yV 10) yT (yV 12)),yM 14 13,yJ 15 (.mv (yV 0)) 14 false,yJ 16 (.bin .eql .prim (yV 15) (yK 4)) 14 false,yI 17 (.pick (yV 14) yT (yV 16)),yU 3 17] (yc 3 (yQ [yC 2 (yK 0)] yr) (yQ [yM 19 0,yX 20 .geq (yV 19) (yK 5),yM 21 20,yJ 22 (.mv (yV 0)) 21 true,yJ 23 (.bin .leq .prim (yV 22) (yK 8)) 21 true,yI 24 (.pick (yV 21) (yV 23) yF),yU 18 24] (yc 18 (yQ [yC 2 (yK 1)] yr) (yQ [yM 26 0,yX 27 .geq (yV 26) (yK 9),yM 28 27,yJ 29 (.mv (yV 0)) 28 true,yJ 30 (.bin .leq .prim (yV 29) (yK 21)) 28 true,yI 31 (.pick (yV 28) (yV 30) yF),yU 25 31] (yc 25 (yQ [yC 2 (yK 2)] yr) (yQ [yM 33 0,yX 34 .geq (yV 33) (yK 22),yM 35 34,yJ 36 (.mv (yV 0)) 35 true,yJ 37 (.bin .leq .prim (yV 36) (yK 26)) 35 true,yI 38 (.pick (yV 35) (yV 37) yF),yU 32 38] (yc 32 (yQ [yC 2 (yK 0)] yr) yw))))))))) (yQ [yI 2 (.mv (.const (.int .i64 (-1))))] yr))
def Zfq:AFn:=⟨39,[.tmp 2],Zok,false⟩
def Zpb:List Nat:=[7,8,11,12,15,16,22,23,29,30,36,37]
def Zaj:Zd:=yQ [yI 2 (.box 216 1 (yV 0)),yC 4 yF] (yQ [yM 5 1,yX 6 .eql (yV 5) (yK 3),yM 7 6,yJ 8 (.mv (yV 1)) 7 false,yJ 9 (.call (yG 268) [yA 8]) 7 false,yJ 10 (.mv (yV 9)) 7 false,yJ 11 (.fa 0 (yV 2)) 10 true,yJ 12 (.ldc (yV 11)) 10 true,yJ 13 (.un .not (yV 12)) 10 true,yJ 14 (.pick (yV 10) (yV 13) yF) 7 false,yI 15 (.pick (yV 7) yT (yV 14)),yU 4 15] yr)
def RS:AFn:=⟨16,[.tmp 4],Zaj,false⟩
def ZaZ:List Nat:=[8,9,10,11,12,13,14]
def En:Zd:=yQ [yI 2 (.box 216 1 (yV 0)),yC 4 (yK 0),yC 5 (yK 0),yC 6 yF] (.seq (.block 0 (yQ [yM 8 1,yX 9 .eql (yV 8) (yK 2),yU 7 9] (yc 7 (yQ [yC 4 (yK 0),yC 5 (yK 1),yC 6 yT] yr) (yQ [yM 11 1,yX 12 .eql (yV 11) (yK 25),yU 10 12] (yc 10 (yQ [yC 4 (yK 0),yC 5 (yK 15),yC 6 yT] yr) (yQ [yM 14 1,yX 15 .eql (yV 14) (yK 26),yU 13 15] (yc 13 (yQ [yC 4 (yK 0),yC 5 (yK 31),yC 6 yT] yr) (yQ [yM 17 1,yP 18 268 [yA 17],yM 19 18,yJ 20 (.fa 0 (yV 2)) 19 true,yJ 21 (.ldc (yV 20)) 19 true,yI 22 (.pick (yV 19) (yV 21) yF),yU 16 22] (yc 16 (yQ [yC 4 (yK 0),yC 5 (yK 63),yC 6 yT] yr) yw))))))))) (yQ [yC 4 (yK 0),yC 5 (yK 0),yC 6 yF] yr))
def MS:AFn:=⟨23,[.tmp 4,.tmp 5,.tmp 6],En,false⟩
def EY:List Nat:=[20,21]
def XJ:Zd:=yQ [yX 18 .lss (yV 17) (yV 16)] (.seq (yc 18 yw (.exit 0)) (.seq (.block 1 (yQ [yM 19 17,yE 20 21 15 17,yD 21 21 20,yI 8 (.mk 122 [y0,ye,ye,y0,ye,y0,(.own 4 []),y0,ye,y0,(.own 4 []),(.own 4 []),y0,y0,y0,y0,(.own 1 []),(.own 1 []),yf,(.own 21 []),(.own 21 [])]),yU 7 19,yN (.st 21 (yV 8) (yV 21))] (yQ [yM 22 1,yM 23 7,yE 24 21 22 23,yD 25 21 24,yI 9 (.mk 122 [y0,ye,ye,y0,ye,y0,(.own 4 []),y0,ye,y0,(.own 4 []),(.own 4 []),y0,y0,y0,y0,(.own 1 []),(.own 1 []),yf,(.own 21 []),(.own 21 [])]),yN (.st 21 (yV 9) (yV 25))] (yQ [yM 26 2,yD 27 21 8,yD 28 21 9,yI 29 (.call (yV 26) [yA 27,yA 28]),yI 30 (.un .not (yV 29))] (yc 30 (yQ [yC 6 yF] yr) yw))))) (yR [yX 31 .add (yV 17) (yK 1),yM 17 31])))
def XT:Zd:=.loop XJ
def XR:Zd:=yQ [yC 6 yT] yr
def Vs:Zd:=yQ [yC 6 yF] (.seq (yQ [yM 10 0,yO 11 10,yM 12 1,yO 13 12,yX 14 .neq (yV 11) (yV 13)] (yc 14 (yQ [yC 6 yF] yr) yw)) (.seq (yQ [yM 15 0,yO 16 15,yC 17 (yK 0)] (.block 0 (XT))) XR))
def Vo:AFn:=⟨32,[.tmp 6],Vs,false⟩
def Zov:Zd:=yQ [yI 2 (.box 122 21 (yV 0)),yI 3 (.box 122 21 (yV 1)),yC 4 yF] (yQ [yH 5 0 2,yL 6 5,yH 7 0 3,yL 8 7,yX 9 .eql (yV 6) (yV 8),yM 10 9,yJ 11 (.fa 1 (yV 2)) 10 true,yJ 12 (.ldc (yV 11)) 10 true,yJ 13 (.fa 1 (yV 3)) 10 true,yJ 14 (.ldc (yV 13)) 10 true,yJ 15 (.bin .eql .prim (yV 12) (yV 14)) 10 true,yI 16 (.pick (yV 10) (yV 15) yF),yM 17 16,yJ 18 (.fa 2 (yV 2)) 17 true,yJ 19 (.ldc (yV 18)) 17 true,yJ 20 (.fa 2 (yV 3)) 17 true,yJ 21 (.ldc (yV 20)) 17 true,yJ 22 (.bin .eql .prim (yV 19) (yV 21)) 17 true,yI 23 (.pick (yV 17) (yV 22) yF),yM 24 23,yJ 25 (.fa 18 (yV 2)) 24 true,yJ 26 (.ldc (yV 25)) 24 true,yJ 27 (.fa 18 (yV 3)) 24 true,yJ 28 (.ldc (yV 27)) 24 true,yJ 29 (.bin .eql .bool (yV 26) (yV 28)) 24 true,yI 30 (.pick (yV 24) (yV 29) yF),yM 31 30,yJ 32 (.fa 3 (yV 2)) 31 true,yJ 33 (.lda 4 (yV 32)) 31 true,yJ 34 (.fa 3 (yV 3)) 31 true,yJ 35 (.lda 4 (yV 34)) 31 true,yJ 36 (.call (yG 196) [yA 33,yA 35]) 31 true,yI 37 (.pick (yV 31) (yV 36) yF),yM 38 37,yJ 39 (.fa 7 (yV 2)) 38 true,yJ 40 (.lda 4 (yV 39)) 38 true,yJ 41 (.fa 7 (yV 3)) 38 true,yJ 42 (.lda 4 (yV 41)) 38 true,yJ 43 (.call (yG 196) [yA 40,yA 42]) 38 true,yI 44 (.pick (yV 38) (yV 43) yF),yM 45 44,yJ 46 (.fa 12 (yV 2)) 45 true,yJ 47 (.lda 6 (yV 46)) 45 true,yJ 48 (.fa 12 (yV 3)) 45 true,yJ 49 (.lda 6 (yV 48)) 45 true,yJ 50 (.call (yG 154) [yA 47,yA 49]) 45 true,yI 51 (.pick (yV 45) (yV 50) yF),yM 52 51,yJ 53 (.fa 11 (yV 2)) 52 true,yJ 54 (.ldc (yV 53)) 52 true,yJ 55 (.fa 11 (yV 3)) 52 true,yJ 56 (.ldc (yV 55)) 52 true,yJ 57 (.call (yG 221) [yA 54,yA 56,(.inr (yG 196))]) 52 true,yI 58 (.pick (yV 52) (yV 57) yF),yM 59 58,yJ 60 (.fa 19 (yV 2)) 59 true,yJ 61 (.ldc (yV 60)) 59 true,yJ 62 (.fa 19 (yV 3)) 59 true,yJ 63 (.ldc (yV 62)) 59 true,yJ 64 (.call (yG 246) [yA 61,yA 63]) 59 true,yI 65 (.pick (yV 59) (yV 64) yF),yM 66 65,yJ 67 (.fa 20 (yV 2)) 66 true,yJ 68 (.ldc (yV 67)) 66 true,yJ 69 (.fa 20 (yV 3)) 66 true,yJ 70 (.ldc (yV 69)) 66 true,yJ 71 (.call (yG 246) [yA 68,yA 70]) 66 true,yI 72 (.pick (yV 66) (yV 71) yF),yU 4 72] yr)
def ZnY:AFn:=⟨73,[.tmp 4],Zov,false⟩
def OZ:Zd:=yQ [yC 4 yF] (yQ [yM 5 0,yM 6 1,yP 7 222 [yA 5,yA 6],yX 8 .geq (yV 7) (yK 0),yU 4 8] yr)
def OJ:AFn:=⟨9,[.tmp 4],OZ,false⟩
def KI:Zd:=yQ [yX 12 .lss (yV 11) (yV 10)] (.seq (yc 12 yw (.exit 0)) (.seq (.block 1 (yQ [yE 13 1 9 11,yL 14 13,yU 5 14] (yQ [yM 15 3,yM 16 5,yO 17 16,yX 18 .add (yV 15) (yV 17),yU 3 18] (yQ [yM 19 3,yX 20 .lss (yV 19) (yK 0)] (yc 20 (yR [yI 21 (.bad),yN (.bad)]) yw))))) (yR [yX 22 .add (yV 11) (yK 1),yM 11 22])))
def Gj:Zd:=.loop KI
def KJ:Zd:=yQ [yX 28 .lss (yV 27) (yV 26)] (.seq (yc 28 yw (.exit 2)) (.seq (.block 3 (yQ [yE 29 1 25 27,yL 30 29,yU 8 30] (yR [yU 31 6,yM 32 8,yI 33 (.app 2 24 31 (yV 32)),yU 6 33]))) (yR [yX 34 .add (yV 27) (yK 1),yM 27 34])))
def Gl:Zd:=.loop KJ
def Gi:Zd:=yQ [yU 35 6,yU 2 35] yr
def Gh:Zd:=yQ [yM 23 3,yP 24 223 [(.inr (.const (.own 2 []))),yA 23],yU 6 24] (.seq (yQ [yM 25 0,yO 26 25,yC 27 (yK 0)] (.block 2 (Gl))) Gi)
def Il:Zd:=yQ [yI 2 (.mv (.const (.own 2 [])))] (yQ [yC 3 (yK 0)] (.seq (yQ [yM 9 0,yO 10 9,yC 11 (yK 0)] (.block 0 (Gj))) Gh))
def Ij:AFn:=⟨36,[.tmp 2],Il,false⟩
def Zmz:Zd:=yQ [yC 2 (yK 0)] (.seq (yQ [yM 3 0,yP 4 224 [yA 3],yX 5 .gtr (yV 4) (yK 200)] (yc 5 (yQ [yC 2 (yK 6)] yr) yw)) (.seq (yQ [yM 6 0,yP 7 225 [yA 6],yX 8 .gtr (yV 7) (yK 12)] (yc 8 (yQ [yC 2 (yK 11)] yr) yw)) (yQ [yM 9 0,yP 10 226 [yA 9],yU 2 10] yr)))
def ZlT:AFn:=⟨11,[.tmp 2],Zmz,false⟩
def Zga:Zd:=yQ [yI 2 (.box 55 13 (yV 0)),yI 3 (.box 9 1 (yV 1)),yC 4 (yK 0)] (yQ [yH 5 10 2,yL 6 5,yI 7 (.mkfn 228 [] [(yV 3)]),yP 8 227 [yA 6,yA 7],yU 4 8] yr)
def Zft:AFn:=⟨9,[.tmp 4],Zga,false⟩
def Zes:Zd:=yQ [yI 2 (.box 233 3 (yV 0)),yC 3 (yK 0)] (yQ [yD 4 13 1,yD 5 3 2,yP 6 187 [yA 4,yA 5],yU 3 6] yr)
def ZdY:AFn:=⟨7,[.tmp 3],Zes,false⟩
def BH:Zd:=yQ [yX 17 .lss (yV 16) (yV 15)] (.seq (yc 17 yw (.exit 0)) (.seq (.block 1 (yQ [yE 18 3 14 16,yD 19 3 18,yI 8 (.mk 233 [y0,ye,ye]),yN (.st 3 (yV 8) (yV 19))] (yQ [yM 20 2,yD 21 3 8,yI 22 (.call (yV 20) [yA 21]),yU 9 22] (yQ [yM 23 9,yX 24 .neq (yV 23) (yK 0)] (yc 24 (yQ [yU 25 9,yU 6 25] yr) yw))))) (yR [yX 26 .add (yV 16) (yK 1),yM 16 26])))
def DF:Zd:=.loop BH
def DD:Zd:=yQ [yC 6 (yK 0)] yr
def Sv:Zd:=yQ [yC 6 (yK 0)] (.seq (yQ [yM 10 0,yO 11 10,yM 12 1,yX 13 .gtr (yV 11) (yV 12)] (yc 13 (yQ [yC 6 (yK 6)] yr) yw)) (.seq (yQ [yM 14 0,yO 15 14,yC 16 (yK 0)] (.block 0 (DF))) DD))
def Sm:AFn:=⟨27,[.tmp 6],Sv,false⟩
def Zk0:Zd:=yQ [yC 2 yF] (yQ [yM 3 0,yX 4 .geq (yV 3) (yK 22),yM 5 4,yJ 6 (.mv (yV 0)) 5 true,yJ 7 (.bin .leq .prim (yV 6) (yK 24)) 5 true,yI 8 (.pick (yV 5) (yV 7) yF),yU 2 8] yr)
def Zbk:AFn:=⟨9,[.tmp 2],Zk0,false⟩
def Zlj:List Nat:=[6,7]
def O6:Zd:=yQ [yX 9 .lss (yV 8) (yV 7)] (.seq (yc 9 yw (.exit 0)) (.seq (.block 1 (yQ [yM 10 8,yU 5 10] (yQ [yM 11 1,yM 12 0,yM 13 5,yE 14 1 12 13,yL 15 14,yX 16 .eql (yV 11) (yV 15)] (yc 16 (yQ [yU 17 5,yU 4 17] yr) yw)))) (yR [yX 18 .add (yV 8) (yK 1),yM 8 18])))
def Ti:Zd:=.loop O6
def Tf:Zd:=yQ [yI 4 (.mv (.const (.int .i64 (-1))))] yr
def Lm:Zd:=yQ [yC 4 (yK 0)] (.seq (yQ [yM 6 0,yO 7 6,yC 8 (yK 0)] (.block 0 (Ti))) Tf)
def MZ:AFn:=⟨19,[.tmp 4],Lm,false⟩
def Ze0:Zd:=yQ [yX 11 .lss (yV 10) (yV 9)] (.seq (yc 11 yw (.exit 0)) (.seq (.block 1 (yQ [yE 12 21 8 10,yD 13 21 12,yI 5 (.mk 122 [y0,ye,ye,y0,ye,y0,(.own 4 []),y0,ye,y0,(.own 4 []),(.own 4 []),y0,y0,y0,y0,(.own 1 []),(.own 1 []),yf,(.own 21 []),(.own 21 [])]),yN (.st 21 (yV 5) (yV 13))] (.region true [yM 14 3,yH 15 19 5,yL 16 15,yP 17 224 [yA 16],yH 18 20 5,yL 19 18,yP 20 224 [yA 19],yX 21 .add (yV 17) (yV 20),yX 22 .add (yV 14) (yV 21),yM 3 22]))) (yR [yX 23 .add (yV 10) (yK 1),yM 10 23])))
def Zgv:Zd:=.loop Ze0
def Zgu:Zd:=yQ [yU 24 3,yU 2 24] yr
def Zm0:Zd:=yQ [yC 2 (yK 0)] (yQ [yM 6 0,yO 7 6,yU 3 7] (.seq (yQ [yM 8 0,yO 9 8,yC 10 (yK 0)] (.block 0 (Zgv))) Zgu))
def ZlU:AFn:=⟨25,[.tmp 2],Zm0,false⟩
def Ze1:Zd:=yQ [yX 9 .lss (yV 8) (yV 7)] (.seq (yc 9 yw (.exit 0)) (.seq (.block 1 (yQ [yE 10 21 6 8,yD 11 21 10,yI 5 (.mk 122 [y0,ye,ye,y0,ye,y0,(.own 4 []),y0,ye,y0,(.own 4 []),(.own 4 []),y0,y0,y0,y0,(.own 1 []),(.own 1 []),yf,(.own 21 []),(.own 21 [])]),yN (.st 21 (yV 5) (yV 11))] (.region true [yM 12 3,yH 13 19 5,yL 14 13,yP 15 225 [yA 14],yX 16 .add (yK 1) (yV 15),yH 17 20 5,yL 18 17,yP 19 225 [yA 18],yX 20 .add (yK 1) (yV 19),yI 21 (.max [(yV 12),(yV 16),(yV 20)]),yU 3 21]))) (yR [yX 22 .add (yV 8) (yK 1),yM 8 22])))
def Zgx:Zd:=.loop Ze1
def Zgw:Zd:=yQ [yU 23 3,yU 2 23] yr
def Zm1:Zd:=yQ [yC 2 (yK 0)] (yQ [yC 3 (yK 0)] (.seq (yQ [yM 6 0,yO 7 6,yC 8 (yK 0)] (.block 0 (Zgx))) Zgw))
def ZlV:AFn:=⟨24,[.tmp 2],Zm1,false⟩
def Ze2:Zd:=yQ [yX 13 .lss (yV 12) (yV 11)] (.seq (yc 13 yw (.exit 0)) (.seq (.block 1 (yQ [yE 14 21 10 12,yD 15 21 14,yI 4 (.mk 122 [y0,ye,ye,y0,ye,y0,(.own 4 []),y0,ye,y0,(.own 4 []),(.own 4 []),y0,y0,y0,y0,(.own 1 []),(.own 1 []),yf,(.own 21 []),(.own 21 [])]),yN (.st 21 (yV 4) (yV 15))] (yQ [yH 17 0 4,yL 18 17,yP 19 248 [yA 18],yM 16 19,yI 20 (.extract (yV 16) 0),yI 21 (.extract (yV 16) 1),yI 5 (.mk 282 [yf,yf,yf,yf,yf,yf,yf,yf,yf]),yN (.st 9 (yV 5) (yV 20)),yU 6 21] (.seq (yQ [yM 22 6,yI 23 (.un .not (yV 22)),yM 24 23,yJ 25 (.lda 21 (yV 4)) 24 false,yJ 26 (.lda 9 (yV 5)) 24 false,yJ 27 (.call (yG 249) [yA 25,yA 26]) 24 false,yJ 28 (.un .not (yV 27)) 24 false,yI 29 (.pick (yV 24) yT (yV 28))] (yc 29 (yQ [yC 2 (yK 1)] yr) yw)) (.seq (yQ [yD 30 21 4,yD 31 9 5,yP 32 250 [yA 30,yA 31],yU 7 32] (yQ [yM 33 7,yX 34 .neq (yV 33) (yK 0)] (yc 34 (yQ [yU 35 7,yU 2 35] yr) yw))) (.seq (yQ [yH 36 19 4,yL 37 36,yP 38 226 [yA 37],yU 8 38] (yQ [yM 39 8,yX 40 .neq (yV 39) (yK 0)] (yc 40 (yQ [yU 41 8,yU 2 41] yr) yw))) (yQ [yH 42 20 4,yL 43 42,yP 44 226 [yA 43],yU 9 44] (yQ [yM 45 9,yX 46 .neq (yV 45) (yK 0)] (yc 46 (yQ [yU 47 9,yU 2 47] yr) yw))))))))) (yR [yX 48 .add (yV 12) (yK 1),yM 12 48])))
def Zgz:Zd:=.loop Ze2
def Zgy:Zd:=yQ [yC 2 (yK 0)] yr
def Zm2:Zd:=yQ [yC 2 (yK 0)] (.seq (yQ [yM 10 0,yO 11 10,yC 12 (yK 0)] (.block 0 (Zgz))) Zgy)
def ZlW:AFn:=⟨49,[.tmp 2],Zm2,false⟩
def Zc0:Zd:=yQ [yI 2 (.box 65 4 (yV 0)),yC 3 yF] (yQ [yH 4 0 2,yL 5 4,yL 6 1,yX 7 .eql (yV 5) (yV 6),yU 3 7] yr)
def Zcs:AFn:=⟨8,[.tmp 3],Zc0,false⟩
def JD:Zd:=yQ [yX 9 .lss (yV 8) (yV 7)] (.seq (yc 9 yw (.exit 0)) (.seq (.block 1 (yQ [yM 10 8,yU 5 10] (yQ [yM 11 1,yM 12 0,yM 13 5,yE 14 4 12 13,yD 15 4 14,yI 16 (.call (yV 11) [yA 15])] (yc 16 (yQ [yU 17 5,yU 4 17] yr) yw)))) (yR [yX 18 .add (yV 8) (yK 1),yM 8 18])))
def JS:Zd:=.loop JD
def JR:Zd:=yQ [yI 4 (.mv (.const (.int .i64 (-1))))] yr
def U3:Zd:=yQ [yC 4 (yK 0)] (.seq (yQ [yM 6 0,yO 7 6,yC 8 (yK 0)] (.block 0 (JS))) JR)
def U1:AFn:=⟨19,[.tmp 4],U3,false⟩
def Zgj:Zd:=yc 17 (yR [yH 21 3 2,yL 22 21,yI 23 (.mkfn 230 [] [(yV 3)]),yP 24 229 [yA 22,yA 23],yU 5 24]) (yQ [yX 26 .eql (yV 7) (yS [99,111,117,110,116,101,100]),yU 25 26] (yc 25 (yR [yH 27 9 2,yL 28 27,yH 29 2 3,yL 30 29,yP 31 179 [yA 28,yA 30],yU 5 31]) (yQ [yC 4 (yK 1)] yr)))
def Zgi:Zd:=yc 8 (yR [yD 12 13 2,yH 13 2 3,yL 14 13,yP 15 182 [yA 12,yA 14],yX 16 .geq (yV 15) (yK 0),yU 5 16]) (.seq (yQ [yX 18 .eql (yV 7) (yS [115,116,111,114,101,100]),yU 17 18] (yc 17 yw (yQ [yX 19 .eql (yV 7) (yS [101,110,116,101,114,101,100]),yU 17 19] (yc 17 yw (yR [yX 20 .eql (yV 7) (yS [108,101,102,116]),yU 17 20]))))) Zgj)
def Zgk:Zd:=.seq (.block 1 (yQ [yM 33 5,yI 34 (.un .not (yV 33)),yU 32 34] (yc 32 (yQ [yC 4 (yK 5)] yr) (yQ [yH 36 0 3,yL 37 36,yP 38 116 [yA 37,(.inr (.const (.int .i64 (-1000)))),yB (yK 1000)],yI 39 (.un .not (yV 38)),yM 40 39,yJ 41 (.fa 0 (yV 3)) 40 false,yJ 42 (.ldc (yV 41)) 40 false,yJ 43 (.bin .eql .prim (yV 42) (yK 0)) 40 false,yI 44 (.pick (yV 40) yT (yV 43)),yU 35 44] (yc 35 (yQ [yC 4 (yK 2)] yr) yw))))) (yQ [yC 4 (yK 0)] yr)
def Zmv:Zd:=yQ [yI 2 (.box 55 13 (yV 0)),yI 3 (.box 233 3 (yV 1)),yC 4 (yK 0)] (yQ [yC 5 yF] (.seq (yQ [yH 6 1 3,yL 7 6] (.block 0 (.seq (yQ [yX 9 .eql (yV 7) (yS [99,114,101,97,116,101,100]),yU 8 9] (yc 8 yw (yQ [yX 10 .eql (yV 7) (yS [101,110,100,101,100]),yU 8 10] (yc 8 yw (yR [yX 11 .eql (yV 7) (yS [105,110,115,105,100,101]),yU 8 11]))))) Zgi))) Zgk))
def ZlS:AFn:=⟨45,[.tmp 4],Zmv,false⟩
def ZiL:Zd:=yc 32 (yQ [yI 35 (.build [yf,yf,yf,yf,yf,yf,yf,yf,yf] [(0,1,yT)]),yN (.st 9 (yV 2) (yV 35)),yC 3 yT] yr) (yQ [yX 37 .eql (yV 4) (yK 13),yU 36 37] (yc 36 (yQ [yI 38 (.build [yf,yf,yf,yf,yf,yf,yf,yf,yf] [(0,1,yT),(1,1,yT),(2,1,yT),(4,1,yT)]),yN (.st 9 (yV 2) (yV 38)),yC 3 yT] yr) (yQ [yX 40 .eql (yV 4) (yK 14),yU 39 40] (yc 39 (yQ [yI 41 (.build [yf,yf,yf,yf,yf,yf,yf,yf,yf] [(0,1,yT),(2,1,yT),(4,1,yT)]),yN (.st 9 (yV 2) (yV 41)),yC 3 yT] yr) (yQ [yX 43 .eql (yV 4) (yK 18),yU 42 43] (yc 42 (yQ [yI 44 (.build [yf,yf,yf,yf,yf,yf,yf,yf,yf] []),yN (.st 9 (yV 2) (yV 44)),yC 3 yT] yr) yw))))))
def ZiK:Zd:=yc 5 (yQ [yI 13 (.build [yf,yf,yf,yf,yf,yf,yf,yf,yf] [(0,1,yT),(2,1,yT)]),yN (.st 9 (yV 2) (yV 13)),yC 3 yT] yr) (yQ [yX 15 .eql (yV 4) (yK 2),yU 14 15] (yc 14 (yQ [yI 16 (.build [yf,yf,yf,yf,yf,yf,yf,yf,yf] [(0,1,yT),(1,1,yT),(5,1,yT)]),yN (.st 9 (yV 2) (yV 16)),yC 3 yT] yr) (yQ [yX 18 .eql (yV 4) (yK 3),yU 17 18] (yc 17 (yQ [yI 19 (.build [yf,yf,yf,yf,yf,yf,yf,yf,yf] [(2,1,yT),(7,1,yT),(8,1,yT)]),yN (.st 9 (yV 2) (yV 19)),yC 3 yT] yr) (yQ [yX 21 .eql (yV 4) (yK 4),yU 20 21] (yc 20 (yQ [yI 22 (.build [yf,yf,yf,yf,yf,yf,yf,yf,yf] [(2,1,yT),(7,1,yT)]),yN (.st 9 (yV 2) (yV 22)),yC 3 yT] yr) (yQ [yX 24 .eql (yV 4) (yK 5),yU 23 24] (yc 23 (yQ [yI 25 (.build [yf,yf,yf,yf,yf,yf,yf,yf,yf] [(2,1,yT)]),yN (.st 9 (yV 2) (yV 25)),yC 3 yT] yr) (yQ [yX 27 .eql (yV 4) (yK 6),yU 26 27] (yc 26 (yQ [yI 28 (.build [yf,yf,yf,yf,yf,yf,yf,yf,yf] [(0,1,yT),(2,1,yT),(3,1,yT),(6,1,yT)]),yN (.st 9 (yV 2) (yV 28)),yC 3 yT] yr) (yQ [yX 30 .eql (yV 4) (yK 9),yU 29 30] (yc 29 (yQ [yI 31 (.build [yf,yf,yf,yf,yf,yf,yf,yf,yf] [(0,1,yT),(1,1,yT)]),yN (.st 9 (yV 2) (yV 31)),yC 3 yT] yr) (.seq (yQ [yX 33 .eql (yV 4) (yK 10),yU 32 33] (yc 32 yw (yR [yX 34 .eql (yV 4) (yK 11),yU 32 34]))) ZiL)))))))))))))
def ZiM:Zd:=yQ [yI 45 (.build [yf,yf,yf,yf,yf,yf,yf,yf,yf] []),yN (.st 9 (yV 2) (yV 45)),yC 3 yF] yr
def Zow:Zd:=yQ [yI 2 (.mk 282 [yf,yf,yf,yf,yf,yf,yf,yf,yf]),yC 3 yF] (.seq (yQ [yM 4 0] (.block 0 (.seq (yQ [yX 6 .eql (yV 4) (yK 1),yU 5 6] (yc 5 yw (yQ [yX 7 .eql (yV 4) (yK 7),yU 5 7] (yc 5 yw (yQ [yX 8 .eql (yV 4) (yK 8),yU 5 8] (yc 5 yw (yQ [yX 9 .eql (yV 4) (yK 12),yU 5 9] (yc 5 yw (yQ [yX 10 .eql (yV 4) (yK 15),yU 5 10] (yc 5 yw (yQ [yX 11 .eql (yV 4) (yK 16),yU 5 11] (yc 5 yw (yR [yX 12 .eql (yV 4) (yK 17),yU 5 12]))))))))))))) ZiK))) ZiM)
def ZnZ:AFn:=⟨46,[.agg 2 9,.tmp 3],Zow,false⟩
def Zou:Zd:=yQ [yI 2 (.box 122 21 (yV 0)),yI 3 (.box 282 9 (yV 1)),yC 4 yF] (yQ [yI 5 (.mv (yG 265))] (yQ [yH 6 0 3,yL 7 6,yM 8 7,yJ 9 (.fa 1 (yV 2)) 8 false,yJ 10 (.ldc (yV 9)) 8 false,yJ 11 (.bin .eql .prim (yV 10) (yS [])) 8 false,yI 12 (.pick (yV 8) yT (yV 11)),yM 13 12,yJ 14 (.fa 1 (yV 3)) 13 true,yJ 15 (.ldc (yV 14)) 13 true,yJ 16 (.mv (yV 15)) 13 true,yJ 17 (.fa 2 (yV 2)) 16 false,yJ 18 (.ldc (yV 17)) 16 false,yJ 19 (.bin .eql .prim (yV 18) (yS [])) 16 false,yJ 20 (.pick (yV 16) yT (yV 19)) 13 true,yI 21 (.pick (yV 13) (yV 20) yF),yM 22 21,yJ 23 (.fa 2 (yV 3)) 22 true,yJ 24 (.ldc (yV 23)) 22 true,yJ 25 (.mv (yV 24)) 22 true,yJ 26 (.mv (yV 5)) 25 false,yJ 27 (.fa 3 (yV 2)) 25 false,yJ 28 (.lda 4 (yV 27)) 25 false,yJ 29 (.call (yV 26) [yA 28]) 25 false,yJ 30 (.pick (yV 25) yT (yV 29)) 22 true,yI 31 (.pick (yV 22) (yV 30) yF),yM 32 31,yJ 33 (.fa 3 (yV 3)) 32 true,yJ 34 (.ldc (yV 33)) 32 true,yJ 35 (.mv (yV 34)) 32 true,yJ 36 (.mv (yV 5)) 35 false,yJ 37 (.fa 7 (yV 2)) 35 false,yJ 38 (.lda 4 (yV 37)) 35 false,yJ 39 (.call (yV 36) [yA 38]) 35 false,yJ 40 (.pick (yV 35) yT (yV 39)) 32 true,yI 41 (.pick (yV 32) (yV 40) yF),yM 42 41,yJ 43 (.fa 4 (yV 3)) 42 true,yJ 44 (.ldc (yV 43)) 42 true,yJ 45 (.mv (yV 44)) 42 true,yJ 46 (.fa 11 (yV 2)) 45 false,yJ 47 (.ldc (yV 46)) 45 false,yJ 48 (.len .slice (yV 47)) 45 false,yJ 49 (.bin .eql .prim (yV 48) (yK 0)) 45 false,yJ 50 (.pick (yV 45) yT (yV 49)) 42 true,yI 51 (.pick (yV 42) (yV 50) yF),yM 52 51,yJ 53 (.fa 5 (yV 3)) 52 true,yJ 54 (.ldc (yV 53)) 52 true,yJ 55 (.mv (yV 54)) 52 true,yJ 56 (.fa 12 (yV 2)) 55 false,yJ 57 (.lda 6 (yV 56)) 55 false,yJ 58 (.build [y0,y0,y0,y0,(.own 1 []),(.own 1 [])] []) 55 false,yJ 59 (.call (yG 154) [yA 57,yA 58]) 55 false,yJ 60 (.pick (yV 55) yT (yV 59)) 52 true,yI 61 (.pick (yV 52) (yV 60) yF),yM 62 61,yJ 63 (.fa 6 (yV 3)) 62 true,yJ 64 (.ldc (yV 63)) 62 true,yJ 65 (.mv (yV 64)) 62 true,yJ 66 (.fa 18 (yV 2)) 65 false,yJ 67 (.ldc (yV 66)) 65 false,yJ 68 (.un .not (yV 67)) 65 false,yJ 69 (.pick (yV 65) yT (yV 68)) 62 true,yI 70 (.pick (yV 62) (yV 69) yF),yM 71 70,yJ 72 (.fa 7 (yV 3)) 71 true,yJ 73 (.ldc (yV 72)) 71 true,yJ 74 (.mv (yV 73)) 71 true,yJ 75 (.fa 19 (yV 2)) 74 false,yJ 76 (.ldc (yV 75)) 74 false,yJ 77 (.len .slice (yV 76)) 74 false,yJ 78 (.bin .eql .prim (yV 77) (yK 0)) 74 false,yJ 79 (.pick (yV 74) yT (yV 78)) 71 true,yI 80 (.pick (yV 71) (yV 79) yF),yM 81 80,yJ 82 (.fa 8 (yV 3)) 81 true,yJ 83 (.ldc (yV 82)) 81 true,yJ 84 (.mv (yV 83)) 81 true,yJ 85 (.fa 20 (yV 2)) 84 false,yJ 86 (.ldc (yV 85)) 84 false,yJ 87 (.len .slice (yV 86)) 84 false,yJ 88 (.bin .eql .prim (yV 87) (yK 0)) 84 false,yJ 89 (.pick (yV 84) yT (yV 88)) 81 true,yI 90 (.pick (yV 81) (yV 89) yF),yU 4 90] yr))
def ZnX:AFn:=⟨91,[.tmp 4],Zou,false⟩
def Ze3:Zd:=yQ [yX 27 .lss (yV 26) (yV 25)] (.seq (yc 27 yw (.exit 0)) (.seq (.block 1 (yQ [yE 28 2 24 26,yD 29 2 28,yI 6 (.mk 299 [yf,ye]),yN (.st 2 (yV 6) (yV 29))] (yQ [yH 30 1 6,yL 31 30,yP 32 27 [yA 31],yU 7 32] (yQ [yH 33 0 6,yL 34 33,yM 35 34,yJ 36 (.mv (yV 7)) 35 true,yJ 37 (.bin .neq .prim (yV 36) (yK 0)) 35 true,yI 38 (.pick (yV 35) (yV 37) yF)] (yc 38 (yQ [yU 39 7,yU 4 39] yr) yw))))) (yR [yX 40 .add (yV 26) (yK 1),yM 26 40])))
def Zg3:Zd:=.loop Ze3
def Ze4:Zd:=yQ [yX 54 .lss (yV 53) (yV 52)] (.seq (yc 54 yw (.exit 2)) (.seq (.block 3 (yQ [yE 55 5 51 53,yD 56 5 55,yI 9 (.mk 301 [yf,y0,ye,y0,(.own 4 [])]),yN (.st 5 (yV 9) (yV 56))] (.seq (yQ [yH 57 0 9,yL 58 57,yI 59 (.un .not (yV 58))] (yc 59 (.exit 3) yw)) (yQ [yH 60 1 9,yD 61 4 60,yP 62 266 [yA 61],yU 10 62] (yQ [yM 63 10,yX 64 .neq (yV 63) (yK 0)] (yc 64 (yQ [yU 65 10,yU 4 65] yr) yw)))))) (yR [yX 66 .add (yV 53) (yK 1),yM 53 66])))
def Zg4:Zd:=.loop Ze4
def Ze5:Zd:=yQ [yX 75 .lss (yV 74) (yV 73)] (.seq (yc 75 yw (.exit 4)) (.seq (.block 5 (yQ [yE 76 4 72 74,yD 77 4 76,yI 12 (.mk 71 [y0,ye,y0,(.own 4 [])]),yN (.st 4 (yV 12) (yV 77))] (yQ [yD 78 4 12,yP 79 266 [yA 78],yU 13 79] (yQ [yM 80 13,yX 81 .neq (yV 80) (yK 0)] (yc 81 (yQ [yU 82 13,yU 4 82] yr) yw))))) (yR [yX 83 .add (yV 74) (yK 1),yM 74 83])))
def Zg5:Zd:=.loop Ze5
def Zg2:Zd:=.seq (yQ [yH 84 5 3,yL 85 84] (yc 85 (yQ [yH 86 12 2,yD 87 6 86,yP 88 79 [yA 87],yU 4 88] yr) yw)) (yQ [yC 4 (yK 0)] yr)
def Zg1:Zd:=.seq (yQ [yH 67 11 2,yL 68 67,yO 69 68,yX 70 .gtr (yV 69) (yK 6)] (yc 70 (yQ [yC 4 (yK 6)] yr) yw)) (.seq (yQ [yH 71 11 2,yL 72 71,yO 73 72,yC 74 (yK 0)] (.block 4 (Zg5))) Zg2)
def Zg0:Zd:=.seq (yQ [yH 41 2 3,yL 42 41,yH 43 3 2,yD 44 4 43,yI 45 (.build [yf,y0,ye,y0,(.own 4 [])] [(0,1,(yV 42)),(1,4,(yV 44))]),yH 46 3 3,yL 47 46,yH 48 7 2,yD 49 4 48,yI 50 (.build [yf,y0,ye,y0,(.own 4 [])] [(0,1,(yV 47)),(1,4,(yV 49))]),yI 51 (.lit 301 5 [(yV 45),(yV 50)]),yO 52 51,yC 53 (yK 0)] (.block 2 (Zg4))) Zg1
def Zm3:Zd:=yQ [yI 2 (.box 122 21 (yV 0)),yI 3 (.box 282 9 (yV 1)),yC 4 (yK 0)] (.seq (yQ [yH 14 0 3,yL 15 14,yH 16 1 2,yL 17 16,yI 18 (.build [yf,ye] [(0,1,(yV 15)),(1,1,(yV 17))]),yH 19 1 3,yL 20 19,yH 21 2 2,yL 22 21,yI 23 (.build [yf,ye] [(0,1,(yV 20)),(1,1,(yV 22))]),yI 24 (.lit 299 2 [(yV 18),(yV 23)]),yO 25 24,yC 26 (yK 0)] (.block 0 (Zg3))) Zg0)
def ZlX:AFn:=⟨89,[.tmp 4],Zm3,false⟩
def ZiD:Zd:=yQ [yI 2 (.box 169 3 (yV 0)),yC 3 yF] (yQ [yH 4 0 2,yL 5 4,yH 6 2 1,yL 7 6,yX 8 .eql (yV 5) (yV 7),yU 3 8] yr)
def Zij:AFn:=⟨9,[.tmp 3],ZiD,false⟩
def Jg:Zd:=yQ [yC 4 yF] (yQ [yM 5 0,yM 6 1,yP 7 251 [yA 5,yA 6],yX 8 .geq (yV 7) (yK 0),yU 4 8] yr)
def Jf:AFn:=⟨9,[.tmp 4],Jg,false⟩
def ZkB:Zd:=yQ [yI 1 (.box 71 4 (yV 0)),yC 2 yF] (yQ [yD 3 4 1,yI 4 (.build [y0,ye,y0,(.own 4 [])] []),yP 5 196 [yA 3,yA 4],yU 2 5] yr)
def Zkr:AFn:=⟨6,[.tmp 2],ZkB,false⟩
def Zmo:Zd:=yQ [yI 1 (.box 71 4 (yV 0)),yC 2 (yK 0)] (yQ [yI 3 (.build [yf] []),yD 4 4 1,yP 5 156 [yA 3,yA 4],yU 2 5] yr)
def ZlM:AFn:=⟨6,[.tmp 2],Zmo,false⟩
def Ja:Zd:=yQ [yX 9 .lss (yV 8) (yV 7)] (.seq (yc 9 yw (.exit 0)) (.seq (.block 1 (yQ [yM 10 8,yU 5 10] (yQ [yM 11 1,yM 12 0,yM 13 5,yE 14 3 12 13,yD 15 3 14,yI 16 (.call (yV 11) [yA 15])] (yc 16 (yQ [yU 17 5,yU 4 17] yr) yw)))) (yR [yX 18 .add (yV 8) (yK 1),yM 8 18])))
def Ji:Zd:=.loop Ja
def Jh:Zd:=yQ [yI 4 (.mv (.const (.int .i64 (-1))))] yr
def JE:Zd:=yQ [yC 4 (yK 0)] (.seq (yQ [yM 6 0,yO 7 6,yC 8 (yK 0)] (.block 0 (Ji))) Jh)
def JB:AFn:=⟨19,[.tmp 4],JE,false⟩
def tab:List (Nat×AFn):=[(4,LX),(9,X0),(11,ZlK),(13,J7),(14,VX),(15,JA),(16,ZlL),(18,ZnT),(21,ZnS),(22,Zjy),(23,MW),(25,G8),(27,J8),(28,Zkm),(29,Zkj),(30,ZnU),(31,G5),(35,YF),(36,G9),(37,Zd0),(39,Zkk),(41,Qb),(42,Zfl),(43,ZnV),(47,Zj0),(48,Zjz),(49,Q5),(50,Zfn),(51,TL),(53,Zdy),(52,Ye),(57,Fe),(58,Ef),(59,Sj),(61,Zfs),(60,BA),(64,Zkp),(65,X3),(66,Zfk),(67,Zd2),(68,Zbn),(75,Zdz),(76,Df),(77,ND),(78,Xe),(79,Zd1),(80,Zf6),(81,GG),(82,Zbo),(83,UH),(84,Eg),(85,Jz),(86,Zf1),(88,Zil),(90,Zkl),(91,Zac),(95,J9),(96,VY),(97,ZlN),(98,Vl),(99,Zfm),(108,Ec),(107,PU),(62,Eb),(63,ZlR),(141,Zfu),(140,Sl),(144,Dz),(143,Ol),(153,Zfo),(154,Zfp),(155,RN),(156,RP),(158,MR),(157,XM),(159,J6),(160,Zbj),(161,Zd4),(162,Zf4),(163,Zf3),(164,U9),(165,Zbm),(166,Gz),(170,I4),(171,Q7),(172,ZdZ),(173,Oy),(174,XD),(175,ZdW),(177,Zko),(178,ZlP),(109,Zia),(112,Zib),(113,Zic),(119,Zid),(122,Zie),(125,Zif),(126,Zig),(127,Zih),(128,Zii),(129,Zfx),(130,Zfy),(134,Zfz),(138,Zf0),(111,Zkn),(142,ZlO),(116,Zik),(191,ZpQ),(196,Gy),(197,YW),(198,U8),(199,U7),(200,Qo),(201,Ya),(203,Ed),(202,Ul),(204,Zf5),(205,G7),(206,G6),(207,Om),(210,Wy),(211,Ar),(212,U0),(213,UY),(214,MX),(215,QR),(216,Zab),(217,XE),(218,Zct),(219,VI),(220,Zfw),(221,Vm),(188,ZpP),(110,Aq),(115,Zeb),(114,MV),(121,Zec),(120,RU),(124,Zed),(123,Bz),(132,Zcu),(131,Dy),(136,Zcv),(135,PT),(139,ZlQ),(190,ZhY),(189,Uf),(234,Dh),(235,YB),(236,Zf2),(237,Zd3),(238,Zj1),(244,Hy),(245,Iz),(246,ZnW),(247,Oz),(117,Zea),(118,ZdX),(133,Zfv),(137,Zkq),(184,ZhZ),(183,Ee),(254,RQ),(255,Zfq),(256,RS),(257,MS),(263,Vo),(264,ZnY),(179,OJ),(180,Ij),(181,ZlT),(182,Zft),(186,ZdY),(185,Sm),(268,Zbk),(222,MZ),(224,ZlU),(225,ZlV),(226,ZlW),(228,Zcs),(227,U1),(187,ZlS),(248,ZnZ),(249,ZnX),(250,ZlX),(230,Zij),(229,Jf),(265,Zkr),(266,ZlM),(251,JB)]
theorem ZwF:∀ p ∈ tab,∃ fn takes,Tryz.prog.funcs[p.1]? = some fn∧(fn.name == "runtime.NumGoroutine")=false∧cFn Tryz.prog takes fn=some p.2:=by
  intro p hp
  simp only [tab,List.mem_cons,List.not_mem_nil,or_false] at hp
  rcases hp with rfl | rfl | rfl | rfl | rfl | rfl | rfl | rfl | rfl | rfl | rfl | rfl | rfl | rfl | rfl | rfl | rfl | rfl | rfl | rfl | rfl | rfl | rfl | rfl | rfl | rfl | rfl | rfl | rfl | rfl | rfl | rfl | rfl | rfl | rfl | rfl | rfl | rfl | rfl | rfl | rfl | rfl | rfl | rfl | rfl | rfl | rfl | rfl | rfl | rfl | rfl | rfl | rfl | rfl | rfl | rfl | rfl | rfl | rfl | rfl | rfl | rfl | rfl | rfl | rfl | rfl | rfl | rfl | rfl | rfl | rfl | rfl | rfl | rfl | rfl | rfl | rfl | rfl | rfl | rfl | rfl | rfl | rfl | rfl | rfl | rfl | rfl | rfl | rfl | rfl | rfl | rfl | rfl | rfl | rfl | rfl | rfl | rfl | rfl | rfl | rfl | rfl | rfl | rfl | rfl | rfl | rfl | rfl | rfl | rfl | rfl | rfl | rfl | rfl | rfl | rfl | rfl | rfl | rfl | rfl | rfl | rfl | rfl | rfl | rfl | rfl | rfl | rfl | rfl | rfl | rfl | rfl | rfl | rfl | rfl | rfl | rfl | rfl | rfl | rfl | rfl | rfl | rfl | rfl | rfl | rfl | rfl | rfl | rfl | rfl | rfl | rfl | rfl | rfl | rfl | rfl | rfl | rfl | rfl | rfl | rfl | rfl | rfl | rfl | rfl | rfl | rfl | rfl | rfl | rfl | rfl | rfl | rfl | rfl | rfl | rfl | rfl | rfl | rfl | rfl | rfl | rfl | rfl | rfl | rfl | rfl | rfl | rfl | rfl | rfl
  · exact ⟨_,takes,Tryz.func4,by kernel_rfl,by kernel_rfl⟩
  · exact ⟨_,takes,Tryz.func9,by kernel_rfl,by kernel_rfl⟩
  · exact ⟨_,takes,Tryz.func11,by kernel_rfl,by kernel_rfl⟩
  · exact ⟨_,takes,Tryz.func13,by kernel_rfl,by kernel_rfl⟩
  · exact ⟨_,takes,Tryz.func14,by kernel_rfl,by kernel_rfl⟩
  · exact ⟨_,takes,Tryz.func15,by kernel_rfl,by kernel_rfl⟩
  · exact ⟨_,takes,Tryz.func16,by kernel_rfl,by kernel_rfl⟩
  · exact ⟨_,takes,Tryz.func18,by kernel_rfl,by kernel_rfl⟩
  · exact ⟨_,takes,Tryz.func21,by kernel_rfl,by kernel_rfl⟩
  · exact ⟨_,takes,Tryz.func22,by kernel_rfl,by kernel_rfl⟩
  · exact ⟨_,takes,Tryz.func23,by kernel_rfl,by kernel_rfl⟩
  · exact ⟨_,takes,Tryz.func25,by kernel_rfl,by kernel_rfl⟩
  · exact ⟨_,takes,Tryz.func27,by kernel_rfl,by kernel_rfl⟩
  · exact ⟨_,takes,Tryz.func28,by kernel_rfl,by kernel_rfl⟩
  · exact ⟨_,takes,Tryz.func29,by kernel_rfl,by kernel_rfl⟩
  · exact ⟨_,takes,Tryz.func30,by kernel_rfl,by kernel_rfl⟩
  · exact ⟨_,takes,Tryz.func31,by kernel_rfl,by kernel_rfl⟩
  · exact ⟨_,takes,Tryz.func35,by kernel_rfl,by kernel_rfl⟩
  · exact ⟨_,takes,Tryz.func36,by kernel_rfl,by kernel_rfl⟩
  · exact ⟨_,takes,Tryz.func37,by kernel_rfl,by kernel_rfl⟩
  · exact ⟨_,takes,Tryz.func39,by kernel_rfl,by kernel_rfl⟩
  · exact ⟨_,takes,Tryz.func41,by kernel_rfl,by kernel_rfl⟩
  · exact ⟨_,takes,Tryz.func42,by kernel_rfl,by kernel_rfl⟩
  · exact ⟨_,takes,Tryz.func43,by kernel_rfl,by kernel_rfl⟩
  · exact ⟨_,takes,Tryz.func47,by kernel_rfl,by kernel_rfl⟩
  · exact ⟨_,takes,Tryz.func48,by kernel_rfl,by kernel_rfl⟩
  · exact ⟨_,takes,Tryz.func49,by kernel_rfl,by kernel_rfl⟩
  · exact ⟨_,takes,Tryz.func50,by kernel_rfl,by kernel_rfl⟩
  · exact ⟨_,takes,Tryz.func51,by kernel_rfl,by kernel_rfl⟩
  · exact ⟨_,takes,Tryz.func53,by kernel_rfl,by kernel_rfl⟩
  · exact ⟨_,takes,Tryz.func52,by kernel_rfl,by kernel_rfl⟩
  · exact ⟨_,takes,Tryz.func57,by kernel_rfl,by kernel_rfl⟩
  · exact ⟨_,takes,Tryz.func58,by kernel_rfl,by kernel_rfl⟩
  · exact ⟨_,takes,Tryz.func59,by kernel_rfl,by kernel_rfl⟩
  · exact ⟨_,takes,Tryz.func61,by kernel_rfl,by kernel_rfl⟩
  · exact ⟨_,takes,Tryz.func60,by kernel_rfl,by kernel_rfl⟩
  · exact ⟨_,takes,Tryz.func64,by kernel_rfl,by kernel_rfl⟩
  · exact ⟨_,takes,Tryz.func65,by kernel_rfl,by kernel_rfl⟩
  · exact ⟨_,takes,Tryz.func66,by kernel_rfl,by kernel_rfl⟩
  · exact ⟨_,takes,Tryz.func67,by kernel_rfl,by kernel_rfl⟩
  · exact ⟨_,takes,Tryz.func68,by kernel_rfl,by kernel_rfl⟩
  · exact ⟨_,takes,Tryz.func75,by kernel_rfl,by kernel_rfl⟩
  · exact ⟨_,takes,Tryz.func76,by kernel_rfl,by kernel_rfl⟩
  · exact ⟨_,takes,Tryz.func77,by kernel_rfl,by kernel_rfl⟩
  · exact ⟨_,takes,Tryz.func78,by kernel_rfl,by kernel_rfl⟩
  · exact ⟨_,takes,Tryz.func79,by kernel_rfl,by kernel_rfl⟩
  · exact ⟨_,takes,Tryz.func80,by kernel_rfl,by kernel_rfl⟩
  · exact ⟨_,takes,Tryz.func81,by kernel_rfl,by kernel_rfl⟩
  · exact ⟨_,takes,Tryz.func82,by kernel_rfl,by kernel_rfl⟩
  · exact ⟨_,takes,Tryz.func83,by kernel_rfl,by kernel_rfl⟩
  · exact ⟨_,takes,Tryz.func84,by kernel_rfl,by kernel_rfl⟩
  · exact ⟨_,takes,Tryz.func85,by kernel_rfl,by kernel_rfl⟩
  · exact ⟨_,takes,Tryz.func86,by kernel_rfl,by kernel_rfl⟩
  · exact ⟨_,takes,Tryz.func88,by kernel_rfl,by kernel_rfl⟩
  · exact ⟨_,takes,Tryz.func90,by kernel_rfl,by kernel_rfl⟩
  · exact ⟨_,takes,Tryz.func91,by kernel_rfl,by kernel_rfl⟩
  · exact ⟨_,takes,Tryz.func95,by kernel_rfl,by kernel_rfl⟩
  · exact ⟨_,takes,Tryz.func96,by kernel_rfl,by kernel_rfl⟩
  · exact ⟨_,takes,Tryz.func97,by kernel_rfl,by kernel_rfl⟩
  · exact ⟨_,takes,Tryz.func98,by kernel_rfl,by kernel_rfl⟩
  · exact ⟨_,takes,Tryz.func99,by kernel_rfl,by kernel_rfl⟩
  · exact ⟨_,takes,Tryz.func108,by kernel_rfl,by kernel_rfl⟩
  · exact ⟨_,takes,Tryz.func107,by kernel_rfl,by kernel_rfl⟩
  · exact ⟨_,takes,Tryz.func62,by kernel_rfl,by kernel_rfl⟩
  · exact ⟨_,takes,Tryz.func63,by kernel_rfl,by kernel_rfl⟩
  · exact ⟨_,takes,Tryz.func141,by kernel_rfl,by kernel_rfl⟩
  · exact ⟨_,takes,Tryz.func140,by kernel_rfl,by kernel_rfl⟩
  · exact ⟨_,takes,Tryz.func144,by kernel_rfl,by kernel_rfl⟩
  · exact ⟨_,takes,Tryz.func143,by kernel_rfl,by kernel_rfl⟩
  · exact ⟨_,takes,Tryz.func153,by kernel_rfl,by kernel_rfl⟩
  · exact ⟨_,takes,Tryz.func154,by kernel_rfl,by kernel_rfl⟩
  · exact ⟨_,takes,Tryz.func155,by kernel_rfl,by kernel_rfl⟩
  · exact ⟨_,takes,Tryz.func156,by kernel_rfl,by kernel_rfl⟩
  · exact ⟨_,takes,Tryz.func158,by kernel_rfl,by kernel_rfl⟩
  · exact ⟨_,takes,Tryz.func157,by kernel_rfl,by kernel_rfl⟩
  · exact ⟨_,takes,Tryz.func159,by kernel_rfl,by kernel_rfl⟩
  · exact ⟨_,takes,Tryz.func160,by kernel_rfl,by kernel_rfl⟩
  · exact ⟨_,takes,Tryz.func161,by kernel_rfl,by kernel_rfl⟩
  · exact ⟨_,takes,Tryz.func162,by kernel_rfl,by kernel_rfl⟩
  · exact ⟨_,takes,Tryz.func163,by kernel_rfl,by kernel_rfl⟩
  · exact ⟨_,takes,Tryz.func164,by kernel_rfl,by kernel_rfl⟩
  · exact ⟨_,takes,Tryz.func165,by kernel_rfl,by kernel_rfl⟩
  · exact ⟨_,takes,Tryz.func166,by kernel_rfl,by kernel_rfl⟩
  · exact ⟨_,takes,Tryz.func170,by kernel_rfl,by kernel_rfl⟩
  · exact ⟨_,takes,Tryz.func171,by kernel_rfl,by kernel_rfl⟩
  · exact ⟨_,takes,Tryz.func172,by kernel_rfl,by kernel_rfl⟩
  · exact ⟨_,takes,Tryz.func173,by kernel_rfl,by kernel_rfl⟩
  · exact ⟨_,takes,Tryz.func174,by kernel_rfl,by kernel_rfl⟩
  · exact ⟨_,takes,Tryz.func175,by kernel_rfl,by kernel_rfl⟩
  · exact ⟨_,takes,Tryz.func177,by kernel_rfl,by kernel_rfl⟩
  · exact ⟨_,takes,Tryz.func178,by kernel_rfl,by kernel_rfl⟩
  · exact ⟨_,takes,Tryz.func109,by kernel_rfl,by kernel_rfl⟩
  · exact ⟨_,takes,Tryz.func112,by kernel_rfl,by kernel_rfl⟩
  · exact ⟨_,takes,Tryz.func113,by kernel_rfl,by kernel_rfl⟩
  · exact ⟨_,takes,Tryz.func119,by kernel_rfl,by kernel_rfl⟩
  · exact ⟨_,takes,Tryz.func122,by kernel_rfl,by kernel_rfl⟩
  · exact ⟨_,takes,Tryz.func125,by kernel_rfl,by kernel_rfl⟩
  · exact ⟨_,takes,Tryz.func126,by kernel_rfl,by kernel_rfl⟩
  · exact ⟨_,takes,Tryz.func127,by kernel_rfl,by kernel_rfl⟩
  · exact ⟨_,takes,Tryz.func128,by kernel_rfl,by kernel_rfl⟩
  · exact ⟨_,takes,Tryz.func129,by kernel_rfl,by kernel_rfl⟩
  · exact ⟨_,takes,Tryz.func130,by kernel_rfl,by kernel_rfl⟩
  · exact ⟨_,takes,Tryz.func134,by kernel_rfl,by kernel_rfl⟩
  · exact ⟨_,takes,Tryz.func138,by kernel_rfl,by kernel_rfl⟩
  · exact ⟨_,takes,Tryz.func111,by kernel_rfl,by kernel_rfl⟩
  · exact ⟨_,takes,Tryz.func142,by kernel_rfl,by kernel_rfl⟩
  · exact ⟨_,takes,Tryz.func116,by kernel_rfl,by kernel_rfl⟩
  · exact ⟨_,takes,Tryz.func191,by kernel_rfl,by kernel_rfl⟩
  · exact ⟨_,takes,Tryz.func196,by kernel_rfl,by kernel_rfl⟩
  · exact ⟨_,takes,Tryz.func197,by kernel_rfl,by kernel_rfl⟩
  · exact ⟨_,takes,Tryz.func198,by kernel_rfl,by kernel_rfl⟩
  · exact ⟨_,takes,Tryz.func199,by kernel_rfl,by kernel_rfl⟩
  · exact ⟨_,takes,Tryz.func200,by kernel_rfl,by kernel_rfl⟩
  · exact ⟨_,takes,Tryz.func201,by kernel_rfl,by kernel_rfl⟩
  · exact ⟨_,takes,Tryz.func203,by kernel_rfl,by kernel_rfl⟩
  · exact ⟨_,takes,Tryz.func202,by kernel_rfl,by kernel_rfl⟩
  · exact ⟨_,takes,Tryz.func204,by kernel_rfl,by kernel_rfl⟩
  · exact ⟨_,takes,Tryz.func205,by kernel_rfl,by kernel_rfl⟩
  · exact ⟨_,takes,Tryz.func206,by kernel_rfl,by kernel_rfl⟩
  · exact ⟨_,takes,Tryz.func207,by kernel_rfl,by kernel_rfl⟩
  · exact ⟨_,takes,Tryz.func210,by kernel_rfl,by kernel_rfl⟩
  · exact ⟨_,takes,Tryz.func211,by kernel_rfl,by kernel_rfl⟩
  · exact ⟨_,takes,Tryz.func212,by kernel_rfl,by kernel_rfl⟩
  · exact ⟨_,takes,Tryz.func213,by kernel_rfl,by kernel_rfl⟩
  · exact ⟨_,takes,Tryz.func214,by kernel_rfl,by kernel_rfl⟩
  · exact ⟨_,takes,Tryz.func215,by kernel_rfl,by kernel_rfl⟩
  · exact ⟨_,takes,Tryz.func216,by kernel_rfl,by kernel_rfl⟩
  · exact ⟨_,takes,Tryz.func217,by kernel_rfl,by kernel_rfl⟩
  · exact ⟨_,takes,Tryz.func218,by kernel_rfl,by kernel_rfl⟩
  · exact ⟨_,takes,Tryz.func219,by kernel_rfl,by kernel_rfl⟩
  · exact ⟨_,takes,Tryz.func220,by kernel_rfl,by kernel_rfl⟩
  · exact ⟨_,takes,Tryz.func221,by kernel_rfl,by kernel_rfl⟩
  · exact ⟨_,takes,Tryz.func188,by kernel_rfl,by kernel_rfl⟩
  · exact ⟨_,takes,Tryz.func110,by kernel_rfl,by kernel_rfl⟩
  · exact ⟨_,takes,Tryz.func115,by kernel_rfl,by kernel_rfl⟩
  · exact ⟨_,takes,Tryz.func114,by kernel_rfl,by kernel_rfl⟩
  · exact ⟨_,takes,Tryz.func121,by kernel_rfl,by kernel_rfl⟩
  · exact ⟨_,takes,Tryz.func120,by kernel_rfl,by kernel_rfl⟩
  · exact ⟨_,takes,Tryz.func124,by kernel_rfl,by kernel_rfl⟩
  · exact ⟨_,takes,Tryz.func123,by kernel_rfl,by kernel_rfl⟩
  · exact ⟨_,takes,Tryz.func132,by kernel_rfl,by kernel_rfl⟩
  · exact ⟨_,takes,Tryz.func131,by kernel_rfl,by kernel_rfl⟩
  · exact ⟨_,takes,Tryz.func136,by kernel_rfl,by kernel_rfl⟩
  · exact ⟨_,takes,Tryz.func135,by kernel_rfl,by kernel_rfl⟩
  · exact ⟨_,takes,Tryz.func139,by kernel_rfl,by kernel_rfl⟩
  · exact ⟨_,takes,Tryz.func190,by kernel_rfl,by kernel_rfl⟩
  · exact ⟨_,takes,Tryz.func189,by kernel_rfl,by kernel_rfl⟩
  · exact ⟨_,takes,Tryz.func234,by kernel_rfl,by kernel_rfl⟩
  · exact ⟨_,takes,Tryz.func235,by kernel_rfl,by kernel_rfl⟩
  · exact ⟨_,takes,Tryz.func236,by kernel_rfl,by kernel_rfl⟩
  · exact ⟨_,takes,Tryz.func237,by kernel_rfl,by kernel_rfl⟩
  · exact ⟨_,takes,Tryz.func238,by kernel_rfl,by kernel_rfl⟩
  · exact ⟨_,takes,Tryz.func244,by kernel_rfl,by kernel_rfl⟩
  · exact ⟨_,takes,Tryz.func245,by kernel_rfl,by kernel_rfl⟩
  · exact ⟨_,takes,Tryz.func246,by kernel_rfl,by kernel_rfl⟩
  · exact ⟨_,takes,Tryz.func247,by kernel_rfl,by kernel_rfl⟩
  · exact ⟨_,takes,Tryz.func117,by kernel_rfl,by kernel_rfl⟩
  · exact ⟨_,takes,Tryz.func118,by kernel_rfl,by kernel_rfl⟩
  · exact ⟨_,takes,Tryz.func133,by kernel_rfl,by kernel_rfl⟩
  · exact ⟨_,takes,Tryz.func137,by kernel_rfl,by kernel_rfl⟩
  · exact ⟨_,takes,Tryz.func184,by kernel_rfl,by kernel_rfl⟩
  · exact ⟨_,takes,Tryz.func183,by kernel_rfl,by kernel_rfl⟩
  · exact ⟨_,takes,Tryz.func254,by kernel_rfl,by kernel_rfl⟩
  · exact ⟨_,takes,Tryz.func255,by kernel_rfl,by kernel_rfl⟩
  · exact ⟨_,takes,Tryz.func256,by kernel_rfl,by kernel_rfl⟩
  · exact ⟨_,takes,Tryz.func257,by kernel_rfl,by kernel_rfl⟩
  · exact ⟨_,takes,Tryz.func263,by kernel_rfl,by kernel_rfl⟩
  · exact ⟨_,takes,Tryz.func264,by kernel_rfl,by kernel_rfl⟩
  · exact ⟨_,takes,Tryz.func179,by kernel_rfl,by kernel_rfl⟩
  · exact ⟨_,takes,Tryz.func180,by kernel_rfl,by kernel_rfl⟩
  · exact ⟨_,takes,Tryz.func181,by kernel_rfl,by kernel_rfl⟩
  · exact ⟨_,takes,Tryz.func182,by kernel_rfl,by kernel_rfl⟩
  · exact ⟨_,takes,Tryz.func186,by kernel_rfl,by kernel_rfl⟩
  · exact ⟨_,takes,Tryz.func185,by kernel_rfl,by kernel_rfl⟩
  · exact ⟨_,takes,Tryz.func268,by kernel_rfl,by kernel_rfl⟩
  · exact ⟨_,takes,Tryz.func222,by kernel_rfl,by kernel_rfl⟩
  · exact ⟨_,takes,Tryz.func224,by kernel_rfl,by kernel_rfl⟩
  · exact ⟨_,takes,Tryz.func225,by kernel_rfl,by kernel_rfl⟩
  · exact ⟨_,takes,Tryz.func226,by kernel_rfl,by kernel_rfl⟩
  · exact ⟨_,takes,Tryz.func228,by kernel_rfl,by kernel_rfl⟩
  · exact ⟨_,takes,Tryz.func227,by kernel_rfl,by kernel_rfl⟩
  · exact ⟨_,takes,Tryz.func187,by kernel_rfl,by kernel_rfl⟩
  · exact ⟨_,takes,Tryz.func248,by kernel_rfl,by kernel_rfl⟩
  · exact ⟨_,takes,Tryz.func249,by kernel_rfl,by kernel_rfl⟩
  · exact ⟨_,takes,Tryz.func250,by kernel_rfl,by kernel_rfl⟩
  · exact ⟨_,takes,Tryz.func230,by kernel_rfl,by kernel_rfl⟩
  · exact ⟨_,takes,Tryz.func229,by kernel_rfl,by kernel_rfl⟩
  · exact ⟨_,takes,Tryz.func265,by kernel_rfl,by kernel_rfl⟩
  · exact ⟨_,takes,Tryz.func266,by kernel_rfl,by kernel_rfl⟩
  · exact ⟨_,takes,Tryz.func251,by kernel_rfl,by kernel_rfl⟩
end Go.Proofs.YtleomfgijkapfaaGreatDoor
end
section
namespace Go.Proofs.YtleomfgijkapfaaGreatDoor.Abs
open Go Go.RowKit
open Nat (reduceAdd reduceLeDiff)
def AV.apart:AV→Bool
 | .agg cs=>cs.all AV.noId1
 | v=>v.noId1
theorem Rep.still' {Γ:Yl}{w:World}{x:AV}{v:Value}(h:Rep Γ w x v)(hx:x.apart=true):Rep still w x v:=by
 have hf:WQ Γ w still w:=fun b o v _ h2=>⟨trivial,h2⟩
 cases h with
 | agg cells cv hs h1 hn hr =>
  simp only [AV.apart,List.all_eq_true] at hx
  exact .agg cells cv hs h1 hn fun j c hc=>(hr j c hc).noId hf (hx c (List.mem_of_getElem? hc))
 | undef=>cases hx
 | tup=>cases hx
 | arr=>cases hx
 | ptr=>cases hx
 | map=>cases hx
 | bool b=>exact .bool b
 | int k n=>exact .int k n
 | str s=>exact .str s
 | nilp=>exact .nilp
 | nilf=>exact .nilf
 | nilm=>exact .nilm
 | nili=>exact .nili
 | nils k=>exact .nils k
 | lstNil k=>exact .lstNil k
 | lstE k A cap=>exact .lstE k A cap
 | lst k rows b o cap cv hlen hk hc hr=>exact (Rep.lst k rows b o cap cv hlen hk hc hr).noId hf rfl
 | own k rows v h=>exact (Rep.own k rows v h).noId hf rfl
 | ref cells b o cv hc hr=>exact (Rep.ref cells b o cv hc hr).noId hf rfl
 | fn f fst caps fv cv hs1 hr1 hs hr=>exact (Rep.fn f fst caps fv cv hs1 hr1 hs hr).noId hf hx
theorem Zuq {P:Program}{W:World}{C:Cfg}(h:ZlI P W C){n:Nat}{f:FuncId}{avs:List AV}{v:AV}{hp:List Zw}{e:Eff}(hev:Zb C n f avs []=some (v,hp,e))(hv:v.flat1=true){args:Array Value}
  (hs:args.size=avs.length) (hr:∀ (j:Nat) (x:AV),avs[j]? = some x→Rep still W x (args.getD j Go.undef)∧∀ k r,x≠.own k r) :
  Calls P f args W fun e W'=>∃ cv,e=.returned cv∧Below W.heap.size W W'∧Rep still W' v cv:=by
 obtain ⟨_,hw⟩:=ZaO h n f avs [] _ _ _ hev still W args (Zl7 W) Zdx hs fun j x hx=>⟨(hr j x hx).1,.of_ne (hr j x hx).2⟩
 refine hw.mono fun en W' ⟨cv,hv',Γ',r1,r2,_,r4,_⟩=>?_
 subst hv'
 exact ⟨cv,rfl,⟨r4.os,r4.tape,r4.output,r4.size,fun b hb=>(r4.keep b hb trivial).2⟩,Pz r2 hv⟩
def allEq {α:Type}(f:α→α→Bool):List α→List α→Bool
 | [],[]=>true
 | a :: l,b :: m=>f a b && allEq f l m
 | _,_=>false
theorem Zbp {α:Type}{f:α→α→Bool}(hf:∀ a b,f a b=true→a=b):∀ {l m:List α},allEq f l m=true→l=m
 | [],[],_=>rfl
 | a :: l,b :: m,h=>by
  simp only [allEq,Bool.and_eq_true] at h
  rw [hf a b h.1,Zbp hf h.2]
 | [],_ :: _,h=>by cases h
 | _ :: _,[],h=>by cases h
def eqA:Nat→AV→AV→Bool
 | n + 1,.str a,.str b=>a == b
 | n + 1,.int k a,.int l b=>decide (k=l) && decide (a=b)
 | n + 1,.bool a,.bool b=>a == b
 | n + 1,.lst k r,.lst l q=>k == l && allEq (allEq (eqA n)) r q
 | n + 1,.agg r,.agg q=>allEq (eqA n) r q
 | _,_,_=>false
theorem ZvY:∀ (n:Nat) (a b:AV),eqA n a b=true→a=b:=by
 intro n
 induction n with
 | zero=>intro a b h; unfold eqA at h; cases h
 | succ n ih =>
  intro a b h
  cases a <;> cases b <;> simp only [eqA,Bool.false_eq_true,Bool.and_eq_true,decide_eq_true_eq,beq_iff_eq] at h
  case bool.bool=>rw [h]
  case int.int=>rw [h.1,h.2]
  case str.str=>rw [h]
  case lst.lst=>rw [h.1,Zbp (fun x y hxy=>Zbp ih hxy) h.2]
  case agg.agg=>rw [Zbp ih h]
end Go.Proofs.YtleomfgijkapfaaGreatDoor.Abs
end
section
namespace Go.Proofs.YtleomfgijkapfaaGreatDoor.Abs
open Go Go.RowKit
open Nat (reduceAdd reduceLeDiff)
section
variable {P:Program}{G:Nat→Option (List AV)}{call:FuncId→List AV→List Zw→Option (AV×List Zw×Eff)}{E:Entry}{s s':Zn}{Γ:Yl}{a:Act}{w:World}{hand:Nat→Bool}{draw:Bool}
theorem Zte (hG:GOk G E.W0)(hS:YS P E.W0 call){ops:Array Oper}{o:Oper}{g:Option (Nat×Bool)}{u:Zn}{K:Act→World→Prop}{Q:Exit→Act→World→Prop}(h2:Ff ops o.guard=some g)
  (he:Yj G call ⟨o.dst,(cOp P hand draw o).getD .bad,g⟩ s=some u) (hI:Inv E s Γ a w) (hK:∀ Γ a w,Inv E u Γ a w→K a w) :
  if Region.wanted o (yielded ops a.tmps)=true then o.wp P a w K Q∨(o.asks P a w∧LetsOut Q) else K (a.put o.dst Go.undef) w:=by
 simp only [Yj] at he
 split at he <;> first | (cases he; done) | skip
 ·rename_i hw
  rw [Uz hI h2 hw]
  split at he <;> first | (cases he; done) | skip
  rename_i v s2 hev
  obtain rfl:=Option.some.inj he
  simp only [if_true]
  refine .inl (Ztd hG hS hI (Ho hev) hev fun Γ' cv w' i1 r1 o1=>?_)
  obtain ⟨Γ2,i2⟩:=i1.put o.dst r1 o1
  exact hK _ _ _ i2
 ·rename_i hw
  rw [Uz hI h2 hw]
  obtain rfl:=Option.some.inj he
  simp only [Bool.false_eq_true,if_false]
  obtain ⟨Γ2,i2⟩:=hI.put o.dst (v := .undef) (cv := Go.undef) .undef (.of_ne (by simp))
  exact hK _ _ _ i2
theorem Zve (hG:GOk G E.W0)(hS:YS P E.W0 call)(hpure:∀ f args hp v hp' e,call f args hp=some (v,hp',e)→hp'=hp∧e=none){ops:Array Oper}{bops:List YZ}{Q:Exit→Act→World→Prop}{sF:Zn}(hc:Oo P hand draw ops ops.toList=some bops)(hd:ZjF ops bops=true)(hQ:∀ Γ a w,Inv E sF Γ a w→Q .normal a w) :
  ∀ (fuel:Nat) {listed:Array Bool} {s:Zn} {Γ:Yl} {a:Act} {w:World},listed.size=ops.size→TW ops listed→(VW ops.size listed).length=fuel→YM G call ((VW ops.size listed).map fun i=>bops.getD i ⟨none,.bad,none⟩) s=some sF→Inv E s Γ a w→wpAny P .any ops Q fuel listed a w:=by
 simp only [ZjF,Bool.and_eq_true,List.all_eq_true,List.mem_range] at hd
 obtain ⟨⟨hord,hnh⟩,hpair⟩:=hd
 obtain ⟨hlen,hget⟩:=Hz hc
 intro fuel
 induction fuel with
 | zero =>
  intro listed s Γ a w hsz hcl hl h hI
  have hn:=List.eq_nil_of_length_eq_zero hl
  rw [hn] at h
  obtain rfl:=Option.some.inj (by simpa [YM] using h:some s=some sF)
  refine ⟨List.eq_nil_iff_forall_not_mem.2 fun i hi=>?_,hQ _ _ _ hI⟩
  obtain ⟨h1,o,h2,_⟩:=mem_ready.1 hi
  have:i ∈ VW ops.size listed:=QX.2 ⟨(Array.getElem?_eq_some_iff.1 h2).1,h1⟩
  rw [hn] at this
  cases this
 | succ fuel ih =>
  intro listed s Γ a w hsz hcl hl h hI
  have hlisted:∀ j,j < ops.size→listed.getD j true≠false→listed.getD j false=true:=fun j hj h=>by
   have hj':j < listed.size:=by omega
   simp [hj'] at h ⊢; exact h
  refine ⟨fun hr=>?_,fun i hi=>?_⟩
  ·obtain ⟨i,r,hir⟩:∃ i r,VW ops.size listed=i :: r:=by
    cases hx:VW ops.size listed with
    | nil=>rw [hx] at hl; cases hl
    | cons i r=>exact ⟨i,r,rfl⟩
   have him:=QX.1 (show i ∈ VW ops.size listed by rw [hir]; exact List.mem_cons_self ..)
   have hoi:ops[i]? = some ops[i]:=Array.getElem?_eq_getElem him.1
   have hready:i ∈ Region.ready .any ops listed:=by
    refine mem_ready.2 ⟨him.2,_,hoi,fun e he hb=>?_⟩
    have:=hord i him.1
    rw [hoi] at this
    have hlt:=Array.all_eq_true'.1 this e he
    rw [hb] at hlt
    simp only [Bool.not_true,Bool.false_or,decide_eq_true_eq] at hlt
    refine hlisted e.on (by omega) fun hun=>?_
    have hm:=QX.2 ⟨show e.on < ops.size by omega,hun⟩
    rw [hir] at hm
    have hs:=UB ops.size listed
    rw [hir] at hs
    rcases List.mem_cons.1 hm with he | hm
    ·omega
    ·have:=(List.pairwise_cons.1 hs).1 _ hm
     omega
   rw [hr] at hready
   cases hready
  ·obtain ⟨hun,o,ho,hdeps⟩:=mem_ready.1 hi
   have hin:=(Array.getElem?_eq_some_iff.1 ho).1
   obtain ⟨l1,l2,hsplit⟩:=List.append_of_mem (QX.2 ⟨hin,hun⟩)
   have hs:=UB ops.size listed
   rw [hsplit] at hs
   obtain ⟨g,hg1,hg2⟩:=hget i o (by simpa using ho)
   have hbi:bops.getD i ⟨none,.bad,none⟩=⟨o.dst,(cOp P hand draw o).getD .bad,g⟩:=by rw [List.getD_eq_getElem?_getD,hg2]; rfl
   have hcomm:∀ x ∈ l1.map (fun i=>bops.getD i ⟨none,.bad,none⟩),Zm6 x ⟨o.dst,(cOp P hand draw o).getD .bad,g⟩=true:=fun x hx=>by
    obtain ⟨j,hj,rfl⟩:=List.mem_map.1 hx
    have hji:j < i:=(List.pairwise_append.1 hs).2.2 j hj i (List.mem_cons_self ..)
    have hjm:=QX.1 (show j ∈ VW ops.size listed by rw [hsplit]; exact List.mem_append_left _ hj)
    have:=hpair i hin j hji
    rw [Bool.or_eq_true] at this
    rcases this with h1 | h1
    ·exfalso
     have h2:=hcl.ready ho hdeps (Zck h1)
     rw [P5 hjm.2] at h2
     cases h2
    ·rw [hg2] at h1
     split at h1
     ·rename_i x y hx hy
      cases hy
      rw [List.getD_eq_getElem?_getD,hx]
      exact h1
     ·cases h1
   rw [hsplit,List.map_append,List.map_cons,hbi] at h
   obtain ⟨u,hu1,hu2⟩:=bubble hpure hcomm h
   rw [← List.map_append,← L9 hsplit (by omega)] at hu2
   have hlen2:(VW ops.size (listed.setIfInBounds i true)).length=fuel:=by
    rw [L9 hsplit (by omega)]
    rw [hsplit] at hl
    simp at hl ⊢
    omega
   unfold wpOp
   simp only [ho]
   exact Zte hG hS hg1 hu1 hI fun Γ' a' w' hI'=>ih (by simp [hsz]) (hcl.list ho hdeps) hlen2 hu2 hI'
end
def LY (P:Program)(takes:FuncId→List Nat)(res:List Nat):Code→Option Zd
 | .skip=>some .skip
 | .region _ ops false=>(Oo P (fun t=>(handed takes res ops.toList).contains t) false ops ops.toList).map (.region false)
 | .region _ ops true=>match Oo P (fun t=>(handed takes res ops.toList).contains t) false ops ops.toList with
  | some bops=>if ZjF ops bops then some (.region true bops) else if ZkJ ops bops then some (.regionB bops) else some .bad
  | _=>none
 | .seq a b=>match LY P takes res a,LY P takes res b with
  | some a,some b=>some (.seq a b)
  | _,_=>none
 | .cond c a b=>match YV P 0 c,LY P takes res a,LY P takes res b with
  | some c,some a,some b=>some (.cond c a b)
  | _,_,_=>none
 | .block id c=>(LY P takes res c).map (.block id)
 | .loop c=>(LY P takes res c).map .loop
 | .scope c=>(LY P takes res c).map .scope
 | .exit id=>some (.exit id)
 | .ret=>some .ret
 | .label _=>some .skip
 | _=>some .bad
def ZzP (P:Program)(takes:FuncId→List Nat)(fn:Func):Option AFn :=
 match fn.body,Zmh P fn.results.toList with
 | some c,some rs=>(LY P takes (Zl6 fn.results.toList) c).map fun ac=>⟨fn.ntmps,rs,ac,!(takes ES).isEmpty⟩
 | _,_=>none
section
variable (G:Nat→Option (List AV))(call:FuncId→List AV→List Zw→Option (AV×List Zw×Eff))(L:Nat)
def WJ:Zd→Zn→Option (SE×Zn)
 | .skip,s=>some (.normal,s)
 | .region false ops,s=>(YM G call ops s).map (.normal,·)
 | .region true ops,s=>(YM G (Ro call) ops s).map (.normal,·)
 | .regionB ops,s=>(YM G (We call) ops s).map (.normal,·)
 | .seq a b,s=>match WJ a s with
  | some (.normal,s')=>WJ b s'
  | r=>r
 | .cond c a b,s=>match opnd G s.sl c with
  | some (.bool true)=>WJ a s
  | some (.bool false)=>WJ b s
  | _=>none
 | .block id c,s=>match WJ c s with
  | some (.exit i,s')=>if i=id then some (.normal,s') else some (.exit i,s')
  | r=>r
 | .loop c,s=>iter (WJ c) L s
 | .scope c,s=>WJ c s
 | .exit id,s=>some (.exit id,s)
 | .ret,s=>some (.ret,s)
 | .bad,_=>none
end
section
variable {P:Program}{G:Nat→Option (List AV)}{call:FuncId→List AV→List Zw→Option (AV×List Zw×Eff)}{E:Entry}
theorem Zur (hm:P.follows .mixedOrders=true)(hG:GOk G E.W0)(hS:YS P E.W0 call){takes:FuncId→List Nat}{res:List Nat}(L:Nat):∀ {c:Code} {ac:Zd} {s:Zn} {r:SE×Zn} {Γ:Yl} {a:Act} {w:World},
  LY P takes res c=some ac→WJ G call L ac s=some r→Inv E s Γ a w→c.wp P (Ends E r) a w:=by
 intro c
 induction c with
 | skip =>
  intro ac s r Γ a w hc h hI
  cases hc; cases h
  exact Go.wp_skip (.normal hI)
 | region id ops draw =>
  intro ac s r Γ a w hc h hI
  cases draw with
  | false =>
   simp only [LY] at hc
   obtain ⟨aops,h1,rfl⟩:=Option.map_eq_some_iff.1 hc
   simp only [WJ] at h
   obtain ⟨s1,h2,rfl⟩:=Option.map_eq_some_iff.1 h
   refine wp_region ?_
   rw [List.range_eq_range']
   have:=Zq1 hG hS (Q := Ends E (.normal,s1)) 0 (l := ops.toList) (by simp) h1 h2 hI fun Γ a w h=>.normal h
   simpa using this
  | true =>
   simp only [LY] at hc
   split at hc <;> try (cases hc; done)
   rename_i bops h1'
   split at hc
   ·rename_i hd
    cases hc
    simp only [WJ] at h
    obtain ⟨s1,h2,rfl⟩:=Option.map_eq_some_iff.1 h
    refine wp_region_any hm ?_
    have hb:Behind w { w with drawn:=w.drawn + 1 }:=⟨rfl,rfl,rfl,Nat.le_refl _,fun _ _=>rfl⟩
    have hr:VW ops.size (Array.replicate ops.size false)=List.range ops.size:=by
     unfold VW
     refine List.filter_eq_self.2 fun i hi=>?_
     simp only [List.mem_range] at hi
     simp [hi]
    have hmap:(List.range ops.size).map (fun i=>bops.getD i ⟨none,.bad,none⟩)=bops:=by
     have hl:ops.size=bops.length:=by simpa using (Hz h1').1
     rw [hl]
     refine List.ext_getElem? fun i=>?_
     rw [List.getElem?_map]
     by_cases hi:i < bops.length
     ·rw [List.getElem?_range hi,Option.map_some,List.getD_eq_getElem?_getD,List.getElem?_eq_getElem hi]; rfl
     ·rw [List.getElem?_eq_none (by simpa using hi),List.getElem?_eq_none (by omega)]; rfl
    exact Zve hG (Zg6 hS) Zse (Q := Ends E (.normal,s1)) h1' hd (fun Γ a w h=>.normal h) ops.size (by simp) (.start ops _) (by rw [hr]; simp) (by rw [hr,hmap]; exact h2) (hb.inv hI)
   ·split at hc
    ·rename_i hd
     cases hc
     simp only [WJ] at h
     obtain ⟨s1,h2,rfl⟩:=Option.map_eq_some_iff.1 h
     refine wp_region_any hm ?_
     have hb:Behind w { w with drawn:=w.drawn + 1 }:=⟨rfl,rfl,rfl,Nat.le_refl _,fun _ _=>rfl⟩
     exact Zqz hG (Zmc hS) (Q := Ends E (.normal,s1)) h1' hd (fun Γ a w h=>.normal h) h2 (hb.inv hI)
    ·cases hc; cases h
 | seq x y ihx ihy =>
  intro ac s r Γ a w hc h hI
  simp only [LY] at hc
  split at hc <;> try (cases hc; done)
  rename_i ax ay hx hy
  obtain rfl:=Option.some.inj hc
  simp only [WJ] at h
  refine Go.wp_seq ?_
  split at h
  ·rename_i s1 h1
   refine Go.wp_mono (ihx hx h1 hI) fun e a' w' he=>?_
   obtain ⟨k1,Γ',i1⟩:=he
   cases e <;> first | exact k1.elim | skip
   exact ihy hy h i1
  ·rename_i hne
   refine Go.wp_mono (ihx hx h hI) fun e a' w' he=>?_
   cases e <;> first | exact he | skip
   obtain ⟨k1,_⟩:=he
   obtain ⟨q,s1⟩:=r
   cases q <;> first | exact k1.elim | skip
   exact absurd h (hne s1)
 | cond c x y ihx ihy =>
  intro ac s r Γ a w hc h hI
  simp only [LY] at hc
  split at hc <;> try (cases hc; done)
  rename_i c' ax ay hcc hx hy
  obtain rfl:=Option.some.inj hc
  simp only [WJ] at h
  split at h <;> try (cases h; done)
  ·rename_i hb
   have k:=(ZO hG hI hcc hb).1
   generalize hq:a.eval c=q at k
   cases k
   exact Go.wp_cond_true hq (ihx hx h hI)
  ·rename_i hb
   have k:=(ZO hG hI hcc hb).1
   generalize hq:a.eval c=q at k
   cases k
   exact Go.wp_cond_false hq (ihy hy h hI)
 | block id c ih =>
  intro ac s r Γ a w hc h hI
  simp only [LY] at hc
  obtain ⟨ax,hx,rfl⟩:=Option.map_eq_some_iff.1 hc
  simp only [WJ] at h
  refine Go.wp_block ?_
  split at h
  ·rename_i i s1 h1
   split at h
   ·rename_i hi
    obtain rfl:=Option.some.inj h
    refine Go.wp_mono (ih hx h1 hI) fun e a' w' he=>?_
    obtain ⟨k1,Γ',i1⟩:=he
    cases e <;> first | exact k1.elim | skip
    rename_i j
    simp only [Exit.inBlock]
    rw [if_pos (by rw [← hi]; exact (show i=j from k1).symm)]
    exact .normal i1
   ·rename_i hi
    obtain rfl:=Option.some.inj h
    refine Go.wp_mono (ih hx h1 hI) fun e a' w' he=>?_
    obtain ⟨k1,Γ',i1⟩:=he
    cases e <;> first | exact k1.elim | skip
    rename_i j
    simp only [Exit.inBlock]
    rw [if_neg (by rw [← (show i=j from k1)]; exact hi)]
    exact ⟨k1,Γ',i1⟩
  ·rename_i hne
   refine Go.wp_mono (ih hx h hI) fun e a' w' he=>?_
   cases e <;> first | exact he | skip
   obtain ⟨k1,_⟩:=he
   obtain ⟨q,s1⟩:=r
   cases q <;> first | exact k1.elim | skip
   exact absurd h (hne _ s1)
 | loop c ih =>
  intro ac s r Γ a w hc h hI
  simp only [LY] at hc
  obtain ⟨ax,hx,rfl⟩:=Option.map_eq_some_iff.1 hc
  simp only [WJ] at h
  exact wp_loop_rounds L (ZoG (fun h1 h2=>ih hx h1 h2) L h hI)
 | scope c ih =>
  intro ac s r Γ a w hc h hI
  simp only [LY] at hc
  obtain ⟨ax,hx,rfl⟩:=Option.map_eq_some_iff.1 hc
  simp only [WJ] at h
  refine Go.wp_scope_straight (Go.wp_mono (ih hx h hI) fun e a' w' he=>?_)
  cases e <;> first | exact he | skip
  obtain ⟨k1,_⟩:=he
  obtain ⟨q,s1⟩:=r
  cases q <;> exact k1.elim
 | exit id =>
  intro ac s r Γ a w hc h hI
  cases hc; cases h
  exact Go.wp_exit ⟨rfl,Γ,hI⟩
 | ret =>
  intro ac s r Γ a w hc h hI
  cases hc; cases h
  exact Go.wp_ret ⟨trivial,Γ,hI⟩
 | label l =>
  intro ac s r Γ a w hc h hI
  cases hc; cases h
  exact Go.wp_label (.normal hI)
 | _ =>
  intro ac s r Γ a w hc h
  cases hc; cases h
end
section
variable {G:Nat→Option (List AV)}{call:FuncId→List AV→List Zw→Option (AV×List Zw×Eff)}
theorem ZmH (L:Nat):∀ {c:Zd} {s:Zn} {r:SE×Zn},WJ G call L c s=some r→r.2.bs=s.bs:=by
 intro c
 induction c with
 | skip=>intro s r h; cases h; rfl
 | region draw ops =>
  intro s r h
  cases draw with
  | false =>
   simp only [WJ] at h
   obtain ⟨s1,h1,rfl⟩:=Option.map_eq_some_iff.1 h
   exact MG h1
  | true =>
   simp only [WJ] at h
   obtain ⟨s1,h1,rfl⟩:=Option.map_eq_some_iff.1 h
   exact MG h1
 | regionB ops =>
  intro s r h
  simp only [WJ] at h
  obtain ⟨s1,h1,rfl⟩:=Option.map_eq_some_iff.1 h
  exact MG h1
 | seq x y ihx ihy =>
  intro s r h
  simp only [WJ] at h
  split at h
  ·rename_i s1 h1
   rw [ihy h]; exact ihx h1
  ·exact ihx h
 | cond c x y ihx ihy =>
  intro s r h
  simp only [WJ] at h
  split at h <;> try (cases h; done)
  ·exact ihx h
  ·exact ihy h
 | block id c ih =>
  intro s r h
  simp only [WJ] at h
  split at h
  ·rename_i i s1 h1
   have:=ih h1
   split at h <;> (obtain rfl:=Option.some.inj h; exact this)
  ·exact ih h
 | loop c ih =>
  intro s r h
  simp only [WJ] at h
  exact ZoF ih L h
 | scope c ih=>intro s r h; simp only [WJ] at h; exact ih h
 | exit id=>intro s r h; cases h; rfl
 | ret=>intro s r h; cases h; rfl
 | bad=>intro s r h; cases h
end
def ZgW (C:Cfg)(S:List Nat)(n:Nat)(fn:AFn)(args:List AV)(hp:List Zw):Option (AV×List Zw×Eff) :=
 match WJ C.G (ZoK S (Zb C n)) C.L fn.code ⟨args ++ List.replicate (fn.ntmps - args.length) .undef,hp,none,hp.length⟩ with
 | some (.exit _,_)=>none
 | some (_,s)=>match Rw s fn.results with
  | some v=>some (if fn.keep then (v.nm,s.hp,s.ef) else finish v s hp)
  | none=>none
 | none=>none
theorem Zrh {P:Program}{W0:World}{C:Cfg}{S:List Nat}(h:ZlI P W0 C)(n:Nat){f:FuncId}{fn:Func}{takes:FuncId→List Nat}{af:AFn}(hf:P.funcs[f]? = some fn)(hname:(fn.name == "runtime.NumGoroutine")=false)(hcf:ZzP P takes fn=some af) :
  YS P W0 fun g args hp=>if g=f then ZgW C S n af args hp else none:=by
 intro g args hp v hp' e hc Γ w xs hr ht hs hx
 replace hc:(if g=f then ZgW C S n af args hp else none)=some (v,hp',e):=hc
 split at hc
 case isFalse=>cases hc
 rename_i hgf
 subst hgf
 have ih:=ZuM S (ZaO h n)
 unfold ZgW at hc
 unfold ZzP at hcf
 split at hcf <;> first | (cases hcf; done) | skip
 rename_i c rs hb hrs
 obtain ⟨ac,hac,rfl⟩:=Option.map_eq_some_iff.1 hcf
 split at hc
 ·cases hc
 ·rename_i x s hne hev
  split at hc <;> try (cases hc; done)
  rename_i u hu
  have hfin:=Option.some.inj hc
  refine ⟨ZbT hf hname hb xs w,?_⟩
  have hbs:s.bs=hp.length:=ZmH C.L hev
  have hI:Inv ⟨W0,Γ,w⟩ ⟨args ++ List.replicate (fn.ntmps - args.length) .undef,hp,none,hp.length⟩ Γ { tmps := xs ++ Array.replicate (fn.ntmps - xs.size) Go.undef,defers := [] } w:=by
   have get:∀ (t:Nat) (y:AV),(args ++ List.replicate (fn.ntmps - args.length) AV.undef)[t]? = some y→(args[t]? = some y∧(xs ++ Array.replicate (fn.ntmps - xs.size) Go.undef).getD t Go.undef=xs.getD t Go.undef)∨(y=.undef∧(xs ++ Array.replicate (fn.ntmps - xs.size) Go.undef).getD t Go.undef=Go.undef):=by
    intro t y hy
    rw [List.getElem?_append] at hy
    split at hy
    ·rename_i hlt
     refine .inl ⟨hy,?_⟩
     rw [Array.getD_eq_getD_getElem?,Array.getD_eq_getD_getElem?,Array.getElem?_append_left (by omega)]
    ·rename_i hge
     have hm:=List.mem_of_getElem? hy
     have:=List.eq_of_mem_replicate hm
     refine .inr ⟨this,?_⟩
     have hlt:=ZA hy
     simp only [List.length_replicate] at hlt
     rw [Array.getD_eq_getD_getElem?,Array.getElem?_append_right (by omega),Array.getElem?_replicate,if_pos (by omega)]
     rfl
   refine ⟨rfl,⟨by simp [hs],fun t y hy=>?_,fun t y hy=>?_⟩,hr,.refl _ _ _,fun b g hb=>hr.lt b g hb,fun b m g i hb=>ht.cell b m g i hb,Nat.le_refl _,fun _ _ hb _=>hb⟩
   ·rcases get t y hy with ⟨h1,h2⟩ | ⟨rfl,h2⟩
    ·rw [h2]; exact (hx t y h1).1
    ·rw [h2]; exact .undef
   ·rcases get t y hy with ⟨h1,h2⟩ | ⟨rfl,h2⟩
    ·rw [h2]; exact (hx t y h1).2
    ·exact .of_ne (by simp)
  have hw:=Zur h.mixed h.globals ih C.L hac hev hI
  refine calls_of_wp hf hb (Go.wp_mono hw fun en a' w' he=>?_)
  obtain ⟨k1,Γ',i1⟩:=he
  have fin:a'.defers=[]∧∃ cv,(results fn a'.tmps).run P w'=.ok cv w'∧∃ v',Ending.returned cv=.returned v'∧∃ Γ',RW W0 Γ' w' hp'∧Rep Γ' w' v v'∧OwnAt Γ' w' .res v v'∧Frame Γ w Γ' w' e∧hp.length≤hp'.length∧∀ b g,Γ' b=.own g→g < hp.length→Γ b=.own g:=by
   obtain ⟨cv,Γ2,q1,q2,q3,q4,q5,q6⟩:=Zw3 i1 hrs hu
   obtain ⟨Γ3,p1,p2,p3,p4,p5⟩:=Zha hr hbs (by rw [hbs]; have:=i1.le; simpa [hbs] using this) (fun b m g i hb=>by rw [hbs]; exact ht.cell b m g i hb) q2 q3 q6 q4 q5 hfin
   exact ⟨i1.defers,cv,q1,cv,rfl,Γ3,p1,p2,p3,p4,p5⟩
  cases x with
  | exit i=>exact (hne i rfl).elim
  | normal=>cases en <;> first | exact k1.elim | exact fin
  | ret=>cases en <;> first | exact k1.elim | exact fin
 ·cases hc
theorem ZzG {P:Program}{W:World}{C:Cfg}{S:List Nat}(h:ZlI P W C){n:Nat}{f:FuncId}{fn:Func}{takes:FuncId→List Nat}{af:AFn}(hf:P.funcs[f]? = some fn)(hname:(fn.name == "runtime.NumGoroutine")=false)(hcf:ZzP P takes fn=some af)
  {hp:List Zw} {e:Eff} (hev:ZgW C S n af [] []=some (.bool true,hp,e)):Calls P f #[] W fun e W'=>e=.returned (.bool true)∧Below W.heap.size W W':=by
 obtain ⟨_,hw⟩:=Zrh h n hf hname hcf f [] [] (.bool true) hp e (by simpa using hev) still W #[] (Zl7 W) Zdx rfl fun j x hx=>by simp at hx
 refine hw.mono fun en W' ⟨cv,hv,Γ',r1,r2,_,r4,_⟩=>?_
 subst hv
 cases r2
 exact ⟨rfl,r4.os,r4.tape,r4.output,r4.size,fun b hb=>(r4.keep b hb trivial).2⟩
end Go.Proofs.YtleomfgijkapfaaGreatDoor.Abs
end
section
namespace Go.Proofs.YtleomfgijkapfaaGreatDoor
open Go Go.Proofs.YtleomfgijkapfaaGreatDoor.Abs
set_option maxRecDepth 100000
set_option maxHeartbeats 0
def ZtS:FuncId→List Nat:=fun _=>[]
def ZwG:FuncId→List Nat:=fun x=>if x=ES then [1000059,1000033,1000078] else []
def Zk1:Zd:=yQ [yC 0 yF] (yQ [yP 9 26 [],yP 10 26 [],yI 1 (.mk 25 [ye,(.own 14 []),(.own 3 [])]),yI 2 (.mk 25 [ye,(.own 14 []),(.own 3 [])]),yN (.st 3 (yV 1) (yV 9)),yN (.st 3 (yV 2) (yV 10))] (yQ [yH 11 1 2,yL 12 11,yI 13 (.ia (.slice 14) (yV 12) (yK 0)),yH 14 13 13,yL 15 14,yI 16 (.ia (.slice 4) (yV 15) (yK 0)),yH 17 3 16,yL 18 17,yI 19 (.ia (.slice 20) (yV 18) (yK 1)),yH 20 3 19,yN (.st 1 (yV 20) (yK 3))] (yQ [yH 21 1 1,yL 22 21,yI 23 (.ia (.slice 14) (yV 22) (yK 0)),yH 24 13 23,yL 25 24,yI 26 (.ia (.slice 4) (yV 25) (yK 0)),yD 27 4 26,yI 3 (.mk 32 [ye,y0,y0,(.own 20 [])]),yN (.st 4 (yV 3) (yV 27))] (.seq (.regionB [yD 28 4 3,yD 29 4 3,yI 4 (.mk 32 [ye,y0,y0,(.own 20 [])]),yI 5 (.mk 32 [ye,y0,y0,(.own 20 [])]),yN (.st 4 (yV 4) (yV 28)),yN (.st 4 (yV 5) (yV 29))]) (yQ [yH 30 3 3,yL 31 30,yI 32 (.slice (.slice 20) (yV 31) none (some (yK 1))),yH 33 3 4,yN (.stt (yV 33) 32)] (yQ [yH 34 3 3,yL 35 34,yI 36 (.ia (.slice 20) (yV 35) (yK 0)),yD 37 20 36,yI 38 (.build [y0,y0,y0,y0,y0,ye,y0,(.own 4 []),y0,ye,y0,(.own 4 []),(.own 4 []),y0,y0,y0,y0,(.own 1 []),(.own 1 []),yf] [(0,1,(yK 4)),(1,1,(yK 2))]),yI 39 (.lit 77 20 [(yV 37),(yV 38)]),yH 40 3 5,yN (.stt (yV 40) 39)] (yQ [yD 42 3 1,yP 43 22 [yA 42,yB (yK 0),yB (yK 1)],yM 41 43,yI 44 (.extract (yV 41) 0),yI 45 (.extract (yV 41) 1),yU 6 44,yU 7 45] (yQ [yD 46 4 5,yP 47 16 [yA 46],yU 8 47] (.seq (.region true [yD 48 3 1,yP 49 11 [yA 48],yX 50 .eql (yV 49) (yK 0),yM 51 50,yJ 52 (.lda 3 (yV 2)) 51 true,yJ 53 (.call (yG 11) [yA 52]) 51 true,yJ 54 (.bin .eql .prim (yV 53) (yK 16)) 51 true,yI 55 (.pick (yV 51) (yV 54) yF),yM 56 55,yJ 57 (.lda 3 (yV 1)) 56 true,yJ 58 (.lda 4 (yV 4)) 56 true,yJ 59 (.call (yG 14) [yA 57,yB (yK 0),yA 58]) 56 true,yJ 60 (.bin .eql .prim (yV 59) (yK 8)) 56 true,yI 61 (.pick (yV 56) (yV 60) yF),yM 62 61,yJ 63 (.lda 3 (yV 1)) 62 true,yJ 64 (.lda 4 (yV 5)) 62 true,yJ 65 (.call (yG 14) [yA 63,yB (yK 0),yA 64]) 62 true,yJ 66 (.bin .eql .prim (yV 65) (yK 2)) 62 true,yI 67 (.pick (yV 62) (yV 66) yF),yM 68 67,yJ 69 (.mv (yV 6)) 68 true,yJ 70 (.bin .eql .prim (yV 69) (yK 4)) 68 true,yI 71 (.pick (yV 68) (yV 70) yF),yM 72 71,yJ 73 (.mv (yV 7)) 72 true,yI 74 (.pick (yV 72) (yV 73) yF),yM 75 74,yJ 76 (.mv (yV 8)) 75 true,yJ 77 (.len .slice (yV 76)) 75 true,yJ 78 (.bin .eql .prim (yV 77) (yK 1)) 75 true,yI 79 (.pick (yV 75) (yV 78) yF),yM 80 79,yJ 81 (.mv (yV 8)) 80 true,yJ 82 (.ia (.slice 2) (yV 81) (yK 0)) 80 true,yJ 83 (.lda 2 (yV 82)) 80 true,yJ 84 (.build [y0,y0] [(0,1,(yK 1)),(1,1,(yK 2))]) 80 true,yJ 85 (.bin .eql (.struct [.int,.int]) (yV 83) (yV 84)) 80 true,yI 86 (.pick (yV 80) (yV 85) yF),yM 87 86,yJ 88 (.lda 4 (yV 4)) 87 true,yJ 89 (.call (yG 18) [yA 88]) 87 true,yJ 90 (.bin .eql .prim (yV 89) (yS [48,32,104,111,108,100,32,48,32,48,32,48,32,48,32,40,49,32,53,41,10])) 87 true,yI 91 (.pick (yV 87) (yV 90) yF),yM 92 91,yJ 93 (.lda 3 (yV 1)) 92 true,yJ 94 (.call (yG 26) []) 92 true,yJ 95 (.call (yG 21) [yA 93,yA 94]) 92 true,yI 96 (.pick (yV 92) (yV 95) yF),yM 97 96,yJ 98 (.lda 3 (yV 1)) 97 true,yJ 99 (.lda 3 (yV 2)) 97 true,yJ 100 (.call (yG 21) [yA 98,yA 99]) 97 true,yJ 101 (.un .not (yV 100)) 97 true,yI 102 (.pick (yV 97) (yV 101) yF),yU 0 102]) yr)))))))))
def Zbl:AFn:=⟨103,[.tmp 0],Zk1,false⟩
theorem ZlB:ZzP Tryz.prog ZtS Tryz.f10=some Zbl:=by kernel_rfl
theorem Zla:(Tryz.f10.name == "runtime.NumGoroutine")=false:=by kernel_rfl
end Go.Proofs.YtleomfgijkapfaaGreatDoor
end
section
namespace Go.Proofs.YtleomfgijkapfaaGreatDoor
open Go Go.Proofs.YtleomfgijkapfaaGreatDoor.Abs
set_option maxRecDepth 100000
set_option maxHeartbeats 0
def Zi1:Zd:=yQ [yI 0 (.mk 25 [ye,(.own 14 []),(.own 3 [])])] (yQ [yP 5 56 [yB (yK 5)],yI 6 (.build [y0,y0,y0,y0,y0,ye,y0,(.own 4 []),y0,ye,y0,(.own 4 []),(.own 4 []),y0,y0,y0,y0,(.own 1 []),(.own 1 []),yf] [(0,1,(yK 6)),(4,4,(yV 5))]),yP 7 56 [yB (yK 0)],yP 8 56 [yB (yK 1)],yI 9 (.lit 71 4 [(yV 8)]),yI 10 (.build [y0,y0,y0,y0,y0,ye,y0,(.own 4 []),y0,ye,y0,(.own 4 []),(.own 4 []),y0,y0,y0,y0,(.own 1 []),(.own 1 []),yf] [(0,1,(yK 14)),(1,1,(yK 1)),(2,1,(yK 0)),(3,1,(yK 4)),(4,4,(yV 7)),(12,1,(yV 9))]),yI 11 (.build [y0,y0,y0,y0,y0,ye,y0,(.own 4 []),y0,ye,y0,(.own 4 []),(.own 4 []),y0,y0,y0,y0,(.own 1 []),(.own 1 []),yf] [(0,1,(yK 19))]),yI 12 (.lita 77 20 [(yV 6),(yV 10),(yV 11)]),yI 13 (.build [ye,y0,y0,(.own 20 [])] [(0,1,(yS [106,111,98])),(1,1,(yK 1)),(2,1,(yK 2)),(3,1,(yV 12))]),yI 1 (.mk 32 [ye,y0,y0,(.own 20 [])]),yN (.st 4 (yV 1) (yV 13))] (yQ [yI 14 (.build [ye,y0] [(0,1,(yS [107])),(1,1,(yK 1))]),yI 15 (.lit 126 2 [(yV 14)]),yI 16 (.build [ye,(.own 2 []),(.own 2 []),(.own 21 [])] [(0,1,(yS [106,111,98])),(1,1,(yV 15))]),yI 17 (.lit 65 4 [(yV 16)]),yI 18 (.build [ye,(.own 3 []),(.own 17 []),(.own 3 []),(.own 3 []),(.own 1 []),(.own 1 []),(.own 1 []),(.own 1 []),(.own 1 []),(.own 4 []),(.own 5 []),(.own 3 [])] [(0,1,(yS [97])),(10,1,(yV 17))]),yI 2 (.mk 55 [ye,(.own 3 []),(.own 17 []),(.own 3 []),(.own 3 []),(.own 1 []),(.own 1 []),(.own 1 []),(.own 1 []),(.own 1 []),(.own 4 []),(.own 5 []),(.own 3 [])]),yN (.st 13 (yV 2) (yV 18))] (yQ [yD 19 13 2,yI 3 (.mk 55 [ye,(.own 3 []),(.own 17 []),(.own 3 []),(.own 3 []),(.own 1 []),(.own 1 []),(.own 1 []),(.own 1 []),(.own 1 []),(.own 4 []),(.own 5 []),(.own 3 [])]),yN (.st 13 (yV 3) (yV 19))] (yQ [yH 20 0 3,yN (.st 1 (yV 20) (yS [98]))] (yQ [yD 21 4 1,yI 4 (.mk 32 [ye,y0,y0,(.own 20 [])]),yN (.st 4 (yV 4) (yV 21))] (yQ [yI 22 (.build [y0,y0,y0,y0,y0,ye,y0,(.own 4 []),y0,ye,y0,(.own 4 []),(.own 4 []),y0,y0,y0,y0,(.own 1 []),(.own 1 []),yf] [(0,1,(yK 19))]),yI 23 (.lita 77 20 [(yV 22)]),yH 24 3 4,yN (.stt (yV 24) 23)] (yQ [yD 25 13 2,yD 26 4 1,yI 27 (.lita 32 4 [(yV 26)]),yI 28 (.build [ye,(.own 3 []),(.own 17 []),(.own 3 []),(.own 3 []),(.own 1 []),(.own 1 []),(.own 1 []),(.own 1 []),(.own 1 []),(.own 4 []),(.own 5 []),(.own 3 []),(.own 4 [])] [(0,13,(yV 25)),(13,1,(yV 27))]),yD 29 13 3,yD 30 4 4,yI 31 (.lita 32 4 [(yV 30)]),yI 32 (.build [ye,(.own 3 []),(.own 17 []),(.own 3 []),(.own 3 []),(.own 1 []),(.own 1 []),(.own 1 []),(.own 1 []),(.own 1 []),(.own 4 []),(.own 5 []),(.own 3 []),(.own 4 [])] [(0,13,(yV 29)),(13,1,(yV 31))]),yI 33 (.lita 58 14 [(yV 28),(yV 32)]),yI 34 (.build [y0,y0,y0] [(0,1,(yK 0)),(1,1,(yK 1)),(2,1,(yK 4))]),yI 35 (.lit 60 3 [(yV 34)]),yI 36 (.build [ye,(.own 14 []),(.own 3 [])] [(0,1,(yS [115,104,111,112])),(1,1,(yV 33)),(2,1,(yV 35))]),yN (.st 3 (yV 0) (yV 36))] yr)))))))
def Fb:AFn:=⟨37,[.agg 0 3],Zi1,true⟩
theorem Zjs:cFn Tryz.prog ZwG Tryz.f26=some Fb:=by kernel_rfl
theorem Zji:(Tryz.f26.name == "runtime.NumGoroutine")=false:=by kernel_rfl
def Zol:Zd:=yQ [yI 2 (.mk 71 [y0,ye,y0,(.own 4 [])])] (yQ [yM 3 0,yI 4 (.build [y0,ye,y0,(.own 4 [])] [(0,1,(yK 1)),(2,1,(yV 3))]),yN (.st 4 (yV 2) (yV 4))] yr)
def Zfr:AFn:=⟨5,[.agg 2 4],Zol,false⟩
theorem ZpC:cFn Tryz.prog ZtS Tryz.f56=some Zfr:=by kernel_rfl
theorem ZoL:(Tryz.f56.name == "runtime.NumGoroutine")=false:=by kernel_rfl
def ZzF:List (Nat×AFn):=[(26,Fb),(56,Zfr)] ++ tab
theorem ZtR:∀ p ∈ ZzF,∃ fn takes,Tryz.prog.funcs[p.1]? = some fn∧(fn.name == "runtime.NumGoroutine")=false∧cFn Tryz.prog takes fn=some p.2:=by
 intro p hp
 rcases List.mem_append.1 hp with hp | hp
 ·simp only [List.mem_cons,List.not_mem_nil,or_false] at hp
  rcases hp with rfl | rfl | rfl
  ·exact ⟨Tryz.f26,ZwG,Tryz.func26,Zji,Zjs⟩
  ·exact ⟨Tryz.f56,ZtS,Tryz.func56,ZoL,ZpC⟩
 ·exact ZwF p hp
end Go.Proofs.YtleomfgijkapfaaGreatDoor
end
section
namespace Go.Proofs.YtleomfgijkapfaaGreatDoor.Abs
open Go Go.RowKit Go.Shelf
open Nat (reduceAdd reduceLeDiff)
def Zrj (f:FuncId)(k bytes:Nat)(g:FuncId)(args:List AV)(hp:List Zw):Option (AV×List Zw×Eff) :=
 if g=f then
  match args with
  | [.own k' [],.int .i64 n]=>if k'=k∧0≤n∧n.toNat * bytes≤140737488355328∧n.toNat≤140737488355328 then some (.own k [],hp,none) else none
  | _=>none
 else none
theorem Zs6 {P:Program}{ρ:Ren}{W0:World}(L:Lays8.n4 P ρ){i0:TypeInfo}{z:Value}(hi0:P.info? (ρ.t 25)=some i0)(hz0:i0.zero=some z)(hzs:z.cells.size=i0.size)(hs0:0 < i0.size) :
  YS P W0 (Zrj (ρ.f 4) i0.size i0.bytes):=by
 intro g args hp v hp' e hc Γ w xs hr ht hs hx
 unfold Zrj at hc
 split at hc
 case isFalse=>cases hc
 rename_i hgf
 subst hgf
 split at hc <;> try (cases hc; done)
 rename_i k' n
 split at hc <;> try (cases hc; done)
 rename_i hh
 obtain ⟨rfl,hn0,hnb,hn47⟩:=hh
 cases hc
 have hI:Inv ⟨W0,Γ,w⟩ ⟨[.own i0.size []],hp,none,hp.length⟩ Γ { tmps := #[xs.getD 0 Go.undef],defers := [] } w:=by
  refine ⟨rfl,⟨rfl,fun t y hy=>?_,fun t y hy=>?_⟩,hr,.refl _ _ _,fun b g hb=>hr.lt b g hb,fun b m g i hb=>ht.cell b m g i hb,Nat.le_refl _,fun _ _ hb _=>hb⟩
  ·cases t with
   | zero=>exact (hx 0 y (by simpa using hy)).1
   | succ t=>simp at hy
  ·cases t with
   | zero=>exact (hx 0 y (by simpa using hy)).2
   | succ t=>simp at hy
 have hx1:xs.getD 1 Go.undef=.int .i64 n:=by
  have:=(hx 1 _ rfl).1
  generalize xs.getD 1 Go.undef=u at this
  cases this; rfl
 have hxs:xs=#[xs.getD 0 Go.undef,xs.getD 1 Go.undef]:=by
  have hs2:xs.size=2:=hs
  refine Array.ext hs2 fun i h1 h2=>?_
  have:i=0∨i=1:=by simp at h2; omega
  rcases this with rfl | rfl <;> simp [Array.getD_eq_getD_getElem?,h1]
 obtain ⟨m,rfl⟩:∃ m:Nat,n=m:=⟨n.toNat,by omega⟩
 simp only [Int.toNat_natCast] at hnb hn47
 have hgo:∀ {R:Value→World→Prop},Calls P (ρ.f 4) xs w (fun e w''=>∃ v,e=.returned v∧R v w'')→ZtX P (ρ.f 4) xs w R:=fun h=>by
  obtain ⟨nm,hn,hf⟩:=L.f4
  exact ⟨ZbT hf hn rfl xs w,h⟩
 have same:∀ {cv:Value} {Γ':Yl} {s:Zn} {a:Act} {w':World},s.hp=hp→s.ef=none→s.bs=hp.length→Inv ⟨W0,Γ,w⟩ s Γ' a w'→Rep Γ' w' (.own i0.size []) cv→OwnAt Γ' w' .res (.own i0.size []) cv →
   ∃ Γ',RW W0 Γ' w' hp∧Rep Γ' w' (.own i0.size []) cv∧OwnAt Γ' w' .res (.own i0.size []) cv∧Frame Γ w Γ' w' none∧hp.length≤hp.length∧∀ b g,Γ' b=.own g→g < hp.length→Γ b=.own g:=fun h1 h2 h3 i r o=>⟨_,by rw [← h1]; exact i.rw,r,o,by rw [← h2]; exact i.fr,Nat.le_refl _,fun b g k1 k2=>i.back b g k1 (by rw [h3]; exact k2)⟩
 have hmax:maxLen=9223372036854775807:=rfl
 have new:∀ (c:Nat) (cs:List Value),c < m→cs.length=c * i0.size →
   ∃ Γ',RW W0 Γ' (w.drew.alloc (.cells (cs.toArray ++ Builtin.zeroCells z.cells (0 + m - c) ++ Builtin.zeroCells z.cells (grownCap w (0 + m) c (ρ.t 25) - (0 + m))) (ρ.t 25))) hp ∧
    Rep Γ' (w.drew.alloc (.cells (cs.toArray ++ Builtin.zeroCells z.cells (0 + m - c) ++ Builtin.zeroCells z.cells (grownCap w (0 + m) c (ρ.t 25) - (0 + m))) (ρ.t 25))) (.own i0.size []) (.slice (some ⟨w.heap.size,0,none⟩) 0 (grownCap w (0 + m) c (ρ.t 25))) ∧
    OwnAt Γ' (w.drew.alloc (.cells (cs.toArray ++ Builtin.zeroCells z.cells (0 + m - c) ++ Builtin.zeroCells z.cells (grownCap w (0 + m) c (ρ.t 25) - (0 + m))) (ρ.t 25))) .res (.own i0.size []) (.slice (some ⟨w.heap.size,0,none⟩) 0 (grownCap w (0 + m) c (ρ.t 25))) ∧
    Frame Γ w Γ' (w.drew.alloc (.cells (cs.toArray ++ Builtin.zeroCells z.cells (0 + m - c) ++ Builtin.zeroCells z.cells (grownCap w (0 + m) c (ρ.t 25) - (0 + m))) (ρ.t 25))) none∧hp.length≤hp.length∧∀ b g,Γ' b=.own g→g < hp.length→Γ b=.own g:=by
  intro c cs hcm hcl
  have hge:=grownCap_ge w (0 + m) c (ρ.t 25)
  have hle:=grownCap_le_maxLen w (0 + m) c (ρ.t 25) (by omega)
  obtain ⟨Γ',i1,o1⟩:=ZoY (w := w.drew) hI.drew (k := i0.size) (cap := grownCap w (0 + m) c (ρ.t 25)) (rows := []) (e := ρ.t 25)
   (cur := cs.toArray ++ Builtin.zeroCells z.cells (0 + m - c) ++ Builtin.zeroCells z.cells (grownCap w (0 + m) c (ρ.t 25) - (0 + m))) (Nat.zero_le _) hle (by
    simp only [Array.size_append,List.size_toArray,size_zeroCells,hzs,hcl,← Nat.add_mul]
    congr 1
    omega) (fun r hr=>by cases hr) (fun i j r c hi hj=>by simp at hi)
  exact same rfl rfl rfl i1 (.own _ _ _ (.lstE _ _ _)) o1
 obtain ⟨Γ2,i2,r2,o2⟩:=hI.take 0 (v := .own i0.size []) rfl
 have r2':Rep Γ2 w (.own i0.size []) (xs.getD 0 Go.undef):=r2
 have o2':OwnAt Γ2 w .res (.own i0.size []) (xs.getD 0 Go.undef):=o2
 refine hgo ?_
 rcases (hx 0 _ rfl).2 _ _ rfl with ⟨h1,_⟩ | ⟨b,cap,e0,cur,h1,hg,hh,h2,h3,h4,_⟩
 ·rw [hxs,hx1]
  rw [h1] at r2' o2' ⊢
  rcases Nat.eq_zero_or_pos m with hm | hm
  ·subst hm
   refine (Any8.slices_Grow_room L none 0 0 0 w (by omega) (by omega) (by omega) (by omega)).mono ?_
   rintro e w' ⟨rfl,rfl⟩
   exact ⟨_,rfl,same (s := Zn.let_ ⟨[.own i0.size []],hp,none,hp.length⟩ 0) rfl rfl rfl i2 r2' o2'⟩
  ·refine (Any8.slices_Grow_grow L i0 z hi0 hz0 hs0 none 0 0 m [] w (by omega) (by omega) (by simpa using hnb) (by omega) (by simp) (fun _=>rfl) (fun a ha=>by cases ha)).mono ?_
   rintro e w' ⟨rfl,rfl⟩
   exact ⟨_,rfl,new 0 [] hm (by simp)⟩
 ·have h1:xs.getD 0 Go.undef=.slice (some ⟨b,0,none⟩) 0 cap:=h1
  rw [hxs,hx1]
  rw [h1] at r2' o2' ⊢
  rcases Nat.lt_or_ge cap m with hm | hm
  ·refine (Any8.slices_Grow_grow L i0 z hi0 hz0 hs0 (some ⟨b,0,none⟩) 0 cap m cur.toList w (by omega) (by omega) (by simpa using hnb) (by omega) (by simpa using h4) (fun h=>by cases h) (fun a ha j v hj=>?_)).mono ?_
   ·cases ha
    rw [Array.getElem?_toList] at hj
    have hj':(if j=0 then (⟨b,0,none⟩:Addr) else ⟨b,j,none⟩)=⟨b,j,none⟩:=by
     split
     ·rename_i h0; rw [h0]
     ·rfl
    simp [World.cell?,Addr.add,hj',hh,hj]
   ·rintro e w' ⟨rfl,rfl⟩
    exact ⟨_,rfl,new cap cur.toList hm (by simpa using h4)⟩
  ·refine (Any8.slices_Grow_room L (some ⟨b,0,none⟩) 0 cap m w (by omega) (by omega) (by omega) (by omega)).mono ?_
   rintro e w' ⟨rfl,rfl⟩
   exact ⟨_,rfl,same (s := Zn.let_ ⟨[.own i0.size []],hp,none,hp.length⟩ 0) rfl rfl rfl i2 r2' o2'⟩
end Go.Proofs.YtleomfgijkapfaaGreatDoor.Abs
end
section
namespace Go.Proofs.YtleomfgijkapfaaGreatDoor
open Go.RowKit
theorem ZvW:(Tryz.prog.info? 93).map (·.size)=some 2:=by kernel_rfl
theorem ZvV:(Tryz.prog.info? 5).map (fun i=>(i.zero,i.size,i.bytes))=some (some (.int .u8 0),1,1):=by kernel_rfl
theorem Eh:Tryz.prog.follows .mixedOrders=true:=by kernel_rfl
theorem ZqK:(Tryz.prog.info? 5).map (·.size)=some 1:=by kernel_rfl
theorem Zoa:Tryz.prog.cellsOf 5=1:=by kernel_rfl
structure SB (b:Nat)(w w':World):Prop where
 os:w'.os=w.os
 tape:w'.tape=w.tape
 output:w'.output=w.output
 size:w.heap.size≤w'.heap.size
 same:∀ k,k < w.heap.size→k≠b→w'.heap[k]? = w.heap[k]?
theorem SB.refl (b:Nat)(w:World):SB b w w:=⟨rfl,rfl,rfl,Nat.le_refl _,fun _ _ _=>rfl⟩
theorem SB.drew {b:Nat}{w w':World}(h:SB b w w'):SB b w w'.drew:=⟨h.os,h.tape,h.output,h.size,h.same⟩
theorem SB.fromDrew {b:Nat}{w w':World}(h:SB b w.drew w'):SB b w w':=⟨h.os,h.tape,h.output,h.size,h.same⟩
theorem SB.trans {b:Nat}{w w1 w2:World}(h:SB b w w1)(h':SB b w1 w2):SB b w w2 :=
 ⟨h'.os.trans h.os,h'.tape.trans h.tape,h'.output.trans h.output,Nat.le_trans h.size h'.size,fun k hk hn=>(h'.same k (Nat.lt_of_lt_of_le hk h.size) hn).trans (h.same k hk hn)⟩
theorem SB.setCell (b:Nat)(w:World)(j:Nat)(v:Value):SB b w (w.setCell ⟨b,j,none⟩ v) :=
 ⟨rfl,rfl,rfl,by simp [World.setCell],fun k _ hn=>Below.heap_setCell _ _ _ _ hn⟩
theorem SB.alloc (b:Nat)(w:World)(o:Obj):SB b w (w.alloc o):=⟨rfl,rfl,rfl,by simp,fun k hk _=>Lib.alloc_old w o k hk⟩
theorem SB.freeze (b n:Nat)(w:World):SB b w (w.freeze ⟨b,0,none⟩ n):=by
 unfold World.freeze
 split
 ·exact .refl b w
 ·refine ⟨rfl,rfl,rfl,by simp,fun k _ hn=>?_⟩
  simp [Array.getElem?_modify]
  intro e
  exact absurd e.symm hn
theorem ZoB (b n o:Nat)(w:World):(w.freeze ⟨b,0,none⟩ n).cell? ⟨b,o,none⟩=w.cell? ⟨b,o,none⟩:=by
 unfold World.freeze
 split
 ·rfl
 ·simp only [World.cell?,Array.getElem?_modify]
  cases h:w.heap[b]? with
  | none=>simp
  | some x=>cases x <;> simp
theorem ZqI (w:World)(x:Obj)(g o:Nat)(h:g < w.heap.size):(w.alloc x).cell? ⟨g,o,none⟩=w.cell? ⟨g,o,none⟩:=by
 simp only [World.cell?,Lib.alloc_old w x g h]
set_option maxRecDepth 100000 in
set_option maxHeartbeats 2000000 in
theorem Zoh (b:Nat)(w:World)(h0:w.cell? ⟨b,0,none⟩=some (.pointer (some ⟨b,0,none⟩))) :
  Calls Tryz.prog 87 #[.pointer (some ⟨b,0,none⟩)] w fun e w'=>e=.returned (.tuple #[])∧w'=w:=by
 obtain ⟨j,hj,_⟩:=Option.map_eq_some_iff.1 ZvW
 go_enter Tryz.func87,Tryz.ntmps87
 go_wp2
 rw [Lib.run_neq_ptr_same w _ Tryz.underlying90 hj]
 go_wp2
 go_end0
 exact ⟨rfl,rfl⟩
set_option maxRecDepth 100000 in
set_option maxHeartbeats 2000000 in
theorem Zd5 (T n b:Nat)(hn:0 < n)(b_lies:liesAt Tryz.prog Tryz.prog.depth T (n / Tryz.prog.cellsOf T) 0 93 1=true)(w:World)(h0:w.cell? ⟨b,0,none⟩=some (.pointer none))(hsh:w.shape? b=some (T,n))(hfz:w.frozen? ⟨b,0,none⟩=false) :
  Calls Tryz.prog 87 #[.pointer (some ⟨b,0,none⟩)] w fun e w'=>e=.returned (.tuple #[])∧w'=w.setCell ⟨b,0,none⟩ (.pointer (some ⟨b,0,none⟩)):=by
 obtain ⟨j,hj,hjs⟩:=Option.map_eq_some_iff.1 ZvW
 go_enter Tryz.func87,Tryz.ntmps87
 go_wp2
 rw [Lib.run_to_unsafe w ⟨b,0,none⟩ Tryz.underlying90 Tryz.underlying223 hj (by rw [hjs]; decide) hsh hn]
 simp only [Result.andThen]
 rw [Oper.upon_value]
 go_wp2
 rw [run_callFunc_extern Tryz.func167 (by kernel_rfl) (by kernel_rfl) (by kernel_rfl) (e := Extern.AbiNoEscape.same) (by kernel_rfl)]
 rw [Lib.run_noEscape]
 simp only [Result.andThen]
 rw [Oper.upon_value]
 go_wp2
 rw [Lib.run_from_unsafe w ⟨b,0,none⟩ Tryz.underlying223 Tryz.underlying90 hj hsh b_lies]
 simp only [Result.andThen]
 rw [Oper.upon_value]
 go_wp2
 go_end0
 exact ⟨rfl,rfl⟩
set_option maxHeartbeats 2000000 in
set_option maxRecDepth 100000 in
theorem Zsd (b g:Nat)(l:List UInt8)(cap:Nat)(cur:Array Value)(e:TypeId)(w:World)(h0:l≠[])(hb:w.cell? ⟨b,1,none⟩=some (.slice (some ⟨g,0,none⟩) l.length cap))(hg:w.heap[g]? = some (.cells cur e (0,0)))(he:e=5)
  (hcap:l.length≤cap) (hm:cap≤maxLen) (hcs:cur.size=cap) (hl:∀ (j:Nat) (x:UInt8),l[j]? = some x→cur[j]? = some (.int .u8 x.toNat)) :
  Calls Tryz.prog 45 #[.pointer (some ⟨b,0,none⟩)] w fun e w'=>e=.returned (.string ⟨l.toArray⟩)∧SB g w w'∧∀ o,w'.cell? ⟨g,o,none⟩=w.cell? ⟨g,o,none⟩:=by
 subst he
 have hl0:l.length≠0:=by simpa using h0
 have c1:w.drew.cell? ⟨b,1,none⟩=some (.slice (some ⟨g,0,none⟩) l.length cap):=hb
 have hSD:(Builtin.unsafeSliceData_ #[91] 150 #[.slice (some ⟨g,0,none⟩) l.length cap]).run Tryz.prog w.drew=.ok (.pointer (some ⟨g,0,none⟩)) w.drew :=
  Lib.run_unsafeSliceData_row _ _ _ _ _ _ (by omega)
 have hUS:(Builtin.unsafeString_ #[150,3] 9 #[.pointer (some ⟨g,0,none⟩),.int .i64 l.length]).run Tryz.prog w.drew=.ok (.string ⟨l.toArray⟩) (w.drew.freeze ⟨g,0,none⟩ l.length):=by
  refine Lib.run_unsafeString_row w.drew 150 3 9 5 Tryz.underlying150 Zoa g cur.size (by have hg':w.drew.heap[g]? = some (.cells cur 5 (0,0)):=hg; simp [World.shape?,hg']) l h0 (by omega) (by unfold maxLen at hm; omega) ?_
  intro j x hx
  have hg':w.drew.heap[g]? = some (.cells cur 5 (0,0)):=hg
  have ha:(⟨g,0,none⟩:Addr).add j=⟨g,j,none⟩:=by simp [Addr.add]; intro h; exact h.symm
  rw [ha,Lib.cell_of_heap hg',hl j x hx]
 have mixed:=Eh
 go_enter Tryz.func45,Tryz.ntmps45
 go_wp2
 go_region_o
 all_goals (go_wp2; go_ret; exact ⟨rfl,(SB.freeze g l.length w.drew).fromDrew,fun o=>ZoB g l.length o w.drew⟩)
set_option maxHeartbeats 2000000 in
set_option maxRecDepth 100000 in
theorem Zsc (b g:Nat)(w:World)(hb:w.cell? ⟨b,1,none⟩=some (.slice none 0 0)) :
  Calls Tryz.prog 45 #[.pointer (some ⟨b,0,none⟩)] w fun e w'=>e=.returned (.string ⟨#[]⟩)∧SB g w w'∧∀ o,w'.cell? ⟨g,o,none⟩=w.cell? ⟨g,o,none⟩:=by
 have hUS:∀ (W:World) (q:Option Addr),(Builtin.unsafeString_ #[150,3] 9 #[.pointer q,.int .i64 0]).run Tryz.prog W=.ok (.string .empty) W:=fun W q=>Lib.run_unsafeString_none W _ _ _ q
 have c1:w.drew.cell? ⟨b,1,none⟩=some (.slice none 0 0):=hb
 have hSD:(Builtin.unsafeSliceData_ #[91] 150 #[.slice none 0 0]).run Tryz.prog w.drew=.ok (.pointer none) w.drew:=rfl
 have mixed:=Eh
 go_enter Tryz.func45,Tryz.ntmps45
 go_wp2
 go_region_o
 all_goals (go_wp2; go_ret; exact ⟨rfl,(SB.refl g w).drew,fun o=>rfl⟩)
set_option maxHeartbeats 2000000 in
set_option maxRecDepth 100000 in
theorem Zm4 (b g:Nat)(cur:Array Value)(e:TypeId)(w:World)(hb:w.cell? ⟨b,1,none⟩=some (.slice (some ⟨g,0,none⟩) 0 0))(hg:w.heap[g]? = some (.cells cur e (0,0)))(he:e=5) :
  Calls Tryz.prog 45 #[.pointer (some ⟨b,0,none⟩)] w fun e w'=>e=.returned (.string ⟨#[]⟩)∧SB g w w'∧∀ o,w'.cell? ⟨g,o,none⟩=w.cell? ⟨g,o,none⟩:=by
 subst he
 have hUS:∀ (W:World) (q:Option Addr),(Builtin.unsafeString_ #[150,3] 9 #[.pointer q,.int .i64 0]).run Tryz.prog W=.ok (.string .empty) W:=fun W q=>Lib.run_unsafeString_none W _ _ _ q
 have hlt:b < w.heap.size:=World.block_lt_of_cell? w _ hb
 have hgl:g < w.heap.size:=(Array.getElem?_eq_some_iff.1 hg).1
 have c1:w.drew.cell? ⟨b,1,none⟩=some (.slice (some ⟨g,0,none⟩) 0 0):=hb
 have hSD:(Builtin.unsafeSliceData_ #[91] 150 #[.slice (some ⟨g,0,none⟩) 0 0]).run Tryz.prog w.drew=.ok (.pointer (some ⟨w.drew.heap.size,0,none⟩)) (w.drew.alloc (.view ⟨g,0,none⟩ 5)) :=
  Lib.run_unsafeSliceData_zero w.drew _ _ 5 Tryz.underlying150 ⟨g,0,none⟩ 0 (5,cur.size) (by have hg':w.drew.heap[g]? = some (.cells cur 5 (0,0)):=hg; simp [World.shape?,hg'])
 have c2:(w.drew.alloc (.view ⟨g,0,none⟩ 5)).cell? ⟨b,1,none⟩=some (.slice (some ⟨g,0,none⟩) 0 0):=by
  rw [← c1]; simp only [World.cell?]; rw [Lib.alloc_old w.drew _ b hlt]
 have c3:(w.alloc (.view ⟨g,0,none⟩ 5)).drew.cell? ⟨b,1,none⟩=some (.slice (some ⟨g,0,none⟩) 0 0):=c2
 have c0:w.cell? ⟨b,1,none⟩=some (.slice (some ⟨g,0,none⟩) 0 0):=c1
 have mixed:=Eh
 go_enter Tryz.func45,Tryz.ntmps45
 go_wp2
 go_region_o
 all_goals (go_wp2; go_ret; exact ⟨rfl,(SB.alloc g w _).drew,fun o=>ZqI w _ g o hgl⟩)
set_option maxHeartbeats 2000000 in
set_option maxRecDepth 100000 in
theorem ZqS (b g cap:Nat)(w:World)(hc0:cap≠0)(hb:w.cell? ⟨b,1,none⟩=some (.slice (some ⟨g,0,none⟩) 0 cap)) :
  Calls Tryz.prog 45 #[.pointer (some ⟨b,0,none⟩)] w fun e w'=>e=.returned (.string ⟨#[]⟩)∧SB g w w'∧∀ o,w'.cell? ⟨g,o,none⟩=w.cell? ⟨g,o,none⟩:=by
 have hUS:∀ (W:World) (q:Option Addr),(Builtin.unsafeString_ #[150,3] 9 #[.pointer q,.int .i64 0]).run Tryz.prog W=.ok (.string .empty) W:=fun W q=>Lib.run_unsafeString_none W _ _ _ q
 have c1:w.drew.cell? ⟨b,1,none⟩=some (.slice (some ⟨g,0,none⟩) 0 cap):=hb
 have hSD:(Builtin.unsafeSliceData_ #[91] 150 #[.slice (some ⟨g,0,none⟩) 0 cap]).run Tryz.prog w.drew=.ok (.pointer (some ⟨g,0,none⟩)) w.drew :=
  Lib.run_unsafeSliceData_row _ _ _ _ _ _ hc0
 clear hc0
 have mixed:=Eh
 go_enter Tryz.func45,Tryz.ntmps45
 go_wp2
 go_region_o
 all_goals (go_wp2; go_ret; exact ⟨rfl,(SB.refl g w).drew,fun o=>rfl⟩)
def Room (b:Nat)(w w':World):Prop:=SB b w w'∧∃ v,w'.heap[b]? = some (.cells #[.pointer (some ⟨b,0,none⟩),v] 93 (0,0)) ∧
 (v=.slice none 0 0∨∃ g cs,v=.slice (some ⟨g,0,none⟩) 0 cs.size∧w.heap.size≤g∧w'.heap[g]? = some (.cells cs 5 (0,0))∧cs.size≤maxLen)
theorem Room.drew {b:Nat}{w w':World}(h:Room b w w'):Room b w w'.drew:=⟨h.1.drew,h.2⟩
theorem Room.fromDrew {b:Nat}{w w':World}(h:Room b w.drew w'):Room b w w':=⟨h.1.fromDrew,h.2⟩
set_option maxHeartbeats 2000000 in
set_option maxRecDepth 1000000 in
theorem Z0J (b n:Nat)(w:World)(hbk:w.heap[b]? = some (.cells #[.pointer (some ⟨b,0,none⟩),.slice none 0 0] 93 (0,0)))(hn:n≤281474976710656) :
  Calls Tryz.prog 208 #[.pointer (some ⟨b,0,none⟩),.int .i64 n] w fun e w'=>e=.returned (.tuple #[])∧Room b w w':=by
 obtain ⟨cs,hrun,hle,hmax⟩:=Lib.run_makeNoZero (P := Tryz.prog) w.drew #[3] 91 5 Tryz.underlying91 n hn
 have hlt:b < w.heap.size:=(Array.getElem?_eq_some_iff.1 hbk).1
 have hw:IntKind.i64.wrap (IntKind.i64.wrap 0 + (n:Int))=n:=by
  rw [IntKind.wrap_i64,IntKind.wrap_i64]
  omega
 have hcall:(callFunc 239 #[.int .i64 (IntKind.i64.wrap (IntKind.i64.wrap 0 + (n:Int)))]).run Tryz.prog w.drew=.ok (.value (.slice (some ⟨w.drew.heap.size,0,none⟩) n cs.size)) (w.drew.drew.drew.alloc (.cells cs 5)):=by
  rw [hw,run_callFunc_extern Tryz.func239 (by kernel_rfl) (by kernel_rfl) (by kernel_rfl) (e := Extern.BytealgMakeNoZero.makeNoZero #[3] #[91]) (by kernel_rfl),hrun]
  rfl
 have old:(w.alloc (.cells cs 5)).heap[b]? = some (.cells #[.pointer (some ⟨b,0,none⟩),.slice none 0 0] 93 (0,0)):=(Lib.alloc_old w _ b hlt).trans hbk
 have c1:w.drew.cell? ⟨b,1,none⟩=some (.slice none 0 0):=by
  have:w.drew.heap[b]? = _:=hbk
  rw [Lib.cell_of_heap this]; rfl
 have c2:(w.alloc (.cells cs 5)).cell? ⟨b,1,none⟩=some (.slice none 0 0):=by rw [Lib.cell_of_heap old]; rfl
 have f2:(w.alloc (.cells cs 5)).frozen? ⟨b,1,none⟩=false:=Lib.frozen_of_heap old 1
 have hcopy:∀ W:World,(Builtin.copy_ #[91,91] 3 #[.slice (some ⟨w.heap.size,0,none⟩) 0 cs.size,.slice none 0 0]).run Tryz.prog W=.ok (goInt 0) W :=
  fun W=>run_copy_none W 91 91 3 5 _ _ 0 cs.size 0 0 Tryz.underlying91 ZqK rfl
 clear hw
 have mixed:=Eh
 have hfin:Room b w ((w.alloc (.cells cs 5)).setCell ⟨b,1,none⟩ (.slice (some ⟨w.heap.size,0,none⟩) 0 cs.size)).drew.drew.drew:=by
  refine ⟨(((SB.alloc b w _).trans (SB.setCell b _ 1 _)).drew.drew).drew,.slice (some ⟨w.heap.size,0,none⟩) 0 cs.size,?_,.inr ⟨w.heap.size,cs,rfl,Nat.le_refl _,?_,hmax (by unfold maxLen; omega)⟩⟩
  ·show ((w.alloc (.cells cs 5)).setCell ⟨b,1,none⟩ _).heap[b]? = _
   simp [World.setCell,Array.getElem?_modify,old]
  ·show ((w.alloc (.cells cs 5)).setCell ⟨b,1,none⟩ _).heap[w.heap.size]? = _
   rw [Below.heap_setCell _ _ _ _ (by simp; omega),heap_alloc_new]
 have hbk1:(w.setCell ⟨b,1,none⟩ (.slice (some ⟨w.heap.size,0,none⟩) 0 cs.size)).heap[b]? = some (.cells #[.pointer (some ⟨b,0,none⟩),.slice (some ⟨w.heap.size,0,none⟩) 0 cs.size] 93 (0,0)):=by
  simp [World.setCell,Array.getElem?_modify,hbk]
 have hfin2:Room b w ((w.setCell ⟨b,1,none⟩ (.slice (some ⟨w.heap.size,0,none⟩) 0 cs.size)).alloc (.cells cs 5)).drew.drew.drew:=by
  have hs:=SB.setCell b w 1 (.slice (some ⟨w.heap.size,0,none⟩) 0 cs.size)
  have hz:(w.setCell ⟨b,1,none⟩ (.slice (some ⟨w.heap.size,0,none⟩) 0 cs.size)).heap.size=w.heap.size:=by simp [World.setCell]
  refine ⟨(((hs.trans (SB.alloc b _ _)).drew.drew).drew),.slice (some ⟨w.heap.size,0,none⟩) 0 cs.size,?_,.inr ⟨w.heap.size,cs,rfl,Nat.le_refl _,?_,hmax (by unfold maxLen; omega)⟩⟩
  ·show ((w.setCell ⟨b,1,none⟩ _).alloc _).heap[b]? = _
   rw [Lib.alloc_old _ _ b (by rw [hz]; exact hlt)]
   exact hbk1
  ·show ((w.setCell ⟨b,1,none⟩ _).alloc _).heap[w.heap.size]? = _
   have h2:=heap_alloc_new (w.setCell ⟨b,1,none⟩ (.slice (some ⟨w.heap.size,0,none⟩) 0 cs.size)) (.cells cs 5)
   rw [hz] at h2; exact h2
 go_enter Tryz.func208,Tryz.ntmps208
 go_wp2
 go_region_o
 all_goals (go_wp2; go_end0; first | exact ⟨rfl,hfin⟩ | exact ⟨rfl,hfin2⟩)
set_option maxHeartbeats 2000000 in
set_option maxRecDepth 1000000 in
theorem Zmp (b n:Nat)(w:World)(hbk:w.heap[b]? = some (.cells #[.pointer none,.slice none 0 0] 93 (0,0)))(hn:n≤281474976710656) :
  Calls Tryz.prog 168 #[.pointer (some ⟨b,0,none⟩),.int .i64 n] w fun e w'=>e=.returned (.tuple #[])∧Room b w w':=by
 have hbk1:(w.setCell ⟨b,0,none⟩ (.pointer (some ⟨b,0,none⟩))).heap[b]? = some (.cells #[.pointer (some ⟨b,0,none⟩),.slice none 0 0] 93 (0,0)):=by
  simp [World.setCell,Array.getElem?_modify,hbk]
 have c1:(w.setCell ⟨b,0,none⟩ (.pointer (some ⟨b,0,none⟩))).cell? ⟨b,1,none⟩=some (.slice none 0 0):=by rw [Lib.cell_of_heap hbk1]; rfl
 have c1':(w.setCell ⟨b,0,none⟩ (.pointer (some ⟨b,0,none⟩))).drew.cell? ⟨b,1,none⟩=some (.slice none 0 0):=c1
 have hs:SB b w (w.setCell ⟨b,0,none⟩ (.pointer (some ⟨b,0,none⟩))):=SB.setCell b w 0 _
 have hsz:w.heap.size≤(w.setCell ⟨b,0,none⟩ (.pointer (some ⟨b,0,none⟩))).heap.size:=hs.size
 have hU:Room b w (w.setCell ⟨b,0,none⟩ (.pointer (some ⟨b,0,none⟩))):=⟨hs,.slice none 0 0,hbk1,.inl rfl⟩
 have mixed:=Eh
 go_enter Tryz.func168,Tryz.ntmps168
 go_wp2_with (go_at_call 87; refine (Zd5 93 2 b (by decide) (by kernel_rfl) w (by rw [Lib.cell_of_heap hbk]; rfl) (by simp [World.shape?,hbk]) (Lib.frozen_of_heap hbk 0)).mono ?_; rintro e w' ⟨rfl,rfl⟩)
 go_region_o
 all_goals go_wp2_with (go_at_call 208; refine (Z0J b n (w.setCell ⟨b,0,none⟩ (.pointer (some ⟨b,0,none⟩))).drew hbk1 hn).mono ?_; rintro e w' ⟨rfl,h1⟩)
 all_goals first
  | (go_end0; exact ⟨rfl,hs.trans h1.1.fromDrew,h1.2.imp fun v hv=>⟨hv.1,hv.2.imp id fun ⟨g,cs,e1,e2,e3⟩=>⟨g,cs,e1,Nat.le_trans hsz e2,e3⟩⟩⟩)
  | (go_end0; exact ⟨rfl,hU.drew⟩)
end Go.Proofs.YtleomfgijkapfaaGreatDoor
end
section
namespace Go.Proofs.YtleomfgijkapfaaGreatDoor
open Go.RowKit
theorem Znc {w:World}{b:Nat}{v:Value}{n:Nat}{xs:List Value}(h:w.ownsRow b 5 1 v n xs):w.ownsRow 0 5 1 v n xs:=by
 refine ⟨h.1,h.2.imp id ?_⟩
 rintro ⟨g,cap,cur,h1,_,h2⟩
 exact ⟨g,cap,cur,h1,Nat.zero_le _,h2⟩
def Zub (w w':World)(v v':Value):Prop:=v'.ownBlock=v.ownBlock∨∃ g,v'.ownBlock=some g∧w.heap.size≤g∧∀ k,k < w.heap.size→w'.heap[k]? = w.heap[k]?
def Zyt (b:Nat)(w w':World)(v v':Value):Prop:=v'.ownBlock=v.ownBlock∨∃ g,v'.ownBlock=some g∧w.heap.size≤g∧∀ k,k < w.heap.size→k≠b→w'.heap[k]? = w.heap[k]?
theorem ZrR (w:World)(ty:TypeId)(v:Value)(l:List UInt8)(s:ByteArray)(hown:w.ownsRow 0 5 1 v l.length (Lib.byteCells l))(hb:l.length + s.size≤140737488355328) :
  ∃ v' w',(Builtin.append_ #[91,9] ty #[v,.string s]).run Tryz.prog w=.ok v' w'∧w'.ownsRow 0 5 1 v' (l.length + s.size) (Lib.byteCells l ++ Lib.strCells s)∧w.grownBy w' v.ownBlock∧Zub w w' v v':=by
 obtain ⟨i,hi,h⟩:=Option.map_eq_some_iff.1 ZvV
 have hz:i.zero=some (.int .u8 0):=congrArg (·.1) h
 have hs:i.size=1:=congrArg (·.2.1) h
 have hy:i.bytes=1:=congrArg (·.2.2) h
 have hl:(Lib.byteCells l).length=l.length:=Lib.byteCells_length l
 rcases hown.2 with ⟨rfl,h0⟩ | ⟨g,cap,cur,rfl,hbg,hg,hnc,hcm,hcs,htake⟩
 ·obtain ⟨v',w',h1,h2,h3,h4⟩:=Lib.run_append_own_string (P := Tryz.prog) w w.heap.size 91 9 ty 5 i Tryz.underlying91 Tryz.underlying9 hi hz hs hy (.slice none 0 0) l.length (Lib.byteCells l) ⟨hown.1,.inl ⟨rfl,h0⟩⟩ s (by unfold maxLen; omega) hb (Nat.le_refl _)
  refine ⟨v',w',h1,Znc h2,h3,?_⟩
  rcases h2.2 with ⟨rfl,_⟩ | ⟨g,_,_,rfl,hb,_⟩
  ·exact .inl rfl
  ·exact .inr ⟨g,rfl,hb,fun k hk=>h3.block k hk (by simp [Value.ownBlock])⟩
 ·obtain ⟨v',w',h1,h2,h3,h4⟩:=Lib.run_append_own_string (P := Tryz.prog) w 0 91 9 ty 5 i Tryz.underlying91 Tryz.underlying9 hi hz hs hy _ l.length (Lib.byteCells l) hown s (by unfold maxLen; omega) hb (Nat.zero_le _)
  refine ⟨v',w',h1,h2,h3,?_⟩
  by_cases hroom:l.length + s.size≤cap
  ·have hr:=Lib.run_append_room_string (P := Tryz.prog) w 91 9 ty 5 i Tryz.underlying91 Tryz.underlying9 hi hs g l.length cap cur hg s hroom (by omega)
   rw [hr] at h1; cases h1; exact .inl rfl
  ·have holds:∀ j u,(Lib.byteCells l)[j]? = some u→w.cell? ((⟨g,0,none⟩:Addr).add j)=some u:=hown.cells (g := g) rfl
   have hr:=Lib.run_append_grow_string (P := Tryz.prog) w 91 9 ty 5 i (.int .u8 0) Tryz.underlying91 Tryz.underlying9 hi hz ⟨g,0,none⟩ l.length cap (Lib.byteCells l) (by rw [hs]; omega) holds s (by omega) (by omega) (by rw [hy]; exact growslice_fits (by omega) (by omega))
   rw [hr] at h1; cases h1; exact .inr ⟨_,rfl,Nat.le_refl _,fun k hk=>heap_alloc_old w.drew _ hk⟩
theorem ZzK {ops:Array Oper}{rest:List Oper}{o:Oper}{a:Act}{w:World}{Q:Exit→Act→World→Prop}(hgd:o.guard=none)(sl x:Operand)
  (ho:o.op=.call { callee := .builtin .append,args := #[sl,x],argTypes := #[91,9] }) (v:Value) (l:List UInt8) (hs:a.eval sl=v) (hown:w.ownsRow 0 5 1 v l.length (Lib.byteCells l)) (s:ByteArray) (hx:a.eval x=.string s)
  (hb:l.length + s.size≤140737488355328)
  (h:∀ v' w',w'.ownsRow 0 5 1 v' (l.length + s.size) (Lib.byteCells l ++ Lib.strCells s)→w.grownBy w' v.ownBlock→Zub w w' v v'→wpList Tryz.prog ops Q rest (a.put o.dst v') w'):wpList Tryz.prog ops Q (o :: rest) a w:=by
 refine wpList_plain hgd fun K hK=>?_
 obtain ⟨v',w',hr,h2,h3,h4⟩:=ZrR w o.type v l s hown hb
 unfold Oper.wp execOp
 simp only [ho,resolve,invoke,builtin,Sem.run_bind,Sem.run_pure,Result.andThen_ok,List.map_toArray,List.map_cons,List.map_nil,hs,hx,hr]
 exact hK _ _ (h v' w' h2 h3 h4)
theorem ZvX (b:Nat)(p v:Value)(w:World)(hp:p=.pointer none∨p=.pointer (some ⟨b,0,none⟩))(hb:w.heap[b]? = some (.cells #[p,v] 93 (0,0))) :
  Calls Tryz.prog 87 #[.pointer (some ⟨b,0,none⟩)] w fun e w'=>e=.returned (.tuple #[])∧SB b w w'∧w'.heap.size=w.heap.size∧w'.heap[b]? = some (.cells #[.pointer (some ⟨b,0,none⟩),v] 93 (0,0)):=by
 rcases hp with rfl | rfl
 ·refine (Zd5 93 2 b (by decide) (by kernel_rfl) w (by rw [Lib.cell_of_heap hb]; rfl) (by simp [World.shape?,hb]) (Lib.frozen_of_heap hb 0)).mono ?_
  rintro e w' ⟨rfl,rfl⟩
  exact ⟨rfl,SB.setCell b w 0 _,by simp [World.setCell],by simp [World.setCell,Array.getElem?_modify,hb]⟩
 ·refine (Zoh b w (by rw [Lib.cell_of_heap hb]; rfl)).mono ?_
  rintro e w' ⟨rfl,rfl⟩
  exact ⟨rfl,.refl b w',rfl,hb⟩
structure Wrote (b:Nat)(v:Value)(l:List UInt8)(w w':World):Prop where
 os:w'.os=w.os
 tape:w'.tape=w.tape
 output:w'.output=w.output
 size:w.heap.size≤w'.heap.size
 same:∀ k,k < w.heap.size→k≠b→some k≠v.ownBlock→w'.heap[k]? = w.heap[k]?
 row:∃ v',w'.heap[b]? = some (.cells #[.pointer (some ⟨b,0,none⟩),v'] 93 (0,0))∧w'.ownsRow 0 5 1 v' l.length (Lib.byteCells l)∧Zyt b w w' v v'
set_option maxRecDepth 1000000 in
set_option maxHeartbeats 2000000 in
theorem Z0L (b:Nat)(p v:Value)(l s:List UInt8)(w:World)(hp:p=.pointer none∨p=.pointer (some ⟨b,0,none⟩))(hb:w.heap[b]? = some (.cells #[p,v] 93 (0,0)))(hown:w.ownsRow 0 5 1 v l.length (Lib.byteCells l))(hne:v.ownBlock≠some b)(hl:l.length + s.length≤140737488355328) :
  Calls Tryz.prog 38 #[.pointer (some ⟨b,0,none⟩),.string ⟨s.toArray⟩] w fun e w'=>e=.returned (.tuple #[.int .i64 s.length,.nilIface])∧Wrote b v (l ++ s) w w':=by
 have mixed:=Eh
 have hsz:(⟨s.toArray⟩:ByteArray).size=s.length:=by simp [ByteArray.size]
 have hsc:Lib.strCells ⟨s.toArray⟩=Lib.byteCells s:=rfl
 go_enter Tryz.func38,Tryz.ntmps38
 go_wp2_with (go_at_call 87; refine (ZvX b p v w hp hb).mono ?_)
 rintro e w1 ⟨rfl,h1,h2,hbk⟩
 have c0:w1.cell? ⟨b,0,none⟩=some (.pointer (some ⟨b,0,none⟩)):=by rw [Lib.cell_of_heap hbk]; rfl
 have c1:w1.cell? ⟨b,1,none⟩=some v:=by rw [Lib.cell_of_heap hbk]; rfl
 have hown1:w1.ownsRow 0 5 1 v l.length (Lib.byteCells l):=by
  refine ⟨hown.1,hown.2.imp id ?_⟩
  rintro ⟨g,cap,cur,rfl,h3,h4,h5⟩
  refine ⟨g,cap,cur,rfl,h3,?_,h5⟩
  rw [h1.same g (by rcases Nat.lt_or_ge g w.heap.size with h' | h'; exact h'; rw [Array.getElem?_eq_none h'] at h4; cases h4) (fun e=>hne (by rw [e]; rfl))]
  exact h4
 go_wp2_with (at_builtin; refine ZzK rfl _ _ rfl _ l rfl hown1 ⟨s.toArray⟩ rfl (by rw [hsz]; exact hl) ?_)
 intro v' w2 hown' hgrow hfr
 have hlt:b < w1.heap.size:=by
  rcases Nat.lt_or_ge b w1.heap.size with h' | h'
  ·exact h'
  ·rw [Array.getElem?_eq_none h'] at hbk; cases hbk
 have hb2:w2.heap[b]? = some (.cells #[.pointer (some ⟨b,0,none⟩),v] 93 (0,0)):=by
  rw [hgrow.block b hlt (fun e=>hne e.symm)]
  exact hbk
 have d0:w2.cell? ⟨b,0,none⟩=some (.pointer (some ⟨b,0,none⟩)):=by rw [Lib.cell_of_heap hb2]; rfl
 have d1:w2.cell? ⟨b,1,none⟩=some v:=by rw [Lib.cell_of_heap hb2]; rfl
 have f1:w2.frozen? ⟨b,1,none⟩=false:=Lib.frozen_of_heap hb2 1
 have hnb:v'.ownBlock≠some b:=by
  rcases hfr with e | ⟨g,e,hg,hk⟩
  ·rw [e]; exact hne
  ·rw [e]; intro h; cases h; omega
 have fin:Wrote b v (l ++ s) w (w2.setCell ⟨b,1,none⟩ v'):=by
  refine ⟨hgrow.os.trans h1.os,hgrow.tape.trans h1.tape,hgrow.output.trans h1.output,?_,fun k hk hkb hkv=>?_,v',?_,?_,?_⟩
  ·have:=hgrow.size; have:=h1.size; simp only [World.setCell,Array.size_modify]; omega
  ·rw [Below.heap_setCell _ _ _ _ hkb,hgrow.block k (by omega) hkv,h1.same k hk hkb]
  ·simp [World.setCell,Array.getElem?_modify,hb2]
  ·rw [List.length_append,Lib.byteCells_append,← hsz,← hsc]
   refine ⟨hown'.1,hown'.2.imp id ?_⟩
   rintro ⟨g,cap,cur,rfl,h3,h4,h5⟩
   refine ⟨g,cap,cur,rfl,h3,?_,h5⟩
   rw [Below.heap_setCell _ _ _ _ (fun e=>hnb (congrArg some e:some g=some b))]
   exact h4
  ·rcases hfr with e | ⟨g,e,hg,hk⟩
   ·exact .inl e
   ·exact .inr ⟨g,e,by omega,fun k hk1 hk2=>by rw [Below.heap_setCell _ _ _ _ hk2,hk k (by omega),h1.same k hk1 hk2]⟩
 obtain ⟨ao,n',cap,rfl⟩:∃ ao n' cap,v'=.slice ao n' cap:=by
  rcases hown'.2 with ⟨hv,_⟩ | ⟨g,cap,cur,hv,_⟩
  ·exact ⟨_,_,_,hv⟩
  ·exact ⟨_,_,_,hv⟩
 go_wp2
 go_ret2
 exact ⟨rfl,fin⟩
theorem ZqJ (w:World)(ty:TypeId)(v:Value)(l:List UInt8)(ad:Addr)(x:UInt8)(hx:w.cell? ad=some (.int .u8 x.toNat))(hown:w.ownsRow 0 5 1 v l.length (Lib.byteCells l))(hb:l.length + 1≤140737488355328) :
  ∃ v' w',(Builtin.append_ #[91,91] ty #[v,.slice (some ad) 1 1]).run Tryz.prog w=.ok v' w'∧w'.ownsRow 0 5 1 v' (l.length + 1) (Lib.byteCells l ++ [.int .u8 x.toNat])∧w.grownBy w' v.ownBlock∧Zub w w' v v':=by
 obtain ⟨i,hi,h⟩:=Option.map_eq_some_iff.1 ZvV
 have hz:i.zero=some (.int .u8 0):=congrArg (·.1) h
 have hs:i.size=1:=congrArg (·.2.1) h
 have hy:i.bytes=1:=congrArg (·.2.2) h
 have hl:(Lib.byteCells l).length=l.length:=Lib.byteCells_length l
 have hn:∀ j u,([.int .u8 x.toNat]:List Value)[j]? = some u→w.cell? (ad.add j)=some u:=fun j u hj=>by
  match j,hj with
  | 0,hj=>cases hj; rw [show ad.add 0=ad by simp [Addr.add]]; exact hx
 have h1:∀ u ∈ ([.int .u8 x.toNat]:List Value),u.oneCell'=true:=fun u hu=>by simp at hu; subst hu; rfl
 rcases hown.2 with ⟨rfl,h0⟩ | ⟨g,cap,cur,rfl,hbg,hg,hnc,hcm,hcs,htake⟩
 ·obtain ⟨v',w',h1,h2,h3,h4⟩:=run_append_own (P := Tryz.prog) w w.heap.size 91 ty 5 i (.int .u8 0) 1 1 Tryz.underlying91 hi hz hs hy rfl (by decide) (.slice none 0 0) l.length (Lib.byteCells l) ⟨hown.1,.inl ⟨rfl,h0⟩⟩ ad 1 1 [.int .u8 x.toNat] rfl hn h1 (by unfold maxLen; omega) (by omega) (Nat.le_refl _)
  refine ⟨v',w',h1,Znc h2,h3,?_⟩
  rcases h2.2 with ⟨rfl,_⟩ | ⟨g,_,_,rfl,hb,_⟩
  ·exact .inl rfl
  ·exact .inr ⟨g,rfl,hb,fun k hk=>h3.block k hk (by simp [Value.ownBlock])⟩
 ·obtain ⟨v',w',h3,h4,h5,h6⟩:=run_append_own (P := Tryz.prog) w 0 91 ty 5 i (.int .u8 0) 1 1 Tryz.underlying91 hi hz hs hy rfl (by decide) _ l.length (Lib.byteCells l) hown ad 1 1 [.int .u8 x.toNat] rfl hn h1 (by unfold maxLen; omega) (by omega) (Nat.zero_le _)
  refine ⟨v',w',h3,h4,h5,?_⟩
  by_cases hroom:l.length + 1≤cap
  ·have hr:=run_append_room (P := Tryz.prog) w 91 ty 5 i Tryz.underlying91 hi g l.length cap cur hg ad 1 1 [.int .u8 x.toNat] (by rw [hs]; rfl) hn h1 hroom (by rw [hs]; simp only [List.length_cons,List.length_nil]; omega)
   rw [hr] at h3; cases h3; exact .inl rfl
  ·have holds:∀ j u,(Lib.byteCells l)[j]? = some u→w.cell? ((⟨g,0,none⟩:Addr).add j)=some u:=hown.cells (g := g) rfl
   have hr:=run_append_grow (P := Tryz.prog) w 91 ty 5 i (.int .u8 0) Tryz.underlying91 hi hz ⟨g,0,none⟩ l.length cap (Lib.byteCells l) (by rw [hs]; omega) holds ad 1 1 [.int .u8 x.toNat] (by rw [hs]; rfl) hn (by omega) (by omega) (by rw [hy]; exact growslice_fits (by omega) (by omega))
   rw [hr] at h3; cases h3; exact .inr ⟨_,rfl,Nat.le_refl _,fun k hk=>heap_alloc_old w.drew _ hk⟩
theorem Zym {ops:Array Oper}{rest:List Oper}{o:Oper}{a:Act}{w:World}{Q:Exit→Act→World→Prop}(hgd:o.guard=none)(sl x:Operand)
  (ho:o.op=.call { callee := .builtin .append,args := #[sl,x],argTypes := #[91,91] }) (v:Value) (l:List UInt8) (hs:a.eval sl=v) (hown:w.ownsRow 0 5 1 v l.length (Lib.byteCells l)) (ad:Addr) (c:UInt8) (hx:a.eval x=.slice (some ad) 1 1) (hc:w.cell? ad=some (.int .u8 c.toNat))
  (hb:l.length + 1≤140737488355328)
  (h:∀ v' w',w'.ownsRow 0 5 1 v' (l.length + 1) (Lib.byteCells l ++ [.int .u8 c.toNat])→w.grownBy w' v.ownBlock→Zub w w' v v'→wpList Tryz.prog ops Q rest (a.put o.dst v') w'):wpList Tryz.prog ops Q (o :: rest) a w:=by
 refine wpList_plain hgd fun K hK=>?_
 obtain ⟨v',w',hr,h2,h3,h4⟩:=ZqJ w o.type v l ad c hc hown hb
 unfold Oper.wp execOp
 simp only [ho,resolve,invoke,builtin,Sem.run_bind,Sem.run_pure,Result.andThen_ok,List.map_toArray,List.map_cons,List.map_nil,hs,hx,hr]
 exact hK _ _ (h v' w' h2 h3 h4)
set_option maxRecDepth 1000000 in
set_option maxHeartbeats 2000000 in
theorem Z0K (b:Nat)(p v:Value)(l:List UInt8)(c:UInt8)(w:World)(hp:p=.pointer none∨p=.pointer (some ⟨b,0,none⟩))(hb:w.heap[b]? = some (.cells #[p,v] 93 (0,0)))(hown:w.ownsRow 0 5 1 v l.length (Lib.byteCells l))(hne:v.ownBlock≠some b)(hl:l.length + 1≤140737488355328) :
  Calls Tryz.prog 44 #[.pointer (some ⟨b,0,none⟩),.int .u8 c.toNat] w fun e w'=>e=.returned .nilIface∧Wrote b v (l ++ [c]) w w':=by
 have mixed:=Eh
 go_enter Tryz.func44,Tryz.ntmps44
 go_wp2_with (go_at_call 87; refine (ZvX b p v w hp hb).mono ?_)
 rintro e w1 ⟨rfl,h1,h2,hbk⟩
 have c0:w1.cell? ⟨b,0,none⟩=some (.pointer (some ⟨b,0,none⟩)):=by rw [Lib.cell_of_heap hbk]; rfl
 have c1:w1.cell? ⟨b,1,none⟩=some v:=by rw [Lib.cell_of_heap hbk]; rfl
 have hown1:w1.ownsRow 0 5 1 v l.length (Lib.byteCells l):=by
  refine ⟨hown.1,hown.2.imp id ?_⟩
  rintro ⟨g,cap,cur,rfl,h3,h4,h5⟩
  refine ⟨g,cap,cur,rfl,h3,?_,h5⟩
  rw [h1.same g (by rcases Nat.lt_or_ge g w.heap.size with h' | h'; exact h'; rw [Array.getElem?_eq_none h'] at h4; cases h4) (fun e=>hne (by rw [e]; rfl))]
  exact h4
 go_wp2_with (at_builtin; refine Zym rfl _ _ rfl _ l rfl (hown1.alloc _) _ c rfl ?c1 hl ?_)
 case c1=>rw [← h2]; simp
 intro v' w2 hown' hgrow hfr
 have hlt:b < w1.heap.size:=by
  rcases Nat.lt_or_ge b w1.heap.size with h' | h'
  ·exact h'
  ·rw [Array.getElem?_eq_none h'] at hbk; cases hbk
 have hb2:w2.heap[b]? = some (.cells #[.pointer (some ⟨b,0,none⟩),v] 93 (0,0)):=by
  rw [hgrow.block b (by simp; omega) (fun e=>hne e.symm),Lib.alloc_old w1 _ b hlt]
  exact hbk
 have d0:w2.cell? ⟨b,0,none⟩=some (.pointer (some ⟨b,0,none⟩)):=by rw [Lib.cell_of_heap hb2]; rfl
 have d1:w2.cell? ⟨b,1,none⟩=some v:=by rw [Lib.cell_of_heap hb2]; rfl
 have f1:w2.frozen? ⟨b,1,none⟩=false:=Lib.frozen_of_heap hb2 1
 have hsz1:=hgrow.size
 simp only [World.alloc,Array.size_push] at hsz1
 have hnb:v'.ownBlock≠some b:=by
  rcases hfr with e | ⟨g,e,hg,hk⟩
  ·rw [e]; exact hne
  ·rw [e]; intro h; cases h; simp at hg; omega
 have fin:Wrote b v (l ++ [c]) w (w2.setCell ⟨b,1,none⟩ v'):=by
  refine ⟨hgrow.os.trans h1.os,hgrow.tape.trans h1.tape,hgrow.output.trans h1.output,?_,fun k hk hkb hkv=>?_,v',?_,?_,?_⟩
  ·have:=h1.size; simp only [World.setCell,Array.size_modify]; omega
  ·rw [Below.heap_setCell _ _ _ _ hkb,hgrow.block k (by simp; omega) hkv,Lib.alloc_old w1 _ k (by omega),h1.same k hk hkb]
  ·simp [World.setCell,Array.getElem?_modify,hb2]
  ·rw [List.length_append,Lib.byteCells_append]
   refine ⟨hown'.1,hown'.2.imp id ?_⟩
   rintro ⟨g,cap,cur,rfl,h3,h4,h5⟩
   refine ⟨g,cap,cur,rfl,h3,?_,h5⟩
   rw [Below.heap_setCell _ _ _ _ (fun e=>hnb (congrArg some e:some g=some b))]
   exact h4
  ·rcases hfr with e | ⟨g,e,hg,hk⟩
   ·exact .inl e
   ·exact .inr ⟨g,e,by simp at hg; omega,fun k hk1 hk2=>by rw [Below.heap_setCell _ _ _ _ hk2,hk k (by simp; omega),Lib.alloc_old w1 _ k (by omega),h1.same k hk1 hk2]⟩
 obtain ⟨ao,n',cap,rfl⟩:∃ ao n' cap,v'=.slice ao n' cap:=by
  rcases hown'.2 with ⟨hv,_⟩ | ⟨g,cap,cur,hv,_⟩
  ·exact ⟨_,_,_,hv⟩
  ·exact ⟨_,_,_,hv⟩
 go_wp2
 go_ret
 exact ⟨rfl,fin⟩
end Go.Proofs.YtleomfgijkapfaaGreatDoor
end
section
namespace Go.Proofs.YtleomfgijkapfaaGreatDoor.Abs
open Go Go.RowKit
open Nat (reduceAdd reduceLeDiff)
def Zuh (o:Option Zw):Option (List UInt8):=match o with
 | some (.cells [.nilp,.nils 1] t)=>if t=93 then some [] else none
 | some (.buf l t e)=>if t=93∧e=5 then some l else none
 | _=>none
def wsO (f:FuncId)(args:List AV)(hp:List Zw):Option (AV×List Zw×Eff) :=
 if f=38 then match args with
  | [.ptr p 0,.str s]=>match Zuh hp[p]? with
   | some l=>if l.length + s.length≤140737488355328 then some (.tup [.int .i64 s.length,.nili],hp.set p (.buf (l ++ s) 93 5),some (p,0)) else none
   | none=>none
  | _=>none
 else none
def wbO (f:FuncId)(args:List AV)(hp:List Zw):Option (AV×List Zw×Eff) :=
 if f=44 then match args with
  | [.ptr p 0,.int .u8 c]=>match Zuh hp[p]? with
   | some l=>if l.length + 1≤140737488355328∧0≤c∧c < 256 then some (.nili,hp.set p (.buf (l ++ [UInt8.ofNat c.toNat]) 93 5),some (p,0)) else none
   | none=>none
  | _=>none
 else none
section
variable {W0 w:World}{Γ:Yl}{hp:List Zw}
theorem inv0 (hr:RW W0 Γ w hp)(ht:Tidy Γ hp.length):Inv ⟨W0,Γ,w⟩ ⟨[],hp,none,hp.length⟩ Γ { tmps := #[],defers := [] } w :=
 ⟨rfl,⟨rfl,fun t y hy=>by simp at hy,fun t y hy=>by simp at hy⟩,hr,.refl _ _ _,fun b g hb=>hr.lt b g hb,fun b m g i hb=>ht.cell b m g i hb,Nat.le_refl _,fun _ _ hb _=>hb⟩
theorem Z0A {s:Zn}{Γ':Yl}{a:Act}{w':World}{v:AV}{cv:Value}(h:Inv ⟨W0,Γ,w⟩ s Γ' a w')(hb:s.bs=hp.length)(hr:Rep Γ' w' v cv)(ho:∀ k r,v≠.own k r) :
  ∃ Γ',RW W0 Γ' w' s.hp∧Rep Γ' w' v cv∧OwnAt Γ' w' .res v cv∧Frame Γ w Γ' w' s.ef∧hp.length≤s.hp.length∧∀ b g,Γ' b=.own g→g < hp.length→Γ b=.own g :=
 ⟨Γ',h.rw,hr,.of_ne ho,h.fr,by rw [← hb]; exact h.le,fun b g h1 h2=>h.back b g h1 (by rw [hb]; exact h2)⟩
theorem Z0n {sl:List AV}{h:List Zw}{p:Nat}(h0:p < hp.length):Zn.note ⟨sl,h,none,hp.length⟩ p 0=some (p,0):=by
 unfold Zn.note
 rw [if_pos h0]; rfl
theorem Zfb {xs:Array Value}{p:Nat}(h:Rep Γ w (.ptr p 0) (xs.getD 0 Go.undef)):∃ b,Γ b=.own p∧xs.getD 0 Go.undef=.pointer (some ⟨b,0,none⟩):=by
 generalize xs.getD 0 Go.undef=u at h
 cases h with
 | ptr _ _ b hb=>exact ⟨b,hb,rfl⟩
theorem Zch {xs:Array Value}{a b:Value}(hs:xs.size=2)(h0:xs.getD 0 Go.undef=a)(h1:xs.getD 1 Go.undef=b):xs=#[a,b]:=by
 refine Array.ext (by simpa using hs) fun i h2 h3=>?_
 have:i=0∨i=1:=by simp at h3; omega
 rcases this with rfl | rfl
 ·rw [Array.getD_eq_getD_getElem?,Array.getElem?_eq_getElem h2] at h0; simpa using h0
 ·rw [Array.getD_eq_getD_getElem?,Array.getElem?_eq_getElem h2] at h1; simpa using h1
theorem Zmd (hr:RW W0 Γ w hp){p b:Nat}{l:List UInt8}(hb:Γ b=.own p)(h:Zuh hp[p]? = some l) :
  p < hp.length∧∃ pv v,w.heap[b]? = some (.cells #[pv,v] 93 (0,0))∧(pv=.pointer none∨pv=.pointer (some ⟨b,0,none⟩))∧w.ownsRow 0 5 1 v l.length (Lib.byteCells l)∧∀ k,v.ownBlock=some k→Γ k=.list l.length (.cell p 1):=by
 unfold Zuh at h
 split at h <;> try (cases h; done)
 ·rename_i t hg
  split at h <;> cases h
  rename_i ht
  subst ht
  obtain ⟨b',C,h1,h2,h3,h4⟩:=hr.objs p _ hg
  obtain rfl:=hr.inj b b' p hb h1
  have c0:C.getD 0 Go.undef=.pointer none:=by
   have:=(h4 0 .nilp rfl).2.1
   generalize C.getD 0 Go.undef=u at this
   cases this; rfl
  have c1:C.getD 1 Go.undef=.slice none 0 0:=by
   have:=(h4 1 (.nils 1) rfl).2.1
   generalize C.getD 1 Go.undef=u at this
   cases this; rfl
  obtain rfl:=Zch (by rw [h3]; rfl) c0 c1
  exact ⟨ZA hg,_,_,h2,.inl rfl,⟨rfl,.inl ⟨rfl,rfl⟩⟩,fun k hk=>by cases hk⟩
 ·rename_i l' t e hg
  split at h <;> cases h
  rename_i ht
  obtain ⟨rfl,rfl⟩:=ht
  obtain ⟨b',C,h1,h2,h3⟩:=hr.objs p _ hg
  obtain rfl:=hr.inj b b' p hb h1
  refine ⟨ZA hg,?_⟩
  rcases h3 with ⟨rfl,rfl | rfl⟩ | ⟨k,cap,cur,rfl,h4,h5,h6,h7,h8,h9⟩
  ·exact ⟨_,_,h2,.inl rfl,⟨rfl,.inl ⟨rfl,rfl⟩⟩,fun k hk=>by cases hk⟩
  ·exact ⟨_,_,h2,.inr rfl,⟨rfl,.inl ⟨rfl,rfl⟩⟩,fun k hk=>by cases hk⟩
  ·refine ⟨_,_,h2,.inr rfl,⟨by rw [Lib.byteCells_length]; omega,.inr ⟨k,cap,cur,rfl,Nat.zero_le _,h5,h6,h7,by omega,?_⟩⟩,fun k hk=>by cases hk; exact h4⟩
   refine List.ext_getElem? fun j=>?_
   by_cases hj:j < l.length
   ·rw [List.getElem?_take,if_pos (by omega),Array.getElem?_toList,h9 j _ (List.getElem?_eq_getElem hj)]
    simp [Lib.byteCells,hj]
   ·rw [List.getElem?_take,if_neg (by omega),List.getElem?_eq_none (by rw [Lib.byteCells_length]; omega)]
theorem ZqC {w:World}{l:List UInt8}{g n cap:Nat}(h:w.ownsRow 0 5 1 (.slice (some ⟨g,0,none⟩) n cap) l.length (Lib.byteCells l)){j:Nat}{x:UInt8}(hj:l[j]? = some x):w.cell? ⟨g,j,none⟩=some (.int .u8 x.toNat):=by
 have:=World.ownsRow.cells h (g := g) rfl (j := j) (u := .int .u8 x.toNat) (by simp [Lib.byteCells,hj])
 have ha:(⟨g,0,none⟩:Addr).add j=⟨g,j,none⟩:=by simp [Addr.add]; intro h; exact h.symm
 rw [ha] at this; exact this
theorem ZhS (hr:RW W0 Γ w hp){p b:Nat}{w':World}{pv v:Value}{l s:List UInt8}{r:AV}{cr:Value}(hb:Γ b=.own p)(hpl:p < hp.length)(hbk:w.heap[b]? = some (.cells #[pv,v] 93 (0,0)))
  (hown:w.ownsRow 0 5 1 v l.length (Lib.byteCells l)) (hG:∀ k,v.ownBlock=some k→Γ k=.list l.length (.cell p 1)) (hw:Wrote b v (l ++ s) w w') (hrr:∀ Γ' w',Rep Γ' w' r cr) (hrn:∀ k x,r≠.own k x) :
  ∃ Γ',RW W0 Γ' w' (hp.set p (.buf (l ++ s) 93 5))∧Rep Γ' w' r cr∧OwnAt Γ' w' .res r cr∧Frame Γ w Γ' w' (some (p,0))∧hp.length≤(hp.set p (.buf (l ++ s) 93 5)).length∧∀ b g,Γ' b=.own g→g < hp.length→Γ b=.own g:=by
 obtain ⟨v',hb',hown',hfr⟩:=hw.row
 have hblt:b < w.heap.size:=lt_of_some hbk
 have hvlt:∀ k,v.ownBlock=some k→k < w.heap.size:=fun k hk=>(hown.lt k hk).2
 have hvlt':∀ k,v'.ownBlock=some k→k < w'.heap.size:=fun k hk=>(hown'.lt k hk).2
 have hvb:∀ k,v.ownBlock=some k→k≠b:=fun k hk e=>by subst e; have:=hG k hk; rw [hb] at this; cases this
 let Γ':Yl:=fun k=>if v'.ownBlock=some k then .list (l ++ s).length (.cell p 1) else if v.ownBlock=some k then .imm else Γ k
 have g1:∀ k,v'.ownBlock=some k→Γ' k=.list (l ++ s).length (.cell p 1):=fun k hk=>by simp only [Γ',if_pos hk]
 have g2:∀ k,v'.ownBlock≠some k→v.ownBlock=some k→Γ' k=.imm:=fun k hk hk2=>by simp only [Γ',if_neg hk,if_pos hk2]
 have g3:∀ k,v'.ownBlock≠some k→v.ownBlock≠some k→Γ' k=Γ k:=fun k hk hk2=>by simp only [Γ',if_neg hk,if_neg hk2]
 have hold:∀ k,k < w.heap.size→v.ownBlock≠some k→v'.ownBlock≠some k:=fun k hk hk2 e=>by
  rcases hfr with h | ⟨g,h,hg,_⟩
  ·exact hk2 (by rw [← h]; exact e)
  ·rw [h] at e; cases e; omega
 have hsame:∀ k,k < w.heap.size→k≠b→(v.ownBlock=some k→v'.ownBlock≠some k)→w'.heap[k]? = w.heap[k]?:=fun k hk hkb hk2=>by
  by_cases h:v.ownBlock=some k
  ·rcases hfr with h' | ⟨g,h',hg,hf⟩
   ·exact absurd (by rw [h']; exact h) (hk2 h)
   ·exact hf k hk hkb
  ·exact hw.same k hk hkb fun e=>h e.symm
 have gb:v'.ownBlock≠some b:=by
  rcases hfr with h | ⟨g,h,hg,_⟩
  ·rw [h]; exact fun e=>hvb b e rfl
  ·rw [h]; intro e; cases e; omega
 have gb2:Γ' b=.own p:=by rw [g3 b gb (fun e=>hvb b e rfl)]; exact hb
 have own1:∀ k g,Γ' k=.own g→Γ k=.own g:=fun k g h=>by
  by_cases h1:v'.ownBlock=some k
  ·rw [g1 k h1] at h; cases h
  ·by_cases h2:v.ownBlock=some k
   ·rw [g2 k h1 h2] at h; cases h
   ·rw [g3 k h1 h2] at h; exact h
 have st:Step Γ w Γ' w' fun k=>k=b∨v.ownBlock=some k:=by
  refine ⟨hw.os,hw.tape,hw.output,hw.size,fun k hk hx=>?_,fun k o y hf hc=>?_,fun k g hk=>?_⟩
  ·have hkb:k≠b:=fun e=>hx (.inl e)
   have hkv:v.ownBlock≠some k:=fun e=>hx (.inr e)
   exact ⟨g3 k (hold k hk hkv) hkv,hsame k hk hkb fun e=>absurd e hkv⟩
  ·have hklt:=lt_of_cell hc
   by_cases hkb:k=b
   ·subst hkb; unfold RJ at hf; rw [hb] at hf; exact hf.elim
   by_cases h1:v'.ownBlock=some k
   ·have h2:v.ownBlock=some k:=by
     rcases hfr with h | ⟨g,h,hg,_⟩
     ·rw [← h]; exact h1
     ·rw [h] at h1; cases h1; omega
    unfold RJ at hf ⊢
    rw [hG k h2] at hf
    rw [g1 k h1]
    refine ⟨Nat.lt_of_lt_of_le hf (by simp),?_⟩
    have hol:o < l.length:=hf
    cases v with
    | slice ad n cap =>
     cases v' with
     | slice ad' n' cap' =>
      cases ad with
      | none=>cases h2
      | some a =>
       cases ad' with
       | none=>cases h1
       | some a' =>
        rcases hown.2 with ⟨e,_⟩ | ⟨q,c1,c2,e,_⟩
        ·cases e
        cases e
        rcases hown'.2 with ⟨e,_⟩ | ⟨q',c1',c2',e,_⟩
        ·cases e
        cases e
        cases h1; cases h2
        have e1:=ZqC hown (List.getElem?_eq_getElem hol)
        have e2:=ZqC hown' (j := o) (x := l[o]) (by rw [List.getElem?_append_left hol]; exact List.getElem?_eq_getElem hol)
        rw [e1] at hc
        rw [e2]; exact hc
     | _=>cases h1
    | _=>cases h2
   ·have hs:=hsame k hklt hkb fun _=>h1
    refine ⟨?_,(GV hs).trans hc⟩
    unfold RJ at hf ⊢
    by_cases h2:v.ownBlock=some k
    ·rw [g2 k h1 h2]; trivial
    ·rw [g3 k h1 h2]; exact hf
  ·have h2:v.ownBlock≠some k:=fun e=>by rw [hG k e] at hk; cases hk
   have h1:v'.ownBlock≠some k:=by
    rcases Nat.lt_or_ge k w.heap.size with h | h
    ·exact hold k h h2
    ·rw [hr.fresh k h] at hk; cases hk
   rw [g3 k h1 h2]; exact hk
 have nimm:∀ k,(k=b∨v.ownBlock=some k)→Γ k≠.imm:=fun k hk e=>by
  rcases hk with rfl | hk
  ·rw [hb] at e; cases e
  ·rw [hG k hk] at e; cases e
 obtain ⟨o1,o2⟩:=Ry hr.old hr.oldImm st nimm
 refine ⟨Γ',⟨fun g o hg=>?_,fun b1 b2 g e1 e2=>hr.inj b1 b2 g (own1 _ _ e1) (own1 _ _ e2),fun k hk=>?_,fun k g hk=>by rw [List.length_set]; exact hr.lt k g (own1 k g hk),o1,o2,fun g hg k hk=>?_⟩,hrr _ _,.of_ne hrn,
  ⟨st.os,st.tape,st.output,st.size,st.fix,st.own,fun k hk hkp=>?_⟩,by simp,fun k g hk _=>own1 k g hk⟩
 ·by_cases hgp:g=p
  ·subst hgp
   rw [List.getElem?_set_self hpl] at hg
   cases hg
   refine ⟨b,_,gb2,hb',?_⟩
   rcases hown'.2 with ⟨rfl,h0⟩ | ⟨q,cap,cur,rfl,_,h5,h6,h7,h8,h9⟩
   ·exact .inl ⟨List.eq_nil_of_length_eq_zero h0,.inr rfl⟩
   ·refine .inr ⟨q,cap,cur,rfl,g1 q rfl,h5,h6,h7,by omega,fun j x hj=>?_⟩
    have:=congrArg (fun z:List Value=>z[j]?) h9
    have hjl:=ZA hj
    simp only [List.getElem?_take] at this
    rw [if_pos (by omega),Array.getElem?_toList] at this
    rw [this]
    simp only [Lib.byteCells,List.getElem?_map,hj]; rfl
  ·rw [List.getElem?_set_ne (fun e=>hgp e.symm)] at hg
   refine (hr.objs g o hg).step st hr.fresh (fun k hk e=>?_) fun k n i hk e=>?_
   ·rcases hk with rfl | hk
    ·rw [hb] at e; cases e; exact hgp rfl
    ·rw [hG k hk] at e; cases e
   ·rcases hk with rfl | hk
    ·rw [hb] at e; cases e
    ·rw [hG k hk] at e; cases e; exact hgp rfl
 ·have h1:v'.ownBlock≠some k:=fun e=>by have:=hvlt' k e; omega
  have h2:v.ownBlock≠some k:=fun e=>by have:=hvlt k e; have:=hw.size; omega
  rw [g3 k h1 h2]; exact hr.fresh k (Nat.le_trans hw.size hk)
 ·by_cases hgp:g=p
  ·subst hgp; rw [List.getElem?_set_self hpl] at hg; cases hg
  ·rw [List.getElem?_set_ne (fun e=>hgp e.symm)] at hg
   exact hr.dead g hg k (own1 k g hk)
 ·refine st.same k hk fun hx=>?_
  rcases hx with rfl | hx
  ·rw [hb] at hkp; exact absurd (hkp p 0 rfl) (Nat.lt_irrefl _)
  ·rw [hG k hx] at hkp; exact absurd (hkp p 0 rfl) (Nat.lt_irrefl _)
theorem ZlE {f:FuncId}{fn:Func}{c:Code}{xs:Array Value}{R:Value→World→Prop}(hf:Tryz.prog.funcs[f]? = some fn)(hn:(fn.name == "runtime.NumGoroutine")=false)(hb:fn.body=some c)
  (h:Calls Tryz.prog f xs w fun e w'=>∃ v,e=.returned v∧R v w'):ZtX Tryz.prog f xs w R:=Rx hf hn hb h
end
theorem ZzM (W0:World):YS Tryz.prog W0 wsO:=by
 intro g args hp v hp' e hc Γ w xs hr ht hs hx
 unfold wsO at hc
 split at hc <;> try (cases hc; done)
 rename_i hf
 subst hf
 split at hc <;> try (cases hc; done)
 rename_i p s
 split at hc <;> try (cases hc; done)
 rename_i l hl
 split at hc <;> try (cases hc; done)
 rename_i hle
 cases hc
 obtain ⟨b,hb,h0⟩:=Zfb (hx 0 _ rfl).1
 have h1:xs.getD 1 Go.undef=.string ⟨s.toArray⟩:=by
  have:=(hx 1 _ rfl).1
  generalize xs.getD 1 Go.undef=u at this
  cases this; rfl
 obtain rfl:=Zch hs h0 h1
 obtain ⟨hpl,pv,v,k1,k2,k3,k4⟩:=Zmd hr hb hl
 have hne:v.ownBlock≠some b:=fun e=>by have:=k4 b e; rw [hb] at this; cases this
 refine ZlE Tryz.func38 (by kernel_rfl) rfl ((Z0L b pv v l s w k2 k1 k3 hne hle).mono ?_)
 rintro e w' ⟨rfl,hw⟩
 refine ⟨_,rfl,ZhS hr hb hpl k1 k3 k4 hw (fun Γ' w'=>.tup _ _ rfl fun j c hj=>?_) (fun _ _ h=>by cases h)⟩
 match j,hj with
 | 0,hj=>cases hj; exact .int _ _
 | 1,hj=>cases hj; exact .nili
theorem ZzJ (W0:World):YS Tryz.prog W0 wbO:=by
 intro g args hp v hp' e hc Γ w xs hr ht hs hx
 unfold wbO at hc
 split at hc <;> try (cases hc; done)
 rename_i hf
 subst hf
 split at hc <;> try (cases hc; done)
 rename_i p c
 split at hc <;> try (cases hc; done)
 rename_i l hl
 split at hc <;> try (cases hc; done)
 rename_i hle
 cases hc
 obtain ⟨b,hb,h0⟩:=Zfb (hx 0 _ rfl).1
 have hcn:((UInt8.ofNat c.toNat).toNat:Int)=c:=by
  have:(UInt8.ofNat c.toNat).toNat=c.toNat:=by simp [UInt8.toNat_ofNat']; omega
  omega
 have h1:xs.getD 1 Go.undef=.int .u8 (UInt8.ofNat c.toNat).toNat:=by
  have:=(hx 1 _ rfl).1
  rw [hcn]
  generalize xs.getD 1 Go.undef=u at this
  cases this; rfl
 obtain rfl:=Zch hs h0 h1
 obtain ⟨hpl,pv,v,k1,k2,k3,k4⟩:=Zmd hr hb hl
 have hne:v.ownBlock≠some b:=fun e=>by have:=k4 b e; rw [hb] at this; cases this
 refine ZlE Tryz.func44 (by kernel_rfl) rfl ((Z0K b pv v l _ w k2 k1 k3 hne hle.1).mono ?_)
 rintro e w' ⟨rfl,hw⟩
 exact ⟨_,rfl,ZhS hr hb hpl k1 k3 k4 hw (fun Γ' w'=>.nili) (fun _ _ h=>by cases h)⟩
theorem ZvM {W0 w:World}{Γ:Yl}{hp:List Zw}{p b:Nat}{l:List UInt8}{c:AV}(hr:RW W0 Γ w hp)(ht:Tidy Γ hp.length)(hb:Γ b=.own p)(hg:hp[p]? = some (.cells [c,.own 1 (l.map byteRow)] 93))
  (typ:∀ k cur e0 cap n,w.cell? ⟨b,1,none⟩=some (.slice (some ⟨k,0,none⟩) n cap)→w.heap[k]? = some (.cells cur e0 (0,0))→e0=5) :
  ZtX Tryz.prog 45 #[.pointer (some ⟨b,0,none⟩)] w fun cv w'=>∃ Γ',RW W0 Γ' w' (hp.set p (.cells [c,.lst 1 (l.map byteRow)] 93))∧Rep Γ' w' (.str l) cv∧OwnAt Γ' w' .res (.str l) cv∧Frame Γ w Γ' w' (some (p,0))∧hp.length≤(hp.set p (.cells [c,.lst 1 (l.map byteRow)] 93)).length∧∀ b g,Γ' b=.own g→g < hp.length→Γ b=.own g:=by
 have hw:∀ {R:Value→World→Prop},Calls Tryz.prog 45 #[.pointer (some ⟨b,0,none⟩)] w (fun e w'=>∃ v,e=.returned v∧R v w')→ZtX Tryz.prog 45 #[.pointer (some ⟨b,0,none⟩)] w R:=fun h=>ZlE Tryz.func45 (by kernel_rfl) rfl h
 obtain ⟨rows,hrows⟩:∃ r,l.map byteRow=r:=⟨_,rfl⟩
 have rl:rows.length=l.length:=by rw [← hrows]; simp
 have rg:∀ (j:Nat) (x:UInt8),l[j]? = some x→rows[j]? = some [.int .u8 x.toNat]:=fun j x hj=>by rw [← hrows,List.getElem?_map,hj]; rfl
 rw [hrows] at hg ⊢
 obtain ⟨b',C,h1,h2,h3,h4⟩:=hr.objs p _ hg
 obtain rfl:=hr.inj b b' p hb h1
 have hpl:p < hp.length:=ZA hg
 have hCs:C.size=2:=by rw [h3]; rfl
 have hc1:w.cell? ⟨b,1,none⟩=some (C.getD 1 Go.undef):=by
  rw [Lib.cell_of_heap h2]; exact Xl (by omega)
 obtain ⟨_,q1,q2⟩:=h4 1 _ rfl
 have iL:=(inv0 hr ht).loose hg (off := 1) (v := .own 1 rows) rfl
 simp only at iL
 rw [Z0n hpl] at iL
 have fin:∀ {g:Nat} {w':World},SB g w w'→(∀ o,w'.cell? ⟨g,o,none⟩=w.cell? ⟨g,o,none⟩)→(w.heap.size≤g∨(∃ n,Γ g=.list n (.cell p 1))) →
   ∃ Γ',RW W0 Γ' w' (hp.set p (.cells [c,.lst 1 rows] 93))∧Rep Γ' w' (.str l) (.string ⟨l.toArray⟩)∧OwnAt Γ' w' .res (.str l) (.string ⟨l.toArray⟩)∧Frame Γ w Γ' w' (some (p,0))∧hp.length≤(hp.set p (.cells [c,.lst 1 rows] 93)).length∧∀ b g,Γ' b=.own g→g < hp.length→Γ b=.own g:=by
  intro g w' hsole hcell hk
  have st:Step (relab Γ (.cell p 1) (DW .res)) w (ZeT (relab Γ (.cell p 1) (DW .res)) g .imm) w' (· = g):=by
   refine ⟨hsole.os,hsole.tape,hsole.output,hsole.size,fun k hk hn=>⟨V5 _ _ hn,hsole.same k hk hn⟩,fun k o y h1 h2=>?_,fun k g' hk'=>?_⟩
   ·by_cases hkg:k=g
    ·subst hkg
     exact ⟨by unfold RJ; rw [Xm]; trivial,(hcell o).trans h2⟩
    ·exact ⟨by unfold RJ; rw [V5 _ _ hkg]; exact h1,(GV (hsole.same k (lt_of_cell h2) hkg)).trans h2⟩
   ·have:k≠g:=fun e=>by
     subst e
     have:=WM X6 hk'
     rcases hk with hk | ⟨n,hk⟩
     ·rw [hr.fresh k hk] at this; cases this
     ·rw [hk] at this; cases this
    rw [V5 _ _ this]; exact hk'
  rcases hk with hk | ⟨n,hk⟩
  ·
   have i2:=iL.plain (X := fun _=>False) (Γ':=relab Γ (.cell p 1) (DW .res)) (w':=w') ⟨hsole.os,hsole.tape,hsole.output,hsole.size,fun k hk' _=>⟨rfl,hsole.same k hk' (by omega)⟩,fun k o y h1 h2=>⟨h1,(GV (hsole.same k (lt_of_cell h2) (by have:=lt_of_cell h2; omega))).trans h2⟩,.refl _⟩ (fun _ hx=>hx.elim) (fun _ _ h=>h) (fun k hk'=>P9 (hr.fresh k (Nat.le_trans hsole.size hk')))
   exact Z0A (hp := hp) i2 rfl (v := .str l) (.str l) (by simp)
  ·have i2:=iL.plain st (fun k e=>⟨n,by rw [e]; exact Ai hk⟩) (fun k g' hk'=>by
     by_cases hkg:k=g
     ·subst hkg; rw [Xm] at hk'; cases hk'
     ·rw [V5 _ _ hkg] at hk'; exact hk') (fun k hk'=>by
     by_cases hkg:k=g
     ·subst hkg; exact Xm _ _ _
     ·rw [V5 _ _ hkg]; exact P9 (hr.fresh k (Nat.le_trans hsole.size hk')))
   exact Z0A (hp := hp) i2 rfl (v := .str l) (.str l) (by simp)
 rcases q2 1 rows rfl with ⟨e1,h0⟩ | ⟨g,cap,e0,cur,e1,hgm,hgh,g1,g2,g3,g4,g5⟩
 ·have:l=[]:=by rw [h0] at rl; exact List.eq_nil_of_length_eq_zero (by simpa using rl.symm)
  subst this
  rw [e1] at hc1
  refine hw ((Zsc b w.heap.size w hc1).mono ?_)
  rintro e w' ⟨rfl,hsole,hcell⟩
  exact ⟨_,rfl,fin hsole hcell (.inl (Nat.le_refl _))⟩
 ·rw [e1] at hc1
  have hcell:∀ (j:Nat) (x:UInt8),l[j]? = some x→cur[j]? = some (.int .u8 x.toNat):=fun j x hj=>by
   have hrow:=rg j x hj
   obtain ⟨_,k2⟩:=g5 j 0 _ _ hrow rfl
   rw [Nat.mul_one,Nat.add_zero] at k2
   have hjl:j < cur.size:=by have:=ZA hj; rw [g3]; omega
   rw [Xl hjl]
   generalize cur.getD j Go.undef=u at k2
   cases k2; rfl
  have htyp:e0=5:=typ _ _ _ _ _ hc1 hgh
  rw [rl] at hc1
  by_cases hl0:l=[]
  ·subst hl0
   by_cases hcap:cap=0
   ·subst hcap
    refine hw ((Zm4 b g cur e0 w hc1 hgh htyp).mono ?_)
    rintro e w' ⟨rfl,hsole,hcell⟩
    exact ⟨_,rfl,fin hsole hcell (.inr ⟨_,hgm⟩)⟩
   ·refine hw ((ZqS b g cap w hcap hc1).mono ?_)
    rintro e w' ⟨rfl,hsole,hcell⟩
    exact ⟨_,rfl,fin hsole hcell (.inr ⟨_,hgm⟩)⟩
  ·refine hw ((Zsd b g l cap cur e0 w hl0 hc1 hgh htyp (by omega) g2 (by rw [g3]; omega) hcell).mono ?_)
   rintro e w' ⟨rfl,hsole,hcell⟩
   exact ⟨_,rfl,fin hsole hcell (.inr ⟨_,hgm⟩)⟩
theorem buf_cells {W0 w:World}{Γ:Yl}{hp:List Zw}{p b:Nat}{l:List UInt8}(hr:RW W0 Γ w hp)(hb:Γ b=.own p)(hg:hp[p]? = some (.buf l 93 5))(hl:l≠[]) :
  RW W0 Γ w (hp.set p (.cells [.ptr p 0,.own 1 (l.map byteRow)] 93))∧∀ k cur e0 cap n,w.cell? ⟨b,1,none⟩=some (.slice (some ⟨k,0,none⟩) n cap)→w.heap[k]? = some (.cells cur e0 (0,0))→e0=5:=by
 have hpl:=ZA hg
 obtain ⟨b',C,h1,h2,h3⟩:=hr.objs p _ hg
 obtain rfl:=hr.inj b b' p hb h1
 rcases h3 with ⟨h,_⟩ | ⟨k,cap,cur,rfl,h4,h5,h6,h7,h8,h9⟩
 ·exact absurd h hl
 refine ⟨⟨fun g o ho=>?_,hr.inj,hr.fresh,fun b g h=>by rw [List.length_set]; exact hr.lt b g h,hr.old,hr.oldImm,fun g ho=>?_⟩,fun k' cur' e0 cap' n hc hh=>?_⟩
 ·by_cases hgp:g=p
  ·subst hgp
   rw [List.getElem?_set_self hpl] at ho
   cases ho
   refine ⟨b,_,hb,h2,rfl,fun i c hc=>?_⟩
   match i,hc with
   | 0,hc=>cases hc; exact ⟨rfl,.ptr g 0 b hb,.of_ne (by simp)⟩
   | 1,hc =>
    cases hc
    have hrow:∀ (i j:Nat) (r:List AV) (c:AV),(l.map byteRow)[i]? = some r→r[j]? = some c→c.noId1=true∧Rep Γ w c (cur.getD (i * 1 + j) Go.undef):=fun i j r c hi hj=>by
     rw [List.getElem?_map] at hi
     obtain ⟨x,hx,rfl⟩:=Option.map_eq_some_iff.1 hi
     match j,hj with
     | 0,hj =>
      cases hj
      refine ⟨rfl,?_⟩
      rw [Nat.mul_one,Nat.add_zero,Array.getD_eq_getD_getElem?,h9 i x hx]
      exact .int _ _
    have ho:OwnAt Γ w (.cell g 1) (.own 1 (l.map byteRow)) (.slice (some ⟨k,0,none⟩) l.length cap):=fun k' rows' e=>by
     cases e
     exact .inr ⟨k,cap,5,cur,by simp,by simpa using h4,h5,by simpa using h6,h7,by omega,fun r hr'=>by obtain ⟨x,_,rfl⟩:=List.mem_map.1 hr'; rfl,hrow⟩
    exact ⟨rfl,ho.rep,ho⟩
  ·rw [List.getElem?_set_ne (fun e=>hgp e.symm)] at ho
   exact hr.objs g o ho
 ·by_cases hgp:g=p
  ·subst hgp; rw [List.getElem?_set_self hpl] at ho; cases ho
  ·rw [List.getElem?_set_ne (fun e=>hgp e.symm)] at ho
   exact hr.dead g ho
 ·rw [Lib.cell_of_heap h2] at hc
  cases hc
  rw [h5] at hh; cases hh; rfl
def Z0z (f:FuncId)(args:List AV)(hp:List Zw):Option (AV×List Zw×Eff) :=
 if f=45 then match args with
  | [.ptr p 0]=>match hp[p]? with
   | some (.buf l t e)=>if t=93∧e=5∧l≠[] then some (.str l,hp.set p (.cells [.ptr p 0,.lst 1 (l.map byteRow)] 93),some (p,0)) else none
   | _=>none
  | _=>none
 else none
theorem Zyh (W0:World):YS Tryz.prog W0 Z0z:=by
 intro g args hp v hp' e hc Γ w xs hr ht hs hx
 unfold Z0z at hc
 split at hc <;> try (cases hc; done)
 rename_i hf
 subst hf
 split at hc <;> try (cases hc; done)
 rename_i p
 split at hc <;> try (cases hc; done)
 rename_i l t e0 hg
 split at hc <;> try (cases hc; done)
 rename_i hle
 obtain ⟨rfl,rfl,hl⟩:=hle
 cases hc
 obtain ⟨b,hb,h0⟩:=Zfb (hx 0 _ rfl).1
 have hxs:xs=#[.pointer (some ⟨b,0,none⟩)]:=by
  refine Array.ext (by simpa using hs) fun i h2 h3=>?_
  have:i=0:=by simp at h3; omega
  subst this
  rw [Array.getD_eq_getD_getElem?,Array.getElem?_eq_getElem h2] at h0; simpa using h0
 subst hxs
 obtain ⟨r1,typ⟩:=buf_cells hr hb hg hl
 have hpl:=ZA hg
 have:=ZvM (l := l) (c := .ptr p 0) r1 (by rw [List.length_set]; exact ht) hb (List.getElem?_set_self hpl) typ
 rw [List.set_set,List.length_set] at this
 exact this
def Zxd (f:FuncId)(args:List AV)(hp:List Zw):Option (AV×List Zw×Eff) :=
 if f=168 then match args with
  | [.ptr p 0,.int .i64 n]=>match hp[p]? with
   | some (.cells [.nilp,.nils 1] t)=>if t=93∧0≤n∧n≤281474976710656 then some (.undef,hp.set p (.buf [] 93 5),some (p,0)) else none
   | _=>none
  | _=>none
 else none
theorem Zu5 (W0:World):YS Tryz.prog W0 Zxd:=by
 intro g args hp v hp' e hc Γ w xs hr ht hs hx
 unfold Zxd at hc
 split at hc <;> try (cases hc; done)
 rename_i hf
 subst hf
 split at hc <;> try (cases hc; done)
 rename_i p n
 split at hc <;> try (cases hc; done)
 rename_i t hg
 split at hc <;> try (cases hc; done)
 rename_i hle
 obtain ⟨rfl,hn0,hn⟩:=hle
 cases hc
 obtain ⟨b,hb,h0⟩:=Zfb (hx 0 _ rfl).1
 have h1:xs.getD 1 Go.undef=.int .i64 (n.toNat:Int):=by
  have:=(hx 1 _ rfl).1
  rw [show ((n.toNat:Nat):Int)=n by omega]
  generalize xs.getD 1 Go.undef=u at this
  cases this; rfl
 obtain rfl:=Zch hs h0 h1
 have hpl:=ZA hg
 obtain ⟨b',C,q1,h2,h3,h4⟩:=hr.objs p _ hg
 obtain rfl:=hr.inj b b' p hb q1
 have c0:C.getD 0 Go.undef=.pointer none:=by
  have:=(h4 0 .nilp rfl).2.1
  generalize C.getD 0 Go.undef=u at this
  cases this; rfl
 have c1:C.getD 1 Go.undef=.slice none 0 0:=by
  have:=(h4 1 (.nils 1) rfl).2.1
  generalize C.getD 1 Go.undef=u at this
  cases this; rfl
 obtain rfl:=Zch (by rw [h3]; rfl) c0 c1
 refine ZlE Tryz.func168 (by kernel_rfl) rfl ((Zmp b n.toNat w h2 (by omega)).mono ?_)
 rintro e w' ⟨rfl,hsole,v',k1,k2⟩
 have hw:Wrote b (.slice none 0 0) ([] ++ []) w w':=by
  refine ⟨hsole.os,hsole.tape,hsole.output,hsole.size,fun k hk hkb _=>hsole.same k hk hkb,v',k1,?_,?_⟩
  ·rcases k2 with rfl | ⟨g,cs,rfl,_,h5,h6⟩
   ·exact ⟨rfl,.inl ⟨rfl,rfl⟩⟩
   ·exact ⟨rfl,.inr ⟨g,_,_,rfl,Nat.zero_le _,h5,Nat.zero_le _,h6,by omega,by simp [Lib.byteCells]⟩⟩
  ·rcases k2 with rfl | ⟨g,cs,rfl,h7,h5,h6⟩
   ·exact .inl rfl
   ·exact .inr ⟨g,rfl,h7,fun k hk hkb=>hsole.same k hk hkb⟩
 exact ⟨_,rfl,ZhS (l := []) (s := []) hr hb hpl h2 ⟨rfl,.inl ⟨rfl,rfl⟩⟩ (fun k hk=>by cases hk) hw (fun Γ' w'=>.undef) (fun _ _ h=>by cases h)⟩
end Go.Proofs.YtleomfgijkapfaaGreatDoor.Abs
end
