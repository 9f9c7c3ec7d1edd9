import Derived.Test.YtleomfgijkapfaaGreatDoorRows
import Derived.ProofKit
import Derived.Test.YtleomfgijkapfaaGreatDoorT10
set_option linter.all false
section
namespace Go.Proofs.YtleomfgijkapfaaGreatDoor
open Go Go.Proofs.YtleomfgijkapfaaGreatDoor.Abs
set_option maxRecDepth 100000
set_option maxHeartbeats 0
def cF (x:Option AFn):AFn:=x.getD ⟨0,[],.bad,false⟩
def takes:FuncId→List Nat:=fun x=>if x=Zcs then [16,17,91] else []
abbrev Hl:FuncId:=5
abbrev KF:FuncId:=10
noncomputable section
def cG (f:Func):AFn:=cF (cFn Tryz.prog takes f)
def VA:AFn:=cG Tryz.f5
def ED:AFn:=cG Tryz.f11
def KU:AFn:=cG Tryz.f13
def BG:AFn:=cG Tryz.f14
def I9:AFn:=cG Tryz.f16
def MI:AFn:=cG Tryz.f17
def Tn:AFn:=cG Tryz.f18
def DR:AFn:=cG Tryz.f19
def Zaf:AFn:=cG Tryz.f21
def ZcV:AFn:=cG Tryz.f22
def UF:AFn:=cG Tryz.f25
def Na:AFn:=cG Tryz.f27
def PV:AFn:=cG Tryz.f28
def PT:AFn:=cG Tryz.f29
def Zag:AFn:=cG Tryz.f30
def TS:AFn:=cG Tryz.f31
def Uk:AFn:=cG Tryz.f35
def IA:AFn:=cG Tryz.f37
def KN:AFn:=cG Tryz.f39
def Vg:AFn:=cG Tryz.f41
def XK:AFn:=cG Tryz.f42
def Tv:AFn:=cG Tryz.f43
def DT:AFn:=cG Tryz.f46
def D9:AFn:=cG Tryz.f48
def ZL:AFn:=cG Tryz.f49
def Tu:AFn:=cG Tryz.f50
def QF:AFn:=cG Tryz.f51
def EC:AFn:=cG Tryz.f53
def WZ:AFn:=cG Tryz.f52
def BZ:AFn:=cG Tryz.f57
def TP:AFn:=cG Tryz.f58
def J3:AFn:=cG Tryz.f59
def TA:AFn:=cG Tryz.f61
def Vd:AFn:=cG Tryz.f60
def PY:AFn:=cG Tryz.f64
def Yc:AFn:=cG Tryz.f65
def Tq:AFn:=cG Tryz.f66
def IE:AFn:=cG Tryz.f67
def KX:AFn:=cG Tryz.f68
def IJ:AFn:=cG Tryz.f70
def MB:AFn:=cG Tryz.f69
def MC:AFn:=cG Tryz.f72
def EE:AFn:=cG Tryz.f75
def KJ:AFn:=cG Tryz.f76
def O3:AFn:=cG Tryz.f77
def U7:AFn:=cG Tryz.f78
def IB:AFn:=cG Tryz.f79
def MJ:AFn:=cG Tryz.f80
def MG:AFn:=cG Tryz.f83
def TQ:AFn:=cG Tryz.f86
def KO:AFn:=cG Tryz.f90
def MH:AFn:=cG Tryz.f91
def Vy:AFn:=cG Tryz.f93
def DC:AFn:=cG Tryz.f94
def Uu:AFn:=cG Tryz.f96
def EI:AFn:=cG Tryz.f97
def Yo:AFn:=cG Tryz.f98
def Tt:AFn:=cG Tryz.f99
def JC:AFn:=cG Tryz.f108
def VW:AFn:=cG Tryz.f107
def JB:AFn:=cG Tryz.f62
def EM:AFn:=cG Tryz.f63
def TC:AFn:=cG Tryz.f141
def J4:AFn:=cG Tryz.f140
def Uw:AFn:=cG Tryz.f144
def DD:AFn:=cG Tryz.f143
def Me:AFn:=cG Tryz.f145
def DJ:AFn:=cG Tryz.f146
def Md:AFn:=cG Tryz.f147
def Uy:AFn:=cG Tryz.f148
def MF:AFn:=cG Tryz.f149
def EP:AFn:=cG Tryz.f150
def IK:AFn:=cG Tryz.f152
def Zah:AFn:=cG Tryz.f153
def Zai:AFn:=cG Tryz.f154
def U6:AFn:=cG Tryz.f155
def U8:AFn:=cG Tryz.f156
def J9:AFn:=cG Tryz.f158
def Wx:AFn:=cG Tryz.f157
def KP:AFn:=cG Tryz.f159
def KQ:AFn:=cG Tryz.f160
def TY:AFn:=cG Tryz.f163
def IC:AFn:=cG Tryz.f164
def KW:AFn:=cG Tryz.f165
def TR:AFn:=cG Tryz.f166
def WY:AFn:=cG Tryz.f170
def ZM:AFn:=cG Tryz.f171
def O6:AFn:=cG Tryz.f172
def Qx:AFn:=cG Tryz.f173
def Yi:AFn:=cG Tryz.f174
def O1:AFn:=cG Tryz.f175
def PX:AFn:=cG Tryz.f177
def EK:AFn:=cG Tryz.f178
def BJ:AFn:=cG Tryz.f109
def BK:AFn:=cG Tryz.f112
def BM:AFn:=cG Tryz.f113
def BN:AFn:=cG Tryz.f119
def BO:AFn:=cG Tryz.f122
def BP:AFn:=cG Tryz.f125
def BQ:AFn:=cG Tryz.f126
def BR:AFn:=cG Tryz.f127
def BU:AFn:=cG Tryz.f128
def TK:AFn:=cG Tryz.f129
def TL:AFn:=cG Tryz.f130
def TM:AFn:=cG Tryz.f134
def TN:AFn:=cG Tryz.f138
def PW:AFn:=cG Tryz.f111
def EJ:AFn:=cG Tryz.f142
def BX:AFn:=cG Tryz.f116
def ZbJ:AFn:=cG Tryz.f191
def Uz:AFn:=cG Tryz.f192
def KZ:AFn:=cG Tryz.f193
def KY:AFn:=cG Tryz.f194
def DN:AFn:=cG Tryz.f195
def Zaj:AFn:=cG Tryz.f196
def VB:AFn:=cG Tryz.f197
def EH:AFn:=cG Tryz.f198
def EG:AFn:=cG Tryz.f199
def UB:AFn:=cG Tryz.f200
def WP:AFn:=cG Tryz.f201
def JD:AFn:=cG Tryz.f203
def YO:AFn:=cG Tryz.f202
def UE:AFn:=cG Tryz.f205
def UD:AFn:=cG Tryz.f206
def Ht:AFn:=cG Tryz.f207
def Z9:AFn:=cG Tryz.f210
def Um:AFn:=cG Tryz.f211
def YT:AFn:=cG Tryz.f212
def Wj:AFn:=cG Tryz.f213
def Xj:AFn:=cG Tryz.f214
def ZR:AFn:=cG Tryz.f215
def UC:AFn:=cG Tryz.f216
def Yj:AFn:=cG Tryz.f217
def Ho:AFn:=cG Tryz.f218
def Y2:AFn:=cG Tryz.f219
def TJ:AFn:=cG Tryz.f220
def Yp:AFn:=cG Tryz.f221
def ZfY:AFn:=cG Tryz.f188
def Ul:AFn:=cG Tryz.f110
def O8:AFn:=cG Tryz.f115
def Xi:AFn:=cG Tryz.f114
def O9:AFn:=cG Tryz.f121
def XL:AFn:=cG Tryz.f120
def OA:AFn:=cG Tryz.f124
def Vb:AFn:=cG Tryz.f123
def Hq:AFn:=cG Tryz.f132
def Vx:AFn:=cG Tryz.f131
def Hr:AFn:=cG Tryz.f136
def VV:AFn:=cG Tryz.f135
def EL:AFn:=cG Tryz.f139
def BH:AFn:=cG Tryz.f190
def YK:AFn:=cG Tryz.f189
def Ux:AFn:=cG Tryz.f231
def TZ:AFn:=cG Tryz.f232
def DL:AFn:=cG Tryz.f233
def KL:AFn:=cG Tryz.f234
def Wy:AFn:=cG Tryz.f235
def TU:AFn:=cG Tryz.f236
def IG:AFn:=cG Tryz.f237
def DF:AFn:=cG Tryz.f238
def WO:AFn:=cG Tryz.f244
def WX:AFn:=cG Tryz.f245
def Zal:AFn:=cG Tryz.f246
def Qy:AFn:=cG Tryz.f247
def O7:AFn:=cG Tryz.f117
def O4:AFn:=cG Tryz.f118
def TD:AFn:=cG Tryz.f133
def PZ:AFn:=cG Tryz.f137
def BI:AFn:=cG Tryz.f184
def JE:AFn:=cG Tryz.f183
def UG:AFn:=cG Tryz.f252
def Hu:AFn:=cG Tryz.f253
def U9:AFn:=cG Tryz.f254
def Zak:AFn:=cG Tryz.f255
def UA:AFn:=cG Tryz.f256
def JA:AFn:=cG Tryz.f257
def Yq:AFn:=cG Tryz.f263
def Zan:AFn:=cG Tryz.f264
def Q4:AFn:=cG Tryz.f179
def WV:AFn:=cG Tryz.f180
def EQ:AFn:=cG Tryz.f181
def TB:AFn:=cG Tryz.f182
def O5:AFn:=cG Tryz.f186
def J5:AFn:=cG Tryz.f185
def EO:AFn:=cG Tryz.f267
def PU:AFn:=cG Tryz.f268
def Xk:AFn:=cG Tryz.f222
def ER:AFn:=cG Tryz.f224
def ES:AFn:=cG Tryz.f225
def EU:AFn:=cG Tryz.f226
def Hm:AFn:=cG Tryz.f228
def YU:AFn:=cG Tryz.f227
def EN:AFn:=cG Tryz.f187
def ZbK:AFn:=cG Tryz.f271
def II:AFn:=cG Tryz.f272
def Mc:AFn:=cG Tryz.f273
def Zao:AFn:=cG Tryz.f248
def Zam:AFn:=cG Tryz.f249
def EW:AFn:=cG Tryz.f250
def BV:AFn:=cG Tryz.f230
def Y6:AFn:=cG Tryz.f229
def DI:AFn:=cG Tryz.f274
def TW:AFn:=cG Tryz.f275
def Nb:AFn:=cG Tryz.f265
def EF:AFn:=cG Tryz.f266
def YB:AFn:=cG Tryz.f251
def tab:List (Nat×AFn):=[(5,VA),(11,ED),(13,KU),(14,BG),(16,I9),(17,MI),(18,Tn),(19,DR),(21,Zaf),(22,ZcV),(25,UF),(27,Na),(28,PV),(29,PT),(30,Zag),(31,TS),(35,Uk),(37,IA),(39,KN),(41,Vg),(42,XK),(43,Tv),(46,DT),(48,D9),(49,ZL),(50,Tu),(51,QF),(53,EC),(52,WZ),(57,BZ),(58,TP),(59,J3),(61,TA),(60,Vd),(64,PY),(65,Yc),(66,Tq),(67,IE),(68,KX),(70,IJ),(69,MB),(72,MC),(75,EE),(76,KJ),(77,O3),(78,U7),(79,IB),(80,MJ),(83,MG),(86,TQ),(90,KO),(91,MH),(93,Vy),(94,DC),(96,Uu),(97,EI),(98,Yo),(99,Tt),(108,JC),(107,VW),(62,JB),(63,EM),(141,TC),(140,J4),(144,Uw),(143,DD),(145,Me),(146,DJ),(147,Md),(148,Uy),(149,MF),(150,EP),(152,IK),(153,Zah),(154,Zai),(155,U6),(156,U8),(158,J9),(157,Wx),(159,KP),(160,KQ),(163,TY),(164,IC),(165,KW),(166,TR),(170,WY),(171,ZM),(172,O6),(173,Qx),(174,Yi),(175,O1),(177,PX),(178,EK),(109,BJ),(112,BK),(113,BM),(119,BN),(122,BO),(125,BP),(126,BQ),(127,BR),(128,BU),(129,TK),(130,TL),(134,TM),(138,TN),(111,PW),(142,EJ),(116,BX),(191,ZbJ),(192,Uz),(193,KZ),(194,KY),(195,DN),(196,Zaj),(197,VB),(198,EH),(199,EG),(200,UB),(201,WP),(203,JD),(202,YO),(205,UE),(206,UD),(207,Ht),(210,Z9),(211,Um),(212,YT),(213,Wj),(214,Xj),(215,ZR),(216,UC),(217,Yj),(218,Ho),(219,Y2),(220,TJ),(221,Yp),(188,ZfY),(110,Ul),(115,O8),(114,Xi),(121,O9),(120,XL),(124,OA),(123,Vb),(132,Hq),(131,Vx),(136,Hr),(135,VV),(139,EL),(190,BH),(189,YK),(231,Ux),(232,TZ),(233,DL),(234,KL),(235,Wy),(236,TU),(237,IG),(238,DF),(244,WO),(245,WX),(246,Zal),(247,Qy),(117,O7),(118,O4),(133,TD),(137,PZ),(184,BI),(183,JE),(252,UG),(253,Hu),(254,U9),(255,Zak),(256,UA),(257,JA),(263,Yq),(264,Zan),(179,Q4),(180,WV),(181,EQ),(182,TB),(186,O5),(185,J5),(267,EO),(268,PU),(222,Xk),(224,ER),(225,ES),(226,EU),(228,Hm),(227,YU),(187,EN),(271,ZbK),(272,II),(273,Mc),(248,Zao),(249,Zam),(250,EW),(230,BV),(229,Y6),(274,DI),(275,TW),(265,Nb),(266,EF),(251,YB)]
abbrev T9 (p:Nat×AFn):Prop:=∃ fn takes,Tryz.prog.funcs[p.1]? = some fn∧(fn.name == "runtime.NumGoroutine")=false∧cFn Tryz.prog takes fn=some p.2
theorem T0:∀ p ∈ ([]:List (Nat×AFn)),T9 p:=fun _ h=>by cases h
theorem T1 {f:Nat}{fn:Func}{l:List (Nat×AFn)}(h:Tryz.prog.funcs[f]? = some fn)(k:(!(fn.name == "runtime.NumGoroutine")&&(cFn Tryz.prog takes fn).isSome)=true)(r:∀ p ∈ l,T9 p):∀ p ∈ (f,cG fn)::l,T9 p:=fun p hp=>by
  rw [Bool.and_eq_true,Bool.not_eq_true'] at k
  rcases List.mem_cons.1 hp with rfl | hp
  · refine ⟨fn,takes,h,k.1,?_⟩
    show _=some (cG fn)
    unfold cG cF
    cases e:cFn Tryz.prog takes fn with
    | none=>rw [e] at k;cases k.2
    | some v=>rfl
  · exact r p hp
theorem Zig:∀ p ∈ tab,T9 p:=T1 Tryz.func5 (by kernel_rfl)<|
 T1 Tryz.func11 (by kernel_rfl)<|
 T1 Tryz.func13 (by kernel_rfl)<|
 T1 Tryz.func14 (by kernel_rfl)<|
 T1 Tryz.func16 (by kernel_rfl)<|
 T1 Tryz.func17 (by kernel_rfl)<|
 T1 Tryz.func18 (by kernel_rfl)<|
 T1 Tryz.func19 (by kernel_rfl)<|
 T1 Tryz.func21 (by kernel_rfl)<|
 T1 Tryz.func22 (by kernel_rfl)<|
 T1 Tryz.func25 (by kernel_rfl)<|
 T1 Tryz.func27 (by kernel_rfl)<|
 T1 Tryz.func28 (by kernel_rfl)<|
 T1 Tryz.func29 (by kernel_rfl)<|
 T1 Tryz.func30 (by kernel_rfl)<|
 T1 Tryz.func31 (by kernel_rfl)<|
 T1 Tryz.func35 (by kernel_rfl)<|
 T1 Tryz.func37 (by kernel_rfl)<|
 T1 Tryz.func39 (by kernel_rfl)<|
 T1 Tryz.func41 (by kernel_rfl)<|
 T1 Tryz.func42 (by kernel_rfl)<|
 T1 Tryz.func43 (by kernel_rfl)<|
 T1 Tryz.func46 (by kernel_rfl)<|
 T1 Tryz.func48 (by kernel_rfl)<|
 T1 Tryz.func49 (by kernel_rfl)<|
 T1 Tryz.func50 (by kernel_rfl)<|
 T1 Tryz.func51 (by kernel_rfl)<|
 T1 Tryz.func53 (by kernel_rfl)<|
 T1 Tryz.func52 (by kernel_rfl)<|
 T1 Tryz.func57 (by kernel_rfl)<|
 T1 Tryz.func58 (by kernel_rfl)<|
 T1 Tryz.func59 (by kernel_rfl)<|
 T1 Tryz.func61 (by kernel_rfl)<|
 T1 Tryz.func60 (by kernel_rfl)<|
 T1 Tryz.func64 (by kernel_rfl)<|
 T1 Tryz.func65 (by kernel_rfl)<|
 T1 Tryz.func66 (by kernel_rfl)<|
 T1 Tryz.func67 (by kernel_rfl)<|
 T1 Tryz.func68 (by kernel_rfl)<|
 T1 Tryz.func70 (by kernel_rfl)<|
 T1 Tryz.func69 (by kernel_rfl)<|
 T1 Tryz.func72 (by kernel_rfl)<|
 T1 Tryz.func75 (by kernel_rfl)<|
 T1 Tryz.func76 (by kernel_rfl)<|
 T1 Tryz.func77 (by kernel_rfl)<|
 T1 Tryz.func78 (by kernel_rfl)<|
 T1 Tryz.func79 (by kernel_rfl)<|
 T1 Tryz.func80 (by kernel_rfl)<|
 T1 Tryz.func83 (by kernel_rfl)<|
 T1 Tryz.func86 (by kernel_rfl)<|
 T1 Tryz.func90 (by kernel_rfl)<|
 T1 Tryz.func91 (by kernel_rfl)<|
 T1 Tryz.func93 (by kernel_rfl)<|
 T1 Tryz.func94 (by kernel_rfl)<|
 T1 Tryz.func96 (by kernel_rfl)<|
 T1 Tryz.func97 (by kernel_rfl)<|
 T1 Tryz.func98 (by kernel_rfl)<|
 T1 Tryz.func99 (by kernel_rfl)<|
 T1 Tryz.func108 (by kernel_rfl)<|
 T1 Tryz.func107 (by kernel_rfl)<|
 T1 Tryz.func62 (by kernel_rfl)<|
 T1 Tryz.func63 (by kernel_rfl)<|
 T1 Tryz.func141 (by kernel_rfl)<|
 T1 Tryz.func140 (by kernel_rfl)<|
 T1 Tryz.func144 (by kernel_rfl)<|
 T1 Tryz.func143 (by kernel_rfl)<|
 T1 Tryz.func145 (by kernel_rfl)<|
 T1 Tryz.func146 (by kernel_rfl)<|
 T1 Tryz.func147 (by kernel_rfl)<|
 T1 Tryz.func148 (by kernel_rfl)<|
 T1 Tryz.func149 (by kernel_rfl)<|
 T1 Tryz.func150 (by kernel_rfl)<|
 T1 Tryz.func152 (by kernel_rfl)<|
 T1 Tryz.func153 (by kernel_rfl)<|
 T1 Tryz.func154 (by kernel_rfl)<|
 T1 Tryz.func155 (by kernel_rfl)<|
 T1 Tryz.func156 (by kernel_rfl)<|
 T1 Tryz.func158 (by kernel_rfl)<|
 T1 Tryz.func157 (by kernel_rfl)<|
 T1 Tryz.func159 (by kernel_rfl)<|
 T1 Tryz.func160 (by kernel_rfl)<|
 T1 Tryz.func163 (by kernel_rfl)<|
 T1 Tryz.func164 (by kernel_rfl)<|
 T1 Tryz.func165 (by kernel_rfl)<|
 T1 Tryz.func166 (by kernel_rfl)<|
 T1 Tryz.func170 (by kernel_rfl)<|
 T1 Tryz.func171 (by kernel_rfl)<|
 T1 Tryz.func172 (by kernel_rfl)<|
 T1 Tryz.func173 (by kernel_rfl)<|
 T1 Tryz.func174 (by kernel_rfl)<|
 T1 Tryz.func175 (by kernel_rfl)<|
 T1 Tryz.func177 (by kernel_rfl)<|
 T1 Tryz.func178 (by kernel_rfl)<|
 T1 Tryz.func109 (by kernel_rfl)<|
 T1 Tryz.func112 (by kernel_rfl)<|
 T1 Tryz.func113 (by kernel_rfl)<|
 T1 Tryz.func119 (by kernel_rfl)<|
 T1 Tryz.func122 (by kernel_rfl)<|
 T1 Tryz.func125 (by kernel_rfl)<|
 T1 Tryz.func126 (by kernel_rfl)<|
 T1 Tryz.func127 (by kernel_rfl)<|
 T1 Tryz.func128 (by kernel_rfl)<|
 T1 Tryz.func129 (by kernel_rfl)<|
 T1 Tryz.func130 (by kernel_rfl)<|
 T1 Tryz.func134 (by kernel_rfl)<|
 T1 Tryz.func138 (by kernel_rfl)<|
 T1 Tryz.func111 (by kernel_rfl)<|
 T1 Tryz.func142 (by kernel_rfl)<|
 T1 Tryz.func116 (by kernel_rfl)<|
 T1 Tryz.func191 (by kernel_rfl)<|
 T1 Tryz.func192 (by kernel_rfl)<|
 T1 Tryz.func193 (by kernel_rfl)<|
 T1 Tryz.func194 (by kernel_rfl)<|
 T1 Tryz.func195 (by kernel_rfl)<|
 T1 Tryz.func196 (by kernel_rfl)<|
 T1 Tryz.func197 (by kernel_rfl)<|
 T1 Tryz.func198 (by kernel_rfl)<|
 T1 Tryz.func199 (by kernel_rfl)<|
 T1 Tryz.func200 (by kernel_rfl)<|
 T1 Tryz.func201 (by kernel_rfl)<|
 T1 Tryz.func203 (by kernel_rfl)<|
 T1 Tryz.func202 (by kernel_rfl)<|
 T1 Tryz.func205 (by kernel_rfl)<|
 T1 Tryz.func206 (by kernel_rfl)<|
 T1 Tryz.func207 (by kernel_rfl)<|
 T1 Tryz.func210 (by kernel_rfl)<|
 T1 Tryz.func211 (by kernel_rfl)<|
 T1 Tryz.func212 (by kernel_rfl)<|
 T1 Tryz.func213 (by kernel_rfl)<|
 T1 Tryz.func214 (by kernel_rfl)<|
 T1 Tryz.func215 (by kernel_rfl)<|
 T1 Tryz.func216 (by kernel_rfl)<|
 T1 Tryz.func217 (by kernel_rfl)<|
 T1 Tryz.func218 (by kernel_rfl)<|
 T1 Tryz.func219 (by kernel_rfl)<|
 T1 Tryz.func220 (by kernel_rfl)<|
 T1 Tryz.func221 (by kernel_rfl)<|
 T1 Tryz.func188 (by kernel_rfl)<|
 T1 Tryz.func110 (by kernel_rfl)<|
 T1 Tryz.func115 (by kernel_rfl)<|
 T1 Tryz.func114 (by kernel_rfl)<|
 T1 Tryz.func121 (by kernel_rfl)<|
 T1 Tryz.func120 (by kernel_rfl)<|
 T1 Tryz.func124 (by kernel_rfl)<|
 T1 Tryz.func123 (by kernel_rfl)<|
 T1 Tryz.func132 (by kernel_rfl)<|
 T1 Tryz.func131 (by kernel_rfl)<|
 T1 Tryz.func136 (by kernel_rfl)<|
 T1 Tryz.func135 (by kernel_rfl)<|
 T1 Tryz.func139 (by kernel_rfl)<|
 T1 Tryz.func190 (by kernel_rfl)<|
 T1 Tryz.func189 (by kernel_rfl)<|
 T1 Tryz.func231 (by kernel_rfl)<|
 T1 Tryz.func232 (by kernel_rfl)<|
 T1 Tryz.func233 (by kernel_rfl)<|
 T1 Tryz.func234 (by kernel_rfl)<|
 T1 Tryz.func235 (by kernel_rfl)<|
 T1 Tryz.func236 (by kernel_rfl)<|
 T1 Tryz.func237 (by kernel_rfl)<|
 T1 Tryz.func238 (by kernel_rfl)<|
 T1 Tryz.func244 (by kernel_rfl)<|
 T1 Tryz.func245 (by kernel_rfl)<|
 T1 Tryz.func246 (by kernel_rfl)<|
 T1 Tryz.func247 (by kernel_rfl)<|
 T1 Tryz.func117 (by kernel_rfl)<|
 T1 Tryz.func118 (by kernel_rfl)<|
 T1 Tryz.func133 (by kernel_rfl)<|
 T1 Tryz.func137 (by kernel_rfl)<|
 T1 Tryz.func184 (by kernel_rfl)<|
 T1 Tryz.func183 (by kernel_rfl)<|
 T1 Tryz.func252 (by kernel_rfl)<|
 T1 Tryz.func253 (by kernel_rfl)<|
 T1 Tryz.func254 (by kernel_rfl)<|
 T1 Tryz.func255 (by kernel_rfl)<|
 T1 Tryz.func256 (by kernel_rfl)<|
 T1 Tryz.func257 (by kernel_rfl)<|
 T1 Tryz.func263 (by kernel_rfl)<|
 T1 Tryz.func264 (by kernel_rfl)<|
 T1 Tryz.func179 (by kernel_rfl)<|
 T1 Tryz.func180 (by kernel_rfl)<|
 T1 Tryz.func181 (by kernel_rfl)<|
 T1 Tryz.func182 (by kernel_rfl)<|
 T1 Tryz.func186 (by kernel_rfl)<|
 T1 Tryz.func185 (by kernel_rfl)<|
 T1 Tryz.func267 (by kernel_rfl)<|
 T1 Tryz.func268 (by kernel_rfl)<|
 T1 Tryz.func222 (by kernel_rfl)<|
 T1 Tryz.func224 (by kernel_rfl)<|
 T1 Tryz.func225 (by kernel_rfl)<|
 T1 Tryz.func226 (by kernel_rfl)<|
 T1 Tryz.func228 (by kernel_rfl)<|
 T1 Tryz.func227 (by kernel_rfl)<|
 T1 Tryz.func187 (by kernel_rfl)<|
 T1 Tryz.func271 (by kernel_rfl)<|
 T1 Tryz.func272 (by kernel_rfl)<|
 T1 Tryz.func273 (by kernel_rfl)<|
 T1 Tryz.func248 (by kernel_rfl)<|
 T1 Tryz.func249 (by kernel_rfl)<|
 T1 Tryz.func250 (by kernel_rfl)<|
 T1 Tryz.func230 (by kernel_rfl)<|
 T1 Tryz.func229 (by kernel_rfl)<|
 T1 Tryz.func274 (by kernel_rfl)<|
 T1 Tryz.func275 (by kernel_rfl)<|
 T1 Tryz.func265 (by kernel_rfl)<|
 T1 Tryz.func266 (by kernel_rfl)<|
 T1 Tryz.func251 (by kernel_rfl)<|T0
end
end Go.Proofs.YtleomfgijkapfaaGreatDoor
end
