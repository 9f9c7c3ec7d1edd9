import Derived.Test.YtleomfgijkapfaaGreatDoorRows
import Derived.ProofKit
import Derived.Test.YtleomfgijkapfaaGreatDoorS8
set_option linter.all false
section
namespace Go.Proofs.YtleomfgijkapfaaGreatDoor
open Go Go.Proofs.YtleomfgijkapfaaGreatDoor.Abs
set_option maxRecDepth 100000
set_option maxHeartbeats 0
def cF (x:Option AFn):AFn:=x.getD ⟨0,[],.bad,false⟩
def takes:FuncId→List Nat:=fun _=>[]
abbrev Zbv:FuncId:=7
abbrev Me:FuncId:=10
noncomputable section
def cG (f:Func):AFn:=cF (cFn Tryz.prog takes f)
def LV:AFn:=cG Tryz.f7
def Zct:AFn:=cG Tryz.f9
def Zat:AFn:=cG Tryz.f11
def ZcB:AFn:=cG Tryz.f12
def EP:AFn:=cG Tryz.f13
def PT:AFn:=cG Tryz.f14
def Ae:AFn:=cG Tryz.f15
def Rl:AFn:=cG Tryz.f20
def Zco:AFn:=cG Tryz.f21
def Zft:AFn:=cG Tryz.f22
def Zib:AFn:=cG Tryz.f23
def Zf3:AFn:=cG Tryz.f24
def NU:AFn:=cG Tryz.f25
def EX:AFn:=cG Tryz.f27
def EQ:AFn:=cG Tryz.f28
def EK:AFn:=cG Tryz.f29
def Zcp:AFn:=cG Tryz.f30
def Zcx:AFn:=cG Tryz.f31
def Zc3:AFn:=cG Tryz.f32
def Zf5:AFn:=cG Tryz.f33
def Zf4:AFn:=cG Tryz.f34
def Gw:AFn:=cG Tryz.f35
def ZcG:AFn:=cG Tryz.f36
def Zav:AFn:=cG Tryz.f37
def Ol:AFn:=cG Tryz.f41
def FY:AFn:=cG Tryz.f47
def Zfu:AFn:=cG Tryz.f48
def ZP:AFn:=cG Tryz.f49
def Bi:AFn:=cG Tryz.f50
def QZ:AFn:=cG Tryz.f51
def Zas:AFn:=cG Tryz.f53
def Qp:AFn:=cG Tryz.f52
def Nu:AFn:=cG Tryz.f54
def N7:AFn:=cG Tryz.f55
def Nq:AFn:=cG Tryz.f57
def BH:AFn:=cG Tryz.f58
def XI:AFn:=cG Tryz.f59
def Bq:AFn:=cG Tryz.f61
def VB:AFn:=cG Tryz.f60
def EU:AFn:=cG Tryz.f64
def Yd:AFn:=cG Tryz.f65
def Bg:AFn:=cG Tryz.f66
def Za5:AFn:=cG Tryz.f67
def EZ:AFn:=cG Tryz.f68
def Za8:AFn:=cG Tryz.f70
def Zc6:AFn:=cG Tryz.f69
def ZcA:AFn:=cG Tryz.f71
def Zc8:AFn:=cG Tryz.f72
def Zf1:AFn:=cG Tryz.f73
def Zc7:AFn:=cG Tryz.f74
def Zau:AFn:=cG Tryz.f75
def Oi:AFn:=cG Tryz.f76
def LU:AFn:=cG Tryz.f77
def Jf:AFn:=cG Tryz.f78
def Zaw:AFn:=cG Tryz.f79
def ZcH:AFn:=cG Tryz.f80
def ZcI:AFn:=cG Tryz.f81
def Af:AFn:=cG Tryz.f82
def ZcC:AFn:=cG Tryz.f83
def BI:AFn:=cG Tryz.f84
def Ce:AFn:=cG Tryz.f85
def Zcv:AFn:=cG Tryz.f86
def ZcD:AFn:=cG Tryz.f91
def MF:AFn:=cG Tryz.f95
def Nr:AFn:=cG Tryz.f96
def Zay:AFn:=cG Tryz.f97
def Yt:AFn:=cG Tryz.f98
def Bh:AFn:=cG Tryz.f99
def Rk:AFn:=cG Tryz.f100
def BK:AFn:=cG Tryz.f101
def Om:AFn:=cG Tryz.f102
def Rj:AFn:=cG Tryz.f103
def Cb:AFn:=cG Tryz.f104
def Nz:AFn:=cG Tryz.f105
def Ad:AFn:=cG Tryz.f106
def XW:AFn:=cG Tryz.f108
def Xy:AFn:=cG Tryz.f107
def WS:AFn:=cG Tryz.f62
def Za2:AFn:=cG Tryz.f63
def Bz:AFn:=cG Tryz.f141
def Us:AFn:=cG Tryz.f140
def Ns:AFn:=cG Tryz.f144
def Zfv:AFn:=cG Tryz.f143
def Zc5:AFn:=cG Tryz.f145
def Zfy:AFn:=cG Tryz.f146
def Zc4:AFn:=cG Tryz.f147
def Nw:AFn:=cG Tryz.f148
def Zc9:AFn:=cG Tryz.f149
def Zia:AFn:=cG Tryz.f150
def Zf0:AFn:=cG Tryz.f151
def Za9:AFn:=cG Tryz.f152
def Zcq:AFn:=cG Tryz.f153
def Zcr:AFn:=cG Tryz.f154
def Ig:AFn:=cG Tryz.f155
def Ih:AFn:=cG Tryz.f156
def Ko:AFn:=cG Tryz.f158
def WH:AFn:=cG Tryz.f157
def EL:AFn:=cG Tryz.f159
def EM:AFn:=cG Tryz.f160
def ZaA:AFn:=cG Tryz.f161
def ZcE:AFn:=cG Tryz.f162
def Zc0:AFn:=cG Tryz.f163
def Za4:AFn:=cG Tryz.f164
def EY:AFn:=cG Tryz.f165
def Zcw:AFn:=cG Tryz.f166
def Qo:AFn:=cG Tryz.f170
def ZQ:AFn:=cG Tryz.f171
def LY:AFn:=cG Tryz.f172
def Q8:AFn:=cG Tryz.f173
def Yi:AFn:=cG Tryz.f174
def LQ:AFn:=cG Tryz.f175
def BJ:AFn:=cG Tryz.f176
def ES:AFn:=cG Tryz.f177
def Za0:AFn:=cG Tryz.f178
def PX:AFn:=cG Tryz.f109
def PY:AFn:=cG Tryz.f112
def PZ:AFn:=cG Tryz.f113
def Na:AFn:=cG Tryz.f119
def Nb:AFn:=cG Tryz.f122
def Nc:AFn:=cG Tryz.f125
def Nh:AFn:=cG Tryz.f126
def Nj:AFn:=cG Tryz.f127
def Nk:AFn:=cG Tryz.f128
def BC:AFn:=cG Tryz.f129
def BD:AFn:=cG Tryz.f130
def BF:AFn:=cG Tryz.f134
def BG:AFn:=cG Tryz.f138
def ER:AFn:=cG Tryz.f111
def Zaz:AFn:=cG Tryz.f142
def Np:AFn:=cG Tryz.f116
def Zme:AFn:=cG Tryz.f191
def Ny:AFn:=cG Tryz.f192
def Ac:AFn:=cG Tryz.f193
def Aa:AFn:=cG Tryz.f194
def Zf2:AFn:=cG Tryz.f195
def NR:AFn:=cG Tryz.f196
def Jr:AFn:=cG Tryz.f197
def Bo:AFn:=cG Tryz.f198
def Bl:AFn:=cG Tryz.f199
def Jg:AFn:=cG Tryz.f200
def Qa:AFn:=cG Tryz.f201
def Bj:AFn:=cG Tryz.f203
def Xg:AFn:=cG Tryz.f202
def ZcF:AFn:=cG Tryz.f204
def NT:AFn:=cG Tryz.f205
def NS:AFn:=cG Tryz.f206
def FZ:AFn:=cG Tryz.f207
def ZE:AFn:=cG Tryz.f210
def Gy:AFn:=cG Tryz.f211
def Wh:AFn:=cG Tryz.f212
def WC:AFn:=cG Tryz.f213
def Xr:AFn:=cG Tryz.f214
def ZU:AFn:=cG Tryz.f215
def Ik:AFn:=cG Tryz.f216
def Yj:AFn:=cG Tryz.f217
def Tj:AFn:=cG Tryz.f218
def Y5:AFn:=cG Tryz.f219
def BB:AFn:=cG Tryz.f220
def ZM:AFn:=cG Tryz.f221
def Zmd:AFn:=cG Tryz.f188
def Gx:AFn:=cG Tryz.f110
def Rf:AFn:=cG Tryz.f115
def Xq:AFn:=cG Tryz.f114
def Rh:AFn:=cG Tryz.f121
def XX:AFn:=cG Tryz.f120
def Ri:AFn:=cG Tryz.f124
def VA:AFn:=cG Tryz.f123
def Tm:AFn:=cG Tryz.f132
def VI:AFn:=cG Tryz.f131
def Tn:AFn:=cG Tryz.f136
def JD:AFn:=cG Tryz.f135
def Za1:AFn:=cG Tryz.f139
def PV:AFn:=cG Tryz.f190
def YR:AFn:=cG Tryz.f189
def Nv:AFn:=cG Tryz.f231
def Zc1:AFn:=cG Tryz.f232
def Zfz:AFn:=cG Tryz.f233
def Oj:AFn:=cG Tryz.f234
def XK:AFn:=cG Tryz.f235
def Zcy:AFn:=cG Tryz.f236
def Za6:AFn:=cG Tryz.f237
def Zfw:AFn:=cG Tryz.f238
def WZ:AFn:=cG Tryz.f244
def Qn:AFn:=cG Tryz.f245
def NW:AFn:=cG Tryz.f246
def Q9:AFn:=cG Tryz.f247
def LZ:AFn:=cG Tryz.f117
def LW:AFn:=cG Tryz.f118
def BA:AFn:=cG Tryz.f133
def EW:AFn:=cG Tryz.f137
def PW:AFn:=cG Tryz.f184
def Kr:AFn:=cG Tryz.f183
def NV:AFn:=cG Tryz.f252
def Cc:AFn:=cG Tryz.f253
def Ii:AFn:=cG Tryz.f254
def Zcs:AFn:=cG Tryz.f255
def Ij:AFn:=cG Tryz.f256
def Kq:AFn:=cG Tryz.f257
def Yu:AFn:=cG Tryz.f263
def NY:AFn:=cG Tryz.f264
def QH:AFn:=cG Tryz.f179
def Qh:AFn:=cG Tryz.f180
def ZaB:AFn:=cG Tryz.f181
def Bv:AFn:=cG Tryz.f182
def LX:AFn:=cG Tryz.f186
def Ut:AFn:=cG Tryz.f185
def ZhZ:AFn:=cG Tryz.f267
def EN:AFn:=cG Tryz.f268
def Xt:AFn:=cG Tryz.f222
def BM:AFn:=cG Tryz.f224
def BN:AFn:=cG Tryz.f225
def BO:AFn:=cG Tryz.f226
def Ti:AFn:=cG Tryz.f228
def Wi:AFn:=cG Tryz.f227
def Za3:AFn:=cG Tryz.f187
def Zmf:AFn:=cG Tryz.f271
def Za7:AFn:=cG Tryz.f272
def Zc2:AFn:=cG Tryz.f273
def ZcK:AFn:=cG Tryz.f248
def ZcJ:AFn:=cG Tryz.f249
def ZaC:AFn:=cG Tryz.f250
def Nl:AFn:=cG Tryz.f230
def YC:AFn:=cG Tryz.f229
def Zfx:AFn:=cG Tryz.f274
def Zcz:AFn:=cG Tryz.f275
def Ag:AFn:=cG Tryz.f265
def Zax:AFn:=cG Tryz.f266
def YK:AFn:=cG Tryz.f251
def aw16:AFn:=cG Tryz.f16
def aw18:AFn:=cG Tryz.f18
def aw39:AFn:=cG Tryz.f39
def aw42:AFn:=cG Tryz.f42
def aw43:AFn:=cG Tryz.f43
def aw88:AFn:=cG Tryz.f88
def aw90:AFn:=cG Tryz.f90
def tab:List (Nat×AFn):=[(7,LV),(9,Zct),(11,Zat),(12,ZcB),(13,EP),(14,PT),(15,Ae),(20,Rl),(21,Zco),(22,Zft),(23,Zib),(24,Zf3),(25,NU),(27,EX),(28,EQ),(29,EK),(30,Zcp),(31,Zcx),(32,Zc3),(33,Zf5),(34,Zf4),(35,Gw),(36,ZcG),(37,Zav),(41,Ol),(47,FY),(48,Zfu),(49,ZP),(50,Bi),(51,QZ),(53,Zas),(52,Qp),(54,Nu),(55,N7),(57,Nq),(58,BH),(59,XI),(61,Bq),(60,VB),(64,EU),(65,Yd),(66,Bg),(67,Za5),(68,EZ),(70,Za8),(69,Zc6),(71,ZcA),(72,Zc8),(73,Zf1),(74,Zc7),(75,Zau),(76,Oi),(77,LU),(78,Jf),(79,Zaw),(80,ZcH),(81,ZcI),(82,Af),(83,ZcC),(84,BI),(85,Ce),(86,Zcv),(91,ZcD),(95,MF),(96,Nr),(97,Zay),(98,Yt),(99,Bh),(100,Rk),(101,BK),(102,Om),(103,Rj),(104,Cb),(105,Nz),(106,Ad),(108,XW),(107,Xy),(62,WS),(63,Za2),(141,Bz),(140,Us),(144,Ns),(143,Zfv),(145,Zc5),(146,Zfy),(147,Zc4),(148,Nw),(149,Zc9),(150,Zia),(151,Zf0),(152,Za9),(153,Zcq),(154,Zcr),(155,Ig),(156,Ih),(158,Ko),(157,WH),(159,EL),(160,EM),(161,ZaA),(162,ZcE),(163,Zc0),(164,Za4),(165,EY),(166,Zcw),(170,Qo),(171,ZQ),(172,LY),(173,Q8),(174,Yi),(175,LQ),(176,BJ),(177,ES),(178,Za0),(109,PX),(112,PY),(113,PZ),(119,Na),(122,Nb),(125,Nc),(126,Nh),(127,Nj),(128,Nk),(129,BC),(130,BD),(134,BF),(138,BG),(111,ER),(142,Zaz),(116,Np),(191,Zme),(192,Ny),(193,Ac),(194,Aa),(195,Zf2),(196,NR),(197,Jr),(198,Bo),(199,Bl),(200,Jg),(201,Qa),(203,Bj),(202,Xg),(204,ZcF),(205,NT),(206,NS),(207,FZ),(210,ZE),(211,Gy),(212,Wh),(213,WC),(214,Xr),(215,ZU),(216,Ik),(217,Yj),(218,Tj),(219,Y5),(220,BB),(221,ZM),(188,Zmd),(110,Gx),(115,Rf),(114,Xq),(121,Rh),(120,XX),(124,Ri),(123,VA),(132,Tm),(131,VI),(136,Tn),(135,JD),(139,Za1),(190,PV),(189,YR),(231,Nv),(232,Zc1),(233,Zfz),(234,Oj),(235,XK),(236,Zcy),(237,Za6),(238,Zfw),(244,WZ),(245,Qn),(246,NW),(247,Q9),(117,LZ),(118,LW),(133,BA),(137,EW),(184,PW),(183,Kr),(252,NV),(253,Cc),(254,Ii),(255,Zcs),(256,Ij),(257,Kq),(263,Yu),(264,NY),(179,QH),(180,Qh),(181,ZaB),(182,Bv),(186,LX),(185,Ut),(267,ZhZ),(268,EN),(222,Xt),(224,BM),(225,BN),(226,BO),(228,Ti),(227,Wi),(187,Za3),(271,Zmf),(272,Za7),(273,Zc2),(248,ZcK),(249,ZcJ),(250,ZaC),(230,Nl),(229,YC),(274,Zfx),(275,Zcz),(265,Ag),(266,Zax),(251,YK),(16,aw16),(18,aw18),(39,aw39),(42,aw42),(43,aw43),(88,aw88),(90,aw90)]
abbrev T9 (p:Nat×AFn):Prop:=∃ fn takes,Tryz.prog.funcs[p.1]? = some fn∧(fn.name == "runtime.NumGoroutine")=false∧cFn Tryz.prog takes fn=some p.2
theorem T0:∀ p ∈ ([]:List (Nat×AFn)),T9 p:=fun _ h=>by cases h
theorem T1 {f:Nat}{fn:Func}{l:List (Nat×AFn)}(h:Tryz.prog.funcs[f]? = some fn)(k:(!(fn.name == "runtime.NumGoroutine")&&(cFn Tryz.prog takes fn).isSome)=true)(r:∀ p ∈ l,T9 p):∀ p ∈ (f,cG fn)::l,T9 p:=fun p hp=>by
  rw [Bool.and_eq_true,Bool.not_eq_true'] at k
  rcases List.mem_cons.1 hp with rfl | hp
  · refine ⟨fn,takes,h,k.1,?_⟩
    show _=some (cG fn)
    unfold cG cF
    cases e:cFn Tryz.prog takes fn with
    | none=>rw [e] at k;cases k.2
    | some v=>rfl
  · exact r p hp
theorem ZtX:∀ p ∈ tab,T9 p:=T1 Tryz.func7 (by kernel_rfl)<|
 T1 Tryz.func9 (by kernel_rfl)<|
 T1 Tryz.func11 (by kernel_rfl)<|
 T1 Tryz.func12 (by kernel_rfl)<|
 T1 Tryz.func13 (by kernel_rfl)<|
 T1 Tryz.func14 (by kernel_rfl)<|
 T1 Tryz.func15 (by kernel_rfl)<|
 T1 Tryz.func20 (by kernel_rfl)<|
 T1 Tryz.func21 (by kernel_rfl)<|
 T1 Tryz.func22 (by kernel_rfl)<|
 T1 Tryz.func23 (by kernel_rfl)<|
 T1 Tryz.func24 (by kernel_rfl)<|
 T1 Tryz.func25 (by kernel_rfl)<|
 T1 Tryz.func27 (by kernel_rfl)<|
 T1 Tryz.func28 (by kernel_rfl)<|
 T1 Tryz.func29 (by kernel_rfl)<|
 T1 Tryz.func30 (by kernel_rfl)<|
 T1 Tryz.func31 (by kernel_rfl)<|
 T1 Tryz.func32 (by kernel_rfl)<|
 T1 Tryz.func33 (by kernel_rfl)<|
 T1 Tryz.func34 (by kernel_rfl)<|
 T1 Tryz.func35 (by kernel_rfl)<|
 T1 Tryz.func36 (by kernel_rfl)<|
 T1 Tryz.func37 (by kernel_rfl)<|
 T1 Tryz.func41 (by kernel_rfl)<|
 T1 Tryz.func47 (by kernel_rfl)<|
 T1 Tryz.func48 (by kernel_rfl)<|
 T1 Tryz.func49 (by kernel_rfl)<|
 T1 Tryz.func50 (by kernel_rfl)<|
 T1 Tryz.func51 (by kernel_rfl)<|
 T1 Tryz.func53 (by kernel_rfl)<|
 T1 Tryz.func52 (by kernel_rfl)<|
 T1 Tryz.func54 (by kernel_rfl)<|
 T1 Tryz.func55 (by kernel_rfl)<|
 T1 Tryz.func57 (by kernel_rfl)<|
 T1 Tryz.func58 (by kernel_rfl)<|
 T1 Tryz.func59 (by kernel_rfl)<|
 T1 Tryz.func61 (by kernel_rfl)<|
 T1 Tryz.func60 (by kernel_rfl)<|
 T1 Tryz.func64 (by kernel_rfl)<|
 T1 Tryz.func65 (by kernel_rfl)<|
 T1 Tryz.func66 (by kernel_rfl)<|
 T1 Tryz.func67 (by kernel_rfl)<|
 T1 Tryz.func68 (by kernel_rfl)<|
 T1 Tryz.func70 (by kernel_rfl)<|
 T1 Tryz.func69 (by kernel_rfl)<|
 T1 Tryz.func71 (by kernel_rfl)<|
 T1 Tryz.func72 (by kernel_rfl)<|
 T1 Tryz.func73 (by kernel_rfl)<|
 T1 Tryz.func74 (by kernel_rfl)<|
 T1 Tryz.func75 (by kernel_rfl)<|
 T1 Tryz.func76 (by kernel_rfl)<|
 T1 Tryz.func77 (by kernel_rfl)<|
 T1 Tryz.func78 (by kernel_rfl)<|
 T1 Tryz.func79 (by kernel_rfl)<|
 T1 Tryz.func80 (by kernel_rfl)<|
 T1 Tryz.func81 (by kernel_rfl)<|
 T1 Tryz.func82 (by kernel_rfl)<|
 T1 Tryz.func83 (by kernel_rfl)<|
 T1 Tryz.func84 (by kernel_rfl)<|
 T1 Tryz.func85 (by kernel_rfl)<|
 T1 Tryz.func86 (by kernel_rfl)<|
 T1 Tryz.func91 (by kernel_rfl)<|
 T1 Tryz.func95 (by kernel_rfl)<|
 T1 Tryz.func96 (by kernel_rfl)<|
 T1 Tryz.func97 (by kernel_rfl)<|
 T1 Tryz.func98 (by kernel_rfl)<|
 T1 Tryz.func99 (by kernel_rfl)<|
 T1 Tryz.func100 (by kernel_rfl)<|
 T1 Tryz.func101 (by kernel_rfl)<|
 T1 Tryz.func102 (by kernel_rfl)<|
 T1 Tryz.func103 (by kernel_rfl)<|
 T1 Tryz.func104 (by kernel_rfl)<|
 T1 Tryz.func105 (by kernel_rfl)<|
 T1 Tryz.func106 (by kernel_rfl)<|
 T1 Tryz.func108 (by kernel_rfl)<|
 T1 Tryz.func107 (by kernel_rfl)<|
 T1 Tryz.func62 (by kernel_rfl)<|
 T1 Tryz.func63 (by kernel_rfl)<|
 T1 Tryz.func141 (by kernel_rfl)<|
 T1 Tryz.func140 (by kernel_rfl)<|
 T1 Tryz.func144 (by kernel_rfl)<|
 T1 Tryz.func143 (by kernel_rfl)<|
 T1 Tryz.func145 (by kernel_rfl)<|
 T1 Tryz.func146 (by kernel_rfl)<|
 T1 Tryz.func147 (by kernel_rfl)<|
 T1 Tryz.func148 (by kernel_rfl)<|
 T1 Tryz.func149 (by kernel_rfl)<|
 T1 Tryz.func150 (by kernel_rfl)<|
 T1 Tryz.func151 (by kernel_rfl)<|
 T1 Tryz.func152 (by kernel_rfl)<|
 T1 Tryz.func153 (by kernel_rfl)<|
 T1 Tryz.func154 (by kernel_rfl)<|
 T1 Tryz.func155 (by kernel_rfl)<|
 T1 Tryz.func156 (by kernel_rfl)<|
 T1 Tryz.func158 (by kernel_rfl)<|
 T1 Tryz.func157 (by kernel_rfl)<|
 T1 Tryz.func159 (by kernel_rfl)<|
 T1 Tryz.func160 (by kernel_rfl)<|
 T1 Tryz.func161 (by kernel_rfl)<|
 T1 Tryz.func162 (by kernel_rfl)<|
 T1 Tryz.func163 (by kernel_rfl)<|
 T1 Tryz.func164 (by kernel_rfl)<|
 T1 Tryz.func165 (by kernel_rfl)<|
 T1 Tryz.func166 (by kernel_rfl)<|
 T1 Tryz.func170 (by kernel_rfl)<|
 T1 Tryz.func171 (by kernel_rfl)<|
 T1 Tryz.func172 (by kernel_rfl)<|
 T1 Tryz.func173 (by kernel_rfl)<|
 T1 Tryz.func174 (by kernel_rfl)<|
 T1 Tryz.func175 (by kernel_rfl)<|
 T1 Tryz.func176 (by kernel_rfl)<|
 T1 Tryz.func177 (by kernel_rfl)<|
 T1 Tryz.func178 (by kernel_rfl)<|
 T1 Tryz.func109 (by kernel_rfl)<|
 T1 Tryz.func112 (by kernel_rfl)<|
 T1 Tryz.func113 (by kernel_rfl)<|
 T1 Tryz.func119 (by kernel_rfl)<|
 T1 Tryz.func122 (by kernel_rfl)<|
 T1 Tryz.func125 (by kernel_rfl)<|
 T1 Tryz.func126 (by kernel_rfl)<|
 T1 Tryz.func127 (by kernel_rfl)<|
 T1 Tryz.func128 (by kernel_rfl)<|
 T1 Tryz.func129 (by kernel_rfl)<|
 T1 Tryz.func130 (by kernel_rfl)<|
 T1 Tryz.func134 (by kernel_rfl)<|
 T1 Tryz.func138 (by kernel_rfl)<|
 T1 Tryz.func111 (by kernel_rfl)<|
 T1 Tryz.func142 (by kernel_rfl)<|
 T1 Tryz.func116 (by kernel_rfl)<|
 T1 Tryz.func191 (by kernel_rfl)<|
 T1 Tryz.func192 (by kernel_rfl)<|
 T1 Tryz.func193 (by kernel_rfl)<|
 T1 Tryz.func194 (by kernel_rfl)<|
 T1 Tryz.func195 (by kernel_rfl)<|
 T1 Tryz.func196 (by kernel_rfl)<|
 T1 Tryz.func197 (by kernel_rfl)<|
 T1 Tryz.func198 (by kernel_rfl)<|
 T1 Tryz.func199 (by kernel_rfl)<|
 T1 Tryz.func200 (by kernel_rfl)<|
 T1 Tryz.func201 (by kernel_rfl)<|
 T1 Tryz.func203 (by kernel_rfl)<|
 T1 Tryz.func202 (by kernel_rfl)<|
 T1 Tryz.func204 (by kernel_rfl)<|
 T1 Tryz.func205 (by kernel_rfl)<|
 T1 Tryz.func206 (by kernel_rfl)<|
 T1 Tryz.func207 (by kernel_rfl)<|
 T1 Tryz.func210 (by kernel_rfl)<|
 T1 Tryz.func211 (by kernel_rfl)<|
 T1 Tryz.func212 (by kernel_rfl)<|
 T1 Tryz.func213 (by kernel_rfl)<|
 T1 Tryz.func214 (by kernel_rfl)<|
 T1 Tryz.func215 (by kernel_rfl)<|
 T1 Tryz.func216 (by kernel_rfl)<|
 T1 Tryz.func217 (by kernel_rfl)<|
 T1 Tryz.func218 (by kernel_rfl)<|
 T1 Tryz.func219 (by kernel_rfl)<|
 T1 Tryz.func220 (by kernel_rfl)<|
 T1 Tryz.func221 (by kernel_rfl)<|
 T1 Tryz.func188 (by kernel_rfl)<|
 T1 Tryz.func110 (by kernel_rfl)<|
 T1 Tryz.func115 (by kernel_rfl)<|
 T1 Tryz.func114 (by kernel_rfl)<|
 T1 Tryz.func121 (by kernel_rfl)<|
 T1 Tryz.func120 (by kernel_rfl)<|
 T1 Tryz.func124 (by kernel_rfl)<|
 T1 Tryz.func123 (by kernel_rfl)<|
 T1 Tryz.func132 (by kernel_rfl)<|
 T1 Tryz.func131 (by kernel_rfl)<|
 T1 Tryz.func136 (by kernel_rfl)<|
 T1 Tryz.func135 (by kernel_rfl)<|
 T1 Tryz.func139 (by kernel_rfl)<|
 T1 Tryz.func190 (by kernel_rfl)<|
 T1 Tryz.func189 (by kernel_rfl)<|
 T1 Tryz.func231 (by kernel_rfl)<|
 T1 Tryz.func232 (by kernel_rfl)<|
 T1 Tryz.func233 (by kernel_rfl)<|
 T1 Tryz.func234 (by kernel_rfl)<|
 T1 Tryz.func235 (by kernel_rfl)<|
 T1 Tryz.func236 (by kernel_rfl)<|
 T1 Tryz.func237 (by kernel_rfl)<|
 T1 Tryz.func238 (by kernel_rfl)<|
 T1 Tryz.func244 (by kernel_rfl)<|
 T1 Tryz.func245 (by kernel_rfl)<|
 T1 Tryz.func246 (by kernel_rfl)<|
 T1 Tryz.func247 (by kernel_rfl)<|
 T1 Tryz.func117 (by kernel_rfl)<|
 T1 Tryz.func118 (by kernel_rfl)<|
 T1 Tryz.func133 (by kernel_rfl)<|
 T1 Tryz.func137 (by kernel_rfl)<|
 T1 Tryz.func184 (by kernel_rfl)<|
 T1 Tryz.func183 (by kernel_rfl)<|
 T1 Tryz.func252 (by kernel_rfl)<|
 T1 Tryz.func253 (by kernel_rfl)<|
 T1 Tryz.func254 (by kernel_rfl)<|
 T1 Tryz.func255 (by kernel_rfl)<|
 T1 Tryz.func256 (by kernel_rfl)<|
 T1 Tryz.func257 (by kernel_rfl)<|
 T1 Tryz.func263 (by kernel_rfl)<|
 T1 Tryz.func264 (by kernel_rfl)<|
 T1 Tryz.func179 (by kernel_rfl)<|
 T1 Tryz.func180 (by kernel_rfl)<|
 T1 Tryz.func181 (by kernel_rfl)<|
 T1 Tryz.func182 (by kernel_rfl)<|
 T1 Tryz.func186 (by kernel_rfl)<|
 T1 Tryz.func185 (by kernel_rfl)<|
 T1 Tryz.func267 (by kernel_rfl)<|
 T1 Tryz.func268 (by kernel_rfl)<|
 T1 Tryz.func222 (by kernel_rfl)<|
 T1 Tryz.func224 (by kernel_rfl)<|
 T1 Tryz.func225 (by kernel_rfl)<|
 T1 Tryz.func226 (by kernel_rfl)<|
 T1 Tryz.func228 (by kernel_rfl)<|
 T1 Tryz.func227 (by kernel_rfl)<|
 T1 Tryz.func187 (by kernel_rfl)<|
 T1 Tryz.func271 (by kernel_rfl)<|
 T1 Tryz.func272 (by kernel_rfl)<|
 T1 Tryz.func273 (by kernel_rfl)<|
 T1 Tryz.func248 (by kernel_rfl)<|
 T1 Tryz.func249 (by kernel_rfl)<|
 T1 Tryz.func250 (by kernel_rfl)<|
 T1 Tryz.func230 (by kernel_rfl)<|
 T1 Tryz.func229 (by kernel_rfl)<|
 T1 Tryz.func274 (by kernel_rfl)<|
 T1 Tryz.func275 (by kernel_rfl)<|
 T1 Tryz.func265 (by kernel_rfl)<|
 T1 Tryz.func266 (by kernel_rfl)<|
 T1 Tryz.func251 (by kernel_rfl)<|
 T1 Tryz.func16 (by kernel_rfl)<|
 T1 Tryz.func18 (by kernel_rfl)<|
 T1 Tryz.func39 (by kernel_rfl)<|
 T1 Tryz.func42 (by kernel_rfl)<|
 T1 Tryz.func43 (by kernel_rfl)<|
 T1 Tryz.func88 (by kernel_rfl)<|
 T1 Tryz.func90 (by kernel_rfl)<|T0
end
end Go.Proofs.YtleomfgijkapfaaGreatDoor
end
