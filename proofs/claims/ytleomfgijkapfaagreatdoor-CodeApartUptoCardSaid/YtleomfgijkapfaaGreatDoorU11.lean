import Derived.Test.YtleomfgijkapfaaGreatDoorRows
import Derived.ProofKit
import Derived.Test.YtleomfgijkapfaaGreatDoorU10
set_option linter.all false
section
namespace Go.Proofs.YtleomfgijkapfaaGreatDoor
open Go Go.Proofs.YtleomfgijkapfaaGreatDoor.Abs
set_option maxRecDepth 100000
set_option maxHeartbeats 0
def cF (x:Option AFn):AFn:=x.getD ⟨0,[],.bad,false⟩
def takes:FuncId→List Nat:=fun x=>if x=Zfx then [16,17,91] else []
abbrev MI:FuncId:=6
abbrev O1:FuncId:=10
noncomputable section
def cG (f:Func):AFn:=cF (cFn Tryz.prog takes f)
def Uj:AFn:=cG Tryz.f6
def D6:AFn:=cG Tryz.f9
def ZaZ:AFn:=cG Tryz.f11
def OB:AFn:=cG Tryz.f13
def H6:AFn:=cG Tryz.f14
def LX:AFn:=cG Tryz.f16
def Dt:AFn:=cG Tryz.f18
def Kz:AFn:=cG Tryz.f20
def ZcT:AFn:=cG Tryz.f21
def Ad:AFn:=cG Tryz.f22
def Iz:AFn:=cG Tryz.f25
def OC:AFn:=cG Tryz.f27
def FQ:AFn:=cG Tryz.f28
def FP:AFn:=cG Tryz.f29
def ZcU:AFn:=cG Tryz.f30
def DU:AFn:=cG Tryz.f31
def VG:AFn:=cG Tryz.f35
def LZ:AFn:=cG Tryz.f37
def O5:AFn:=cG Tryz.f39
def JH:AFn:=cG Tryz.f41
def Jk:AFn:=cG Tryz.f42
def Dz:AFn:=cG Tryz.f43
def MO:AFn:=cG Tryz.f47
def Ae:AFn:=cG Tryz.f48
def ZY:AFn:=cG Tryz.f49
def Dw:AFn:=cG Tryz.f50
def XB:AFn:=cG Tryz.f51
def LW:AFn:=cG Tryz.f53
def YI:AFn:=cG Tryz.f52
def H8:AFn:=cG Tryz.f57
def Gi:AFn:=cG Tryz.f58
def KN:AFn:=cG Tryz.f59
def D8:AFn:=cG Tryz.f61
def JC:AFn:=cG Tryz.f60
def FV:AFn:=cG Tryz.f64
def Yq:AFn:=cG Tryz.f65
def Du:AFn:=cG Tryz.f66
def Ri:AFn:=cG Tryz.f67
def OE:AFn:=cG Tryz.f68
def Rl:AFn:=cG Tryz.f70
def Ph:AFn:=cG Tryz.f69
def Pi:AFn:=cG Tryz.f72
def LY:AFn:=cG Tryz.f75
def JF:AFn:=cG Tryz.f76
def Ky:AFn:=cG Tryz.f77
def QU:AFn:=cG Tryz.f78
def Rf:AFn:=cG Tryz.f79
def DR:AFn:=cG Tryz.f86
def O6:AFn:=cG Tryz.f90
def Pm:AFn:=cG Tryz.f91
def U9:AFn:=cG Tryz.f95
def H9:AFn:=cG Tryz.f96
def Zbb:AFn:=cG Tryz.f97
def Y4:AFn:=cG Tryz.f98
def Dv:AFn:=cG Tryz.f99
def KY:AFn:=cG Tryz.f108
def U8:AFn:=cG Tryz.f107
def KX:AFn:=cG Tryz.f62
def Zbf:AFn:=cG Tryz.f63
def DC:AFn:=cG Tryz.f141
def KO:AFn:=cG Tryz.f140
def HY:AFn:=cG Tryz.f144
def Af:AFn:=cG Tryz.f143
def Pg:AFn:=cG Tryz.f145
def Ai:AFn:=cG Tryz.f146
def Pe:AFn:=cG Tryz.f147
def Ib:AFn:=cG Tryz.f148
def Pj:AFn:=cG Tryz.f149
def Zbi:AFn:=cG Tryz.f150
def Rn:AFn:=cG Tryz.f152
def Dx:AFn:=cG Tryz.f153
def Dy:AFn:=cG Tryz.f154
def Jg:AFn:=cG Tryz.f155
def Jh:AFn:=cG Tryz.f156
def Vk:AFn:=cG Tryz.f158
def Y1:AFn:=cG Tryz.f157
def O7:AFn:=cG Tryz.f159
def O8:AFn:=cG Tryz.f160
def Pn:AFn:=cG Tryz.f162
def DX:AFn:=cG Tryz.f163
def Rh:AFn:=cG Tryz.f164
def OD:AFn:=cG Tryz.f165
def DT:AFn:=cG Tryz.f166
def QG:AFn:=cG Tryz.f170
def ZZ:AFn:=cG Tryz.f171
def Bq:AFn:=cG Tryz.f172
def Xm:AFn:=cG Tryz.f173
def Yy:AFn:=cG Tryz.f174
def Bj:AFn:=cG Tryz.f175
def FU:AFn:=cG Tryz.f177
def Zbd:AFn:=cG Tryz.f178
def Em:AFn:=cG Tryz.f109
def En:AFn:=cG Tryz.f112
def Eo:AFn:=cG Tryz.f113
def Ep:AFn:=cG Tryz.f119
def Es:AFn:=cG Tryz.f122
def Et:AFn:=cG Tryz.f125
def Eu:AFn:=cG Tryz.f126
def Ew:AFn:=cG Tryz.f127
def Ey:AFn:=cG Tryz.f128
def DI:AFn:=cG Tryz.f129
def DJ:AFn:=cG Tryz.f130
def DL:AFn:=cG Tryz.f134
def DN:AFn:=cG Tryz.f138
def FT:AFn:=cG Tryz.f111
def Zbc:AFn:=cG Tryz.f142
def E5:AFn:=cG Tryz.f116
def ZeL:AFn:=cG Tryz.f191
def Ic:AFn:=cG Tryz.f192
def OH:AFn:=cG Tryz.f193
def OG:AFn:=cG Tryz.f194
def Ak:AFn:=cG Tryz.f195
def Ir:AFn:=cG Tryz.f196
def Xc:AFn:=cG Tryz.f197
def Gg:AFn:=cG Tryz.f198
def Gf:AFn:=cG Tryz.f199
def QV:AFn:=cG Tryz.f200
def YB:AFn:=cG Tryz.f201
def KZ:AFn:=cG Tryz.f203
def WB:AFn:=cG Tryz.f202
def Iy:AFn:=cG Tryz.f205
def Iw:AFn:=cG Tryz.f206
def MP:AFn:=cG Tryz.f207
def ZI:AFn:=cG Tryz.f210
def Hr:AFn:=cG Tryz.f211
def WL:AFn:=cG Tryz.f212
def WY:AFn:=cG Tryz.f213
def Vo:AFn:=cG Tryz.f214
def Ye:AFn:=cG Tryz.f215
def Iu:AFn:=cG Tryz.f216
def Yz:AFn:=cG Tryz.f217
def ML:AFn:=cG Tryz.f218
def YE:AFn:=cG Tryz.f219
def DF:AFn:=cG Tryz.f220
def Y5:AFn:=cG Tryz.f221
def ZeK:AFn:=cG Tryz.f188
def Hq:AFn:=cG Tryz.f110
def Bz:AFn:=cG Tryz.f115
def Vm:AFn:=cG Tryz.f114
def BA:AFn:=cG Tryz.f121
def Jl:AFn:=cG Tryz.f120
def BB:AFn:=cG Tryz.f124
def JB:AFn:=cG Tryz.f123
def MM:AFn:=cG Tryz.f132
def Ub:AFn:=cG Tryz.f131
def MN:AFn:=cG Tryz.f136
def U7:AFn:=cG Tryz.f135
def Zbe:AFn:=cG Tryz.f139
def Ei:AFn:=cG Tryz.f190
def Ws:AFn:=cG Tryz.f189
def Ia:AFn:=cG Tryz.f231
def DY:AFn:=cG Tryz.f232
def Aj:AFn:=cG Tryz.f233
def JG:AFn:=cG Tryz.f234
def Qg:AFn:=cG Tryz.f235
def DV:AFn:=cG Tryz.f236
def Rj:AFn:=cG Tryz.f237
def Ag:AFn:=cG Tryz.f238
def Qx:AFn:=cG Tryz.f244
def QF:AFn:=cG Tryz.f245
def ZcV:AFn:=cG Tryz.f246
def Xn:AFn:=cG Tryz.f247
def Bv:AFn:=cG Tryz.f117
def Bl:AFn:=cG Tryz.f118
def DD:AFn:=cG Tryz.f133
def FW:AFn:=cG Tryz.f137
def Ej:AFn:=cG Tryz.f184
def Gh:AFn:=cG Tryz.f183
def I4:AFn:=cG Tryz.f252
def MQ:AFn:=cG Tryz.f253
def Ji:AFn:=cG Tryz.f254
def D5:AFn:=cG Tryz.f255
def Jj:AFn:=cG Tryz.f256
def Vl:AFn:=cG Tryz.f257
def Y6:AFn:=cG Tryz.f263
def ZcX:AFn:=cG Tryz.f264
def Xq:AFn:=cG Tryz.f179
def Q9:AFn:=cG Tryz.f180
def Zbj:AFn:=cG Tryz.f181
def D9:AFn:=cG Tryz.f182
def Bo:AFn:=cG Tryz.f186
def KP:AFn:=cG Tryz.f185
def Zbh:AFn:=cG Tryz.f267
def O9:AFn:=cG Tryz.f268
def Vp:AFn:=cG Tryz.f222
def Zbk:AFn:=cG Tryz.f224
def Zbl:AFn:=cG Tryz.f225
def Zbm:AFn:=cG Tryz.f226
def MJ:AFn:=cG Tryz.f228
def WM:AFn:=cG Tryz.f227
def Zbg:AFn:=cG Tryz.f187
def ZeM:AFn:=cG Tryz.f271
def Rk:AFn:=cG Tryz.f272
def DZ:AFn:=cG Tryz.f273
def ZcY:AFn:=cG Tryz.f248
def ZcW:AFn:=cG Tryz.f249
def Zbn:AFn:=cG Tryz.f250
def Ez:AFn:=cG Tryz.f230
def YJ:AFn:=cG Tryz.f229
def Ah:AFn:=cG Tryz.f274
def DW:AFn:=cG Tryz.f275
def FX:AFn:=cG Tryz.f265
def Zba:AFn:=cG Tryz.f266
def YV:AFn:=cG Tryz.f251
def tab:List (Nat×AFn):=[(6,Uj),(9,D6),(11,ZaZ),(13,OB),(14,H6),(16,LX),(18,Dt),(20,Kz),(21,ZcT),(22,Ad),(25,Iz),(27,OC),(28,FQ),(29,FP),(30,ZcU),(31,DU),(35,VG),(37,LZ),(39,O5),(41,JH),(42,Jk),(43,Dz),(47,MO),(48,Ae),(49,ZY),(50,Dw),(51,XB),(53,LW),(52,YI),(57,H8),(58,Gi),(59,KN),(61,D8),(60,JC),(64,FV),(65,Yq),(66,Du),(67,Ri),(68,OE),(70,Rl),(69,Ph),(72,Pi),(75,LY),(76,JF),(77,Ky),(78,QU),(79,Rf),(86,DR),(90,O6),(91,Pm),(95,U9),(96,H9),(97,Zbb),(98,Y4),(99,Dv),(108,KY),(107,U8),(62,KX),(63,Zbf),(141,DC),(140,KO),(144,HY),(143,Af),(145,Pg),(146,Ai),(147,Pe),(148,Ib),(149,Pj),(150,Zbi),(152,Rn),(153,Dx),(154,Dy),(155,Jg),(156,Jh),(158,Vk),(157,Y1),(159,O7),(160,O8),(162,Pn),(163,DX),(164,Rh),(165,OD),(166,DT),(170,QG),(171,ZZ),(172,Bq),(173,Xm),(174,Yy),(175,Bj),(177,FU),(178,Zbd),(109,Em),(112,En),(113,Eo),(119,Ep),(122,Es),(125,Et),(126,Eu),(127,Ew),(128,Ey),(129,DI),(130,DJ),(134,DL),(138,DN),(111,FT),(142,Zbc),(116,E5),(191,ZeL),(192,Ic),(193,OH),(194,OG),(195,Ak),(196,Ir),(197,Xc),(198,Gg),(199,Gf),(200,QV),(201,YB),(203,KZ),(202,WB),(205,Iy),(206,Iw),(207,MP),(210,ZI),(211,Hr),(212,WL),(213,WY),(214,Vo),(215,Ye),(216,Iu),(217,Yz),(218,ML),(219,YE),(220,DF),(221,Y5),(188,ZeK),(110,Hq),(115,Bz),(114,Vm),(121,BA),(120,Jl),(124,BB),(123,JB),(132,MM),(131,Ub),(136,MN),(135,U7),(139,Zbe),(190,Ei),(189,Ws),(231,Ia),(232,DY),(233,Aj),(234,JG),(235,Qg),(236,DV),(237,Rj),(238,Ag),(244,Qx),(245,QF),(246,ZcV),(247,Xn),(117,Bv),(118,Bl),(133,DD),(137,FW),(184,Ej),(183,Gh),(252,I4),(253,MQ),(254,Ji),(255,D5),(256,Jj),(257,Vl),(263,Y6),(264,ZcX),(179,Xq),(180,Q9),(181,Zbj),(182,D9),(186,Bo),(185,KP),(267,Zbh),(268,O9),(222,Vp),(224,Zbk),(225,Zbl),(226,Zbm),(228,MJ),(227,WM),(187,Zbg),(271,ZeM),(272,Rk),(273,DZ),(248,ZcY),(249,ZcW),(250,Zbn),(230,Ez),(229,YJ),(274,Ah),(275,DW),(265,FX),(266,Zba),(251,YV)]
abbrev T9 (p:Nat×AFn):Prop:=∃ fn takes,Tryz.prog.funcs[p.1]? = some fn∧(fn.name == "runtime.NumGoroutine")=false∧cFn Tryz.prog takes fn=some p.2
theorem T0:∀ p ∈ ([]:List (Nat×AFn)),T9 p:=fun _ h=>by cases h
theorem T1 {f:Nat}{fn:Func}{l:List (Nat×AFn)}(h:Tryz.prog.funcs[f]? = some fn)(k:(!(fn.name == "runtime.NumGoroutine")&&(cFn Tryz.prog takes fn).isSome)=true)(r:∀ p ∈ l,T9 p):∀ p ∈ (f,cG fn)::l,T9 p:=fun p hp=>by
  rw [Bool.and_eq_true,Bool.not_eq_true'] at k
  rcases List.mem_cons.1 hp with rfl | hp
  · refine ⟨fn,takes,h,k.1,?_⟩
    show _=some (cG fn)
    unfold cG cF
    cases e:cFn Tryz.prog takes fn with
    | none=>rw [e] at k;cases k.2
    | some v=>rfl
  · exact r p hp
theorem Zmy:∀ p ∈ tab,T9 p:=T1 Tryz.func6 (by kernel_rfl)<|
 T1 Tryz.func9 (by kernel_rfl)<|
 T1 Tryz.func11 (by kernel_rfl)<|
 T1 Tryz.func13 (by kernel_rfl)<|
 T1 Tryz.func14 (by kernel_rfl)<|
 T1 Tryz.func16 (by kernel_rfl)<|
 T1 Tryz.func18 (by kernel_rfl)<|
 T1 Tryz.func20 (by kernel_rfl)<|
 T1 Tryz.func21 (by kernel_rfl)<|
 T1 Tryz.func22 (by kernel_rfl)<|
 T1 Tryz.func25 (by kernel_rfl)<|
 T1 Tryz.func27 (by kernel_rfl)<|
 T1 Tryz.func28 (by kernel_rfl)<|
 T1 Tryz.func29 (by kernel_rfl)<|
 T1 Tryz.func30 (by kernel_rfl)<|
 T1 Tryz.func31 (by kernel_rfl)<|
 T1 Tryz.func35 (by kernel_rfl)<|
 T1 Tryz.func37 (by kernel_rfl)<|
 T1 Tryz.func39 (by kernel_rfl)<|
 T1 Tryz.func41 (by kernel_rfl)<|
 T1 Tryz.func42 (by kernel_rfl)<|
 T1 Tryz.func43 (by kernel_rfl)<|
 T1 Tryz.func47 (by kernel_rfl)<|
 T1 Tryz.func48 (by kernel_rfl)<|
 T1 Tryz.func49 (by kernel_rfl)<|
 T1 Tryz.func50 (by kernel_rfl)<|
 T1 Tryz.func51 (by kernel_rfl)<|
 T1 Tryz.func53 (by kernel_rfl)<|
 T1 Tryz.func52 (by kernel_rfl)<|
 T1 Tryz.func57 (by kernel_rfl)<|
 T1 Tryz.func58 (by kernel_rfl)<|
 T1 Tryz.func59 (by kernel_rfl)<|
 T1 Tryz.func61 (by kernel_rfl)<|
 T1 Tryz.func60 (by kernel_rfl)<|
 T1 Tryz.func64 (by kernel_rfl)<|
 T1 Tryz.func65 (by kernel_rfl)<|
 T1 Tryz.func66 (by kernel_rfl)<|
 T1 Tryz.func67 (by kernel_rfl)<|
 T1 Tryz.func68 (by kernel_rfl)<|
 T1 Tryz.func70 (by kernel_rfl)<|
 T1 Tryz.func69 (by kernel_rfl)<|
 T1 Tryz.func72 (by kernel_rfl)<|
 T1 Tryz.func75 (by kernel_rfl)<|
 T1 Tryz.func76 (by kernel_rfl)<|
 T1 Tryz.func77 (by kernel_rfl)<|
 T1 Tryz.func78 (by kernel_rfl)<|
 T1 Tryz.func79 (by kernel_rfl)<|
 T1 Tryz.func86 (by kernel_rfl)<|
 T1 Tryz.func90 (by kernel_rfl)<|
 T1 Tryz.func91 (by kernel_rfl)<|
 T1 Tryz.func95 (by kernel_rfl)<|
 T1 Tryz.func96 (by kernel_rfl)<|
 T1 Tryz.func97 (by kernel_rfl)<|
 T1 Tryz.func98 (by kernel_rfl)<|
 T1 Tryz.func99 (by kernel_rfl)<|
 T1 Tryz.func108 (by kernel_rfl)<|
 T1 Tryz.func107 (by kernel_rfl)<|
 T1 Tryz.func62 (by kernel_rfl)<|
 T1 Tryz.func63 (by kernel_rfl)<|
 T1 Tryz.func141 (by kernel_rfl)<|
 T1 Tryz.func140 (by kernel_rfl)<|
 T1 Tryz.func144 (by kernel_rfl)<|
 T1 Tryz.func143 (by kernel_rfl)<|
 T1 Tryz.func145 (by kernel_rfl)<|
 T1 Tryz.func146 (by kernel_rfl)<|
 T1 Tryz.func147 (by kernel_rfl)<|
 T1 Tryz.func148 (by kernel_rfl)<|
 T1 Tryz.func149 (by kernel_rfl)<|
 T1 Tryz.func150 (by kernel_rfl)<|
 T1 Tryz.func152 (by kernel_rfl)<|
 T1 Tryz.func153 (by kernel_rfl)<|
 T1 Tryz.func154 (by kernel_rfl)<|
 T1 Tryz.func155 (by kernel_rfl)<|
 T1 Tryz.func156 (by kernel_rfl)<|
 T1 Tryz.func158 (by kernel_rfl)<|
 T1 Tryz.func157 (by kernel_rfl)<|
 T1 Tryz.func159 (by kernel_rfl)<|
 T1 Tryz.func160 (by kernel_rfl)<|
 T1 Tryz.func162 (by kernel_rfl)<|
 T1 Tryz.func163 (by kernel_rfl)<|
 T1 Tryz.func164 (by kernel_rfl)<|
 T1 Tryz.func165 (by kernel_rfl)<|
 T1 Tryz.func166 (by kernel_rfl)<|
 T1 Tryz.func170 (by kernel_rfl)<|
 T1 Tryz.func171 (by kernel_rfl)<|
 T1 Tryz.func172 (by kernel_rfl)<|
 T1 Tryz.func173 (by kernel_rfl)<|
 T1 Tryz.func174 (by kernel_rfl)<|
 T1 Tryz.func175 (by kernel_rfl)<|
 T1 Tryz.func177 (by kernel_rfl)<|
 T1 Tryz.func178 (by kernel_rfl)<|
 T1 Tryz.func109 (by kernel_rfl)<|
 T1 Tryz.func112 (by kernel_rfl)<|
 T1 Tryz.func113 (by kernel_rfl)<|
 T1 Tryz.func119 (by kernel_rfl)<|
 T1 Tryz.func122 (by kernel_rfl)<|
 T1 Tryz.func125 (by kernel_rfl)<|
 T1 Tryz.func126 (by kernel_rfl)<|
 T1 Tryz.func127 (by kernel_rfl)<|
 T1 Tryz.func128 (by kernel_rfl)<|
 T1 Tryz.func129 (by kernel_rfl)<|
 T1 Tryz.func130 (by kernel_rfl)<|
 T1 Tryz.func134 (by kernel_rfl)<|
 T1 Tryz.func138 (by kernel_rfl)<|
 T1 Tryz.func111 (by kernel_rfl)<|
 T1 Tryz.func142 (by kernel_rfl)<|
 T1 Tryz.func116 (by kernel_rfl)<|
 T1 Tryz.func191 (by kernel_rfl)<|
 T1 Tryz.func192 (by kernel_rfl)<|
 T1 Tryz.func193 (by kernel_rfl)<|
 T1 Tryz.func194 (by kernel_rfl)<|
 T1 Tryz.func195 (by kernel_rfl)<|
 T1 Tryz.func196 (by kernel_rfl)<|
 T1 Tryz.func197 (by kernel_rfl)<|
 T1 Tryz.func198 (by kernel_rfl)<|
 T1 Tryz.func199 (by kernel_rfl)<|
 T1 Tryz.func200 (by kernel_rfl)<|
 T1 Tryz.func201 (by kernel_rfl)<|
 T1 Tryz.func203 (by kernel_rfl)<|
 T1 Tryz.func202 (by kernel_rfl)<|
 T1 Tryz.func205 (by kernel_rfl)<|
 T1 Tryz.func206 (by kernel_rfl)<|
 T1 Tryz.func207 (by kernel_rfl)<|
 T1 Tryz.func210 (by kernel_rfl)<|
 T1 Tryz.func211 (by kernel_rfl)<|
 T1 Tryz.func212 (by kernel_rfl)<|
 T1 Tryz.func213 (by kernel_rfl)<|
 T1 Tryz.func214 (by kernel_rfl)<|
 T1 Tryz.func215 (by kernel_rfl)<|
 T1 Tryz.func216 (by kernel_rfl)<|
 T1 Tryz.func217 (by kernel_rfl)<|
 T1 Tryz.func218 (by kernel_rfl)<|
 T1 Tryz.func219 (by kernel_rfl)<|
 T1 Tryz.func220 (by kernel_rfl)<|
 T1 Tryz.func221 (by kernel_rfl)<|
 T1 Tryz.func188 (by kernel_rfl)<|
 T1 Tryz.func110 (by kernel_rfl)<|
 T1 Tryz.func115 (by kernel_rfl)<|
 T1 Tryz.func114 (by kernel_rfl)<|
 T1 Tryz.func121 (by kernel_rfl)<|
 T1 Tryz.func120 (by kernel_rfl)<|
 T1 Tryz.func124 (by kernel_rfl)<|
 T1 Tryz.func123 (by kernel_rfl)<|
 T1 Tryz.func132 (by kernel_rfl)<|
 T1 Tryz.func131 (by kernel_rfl)<|
 T1 Tryz.func136 (by kernel_rfl)<|
 T1 Tryz.func135 (by kernel_rfl)<|
 T1 Tryz.func139 (by kernel_rfl)<|
 T1 Tryz.func190 (by kernel_rfl)<|
 T1 Tryz.func189 (by kernel_rfl)<|
 T1 Tryz.func231 (by kernel_rfl)<|
 T1 Tryz.func232 (by kernel_rfl)<|
 T1 Tryz.func233 (by kernel_rfl)<|
 T1 Tryz.func234 (by kernel_rfl)<|
 T1 Tryz.func235 (by kernel_rfl)<|
 T1 Tryz.func236 (by kernel_rfl)<|
 T1 Tryz.func237 (by kernel_rfl)<|
 T1 Tryz.func238 (by kernel_rfl)<|
 T1 Tryz.func244 (by kernel_rfl)<|
 T1 Tryz.func245 (by kernel_rfl)<|
 T1 Tryz.func246 (by kernel_rfl)<|
 T1 Tryz.func247 (by kernel_rfl)<|
 T1 Tryz.func117 (by kernel_rfl)<|
 T1 Tryz.func118 (by kernel_rfl)<|
 T1 Tryz.func133 (by kernel_rfl)<|
 T1 Tryz.func137 (by kernel_rfl)<|
 T1 Tryz.func184 (by kernel_rfl)<|
 T1 Tryz.func183 (by kernel_rfl)<|
 T1 Tryz.func252 (by kernel_rfl)<|
 T1 Tryz.func253 (by kernel_rfl)<|
 T1 Tryz.func254 (by kernel_rfl)<|
 T1 Tryz.func255 (by kernel_rfl)<|
 T1 Tryz.func256 (by kernel_rfl)<|
 T1 Tryz.func257 (by kernel_rfl)<|
 T1 Tryz.func263 (by kernel_rfl)<|
 T1 Tryz.func264 (by kernel_rfl)<|
 T1 Tryz.func179 (by kernel_rfl)<|
 T1 Tryz.func180 (by kernel_rfl)<|
 T1 Tryz.func181 (by kernel_rfl)<|
 T1 Tryz.func182 (by kernel_rfl)<|
 T1 Tryz.func186 (by kernel_rfl)<|
 T1 Tryz.func185 (by kernel_rfl)<|
 T1 Tryz.func267 (by kernel_rfl)<|
 T1 Tryz.func268 (by kernel_rfl)<|
 T1 Tryz.func222 (by kernel_rfl)<|
 T1 Tryz.func224 (by kernel_rfl)<|
 T1 Tryz.func225 (by kernel_rfl)<|
 T1 Tryz.func226 (by kernel_rfl)<|
 T1 Tryz.func228 (by kernel_rfl)<|
 T1 Tryz.func227 (by kernel_rfl)<|
 T1 Tryz.func187 (by kernel_rfl)<|
 T1 Tryz.func271 (by kernel_rfl)<|
 T1 Tryz.func272 (by kernel_rfl)<|
 T1 Tryz.func273 (by kernel_rfl)<|
 T1 Tryz.func248 (by kernel_rfl)<|
 T1 Tryz.func249 (by kernel_rfl)<|
 T1 Tryz.func250 (by kernel_rfl)<|
 T1 Tryz.func230 (by kernel_rfl)<|
 T1 Tryz.func229 (by kernel_rfl)<|
 T1 Tryz.func274 (by kernel_rfl)<|
 T1 Tryz.func275 (by kernel_rfl)<|
 T1 Tryz.func265 (by kernel_rfl)<|
 T1 Tryz.func266 (by kernel_rfl)<|
 T1 Tryz.func251 (by kernel_rfl)<|T0
end
end Go.Proofs.YtleomfgijkapfaaGreatDoor
end
