import Derived.Test.YtgjcjbhhhlelnaaGreatDoorRows
import Derived.ProofKit
import Derived.Test.YtgjcjbhhhlelnaaGreatDoorHAh9
set_option linter.all false
section
namespace Go.Proofs.YtgjcjbhhhlelnaaGreatDoor
open Go Go.Proofs.YtgjcjbhhhlelnaaGreatDoor.Abs
set_option maxRecDepth 100000
set_option maxHeartbeats 0
abbrev HP:=List Zn
abbrev GT:=Nat→Option (List AV)
abbrev KT:=FuncId→List AV→HP→KR
def cF (x:Option AFn):AFn:=x.getD ⟨0,[],.bad,false⟩
theorem Zo0 {x:Option AFn}(h:x.isSome=true):x=some (cF x):=by cases x with | none=>cases h | some v=>rfl
def takes:FuncId→List Nat:=fun x=>if x=ZnE then [16,17,21,22] else []
abbrev RG:FuncId:=7
abbrev Gi:FuncId:=10
abbrev Vh:FuncId:=21
abbrev Tu:FuncId:=22
abbrev Jd:FuncId:=25
abbrev ZcK:FuncId:=27
abbrev ZI:FuncId:=28
abbrev Ym:FuncId:=29
abbrev Hf:FuncId:=30
abbrev Hg:FuncId:=31
abbrev GU:FuncId:=45
abbrev GV:FuncId:=46
abbrev WP:TypeId:=3
abbrev Zv:TypeId:=25
abbrev Ir:TypeId:=26
abbrev YL:TypeId:=36
noncomputable def cG (f:Func):AFn:=cF (cFn Tryz.prog takes f)
noncomputable def JR:AFn:=cG Tryz.f7
noncomputable def ZcR:AFn:=cG Tryz.f9
noncomputable def Zag:AFn:=cG Tryz.f11
noncomputable def Zaf:AFn:=cG Tryz.f13
noncomputable def ZcS:AFn:=cG Tryz.f16
noncomputable def Zfr:AFn:=cG Tryz.f15
noncomputable def Zcd:AFn:=cG Tryz.f18
noncomputable def OI:AFn:=cG Tryz.f21
noncomputable def Zdr:AFn:=cG Tryz.f22
noncomputable def Nv:AFn:=cG Tryz.f20
noncomputable def Zbb:AFn:=cG Tryz.f25
noncomputable def Kw:AFn:=cG Tryz.f26
noncomputable def Zdj:AFn:=cG Tryz.f27
noncomputable def Ht:AFn:=cG Tryz.f29
noncomputable def ZiK:AFn:=cG Tryz.f30
noncomputable def ZiL:AFn:=cG Tryz.f31
noncomputable def AA:AFn:=cG Tryz.f33
noncomputable def Au:AFn:=cG Tryz.f34
noncomputable def Aj:AFn:=cG Tryz.f35
noncomputable def ZcN:AFn:=cG Tryz.f36
noncomputable def PS:AFn:=cG Tryz.f37
noncomputable def IE:AFn:=cG Tryz.f38
noncomputable def ZcV:AFn:=cG Tryz.f39
noncomputable def Zdb:AFn:=cG Tryz.f40
noncomputable def Zge:AFn:=cG Tryz.f41
noncomputable def Zgd:AFn:=cG Tryz.f42
noncomputable def AP:AFn:=cG Tryz.f43
noncomputable def ZfS:AFn:=cG Tryz.f45
noncomputable def ZfT:AFn:=cG Tryz.f46
noncomputable def Nl:AFn:=cG Tryz.f47
noncomputable def Bl:AFn:=cG Tryz.f48
noncomputable def X8:AFn:=cG Tryz.f49
noncomputable def Bc:AFn:=cG Tryz.f51
noncomputable def Vx:AFn:=cG Tryz.f50
noncomputable def A7:AFn:=cG Tryz.f54
noncomputable def Yd:AFn:=cG Tryz.f55
noncomputable def RV:AFn:=cG Tryz.f56
noncomputable def KH:AFn:=cG Tryz.f57
noncomputable def Zbn:AFn:=cG Tryz.f58
noncomputable def AC:AFn:=cG Tryz.f59
noncomputable def Zbq:AFn:=cG Tryz.f61
noncomputable def Zde:AFn:=cG Tryz.f60
noncomputable def Zdi:AFn:=cG Tryz.f62
noncomputable def Zdg:AFn:=cG Tryz.f63
noncomputable def Zgb:AFn:=cG Tryz.f64
noncomputable def Zdf:AFn:=cG Tryz.f65
noncomputable def Zdo:AFn:=cG Tryz.f66
noncomputable def XP:AFn:=cG Tryz.f70
noncomputable def Xq:AFn:=cG Tryz.f69
noncomputable def WB:AFn:=cG Tryz.f52
noncomputable def Zbk:AFn:=cG Tryz.f53
noncomputable def Be:AFn:=cG Tryz.f103
noncomputable def JS:AFn:=cG Tryz.f102
noncomputable def Zbd:AFn:=cG Tryz.f105
noncomputable def Zbc:AFn:=cG Tryz.f106
noncomputable def IJ:AFn:=cG Tryz.f107
noncomputable def ZfR:AFn:=cG Tryz.f108
noncomputable def IL:AFn:=cG Tryz.f109
noncomputable def LV:AFn:=cG Tryz.f110
noncomputable def VN:AFn:=cG Tryz.f111
noncomputable def Zbe:AFn:=cG Tryz.f112
noncomputable def Nq:AFn:=cG Tryz.f114
noncomputable def ZfV:AFn:=cG Tryz.f113
noncomputable def Zdd:AFn:=cG Tryz.f115
noncomputable def ZfY:AFn:=cG Tryz.f116
noncomputable def Zdc:AFn:=cG Tryz.f117
noncomputable def Ns:AFn:=cG Tryz.f118
noncomputable def Zdh:AFn:=cG Tryz.f119
noncomputable def ZiN:AFn:=cG Tryz.f120
noncomputable def Zga:AFn:=cG Tryz.f121
noncomputable def Zbr:AFn:=cG Tryz.f122
noncomputable def Zdp:AFn:=cG Tryz.f123
noncomputable def Zdq:AFn:=cG Tryz.f124
noncomputable def AQ:AFn:=cG Tryz.f125
noncomputable def Zdk:AFn:=cG Tryz.f126
noncomputable def Bo:AFn:=cG Tryz.f127
noncomputable def Zak:AFn:=cG Tryz.f128
noncomputable def ZcT:AFn:=cG Tryz.f129
noncomputable def Az:AFn:=cG Tryz.f130
noncomputable def Zbi:AFn:=cG Tryz.f131
noncomputable def PV:AFn:=cG Tryz.f71
noncomputable def PW:AFn:=cG Tryz.f74
noncomputable def PX:AFn:=cG Tryz.f75
noncomputable def PY:AFn:=cG Tryz.f81
noncomputable def PZ:AFn:=cG Tryz.f84
noncomputable def Na:AFn:=cG Tryz.f87
noncomputable def Nb:AFn:=cG Tryz.f88
noncomputable def Nc:AFn:=cG Tryz.f89
noncomputable def Nh:AFn:=cG Tryz.f90
noncomputable def Bg:AFn:=cG Tryz.f91
noncomputable def Bh:AFn:=cG Tryz.f92
noncomputable def Bi:AFn:=cG Tryz.f96
noncomputable def Bj:AFn:=cG Tryz.f100
noncomputable def Aw:AFn:=cG Tryz.f73
noncomputable def Zbh:AFn:=cG Tryz.f104
noncomputable def Nk:AFn:=cG Tryz.f78
noncomputable def ZcO:AFn:=cG Tryz.f145
noncomputable def ZcP:AFn:=cG Tryz.f132
noncomputable def Hm:AFn:=cG Tryz.f146
noncomputable def Zba:AFn:=cG Tryz.f148
noncomputable def Qi:AFn:=cG Tryz.f147
noncomputable def Ho:AFn:=cG Tryz.f149
noncomputable def UD:AFn:=cG Tryz.f151
noncomputable def Wq:AFn:=cG Tryz.f150
noncomputable def Ak:AFn:=cG Tryz.f152
noncomputable def Am:AFn:=cG Tryz.f153
noncomputable def Zne:AFn:=cG Tryz.f154
noncomputable def Nu:AFn:=cG Tryz.f155
noncomputable def AO:AFn:=cG Tryz.f156
noncomputable def AL:AFn:=cG Tryz.f157
noncomputable def Zgc:AFn:=cG Tryz.f158
noncomputable def Zdl:AFn:=cG Tryz.f159
noncomputable def Zah:AFn:=cG Tryz.f160
noncomputable def ZfU:AFn:=cG Tryz.f161
noncomputable def Zbs:AFn:=cG Tryz.f162
noncomputable def Zdm:AFn:=cG Tryz.f163
noncomputable def ZiO:AFn:=cG Tryz.f164
noncomputable def ZcY:AFn:=cG Tryz.f165
noncomputable def Zbm:AFn:=cG Tryz.f166
noncomputable def AB:AFn:=cG Tryz.f167
noncomputable def ZcU:AFn:=cG Tryz.f168
noncomputable def Znd:AFn:=cG Tryz.f142
noncomputable def KI:AFn:=cG Tryz.f72
noncomputable def LZ:AFn:=cG Tryz.f77
noncomputable def Xk:AFn:=cG Tryz.f76
noncomputable def Rf:AFn:=cG Tryz.f83
noncomputable def XQ:AFn:=cG Tryz.f82
noncomputable def Rh:AFn:=cG Tryz.f86
noncomputable def Vw:AFn:=cG Tryz.f85
noncomputable def OG:AFn:=cG Tryz.f94
noncomputable def VC:AFn:=cG Tryz.f93
noncomputable def OH:AFn:=cG Tryz.f98
noncomputable def Jq:AFn:=cG Tryz.f97
noncomputable def Zbj:AFn:=cG Tryz.f101
noncomputable def PT:AFn:=cG Tryz.f144
noncomputable def YI:AFn:=cG Tryz.f143
noncomputable def Sm:AFn:=cG Tryz.f179
noncomputable def Jf:AFn:=cG Tryz.f169
noncomputable def RZ:AFn:=cG Tryz.f180
noncomputable def RY:AFn:=cG Tryz.f181
noncomputable def VO:AFn:=cG Tryz.f182
noncomputable def WM:AFn:=cG Tryz.f183
noncomputable def RX:AFn:=cG Tryz.f185
noncomputable def Xf:AFn:=cG Tryz.f184
noncomputable def Nr:AFn:=cG Tryz.f186
noncomputable def ZcZ:AFn:=cG Tryz.f187
noncomputable def ZfZ:AFn:=cG Tryz.f188
noncomputable def TA:AFn:=cG Tryz.f189
noncomputable def Np:AFn:=cG Tryz.f190
noncomputable def Zdn:AFn:=cG Tryz.f191
noncomputable def Su:AFn:=cG Tryz.f192
noncomputable def Sr:AFn:=cG Tryz.f193
noncomputable def Zai:AFn:=cG Tryz.f194
noncomputable def LY:AFn:=cG Tryz.f79
noncomputable def LW:AFn:=cG Tryz.f80
noncomputable def Bf:AFn:=cG Tryz.f95
noncomputable def A8:AFn:=cG Tryz.f99
noncomputable def PU:AFn:=cG Tryz.f138
noncomputable def UF:AFn:=cG Tryz.f137
noncomputable def IK:AFn:=cG Tryz.f199
noncomputable def XC:AFn:=cG Tryz.f200
noncomputable def Sv:AFn:=cG Tryz.f201
noncomputable def Sz:AFn:=cG Tryz.f202
noncomputable def Zaj:AFn:=cG Tryz.f203
noncomputable def ZcW:AFn:=cG Tryz.f204
noncomputable def Zbo:AFn:=cG Tryz.f205
noncomputable def ZfW:AFn:=cG Tryz.f206
noncomputable def Q4:AFn:=cG Tryz.f133
noncomputable def WU:AFn:=cG Tryz.f134
noncomputable def Zbt:AFn:=cG Tryz.f135
noncomputable def Bd:AFn:=cG Tryz.f136
noncomputable def LX:AFn:=cG Tryz.f140
noncomputable def JU:AFn:=cG Tryz.f139
noncomputable def Hq:AFn:=cG Tryz.f209
noncomputable def ZcQ:AFn:=cG Tryz.f210
noncomputable def Hr:AFn:=cG Tryz.f211
noncomputable def UE:AFn:=cG Tryz.f212
noncomputable def ZiM:AFn:=cG Tryz.f213
noncomputable def Xl:AFn:=cG Tryz.f170
noncomputable def Bq:AFn:=cG Tryz.f172
noncomputable def Bv:AFn:=cG Tryz.f173
noncomputable def Bz:AFn:=cG Tryz.f174
noncomputable def OE:AFn:=cG Tryz.f176
noncomputable def YR:AFn:=cG Tryz.f175
noncomputable def Zbl:AFn:=cG Tryz.f141
noncomputable def Ap:AFn:=cG Tryz.f214
noncomputable def Znf:AFn:=cG Tryz.f215
noncomputable def Zbp:AFn:=cG Tryz.f216
noncomputable def Zda:AFn:=cG Tryz.f217
noncomputable def Zdt:AFn:=cG Tryz.f195
noncomputable def Zds:AFn:=cG Tryz.f196
noncomputable def Zbu:AFn:=cG Tryz.f197
noncomputable def Nj:AFn:=cG Tryz.f178
noncomputable def Y3:AFn:=cG Tryz.f177
noncomputable def ZfX:AFn:=cG Tryz.f218
noncomputable def ZcX:AFn:=cG Tryz.f219
noncomputable def AU:AFn:=cG Tryz.f207
noncomputable def Zbf:AFn:=cG Tryz.f208
noncomputable def YC:AFn:=cG Tryz.f198
noncomputable def tab:List (Nat×AFn):=[(7,JR),(9,ZcR),(11,Zag),(13,Zaf),(16,ZcS),(15,Zfr),(18,Zcd),(21,OI),(22,Zdr),(20,Nv),(25,Zbb),(26,Kw),(27,Zdj),(29,Ht),(30,ZiK),(31,ZiL),(33,AA),(34,Au),(35,Aj),(36,ZcN),(37,PS),(38,IE),(39,ZcV),(40,Zdb),(41,Zge),(42,Zgd),(43,AP),(45,ZfS),(46,ZfT),(47,Nl),(48,Bl),(49,X8),(51,Bc),(50,Vx),(54,A7),(55,Yd),(56,RV),(57,KH),(58,Zbn),(59,AC),(61,Zbq),(60,Zde),(62,Zdi),(63,Zdg),(64,Zgb),(65,Zdf),(66,Zdo),(70,XP),(69,Xq),(52,WB),(53,Zbk),(103,Be),(102,JS),(105,Zbd),(106,Zbc),(107,IJ),(108,ZfR),(109,IL),(110,LV),(111,VN),(112,Zbe),(114,Nq),(113,ZfV),(115,Zdd),(116,ZfY),(117,Zdc),(118,Ns),(119,Zdh),(120,ZiN),(121,Zga),(122,Zbr),(123,Zdp),(124,Zdq),(125,AQ),(126,Zdk),(127,Bo),(128,Zak),(129,ZcT),(130,Az),(131,Zbi),(71,PV),(74,PW),(75,PX),(81,PY),(84,PZ),(87,Na),(88,Nb),(89,Nc),(90,Nh),(91,Bg),(92,Bh),(96,Bi),(100,Bj),(73,Aw),(104,Zbh),(78,Nk),(145,ZcO),(132,ZcP),(146,Hm),(148,Zba),(147,Qi),(149,Ho),(151,UD),(150,Wq),(152,Ak),(153,Am),(154,Zne),(155,Nu),(156,AO),(157,AL),(158,Zgc),(159,Zdl),(160,Zah),(161,ZfU),(162,Zbs),(163,Zdm),(164,ZiO),(165,ZcY),(166,Zbm),(167,AB),(168,ZcU),(142,Znd),(72,KI),(77,LZ),(76,Xk),(83,Rf),(82,XQ),(86,Rh),(85,Vw),(94,OG),(93,VC),(98,OH),(97,Jq),(101,Zbj),(144,PT),(143,YI),(179,Sm),(169,Jf),(180,RZ),(181,RY),(182,VO),(183,WM),(185,RX),(184,Xf),(186,Nr),(187,ZcZ),(188,ZfZ),(189,TA),(190,Np),(191,Zdn),(192,Su),(193,Sr),(194,Zai),(79,LY),(80,LW),(95,Bf),(99,A8),(138,PU),(137,UF),(199,IK),(200,XC),(201,Sv),(202,Sz),(203,Zaj),(204,ZcW),(205,Zbo),(206,ZfW),(133,Q4),(134,WU),(135,Zbt),(136,Bd),(140,LX),(139,JU),(209,Hq),(210,ZcQ),(211,Hr),(212,UE),(213,ZiM),(170,Xl),(172,Bq),(173,Bv),(174,Bz),(176,OE),(175,YR),(141,Zbl),(214,Ap),(215,Znf),(216,Zbp),(217,Zda),(195,Zdt),(196,Zds),(197,Zbu),(178,Nj),(177,Y3),(218,ZfX),(219,ZcX),(207,AU),(208,Zbf),(198,YC)]
abbrev T9 (p:Nat×AFn):Prop:=∃ fn takes,Tryz.prog.funcs[p.1]? = some fn∧(fn.name == "runtime.NumGoroutine")=false∧cFn Tryz.prog takes fn=some p.2
theorem T0:∀ p ∈ ([]:List (Nat×AFn)),T9 p:=fun _ h=>by cases h
theorem T1 {f:Nat}{fn:Func}{l:List (Nat×AFn)}(h:Tryz.prog.funcs[f]? = some fn)(k:(!(fn.name == "runtime.NumGoroutine")&&(cFn Tryz.prog takes fn).isSome)=true)(r:∀ p ∈ l,T9 p):∀ p ∈ (f,cG fn)::l,T9 p:=fun p hp=>by
  rw [Bool.and_eq_true,Bool.not_eq_true'] at k
  rcases List.mem_cons.1 hp with rfl | hp
  · refine ⟨fn,takes,h,k.1,?_⟩
    show _=some (cG fn)
    unfold cG cF
    cases e:cFn Tryz.prog takes fn with
    | none=>rw [e] at k;cases k.2
    | some v=>rfl
  · exact r p hp
theorem Zv5:∀ p ∈ tab,T9 p:=T1 Tryz.func7 (by kernel_rfl)<|
 T1 Tryz.func9 (by kernel_rfl)<|
 T1 Tryz.func11 (by kernel_rfl)<|
 T1 Tryz.func13 (by kernel_rfl)<|
 T1 Tryz.func16 (by kernel_rfl)<|
 T1 Tryz.func15 (by kernel_rfl)<|
 T1 Tryz.func18 (by kernel_rfl)<|
 T1 Tryz.func21 (by kernel_rfl)<|
 T1 Tryz.func22 (by kernel_rfl)<|
 T1 Tryz.func20 (by kernel_rfl)<|
 T1 Tryz.func25 (by kernel_rfl)<|
 T1 Tryz.func26 (by kernel_rfl)<|
 T1 Tryz.func27 (by kernel_rfl)<|
 T1 Tryz.func29 (by kernel_rfl)<|
 T1 Tryz.func30 (by kernel_rfl)<|
 T1 Tryz.func31 (by kernel_rfl)<|
 T1 Tryz.func33 (by kernel_rfl)<|
 T1 Tryz.func34 (by kernel_rfl)<|
 T1 Tryz.func35 (by kernel_rfl)<|
 T1 Tryz.func36 (by kernel_rfl)<|
 T1 Tryz.func37 (by kernel_rfl)<|
 T1 Tryz.func38 (by kernel_rfl)<|
 T1 Tryz.func39 (by kernel_rfl)<|
 T1 Tryz.func40 (by kernel_rfl)<|
 T1 Tryz.func41 (by kernel_rfl)<|
 T1 Tryz.func42 (by kernel_rfl)<|
 T1 Tryz.func43 (by kernel_rfl)<|
 T1 Tryz.func45 (by kernel_rfl)<|
 T1 Tryz.func46 (by kernel_rfl)<|
 T1 Tryz.func47 (by kernel_rfl)<|
 T1 Tryz.func48 (by kernel_rfl)<|
 T1 Tryz.func49 (by kernel_rfl)<|
 T1 Tryz.func51 (by kernel_rfl)<|
 T1 Tryz.func50 (by kernel_rfl)<|
 T1 Tryz.func54 (by kernel_rfl)<|
 T1 Tryz.func55 (by kernel_rfl)<|
 T1 Tryz.func56 (by kernel_rfl)<|
 T1 Tryz.func57 (by kernel_rfl)<|
 T1 Tryz.func58 (by kernel_rfl)<|
 T1 Tryz.func59 (by kernel_rfl)<|
 T1 Tryz.func61 (by kernel_rfl)<|
 T1 Tryz.func60 (by kernel_rfl)<|
 T1 Tryz.func62 (by kernel_rfl)<|
 T1 Tryz.func63 (by kernel_rfl)<|
 T1 Tryz.func64 (by kernel_rfl)<|
 T1 Tryz.func65 (by kernel_rfl)<|
 T1 Tryz.func66 (by kernel_rfl)<|
 T1 Tryz.func70 (by kernel_rfl)<|
 T1 Tryz.func69 (by kernel_rfl)<|
 T1 Tryz.func52 (by kernel_rfl)<|
 T1 Tryz.func53 (by kernel_rfl)<|
 T1 Tryz.func103 (by kernel_rfl)<|
 T1 Tryz.func102 (by kernel_rfl)<|
 T1 Tryz.func105 (by kernel_rfl)<|
 T1 Tryz.func106 (by kernel_rfl)<|
 T1 Tryz.func107 (by kernel_rfl)<|
 T1 Tryz.func108 (by kernel_rfl)<|
 T1 Tryz.func109 (by kernel_rfl)<|
 T1 Tryz.func110 (by kernel_rfl)<|
 T1 Tryz.func111 (by kernel_rfl)<|
 T1 Tryz.func112 (by kernel_rfl)<|
 T1 Tryz.func114 (by kernel_rfl)<|
 T1 Tryz.func113 (by kernel_rfl)<|
 T1 Tryz.func115 (by kernel_rfl)<|
 T1 Tryz.func116 (by kernel_rfl)<|
 T1 Tryz.func117 (by kernel_rfl)<|
 T1 Tryz.func118 (by kernel_rfl)<|
 T1 Tryz.func119 (by kernel_rfl)<|
 T1 Tryz.func120 (by kernel_rfl)<|
 T1 Tryz.func121 (by kernel_rfl)<|
 T1 Tryz.func122 (by kernel_rfl)<|
 T1 Tryz.func123 (by kernel_rfl)<|
 T1 Tryz.func124 (by kernel_rfl)<|
 T1 Tryz.func125 (by kernel_rfl)<|
 T1 Tryz.func126 (by kernel_rfl)<|
 T1 Tryz.func127 (by kernel_rfl)<|
 T1 Tryz.func128 (by kernel_rfl)<|
 T1 Tryz.func129 (by kernel_rfl)<|
 T1 Tryz.func130 (by kernel_rfl)<|
 T1 Tryz.func131 (by kernel_rfl)<|
 T1 Tryz.func71 (by kernel_rfl)<|
 T1 Tryz.func74 (by kernel_rfl)<|
 T1 Tryz.func75 (by kernel_rfl)<|
 T1 Tryz.func81 (by kernel_rfl)<|
 T1 Tryz.func84 (by kernel_rfl)<|
 T1 Tryz.func87 (by kernel_rfl)<|
 T1 Tryz.func88 (by kernel_rfl)<|
 T1 Tryz.func89 (by kernel_rfl)<|
 T1 Tryz.func90 (by kernel_rfl)<|
 T1 Tryz.func91 (by kernel_rfl)<|
 T1 Tryz.func92 (by kernel_rfl)<|
 T1 Tryz.func96 (by kernel_rfl)<|
 T1 Tryz.func100 (by kernel_rfl)<|
 T1 Tryz.func73 (by kernel_rfl)<|
 T1 Tryz.func104 (by kernel_rfl)<|
 T1 Tryz.func78 (by kernel_rfl)<|
 T1 Tryz.func145 (by kernel_rfl)<|
 T1 Tryz.func132 (by kernel_rfl)<|
 T1 Tryz.func146 (by kernel_rfl)<|
 T1 Tryz.func148 (by kernel_rfl)<|
 T1 Tryz.func147 (by kernel_rfl)<|
 T1 Tryz.func149 (by kernel_rfl)<|
 T1 Tryz.func151 (by kernel_rfl)<|
 T1 Tryz.func150 (by kernel_rfl)<|
 T1 Tryz.func152 (by kernel_rfl)<|
 T1 Tryz.func153 (by kernel_rfl)<|
 T1 Tryz.func154 (by kernel_rfl)<|
 T1 Tryz.func155 (by kernel_rfl)<|
 T1 Tryz.func156 (by kernel_rfl)<|
 T1 Tryz.func157 (by kernel_rfl)<|
 T1 Tryz.func158 (by kernel_rfl)<|
 T1 Tryz.func159 (by kernel_rfl)<|
 T1 Tryz.func160 (by kernel_rfl)<|
 T1 Tryz.func161 (by kernel_rfl)<|
 T1 Tryz.func162 (by kernel_rfl)<|
 T1 Tryz.func163 (by kernel_rfl)<|
 T1 Tryz.func164 (by kernel_rfl)<|
 T1 Tryz.func165 (by kernel_rfl)<|
 T1 Tryz.func166 (by kernel_rfl)<|
 T1 Tryz.func167 (by kernel_rfl)<|
 T1 Tryz.func168 (by kernel_rfl)<|
 T1 Tryz.func142 (by kernel_rfl)<|
 T1 Tryz.func72 (by kernel_rfl)<|
 T1 Tryz.func77 (by kernel_rfl)<|
 T1 Tryz.func76 (by kernel_rfl)<|
 T1 Tryz.func83 (by kernel_rfl)<|
 T1 Tryz.func82 (by kernel_rfl)<|
 T1 Tryz.func86 (by kernel_rfl)<|
 T1 Tryz.func85 (by kernel_rfl)<|
 T1 Tryz.func94 (by kernel_rfl)<|
 T1 Tryz.func93 (by kernel_rfl)<|
 T1 Tryz.func98 (by kernel_rfl)<|
 T1 Tryz.func97 (by kernel_rfl)<|
 T1 Tryz.func101 (by kernel_rfl)<|
 T1 Tryz.func144 (by kernel_rfl)<|
 T1 Tryz.func143 (by kernel_rfl)<|
 T1 Tryz.func179 (by kernel_rfl)<|
 T1 Tryz.func169 (by kernel_rfl)<|
 T1 Tryz.func180 (by kernel_rfl)<|
 T1 Tryz.func181 (by kernel_rfl)<|
 T1 Tryz.func182 (by kernel_rfl)<|
 T1 Tryz.func183 (by kernel_rfl)<|
 T1 Tryz.func185 (by kernel_rfl)<|
 T1 Tryz.func184 (by kernel_rfl)<|
 T1 Tryz.func186 (by kernel_rfl)<|
 T1 Tryz.func187 (by kernel_rfl)<|
 T1 Tryz.func188 (by kernel_rfl)<|
 T1 Tryz.func189 (by kernel_rfl)<|
 T1 Tryz.func190 (by kernel_rfl)<|
 T1 Tryz.func191 (by kernel_rfl)<|
 T1 Tryz.func192 (by kernel_rfl)<|
 T1 Tryz.func193 (by kernel_rfl)<|
 T1 Tryz.func194 (by kernel_rfl)<|
 T1 Tryz.func79 (by kernel_rfl)<|
 T1 Tryz.func80 (by kernel_rfl)<|
 T1 Tryz.func95 (by kernel_rfl)<|
 T1 Tryz.func99 (by kernel_rfl)<|
 T1 Tryz.func138 (by kernel_rfl)<|
 T1 Tryz.func137 (by kernel_rfl)<|
 T1 Tryz.func199 (by kernel_rfl)<|
 T1 Tryz.func200 (by kernel_rfl)<|
 T1 Tryz.func201 (by kernel_rfl)<|
 T1 Tryz.func202 (by kernel_rfl)<|
 T1 Tryz.func203 (by kernel_rfl)<|
 T1 Tryz.func204 (by kernel_rfl)<|
 T1 Tryz.func205 (by kernel_rfl)<|
 T1 Tryz.func206 (by kernel_rfl)<|
 T1 Tryz.func133 (by kernel_rfl)<|
 T1 Tryz.func134 (by kernel_rfl)<|
 T1 Tryz.func135 (by kernel_rfl)<|
 T1 Tryz.func136 (by kernel_rfl)<|
 T1 Tryz.func140 (by kernel_rfl)<|
 T1 Tryz.func139 (by kernel_rfl)<|
 T1 Tryz.func209 (by kernel_rfl)<|
 T1 Tryz.func210 (by kernel_rfl)<|
 T1 Tryz.func211 (by kernel_rfl)<|
 T1 Tryz.func212 (by kernel_rfl)<|
 T1 Tryz.func213 (by kernel_rfl)<|
 T1 Tryz.func170 (by kernel_rfl)<|
 T1 Tryz.func172 (by kernel_rfl)<|
 T1 Tryz.func173 (by kernel_rfl)<|
 T1 Tryz.func174 (by kernel_rfl)<|
 T1 Tryz.func176 (by kernel_rfl)<|
 T1 Tryz.func175 (by kernel_rfl)<|
 T1 Tryz.func141 (by kernel_rfl)<|
 T1 Tryz.func214 (by kernel_rfl)<|
 T1 Tryz.func215 (by kernel_rfl)<|
 T1 Tryz.func216 (by kernel_rfl)<|
 T1 Tryz.func217 (by kernel_rfl)<|
 T1 Tryz.func195 (by kernel_rfl)<|
 T1 Tryz.func196 (by kernel_rfl)<|
 T1 Tryz.func197 (by kernel_rfl)<|
 T1 Tryz.func178 (by kernel_rfl)<|
 T1 Tryz.func177 (by kernel_rfl)<|
 T1 Tryz.func218 (by kernel_rfl)<|
 T1 Tryz.func219 (by kernel_rfl)<|
 T1 Tryz.func207 (by kernel_rfl)<|
 T1 Tryz.func208 (by kernel_rfl)<|
 T1 Tryz.func198 (by kernel_rfl)<|T0
end Go.Proofs.YtgjcjbhhhlelnaaGreatDoor
end
