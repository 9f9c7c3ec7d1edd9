import Derived.Test.YthkdlifcknpadaaGreatRows
import Derived.ProofKit
import Derived.Test.YthkdlifcknpadaaGreatHSh10
set_option linter.all false
section
namespace Go.Proofs.YthkdlifcknpadaaGreat
open Go Go.Proofs.YthkdlifcknpadaaGreat.Abs
set_option maxRecDepth 100000
set_option maxHeartbeats 0
abbrev HP:=List Zh
abbrev GT:=Nat→Option (List AV)
abbrev KT:=FuncId→List AV→HP→KR
def cF (x:Option AFn):AFn:=x.getD ⟨0,[],.bad,false⟩
theorem QJ {x:Option AFn}(h:x.isSome=true):x=some (cF x):=by cases x with | none=>cases h | some v=>rfl
def takes:FuncId→List Nat:=fun _=>[]
abbrev RQ:FuncId:=5
abbrev G9:FuncId:=6
abbrev X0:FuncId:=7
abbrev ZG:TypeId:=26
abbrev CQ:TypeId:=39
noncomputable def cG (f:Func):AFn:=cF (cFn Tryz.prog takes f)
noncomputable def RZ:AFn:=cG Tryz.f5
noncomputable def Ba:AFn:=cG Tryz.f7
noncomputable def EE:AFn:=cG Tryz.f9
noncomputable def Bi:AFn:=cG Tryz.f17
noncomputable def Xd:AFn:=cG Tryz.f18
noncomputable def IQ:AFn:=cG Tryz.f20
noncomputable def XH:AFn:=cG Tryz.f19
noncomputable def Bf:AFn:=cG Tryz.f23
noncomputable def Ey:AFn:=cG Tryz.f25
noncomputable def Nc:AFn:=cG Tryz.f26
noncomputable def EG:AFn:=cG Tryz.f24
noncomputable def EH:AFn:=cG Tryz.f28
noncomputable def ML:AFn:=cG Tryz.f42
noncomputable def Oh:AFn:=cG Tryz.f43
noncomputable def Xn:AFn:=cG Tryz.f45
noncomputable def QI:AFn:=cG Tryz.f44
noncomputable def Wn:AFn:=cG Tryz.f21
noncomputable def PW:AFn:=cG Tryz.f22
noncomputable def IU:AFn:=cG Tryz.f78
noncomputable def VO:AFn:=cG Tryz.f77
noncomputable def PZ:AFn:=cG Tryz.f79
noncomputable def Bl:AFn:=cG Tryz.f80
noncomputable def EF:AFn:=cG Tryz.f81
noncomputable def ZaB:AFn:=cG Tryz.f82
noncomputable def Za8:AFn:=cG Tryz.f83
noncomputable def MQ:AFn:=cG Tryz.f84
noncomputable def EI:AFn:=cG Tryz.f85
noncomputable def Zdj:AFn:=cG Tryz.f86
noncomputable def Nh:AFn:=cG Tryz.f88
noncomputable def Be:AFn:=cG Tryz.f109
noncomputable def PU:AFn:=cG Tryz.f110
noncomputable def TZ:AFn:=cG Tryz.f46
noncomputable def Mc:AFn:=cG Tryz.f49
noncomputable def Md:AFn:=cG Tryz.f50
noncomputable def Me:AFn:=cG Tryz.f56
noncomputable def MB:AFn:=cG Tryz.f59
noncomputable def MC:AFn:=cG Tryz.f62
noncomputable def MF:AFn:=cG Tryz.f63
noncomputable def MG:AFn:=cG Tryz.f64
noncomputable def MH:AFn:=cG Tryz.f65
noncomputable def Ob:AFn:=cG Tryz.f66
noncomputable def Oc:AFn:=cG Tryz.f67
noncomputable def Oe:AFn:=cG Tryz.f71
noncomputable def Og:AFn:=cG Tryz.f75
noncomputable def Bd:AFn:=cG Tryz.f48
noncomputable def PT:AFn:=cG Tryz.f12
noncomputable def MJ:AFn:=cG Tryz.f53
noncomputable def MN:AFn:=cG Tryz.f122
noncomputable def Zg4:AFn:=cG Tryz.f123
noncomputable def MR:AFn:=cG Tryz.f124
noncomputable def Bq:AFn:=cG Tryz.f125
noncomputable def Bo:AFn:=cG Tryz.f126
noncomputable def ZaD:AFn:=cG Tryz.f127
noncomputable def Zg3:AFn:=cG Tryz.f121
noncomputable def JU:AFn:=cG Tryz.f47
noncomputable def Ir:AFn:=cG Tryz.f52
noncomputable def Q9:AFn:=cG Tryz.f51
noncomputable def Iu:AFn:=cG Tryz.f58
noncomputable def Xo:AFn:=cG Tryz.f57
noncomputable def Iw:AFn:=cG Tryz.f61
noncomputable def XG:AFn:=cG Tryz.f60
noncomputable def Gh:AFn:=cG Tryz.f69
noncomputable def XO:AFn:=cG Tryz.f68
noncomputable def Gi:AFn:=cG Tryz.f73
noncomputable def V3:AFn:=cG Tryz.f72
noncomputable def PV:AFn:=cG Tryz.f76
noncomputable def TW:AFn:=cG Tryz.f34
noncomputable def Y9:AFn:=cG Tryz.f33
noncomputable def MP:AFn:=cG Tryz.f141
noncomputable def Za7:AFn:=cG Tryz.f142
noncomputable def Eu:AFn:=cG Tryz.f143
noncomputable def EC:AFn:=cG Tryz.f144
noncomputable def ZaC:AFn:=cG Tryz.f145
noncomputable def Iq:AFn:=cG Tryz.f54
noncomputable def Il:AFn:=cG Tryz.f55
noncomputable def IZ:AFn:=cG Tryz.f70
noncomputable def Bh:AFn:=cG Tryz.f74
noncomputable def TY:AFn:=cG Tryz.f117
noncomputable def J5:AFn:=cG Tryz.f116
noncomputable def MM:AFn:=cG Tryz.f153
noncomputable def PY:AFn:=cG Tryz.f154
noncomputable def Bj:AFn:=cG Tryz.f155
noncomputable def Ew:AFn:=cG Tryz.f156
noncomputable def Lp:AFn:=cG Tryz.f157
noncomputable def Lr:AFn:=cG Tryz.f158
noncomputable def DY:AFn:=cG Tryz.f159
noncomputable def Es:AFn:=cG Tryz.f111
noncomputable def Qg:AFn:=cG Tryz.f112
noncomputable def PN:AFn:=cG Tryz.f113
noncomputable def WL:AFn:=cG Tryz.f114
noncomputable def Nj:AFn:=cG Tryz.f115
noncomputable def IR:AFn:=cG Tryz.f13
noncomputable def Io:AFn:=cG Tryz.f119
noncomputable def VP:AFn:=cG Tryz.f118
noncomputable def Zdi:AFn:=cG Tryz.f165
noncomputable def Vo:AFn:=cG Tryz.f131
noncomputable def QC:AFn:=cG Tryz.f97
noncomputable def RU:AFn:=cG Tryz.f133
noncomputable def RV:AFn:=cG Tryz.f134
noncomputable def Oi:AFn:=cG Tryz.f136
noncomputable def Oj:AFn:=cG Tryz.f137
noncomputable def Ol:AFn:=cG Tryz.f138
noncomputable def Gf:AFn:=cG Tryz.f36
noncomputable def YG:AFn:=cG Tryz.f35
noncomputable def PX:AFn:=cG Tryz.f120
noncomputable def Zg5:AFn:=cG Tryz.f167
noncomputable def Nb:AFn:=cG Tryz.f168
noncomputable def ED:AFn:=cG Tryz.f169
noncomputable def IL:AFn:=cG Tryz.f149
noncomputable def Qy:AFn:=cG Tryz.f148
noncomputable def EM:AFn:=cG Tryz.f150
noncomputable def EK:AFn:=cG Tryz.f151
noncomputable def Nk:AFn:=cG Tryz.f152
noncomputable def MI:AFn:=cG Tryz.f140
noncomputable def Yx:AFn:=cG Tryz.f139
noncomputable def ZaA:AFn:=cG Tryz.f173
noncomputable def E5:AFn:=cG Tryz.f174
noncomputable def Xe:AFn:=cG Tryz.f162
noncomputable def Bv:AFn:=cG Tryz.f163
noncomputable def PO:AFn:=cG Tryz.f164
noncomputable def Y3:AFn:=cG Tryz.f93
noncomputable def E8:AFn:=cG Tryz.f176
noncomputable def Lj:AFn:=cG Tryz.f160
noncomputable def U6:AFn:=cG Tryz.f166
noncomputable def Lm:AFn:=cG Tryz.f181
noncomputable def Ll:AFn:=cG Tryz.f182
noncomputable def DX:AFn:=cG Tryz.f183
noncomputable def IP:AFn:=cG Tryz.f170
noncomputable def IM:AFn:=cG Tryz.f171
noncomputable def Ve:AFn:=cG Tryz.f172
noncomputable def Ez:AFn:=cG Tryz.f185
noncomputable def Na:AFn:=cG Tryz.f186
noncomputable def Za9:AFn:=cG Tryz.f187
noncomputable def Kq:AFn:=cG Tryz.f175
noncomputable def U7:AFn:=cG Tryz.f177
noncomputable def Et:AFn:=cG Tryz.f178
noncomputable def U8:AFn:=cG Tryz.f179
noncomputable def J4:AFn:=cG Tryz.f180
noncomputable def RX:AFn:=cG Tryz.f184
noncomputable def tab:List (Nat×AFn):=[(5,RZ),(7,Ba),(9,EE),(17,Bi),(18,Xd),(20,IQ),(19,XH),(23,Bf),(25,Ey),(26,Nc),(24,EG),(28,EH),(42,ML),(43,Oh),(45,Xn),(44,QI),(21,Wn),(22,PW),(78,IU),(77,VO),(79,PZ),(80,Bl),(81,EF),(82,ZaB),(83,Za8),(84,MQ),(85,EI),(86,Zdj),(88,Nh),(109,Be),(110,PU),(46,TZ),(49,Mc),(50,Md),(56,Me),(59,MB),(62,MC),(63,MF),(64,MG),(65,MH),(66,Ob),(67,Oc),(71,Oe),(75,Og),(48,Bd),(12,PT),(53,MJ),(122,MN),(123,Zg4),(124,MR),(125,Bq),(126,Bo),(127,ZaD),(121,Zg3),(47,JU),(52,Ir),(51,Q9),(58,Iu),(57,Xo),(61,Iw),(60,XG),(69,Gh),(68,XO),(73,Gi),(72,V3),(76,PV),(34,TW),(33,Y9),(141,MP),(142,Za7),(143,Eu),(144,EC),(145,ZaC),(54,Iq),(55,Il),(70,IZ),(74,Bh),(117,TY),(116,J5),(153,MM),(154,PY),(155,Bj),(156,Ew),(157,Lp),(158,Lr),(159,DY),(111,Es),(112,Qg),(113,PN),(114,WL),(115,Nj),(13,IR),(119,Io),(118,VP),(165,Zdi),(131,Vo),(97,QC),(133,RU),(134,RV),(136,Oi),(137,Oj),(138,Ol),(36,Gf),(35,YG),(120,PX),(167,Zg5),(168,Nb),(169,ED),(149,IL),(148,Qy),(150,EM),(151,EK),(152,Nk),(140,MI),(139,Yx),(173,ZaA),(174,E5),(162,Xe),(163,Bv),(164,PO),(93,Y3),(176,E8),(160,Lj),(166,U6),(181,Lm),(182,Ll),(183,DX),(170,IP),(171,IM),(172,Ve),(185,Ez),(186,Na),(187,Za9),(175,Kq),(177,U7),(178,Et),(179,U8),(180,J4),(184,RX)]
abbrev T9 (p:Nat×AFn):Prop:=∃ fn takes,Tryz.prog.funcs[p.1]? = some fn∧(fn.name == "runtime.NumGoroutine")=false∧cFn Tryz.prog takes fn=some p.2
theorem T0:∀ p ∈ ([]:List (Nat×AFn)),T9 p:=fun _ h=>by cases h
theorem T1 {f:Nat}{fn:Func}{l:List (Nat×AFn)}(h:Tryz.prog.funcs[f]? = some fn)(k:(!(fn.name == "runtime.NumGoroutine")&&(cFn Tryz.prog takes fn).isSome)=true)(r:∀ p ∈ l,T9 p):∀ p ∈ (f,cG fn)::l,T9 p:=fun p hp=>by
  rw [Bool.and_eq_true,Bool.not_eq_true'] at k
  rcases List.mem_cons.1 hp with rfl | hp
  · refine ⟨fn,takes,h,k.1,?_⟩
    show _=some (cG fn)
    unfold cG cF
    cases e:cFn Tryz.prog takes fn with
    | none=>rw [e] at k;cases k.2
    | some v=>rfl
  · exact r p hp
theorem Zoo:∀ p ∈ tab,T9 p:=T1 Tryz.func5 (by kernel_rfl)<|
 T1 Tryz.func7 (by kernel_rfl)<|
 T1 Tryz.func9 (by kernel_rfl)<|
 T1 Tryz.func17 (by kernel_rfl)<|
 T1 Tryz.func18 (by kernel_rfl)<|
 T1 Tryz.func20 (by kernel_rfl)<|
 T1 Tryz.func19 (by kernel_rfl)<|
 T1 Tryz.func23 (by kernel_rfl)<|
 T1 Tryz.func25 (by kernel_rfl)<|
 T1 Tryz.func26 (by kernel_rfl)<|
 T1 Tryz.func24 (by kernel_rfl)<|
 T1 Tryz.func28 (by kernel_rfl)<|
 T1 Tryz.func42 (by kernel_rfl)<|
 T1 Tryz.func43 (by kernel_rfl)<|
 T1 Tryz.func45 (by kernel_rfl)<|
 T1 Tryz.func44 (by kernel_rfl)<|
 T1 Tryz.func21 (by kernel_rfl)<|
 T1 Tryz.func22 (by kernel_rfl)<|
 T1 Tryz.func78 (by kernel_rfl)<|
 T1 Tryz.func77 (by kernel_rfl)<|
 T1 Tryz.func79 (by kernel_rfl)<|
 T1 Tryz.func80 (by kernel_rfl)<|
 T1 Tryz.func81 (by kernel_rfl)<|
 T1 Tryz.func82 (by kernel_rfl)<|
 T1 Tryz.func83 (by kernel_rfl)<|
 T1 Tryz.func84 (by kernel_rfl)<|
 T1 Tryz.func85 (by kernel_rfl)<|
 T1 Tryz.func86 (by kernel_rfl)<|
 T1 Tryz.func88 (by kernel_rfl)<|
 T1 Tryz.func109 (by kernel_rfl)<|
 T1 Tryz.func110 (by kernel_rfl)<|
 T1 Tryz.func46 (by kernel_rfl)<|
 T1 Tryz.func49 (by kernel_rfl)<|
 T1 Tryz.func50 (by kernel_rfl)<|
 T1 Tryz.func56 (by kernel_rfl)<|
 T1 Tryz.func59 (by kernel_rfl)<|
 T1 Tryz.func62 (by kernel_rfl)<|
 T1 Tryz.func63 (by kernel_rfl)<|
 T1 Tryz.func64 (by kernel_rfl)<|
 T1 Tryz.func65 (by kernel_rfl)<|
 T1 Tryz.func66 (by kernel_rfl)<|
 T1 Tryz.func67 (by kernel_rfl)<|
 T1 Tryz.func71 (by kernel_rfl)<|
 T1 Tryz.func75 (by kernel_rfl)<|
 T1 Tryz.func48 (by kernel_rfl)<|
 T1 Tryz.func12 (by kernel_rfl)<|
 T1 Tryz.func53 (by kernel_rfl)<|
 T1 Tryz.func122 (by kernel_rfl)<|
 T1 Tryz.func123 (by kernel_rfl)<|
 T1 Tryz.func124 (by kernel_rfl)<|
 T1 Tryz.func125 (by kernel_rfl)<|
 T1 Tryz.func126 (by kernel_rfl)<|
 T1 Tryz.func127 (by kernel_rfl)<|
 T1 Tryz.func121 (by kernel_rfl)<|
 T1 Tryz.func47 (by kernel_rfl)<|
 T1 Tryz.func52 (by kernel_rfl)<|
 T1 Tryz.func51 (by kernel_rfl)<|
 T1 Tryz.func58 (by kernel_rfl)<|
 T1 Tryz.func57 (by kernel_rfl)<|
 T1 Tryz.func61 (by kernel_rfl)<|
 T1 Tryz.func60 (by kernel_rfl)<|
 T1 Tryz.func69 (by kernel_rfl)<|
 T1 Tryz.func68 (by kernel_rfl)<|
 T1 Tryz.func73 (by kernel_rfl)<|
 T1 Tryz.func72 (by kernel_rfl)<|
 T1 Tryz.func76 (by kernel_rfl)<|
 T1 Tryz.func34 (by kernel_rfl)<|
 T1 Tryz.func33 (by kernel_rfl)<|
 T1 Tryz.func141 (by kernel_rfl)<|
 T1 Tryz.func142 (by kernel_rfl)<|
 T1 Tryz.func143 (by kernel_rfl)<|
 T1 Tryz.func144 (by kernel_rfl)<|
 T1 Tryz.func145 (by kernel_rfl)<|
 T1 Tryz.func54 (by kernel_rfl)<|
 T1 Tryz.func55 (by kernel_rfl)<|
 T1 Tryz.func70 (by kernel_rfl)<|
 T1 Tryz.func74 (by kernel_rfl)<|
 T1 Tryz.func117 (by kernel_rfl)<|
 T1 Tryz.func116 (by kernel_rfl)<|
 T1 Tryz.func153 (by kernel_rfl)<|
 T1 Tryz.func154 (by kernel_rfl)<|
 T1 Tryz.func155 (by kernel_rfl)<|
 T1 Tryz.func156 (by kernel_rfl)<|
 T1 Tryz.func157 (by kernel_rfl)<|
 T1 Tryz.func158 (by kernel_rfl)<|
 T1 Tryz.func159 (by kernel_rfl)<|
 T1 Tryz.func111 (by kernel_rfl)<|
 T1 Tryz.func112 (by kernel_rfl)<|
 T1 Tryz.func113 (by kernel_rfl)<|
 T1 Tryz.func114 (by kernel_rfl)<|
 T1 Tryz.func115 (by kernel_rfl)<|
 T1 Tryz.func13 (by kernel_rfl)<|
 T1 Tryz.func119 (by kernel_rfl)<|
 T1 Tryz.func118 (by kernel_rfl)<|
 T1 Tryz.func165 (by kernel_rfl)<|
 T1 Tryz.func131 (by kernel_rfl)<|
 T1 Tryz.func97 (by kernel_rfl)<|
 T1 Tryz.func133 (by kernel_rfl)<|
 T1 Tryz.func134 (by kernel_rfl)<|
 T1 Tryz.func136 (by kernel_rfl)<|
 T1 Tryz.func137 (by kernel_rfl)<|
 T1 Tryz.func138 (by kernel_rfl)<|
 T1 Tryz.func36 (by kernel_rfl)<|
 T1 Tryz.func35 (by kernel_rfl)<|
 T1 Tryz.func120 (by kernel_rfl)<|
 T1 Tryz.func167 (by kernel_rfl)<|
 T1 Tryz.func168 (by kernel_rfl)<|
 T1 Tryz.func169 (by kernel_rfl)<|
 T1 Tryz.func149 (by kernel_rfl)<|
 T1 Tryz.func148 (by kernel_rfl)<|
 T1 Tryz.func150 (by kernel_rfl)<|
 T1 Tryz.func151 (by kernel_rfl)<|
 T1 Tryz.func152 (by kernel_rfl)<|
 T1 Tryz.func140 (by kernel_rfl)<|
 T1 Tryz.func139 (by kernel_rfl)<|
 T1 Tryz.func173 (by kernel_rfl)<|
 T1 Tryz.func174 (by kernel_rfl)<|
 T1 Tryz.func162 (by kernel_rfl)<|
 T1 Tryz.func163 (by kernel_rfl)<|
 T1 Tryz.func164 (by kernel_rfl)<|
 T1 Tryz.func93 (by kernel_rfl)<|
 T1 Tryz.func176 (by kernel_rfl)<|
 T1 Tryz.func160 (by kernel_rfl)<|
 T1 Tryz.func166 (by kernel_rfl)<|
 T1 Tryz.func181 (by kernel_rfl)<|
 T1 Tryz.func182 (by kernel_rfl)<|
 T1 Tryz.func183 (by kernel_rfl)<|
 T1 Tryz.func170 (by kernel_rfl)<|
 T1 Tryz.func171 (by kernel_rfl)<|
 T1 Tryz.func172 (by kernel_rfl)<|
 T1 Tryz.func185 (by kernel_rfl)<|
 T1 Tryz.func186 (by kernel_rfl)<|
 T1 Tryz.func187 (by kernel_rfl)<|
 T1 Tryz.func175 (by kernel_rfl)<|
 T1 Tryz.func177 (by kernel_rfl)<|
 T1 Tryz.func178 (by kernel_rfl)<|
 T1 Tryz.func179 (by kernel_rfl)<|
 T1 Tryz.func180 (by kernel_rfl)<|
 T1 Tryz.func184 (by kernel_rfl)<|T0
end Go.Proofs.YthkdlifcknpadaaGreat
end
