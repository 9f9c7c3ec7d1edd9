import Derived.Test.YtleomfgijkapfaaGreatDoorRows
import Derived.ProofKit
import Derived.Test.YtleomfgijkapfaaGreatDoorJ11
set_option linter.all false
section
namespace Go.Proofs.YtleomfgijkapfaaGreatDoor
open Go Go.Proofs.YtleomfgijkapfaaGreatDoor.Abs
set_option maxRecDepth 100000
set_option maxHeartbeats 0
def cF (x:Option AFn):AFn:=x.getD ⟨0,[],.bad,false⟩
def takes:FuncId→List Nat:=fun _=>[]
abbrev DF:FuncId:=3
abbrev NS:FuncId:=8
abbrev Ht:FuncId:=10
noncomputable def KA:AFn:=cF (cFn Tryz.prog takes Tryz.f3)
noncomputable def Gz:AFn:=cF (cFn Tryz.prog takes Tryz.f8)
noncomputable def CB:AFn:=cF (cFn Tryz.prog takes Tryz.f9)
noncomputable def Eo:AFn:=cF (cFn Tryz.prog takes Tryz.f11)
noncomputable def Zag:AFn:=cF (cFn Tryz.prog takes Tryz.f12)
noncomputable def DV:AFn:=cF (cFn Tryz.prog takes Tryz.f13)
noncomputable def LG:AFn:=cF (cFn Tryz.prog takes Tryz.f14)
noncomputable def Pn:AFn:=cF (cFn Tryz.prog takes Tryz.f15)
noncomputable def ZcJ:AFn:=cF (cFn Tryz.prog takes Tryz.f22)
noncomputable def Zf1:AFn:=cF (cFn Tryz.prog takes Tryz.f23)
noncomputable def Ba:AFn:=cF (cFn Tryz.prog takes Tryz.f25)
noncomputable def Pg:AFn:=cF (cFn Tryz.prog takes Tryz.f27)
noncomputable def DW:AFn:=cF (cFn Tryz.prog takes Tryz.f28)
noncomputable def DL:AFn:=cF (cFn Tryz.prog takes Tryz.f29)
noncomputable def Ci:AFn:=cF (cFn Tryz.prog takes Tryz.f30)
noncomputable def CP:AFn:=cF (cFn Tryz.prog takes Tryz.f31)
noncomputable def CY:AFn:=cF (cFn Tryz.prog takes Tryz.f32)
noncomputable def ZcU:AFn:=cF (cFn Tryz.prog takes Tryz.f33)
noncomputable def ZcT:AFn:=cF (cFn Tryz.prog takes Tryz.f34)
noncomputable def JM:AFn:=cF (cFn Tryz.prog takes Tryz.f35)
noncomputable def Zal:AFn:=cF (cFn Tryz.prog takes Tryz.f36)
noncomputable def Es:AFn:=cF (cFn Tryz.prog takes Tryz.f37)
noncomputable def Kz:AFn:=cF (cFn Tryz.prog takes Tryz.f41)
noncomputable def NT:AFn:=cF (cFn Tryz.prog takes Tryz.f47)
noncomputable def ZcK:AFn:=cF (cFn Tryz.prog takes Tryz.f48)
noncomputable def En:AFn:=cF (cFn Tryz.prog takes Tryz.f53)
noncomputable def Ws:AFn:=cF (cFn Tryz.prog takes Tryz.f52)
noncomputable def Ri:AFn:=cF (cFn Tryz.prog takes Tryz.f57)
noncomputable def OO:AFn:=cF (cFn Tryz.prog takes Tryz.f58)
noncomputable def Q9:AFn:=cF (cFn Tryz.prog takes Tryz.f59)
noncomputable def OC:AFn:=cF (cFn Tryz.prog takes Tryz.f61)
noncomputable def Xk:AFn:=cF (cFn Tryz.prog takes Tryz.f60)
noncomputable def DZ:AFn:=cF (cFn Tryz.prog takes Tryz.f64)
noncomputable def ZP:AFn:=cF (cFn Tryz.prog takes Tryz.f65)
noncomputable def O8:AFn:=cF (cFn Tryz.prog takes Tryz.f66)
noncomputable def ED:AFn:=cF (cFn Tryz.prog takes Tryz.f67)
noncomputable def Pi:AFn:=cF (cFn Tryz.prog takes Tryz.f68)
noncomputable def EG:AFn:=cF (cFn Tryz.prog takes Tryz.f70)
noncomputable def Zab:AFn:=cF (cFn Tryz.prog takes Tryz.f69)
noncomputable def Zaf:AFn:=cF (cFn Tryz.prog takes Tryz.f71)
noncomputable def Zad:AFn:=cF (cFn Tryz.prog takes Tryz.f72)
noncomputable def ZcR:AFn:=cF (cFn Tryz.prog takes Tryz.f73)
noncomputable def Zac:AFn:=cF (cFn Tryz.prog takes Tryz.f74)
noncomputable def Ep:AFn:=cF (cFn Tryz.prog takes Tryz.f75)
noncomputable def Kw:AFn:=cF (cFn Tryz.prog takes Tryz.f76)
noncomputable def IX:AFn:=cF (cFn Tryz.prog takes Tryz.f77)
noncomputable def X8:AFn:=cF (cFn Tryz.prog takes Tryz.f78)
noncomputable def Et:AFn:=cF (cFn Tryz.prog takes Tryz.f79)
noncomputable def Zam:AFn:=cF (cFn Tryz.prog takes Tryz.f80)
noncomputable def Zan:AFn:=cF (cFn Tryz.prog takes Tryz.f81)
noncomputable def Po:AFn:=cF (cFn Tryz.prog takes Tryz.f82)
noncomputable def Zah:AFn:=cF (cFn Tryz.prog takes Tryz.f83)
noncomputable def OQ:AFn:=cF (cFn Tryz.prog takes Tryz.f84)
noncomputable def NW:AFn:=cF (cFn Tryz.prog takes Tryz.f85)
noncomputable def CG:AFn:=cF (cFn Tryz.prog takes Tryz.f86)
noncomputable def Zai:AFn:=cF (cFn Tryz.prog takes Tryz.f91)
noncomputable def Hy:AFn:=cF (cFn Tryz.prog takes Tryz.f95)
noncomputable def Rj:AFn:=cF (cFn Tryz.prog takes Tryz.f96)
noncomputable def QN:AFn:=cF (cFn Tryz.prog takes Tryz.f108)
noncomputable def Qs:AFn:=cF (cFn Tryz.prog takes Tryz.f107)
noncomputable def YR:AFn:=cF (cFn Tryz.prog takes Tryz.f62)
noncomputable def E5:AFn:=cF (cFn Tryz.prog takes Tryz.f63)
noncomputable def OE:AFn:=cF (cFn Tryz.prog takes Tryz.f141)
noncomputable def V7:AFn:=cF (cFn Tryz.prog takes Tryz.f140)
noncomputable def Rk:AFn:=cF (cFn Tryz.prog takes Tryz.f144)
noncomputable def ZcL:AFn:=cF (cFn Tryz.prog takes Tryz.f143)
noncomputable def Zaa:AFn:=cF (cFn Tryz.prog takes Tryz.f145)
noncomputable def ZcO:AFn:=cF (cFn Tryz.prog takes Tryz.f146)
noncomputable def CZ:AFn:=cF (cFn Tryz.prog takes Tryz.f147)
noncomputable def Rn:AFn:=cF (cFn Tryz.prog takes Tryz.f148)
noncomputable def Zae:AFn:=cF (cFn Tryz.prog takes Tryz.f149)
noncomputable def Zf0:AFn:=cF (cFn Tryz.prog takes Tryz.f150)
noncomputable def ZcQ:AFn:=cF (cFn Tryz.prog takes Tryz.f151)
noncomputable def EH:AFn:=cF (cFn Tryz.prog takes Tryz.f152)
noncomputable def Cj:AFn:=cF (cFn Tryz.prog takes Tryz.f153)
noncomputable def Cm:AFn:=cF (cFn Tryz.prog takes Tryz.f154)
noncomputable def U5:AFn:=cF (cFn Tryz.prog takes Tryz.f155)
noncomputable def U6:AFn:=cF (cFn Tryz.prog takes Tryz.f156)
noncomputable def Jk:AFn:=cF (cFn Tryz.prog takes Tryz.f158)
noncomputable def YM:AFn:=cF (cFn Tryz.prog takes Tryz.f157)
noncomputable def DN:AFn:=cF (cFn Tryz.prog takes Tryz.f159)
noncomputable def DR:AFn:=cF (cFn Tryz.prog takes Tryz.f160)
noncomputable def EI:AFn:=cF (cFn Tryz.prog takes Tryz.f161)
noncomputable def Zaj:AFn:=cF (cFn Tryz.prog takes Tryz.f162)
noncomputable def CU:AFn:=cF (cFn Tryz.prog takes Tryz.f163)
noncomputable def EC:AFn:=cF (cFn Tryz.prog takes Tryz.f164)
noncomputable def Ph:AFn:=cF (cFn Tryz.prog takes Tryz.f165)
noncomputable def CJ:AFn:=cF (cFn Tryz.prog takes Tryz.f166)
noncomputable def DY:AFn:=cF (cFn Tryz.prog takes Tryz.f177)
noncomputable def Ey:AFn:=cF (cFn Tryz.prog takes Tryz.f178)
noncomputable def LM:AFn:=cF (cFn Tryz.prog takes Tryz.f109)
noncomputable def LP:AFn:=cF (cFn Tryz.prog takes Tryz.f112)
noncomputable def LQ:AFn:=cF (cFn Tryz.prog takes Tryz.f113)
noncomputable def LU:AFn:=cF (cFn Tryz.prog takes Tryz.f119)
noncomputable def LV:AFn:=cF (cFn Tryz.prog takes Tryz.f122)
noncomputable def LW:AFn:=cF (cFn Tryz.prog takes Tryz.f125)
noncomputable def LX:AFn:=cF (cFn Tryz.prog takes Tryz.f126)
noncomputable def LY:AFn:=cF (cFn Tryz.prog takes Tryz.f127)
noncomputable def LZ:AFn:=cF (cFn Tryz.prog takes Tryz.f128)
noncomputable def OH:AFn:=cF (cFn Tryz.prog takes Tryz.f129)
noncomputable def OI:AFn:=cF (cFn Tryz.prog takes Tryz.f130)
noncomputable def OJ:AFn:=cF (cFn Tryz.prog takes Tryz.f134)
noncomputable def OL:AFn:=cF (cFn Tryz.prog takes Tryz.f138)
noncomputable def DX:AFn:=cF (cFn Tryz.prog takes Tryz.f111)
noncomputable def Ew:AFn:=cF (cFn Tryz.prog takes Tryz.f142)
noncomputable def Rh:AFn:=cF (cFn Tryz.prog takes Tryz.f116)
noncomputable def Zjv:AFn:=cF (cFn Tryz.prog takes Tryz.f191)
noncomputable def Ro:AFn:=cF (cFn Tryz.prog takes Tryz.f192)
noncomputable def Pm:AFn:=cF (cFn Tryz.prog takes Tryz.f193)
noncomputable def Pj:AFn:=cF (cFn Tryz.prog takes Tryz.f194)
noncomputable def ZcS:AFn:=cF (cFn Tryz.prog takes Tryz.f195)
noncomputable def RX:AFn:=cF (cFn Tryz.prog takes Tryz.f196)
noncomputable def XN:AFn:=cF (cFn Tryz.prog takes Tryz.f197)
noncomputable def OB:AFn:=cF (cFn Tryz.prog takes Tryz.f198)
noncomputable def OA:AFn:=cF (cFn Tryz.prog takes Tryz.f199)
noncomputable def X9:AFn:=cF (cFn Tryz.prog takes Tryz.f200)
noncomputable def YY:AFn:=cF (cFn Tryz.prog takes Tryz.f201)
noncomputable def O9:AFn:=cF (cFn Tryz.prog takes Tryz.f203)
noncomputable def Qe:AFn:=cF (cFn Tryz.prog takes Tryz.f202)
noncomputable def Zak:AFn:=cF (cFn Tryz.prog takes Tryz.f204)
noncomputable def RZ:AFn:=cF (cFn Tryz.prog takes Tryz.f205)
noncomputable def RY:AFn:=cF (cFn Tryz.prog takes Tryz.f206)
noncomputable def NU:AFn:=cF (cFn Tryz.prog takes Tryz.f207)
noncomputable def Zju:AFn:=cF (cFn Tryz.prog takes Tryz.f188)
noncomputable def JO:AFn:=cF (cFn Tryz.prog takes Tryz.f110)
noncomputable def Ob:AFn:=cF (cFn Tryz.prog takes Tryz.f115)
noncomputable def Qm:AFn:=cF (cFn Tryz.prog takes Tryz.f114)
noncomputable def Oc:AFn:=cF (cFn Tryz.prog takes Tryz.f121)
noncomputable def QO:AFn:=cF (cFn Tryz.prog takes Tryz.f120)
noncomputable def Oe:AFn:=cF (cFn Tryz.prog takes Tryz.f124)
noncomputable def Xj:AFn:=cF (cFn Tryz.prog takes Tryz.f123)
noncomputable def G6:AFn:=cF (cFn Tryz.prog takes Tryz.f132)
noncomputable def Xu:AFn:=cF (cFn Tryz.prog takes Tryz.f131)
noncomputable def G7:AFn:=cF (cFn Tryz.prog takes Tryz.f136)
noncomputable def XZ:AFn:=cF (cFn Tryz.prog takes Tryz.f135)
noncomputable def Ez:AFn:=cF (cFn Tryz.prog takes Tryz.f139)
noncomputable def LJ:AFn:=cF (cFn Tryz.prog takes Tryz.f190)
noncomputable def Yy:AFn:=cF (cFn Tryz.prog takes Tryz.f189)
noncomputable def Rl:AFn:=cF (cFn Tryz.prog takes Tryz.f231)
noncomputable def CV:AFn:=cF (cFn Tryz.prog takes Tryz.f232)
noncomputable def ZcP:AFn:=cF (cFn Tryz.prog takes Tryz.f233)
noncomputable def Ky:AFn:=cF (cFn Tryz.prog takes Tryz.f234)
noncomputable def QD:AFn:=cF (cFn Tryz.prog takes Tryz.f235)
noncomputable def CQ:AFn:=cF (cFn Tryz.prog takes Tryz.f236)
noncomputable def EE:AFn:=cF (cFn Tryz.prog takes Tryz.f237)
noncomputable def ZcM:AFn:=cF (cFn Tryz.prog takes Tryz.f238)
noncomputable def Oa:AFn:=cF (cFn Tryz.prog takes Tryz.f117)
noncomputable def IY:AFn:=cF (cFn Tryz.prog takes Tryz.f118)
noncomputable def OG:AFn:=cF (cFn Tryz.prog takes Tryz.f133)
noncomputable def Pe:AFn:=cF (cFn Tryz.prog takes Tryz.f137)
noncomputable def LK:AFn:=cF (cFn Tryz.prog takes Tryz.f184)
noncomputable def Jm:AFn:=cF (cFn Tryz.prog takes Tryz.f183)
noncomputable def Bc:AFn:=cF (cFn Tryz.prog takes Tryz.f252)
noncomputable def NV:AFn:=cF (cFn Tryz.prog takes Tryz.f253)
noncomputable def U7:AFn:=cF (cFn Tryz.prog takes Tryz.f254)
noncomputable def C9:AFn:=cF (cFn Tryz.prog takes Tryz.f255)
noncomputable def U8:AFn:=cF (cFn Tryz.prog takes Tryz.f256)
noncomputable def Jl:AFn:=cF (cFn Tryz.prog takes Tryz.f257)
noncomputable def WH:AFn:=cF (cFn Tryz.prog takes Tryz.f179)
noncomputable def Wj:AFn:=cF (cFn Tryz.prog takes Tryz.f180)
noncomputable def EJ:AFn:=cF (cFn Tryz.prog takes Tryz.f181)
noncomputable def OD:AFn:=cF (cFn Tryz.prog takes Tryz.f182)
noncomputable def IZ:AFn:=cF (cFn Tryz.prog takes Tryz.f186)
noncomputable def V8:AFn:=cF (cFn Tryz.prog takes Tryz.f185)
noncomputable def Zfz:AFn:=cF (cFn Tryz.prog takes Tryz.f267)
noncomputable def DT:AFn:=cF (cFn Tryz.prog takes Tryz.f268)
noncomputable def Qn:AFn:=cF (cFn Tryz.prog takes Tryz.f222)
noncomputable def OT:AFn:=cF (cFn Tryz.prog takes Tryz.f224)
noncomputable def OU:AFn:=cF (cFn Tryz.prog takes Tryz.f225)
noncomputable def OV:AFn:=cF (cFn Tryz.prog takes Tryz.f226)
noncomputable def G5:AFn:=cF (cFn Tryz.prog takes Tryz.f228)
noncomputable def Y7:AFn:=cF (cFn Tryz.prog takes Tryz.f227)
noncomputable def E8:AFn:=cF (cFn Tryz.prog takes Tryz.f187)
noncomputable def Zjw:AFn:=cF (cFn Tryz.prog takes Tryz.f271)
noncomputable def EF:AFn:=cF (cFn Tryz.prog takes Tryz.f272)
noncomputable def CX:AFn:=cF (cFn Tryz.prog takes Tryz.f273)
noncomputable def Zap:AFn:=cF (cFn Tryz.prog takes Tryz.f248)
noncomputable def Zao:AFn:=cF (cFn Tryz.prog takes Tryz.f249)
noncomputable def EK:AFn:=cF (cFn Tryz.prog takes Tryz.f250)
noncomputable def Rf:AFn:=cF (cFn Tryz.prog takes Tryz.f230)
noncomputable def Yl:AFn:=cF (cFn Tryz.prog takes Tryz.f229)
noncomputable def ZcN:AFn:=cF (cFn Tryz.prog takes Tryz.f274)
noncomputable def CS:AFn:=cF (cFn Tryz.prog takes Tryz.f275)
noncomputable def Pq:AFn:=cF (cFn Tryz.prog takes Tryz.f265)
noncomputable def Eu:AFn:=cF (cFn Tryz.prog takes Tryz.f266)
noncomputable def Yt:AFn:=cF (cFn Tryz.prog takes Tryz.f251)
noncomputable def aw16:AFn:=cF (cFn Tryz.prog takes Tryz.f16)
noncomputable def aw18:AFn:=cF (cFn Tryz.prog takes Tryz.f18)
noncomputable def aw21:AFn:=cF (cFn Tryz.prog takes Tryz.f21)
noncomputable def aw39:AFn:=cF (cFn Tryz.prog takes Tryz.f39)
noncomputable def aw42:AFn:=cF (cFn Tryz.prog takes Tryz.f42)
noncomputable def aw43:AFn:=cF (cFn Tryz.prog takes Tryz.f43)
noncomputable def aw49:AFn:=cF (cFn Tryz.prog takes Tryz.f49)
noncomputable def aw50:AFn:=cF (cFn Tryz.prog takes Tryz.f50)
noncomputable def aw51:AFn:=cF (cFn Tryz.prog takes Tryz.f51)
noncomputable def aw88:AFn:=cF (cFn Tryz.prog takes Tryz.f88)
noncomputable def aw90:AFn:=cF (cFn Tryz.prog takes Tryz.f90)
noncomputable def aw97:AFn:=cF (cFn Tryz.prog takes Tryz.f97)
noncomputable def aw98:AFn:=cF (cFn Tryz.prog takes Tryz.f98)
noncomputable def aw99:AFn:=cF (cFn Tryz.prog takes Tryz.f99)
noncomputable def aw170:AFn:=cF (cFn Tryz.prog takes Tryz.f170)
noncomputable def aw171:AFn:=cF (cFn Tryz.prog takes Tryz.f171)
noncomputable def aw172:AFn:=cF (cFn Tryz.prog takes Tryz.f172)
noncomputable def aw173:AFn:=cF (cFn Tryz.prog takes Tryz.f173)
noncomputable def aw174:AFn:=cF (cFn Tryz.prog takes Tryz.f174)
noncomputable def aw175:AFn:=cF (cFn Tryz.prog takes Tryz.f175)
noncomputable def aw210:AFn:=cF (cFn Tryz.prog takes Tryz.f210)
noncomputable def aw211:AFn:=cF (cFn Tryz.prog takes Tryz.f211)
noncomputable def aw212:AFn:=cF (cFn Tryz.prog takes Tryz.f212)
noncomputable def aw213:AFn:=cF (cFn Tryz.prog takes Tryz.f213)
noncomputable def aw214:AFn:=cF (cFn Tryz.prog takes Tryz.f214)
noncomputable def aw215:AFn:=cF (cFn Tryz.prog takes Tryz.f215)
noncomputable def aw216:AFn:=cF (cFn Tryz.prog takes Tryz.f216)
noncomputable def aw217:AFn:=cF (cFn Tryz.prog takes Tryz.f217)
noncomputable def aw218:AFn:=cF (cFn Tryz.prog takes Tryz.f218)
noncomputable def aw219:AFn:=cF (cFn Tryz.prog takes Tryz.f219)
noncomputable def aw220:AFn:=cF (cFn Tryz.prog takes Tryz.f220)
noncomputable def aw221:AFn:=cF (cFn Tryz.prog takes Tryz.f221)
noncomputable def aw244:AFn:=cF (cFn Tryz.prog takes Tryz.f244)
noncomputable def aw245:AFn:=cF (cFn Tryz.prog takes Tryz.f245)
noncomputable def aw246:AFn:=cF (cFn Tryz.prog takes Tryz.f246)
noncomputable def aw247:AFn:=cF (cFn Tryz.prog takes Tryz.f247)
noncomputable def aw263:AFn:=cF (cFn Tryz.prog takes Tryz.f263)
noncomputable def aw264:AFn:=cF (cFn Tryz.prog takes Tryz.f264)
noncomputable def tab:List (Nat×AFn):=[(3,KA),(8,Gz),(9,CB),(11,Eo),(12,Zag),(13,DV),(14,LG),(15,Pn),(22,ZcJ),(23,Zf1),(25,Ba),(27,Pg),(28,DW),(29,DL),(30,Ci),(31,CP),(32,CY),(33,ZcU),(34,ZcT),(35,JM),(36,Zal),(37,Es),(41,Kz),(47,NT),(48,ZcK),(53,En),(52,Ws),(57,Ri),(58,OO),(59,Q9),(61,OC),(60,Xk),(64,DZ),(65,ZP),(66,O8),(67,ED),(68,Pi),(70,EG),(69,Zab),(71,Zaf),(72,Zad),(73,ZcR),(74,Zac),(75,Ep),(76,Kw),(77,IX),(78,X8),(79,Et),(80,Zam),(81,Zan),(82,Po),(83,Zah),(84,OQ),(85,NW),(86,CG),(91,Zai),(95,Hy),(96,Rj),(108,QN),(107,Qs),(62,YR),(63,E5),(141,OE),(140,V7),(144,Rk),(143,ZcL),(145,Zaa),(146,ZcO),(147,CZ),(148,Rn),(149,Zae),(150,Zf0),(151,ZcQ),(152,EH),(153,Cj),(154,Cm),(155,U5),(156,U6),(158,Jk),(157,YM),(159,DN),(160,DR),(161,EI),(162,Zaj),(163,CU),(164,EC),(165,Ph),(166,CJ),(177,DY),(178,Ey),(109,LM),(112,LP),(113,LQ),(119,LU),(122,LV),(125,LW),(126,LX),(127,LY),(128,LZ),(129,OH),(130,OI),(134,OJ),(138,OL),(111,DX),(142,Ew),(116,Rh),(191,Zjv),(192,Ro),(193,Pm),(194,Pj),(195,ZcS),(196,RX),(197,XN),(198,OB),(199,OA),(200,X9),(201,YY),(203,O9),(202,Qe),(204,Zak),(205,RZ),(206,RY),(207,NU),(188,Zju),(110,JO),(115,Ob),(114,Qm),(121,Oc),(120,QO),(124,Oe),(123,Xj),(132,G6),(131,Xu),(136,G7),(135,XZ),(139,Ez),(190,LJ),(189,Yy),(231,Rl),(232,CV),(233,ZcP),(234,Ky),(235,QD),(236,CQ),(237,EE),(238,ZcM),(117,Oa),(118,IY),(133,OG),(137,Pe),(184,LK),(183,Jm),(252,Bc),(253,NV),(254,U7),(255,C9),(256,U8),(257,Jl),(179,WH),(180,Wj),(181,EJ),(182,OD),(186,IZ),(185,V8),(267,Zfz),(268,DT),(222,Qn),(224,OT),(225,OU),(226,OV),(228,G5),(227,Y7),(187,E8),(271,Zjw),(272,EF),(273,CX),(248,Zap),(249,Zao),(250,EK),(230,Rf),(229,Yl),(274,ZcN),(275,CS),(265,Pq),(266,Eu),(251,Yt),(16,aw16),(18,aw18),(21,aw21),(39,aw39),(42,aw42),(43,aw43),(49,aw49),(50,aw50),(51,aw51),(88,aw88),(90,aw90),(97,aw97),(98,aw98),(99,aw99),(170,aw170),(171,aw171),(172,aw172),(173,aw173),(174,aw174),(175,aw175),(210,aw210),(211,aw211),(212,aw212),(213,aw213),(214,aw214),(215,aw215),(216,aw216),(217,aw217),(218,aw218),(219,aw219),(220,aw220),(221,aw221),(244,aw244),(245,aw245),(246,aw246),(247,aw247),(263,aw263),(264,aw264)]
theorem Zrb:∀ p ∈ tab,∃ fn takes,Tryz.prog.funcs[p.1]? = some fn∧(fn.name == "runtime.NumGoroutine")=false∧cFn Tryz.prog takes fn=some p.2:=by
  intro p hp
  simp only [tab,List.mem_cons,List.not_mem_nil,or_false] at hp
  rcases hp with rfl | rfl | rfl | rfl | rfl | rfl | rfl | rfl | rfl | rfl | rfl | rfl | rfl | rfl | rfl | rfl | rfl | rfl | rfl | rfl | rfl | rfl | rfl | rfl | rfl | rfl | rfl | rfl | rfl | rfl | rfl | rfl | rfl | rfl | rfl | rfl | rfl | rfl | rfl | rfl | rfl | rfl | rfl | rfl | rfl | rfl | rfl | rfl | rfl | rfl | rfl | rfl | rfl | rfl | rfl | rfl | rfl | rfl | rfl | rfl | rfl | rfl | rfl | rfl | rfl | rfl | rfl | rfl | rfl | rfl | rfl | rfl | rfl | rfl | rfl | rfl | rfl | rfl | rfl | rfl | rfl | rfl | rfl | rfl | rfl | rfl | rfl | rfl | rfl | rfl | rfl | rfl | rfl | rfl | rfl | rfl | rfl | rfl | rfl | rfl | rfl | rfl | rfl | rfl | rfl | rfl | rfl | rfl | rfl | rfl | rfl | rfl | rfl | rfl | rfl | rfl | rfl | rfl | rfl | rfl | rfl | rfl | rfl | rfl | rfl | rfl | rfl | rfl | rfl | rfl | rfl | rfl | rfl | rfl | rfl | rfl | rfl | rfl | rfl | rfl | rfl | rfl | rfl | rfl | rfl | rfl | rfl | rfl | rfl | rfl | rfl | rfl | rfl | rfl | rfl | rfl | rfl | rfl | rfl | rfl | rfl | rfl | rfl | rfl | rfl | rfl | rfl | rfl | rfl | rfl | rfl | rfl | rfl | rfl | rfl | rfl | rfl | rfl | rfl | rfl | rfl | rfl | rfl | rfl | rfl | rfl | rfl | rfl | rfl | rfl | rfl | rfl | rfl | rfl | rfl | rfl | rfl | rfl | rfl | rfl | rfl | rfl | rfl | rfl | rfl | rfl | rfl | rfl | rfl | rfl | rfl | rfl | rfl | rfl | rfl | rfl | rfl | rfl | rfl | rfl | rfl | rfl | rfl | rfl
  · exact ⟨_,takes,Tryz.func3,by kernel_rfl,by kernel_rfl⟩
  · exact ⟨_,takes,Tryz.func8,by kernel_rfl,by kernel_rfl⟩
  · exact ⟨_,takes,Tryz.func9,by kernel_rfl,by kernel_rfl⟩
  · exact ⟨_,takes,Tryz.func11,by kernel_rfl,by kernel_rfl⟩
  · exact ⟨_,takes,Tryz.func12,by kernel_rfl,by kernel_rfl⟩
  · exact ⟨_,takes,Tryz.func13,by kernel_rfl,by kernel_rfl⟩
  · exact ⟨_,takes,Tryz.func14,by kernel_rfl,by kernel_rfl⟩
  · exact ⟨_,takes,Tryz.func15,by kernel_rfl,by kernel_rfl⟩
  · exact ⟨_,takes,Tryz.func22,by kernel_rfl,by kernel_rfl⟩
  · exact ⟨_,takes,Tryz.func23,by kernel_rfl,by kernel_rfl⟩
  · exact ⟨_,takes,Tryz.func25,by kernel_rfl,by kernel_rfl⟩
  · exact ⟨_,takes,Tryz.func27,by kernel_rfl,by kernel_rfl⟩
  · exact ⟨_,takes,Tryz.func28,by kernel_rfl,by kernel_rfl⟩
  · exact ⟨_,takes,Tryz.func29,by kernel_rfl,by kernel_rfl⟩
  · exact ⟨_,takes,Tryz.func30,by kernel_rfl,by kernel_rfl⟩
  · exact ⟨_,takes,Tryz.func31,by kernel_rfl,by kernel_rfl⟩
  · exact ⟨_,takes,Tryz.func32,by kernel_rfl,by kernel_rfl⟩
  · exact ⟨_,takes,Tryz.func33,by kernel_rfl,by kernel_rfl⟩
  · exact ⟨_,takes,Tryz.func34,by kernel_rfl,by kernel_rfl⟩
  · exact ⟨_,takes,Tryz.func35,by kernel_rfl,by kernel_rfl⟩
  · exact ⟨_,takes,Tryz.func36,by kernel_rfl,by kernel_rfl⟩
  · exact ⟨_,takes,Tryz.func37,by kernel_rfl,by kernel_rfl⟩
  · exact ⟨_,takes,Tryz.func41,by kernel_rfl,by kernel_rfl⟩
  · exact ⟨_,takes,Tryz.func47,by kernel_rfl,by kernel_rfl⟩
  · exact ⟨_,takes,Tryz.func48,by kernel_rfl,by kernel_rfl⟩
  · exact ⟨_,takes,Tryz.func53,by kernel_rfl,by kernel_rfl⟩
  · exact ⟨_,takes,Tryz.func52,by kernel_rfl,by kernel_rfl⟩
  · exact ⟨_,takes,Tryz.func57,by kernel_rfl,by kernel_rfl⟩
  · exact ⟨_,takes,Tryz.func58,by kernel_rfl,by kernel_rfl⟩
  · exact ⟨_,takes,Tryz.func59,by kernel_rfl,by kernel_rfl⟩
  · exact ⟨_,takes,Tryz.func61,by kernel_rfl,by kernel_rfl⟩
  · exact ⟨_,takes,Tryz.func60,by kernel_rfl,by kernel_rfl⟩
  · exact ⟨_,takes,Tryz.func64,by kernel_rfl,by kernel_rfl⟩
  · exact ⟨_,takes,Tryz.func65,by kernel_rfl,by kernel_rfl⟩
  · exact ⟨_,takes,Tryz.func66,by kernel_rfl,by kernel_rfl⟩
  · exact ⟨_,takes,Tryz.func67,by kernel_rfl,by kernel_rfl⟩
  · exact ⟨_,takes,Tryz.func68,by kernel_rfl,by kernel_rfl⟩
  · exact ⟨_,takes,Tryz.func70,by kernel_rfl,by kernel_rfl⟩
  · exact ⟨_,takes,Tryz.func69,by kernel_rfl,by kernel_rfl⟩
  · exact ⟨_,takes,Tryz.func71,by kernel_rfl,by kernel_rfl⟩
  · exact ⟨_,takes,Tryz.func72,by kernel_rfl,by kernel_rfl⟩
  · exact ⟨_,takes,Tryz.func73,by kernel_rfl,by kernel_rfl⟩
  · exact ⟨_,takes,Tryz.func74,by kernel_rfl,by kernel_rfl⟩
  · exact ⟨_,takes,Tryz.func75,by kernel_rfl,by kernel_rfl⟩
  · exact ⟨_,takes,Tryz.func76,by kernel_rfl,by kernel_rfl⟩
  · exact ⟨_,takes,Tryz.func77,by kernel_rfl,by kernel_rfl⟩
  · exact ⟨_,takes,Tryz.func78,by kernel_rfl,by kernel_rfl⟩
  · exact ⟨_,takes,Tryz.func79,by kernel_rfl,by kernel_rfl⟩
  · exact ⟨_,takes,Tryz.func80,by kernel_rfl,by kernel_rfl⟩
  · exact ⟨_,takes,Tryz.func81,by kernel_rfl,by kernel_rfl⟩
  · exact ⟨_,takes,Tryz.func82,by kernel_rfl,by kernel_rfl⟩
  · exact ⟨_,takes,Tryz.func83,by kernel_rfl,by kernel_rfl⟩
  · exact ⟨_,takes,Tryz.func84,by kernel_rfl,by kernel_rfl⟩
  · exact ⟨_,takes,Tryz.func85,by kernel_rfl,by kernel_rfl⟩
  · exact ⟨_,takes,Tryz.func86,by kernel_rfl,by kernel_rfl⟩
  · exact ⟨_,takes,Tryz.func91,by kernel_rfl,by kernel_rfl⟩
  · exact ⟨_,takes,Tryz.func95,by kernel_rfl,by kernel_rfl⟩
  · exact ⟨_,takes,Tryz.func96,by kernel_rfl,by kernel_rfl⟩
  · exact ⟨_,takes,Tryz.func108,by kernel_rfl,by kernel_rfl⟩
  · exact ⟨_,takes,Tryz.func107,by kernel_rfl,by kernel_rfl⟩
  · exact ⟨_,takes,Tryz.func62,by kernel_rfl,by kernel_rfl⟩
  · exact ⟨_,takes,Tryz.func63,by kernel_rfl,by kernel_rfl⟩
  · exact ⟨_,takes,Tryz.func141,by kernel_rfl,by kernel_rfl⟩
  · exact ⟨_,takes,Tryz.func140,by kernel_rfl,by kernel_rfl⟩
  · exact ⟨_,takes,Tryz.func144,by kernel_rfl,by kernel_rfl⟩
  · exact ⟨_,takes,Tryz.func143,by kernel_rfl,by kernel_rfl⟩
  · exact ⟨_,takes,Tryz.func145,by kernel_rfl,by kernel_rfl⟩
  · exact ⟨_,takes,Tryz.func146,by kernel_rfl,by kernel_rfl⟩
  · exact ⟨_,takes,Tryz.func147,by kernel_rfl,by kernel_rfl⟩
  · exact ⟨_,takes,Tryz.func148,by kernel_rfl,by kernel_rfl⟩
  · exact ⟨_,takes,Tryz.func149,by kernel_rfl,by kernel_rfl⟩
  · exact ⟨_,takes,Tryz.func150,by kernel_rfl,by kernel_rfl⟩
  · exact ⟨_,takes,Tryz.func151,by kernel_rfl,by kernel_rfl⟩
  · exact ⟨_,takes,Tryz.func152,by kernel_rfl,by kernel_rfl⟩
  · exact ⟨_,takes,Tryz.func153,by kernel_rfl,by kernel_rfl⟩
  · exact ⟨_,takes,Tryz.func154,by kernel_rfl,by kernel_rfl⟩
  · exact ⟨_,takes,Tryz.func155,by kernel_rfl,by kernel_rfl⟩
  · exact ⟨_,takes,Tryz.func156,by kernel_rfl,by kernel_rfl⟩
  · exact ⟨_,takes,Tryz.func158,by kernel_rfl,by kernel_rfl⟩
  · exact ⟨_,takes,Tryz.func157,by kernel_rfl,by kernel_rfl⟩
  · exact ⟨_,takes,Tryz.func159,by kernel_rfl,by kernel_rfl⟩
  · exact ⟨_,takes,Tryz.func160,by kernel_rfl,by kernel_rfl⟩
  · exact ⟨_,takes,Tryz.func161,by kernel_rfl,by kernel_rfl⟩
  · exact ⟨_,takes,Tryz.func162,by kernel_rfl,by kernel_rfl⟩
  · exact ⟨_,takes,Tryz.func163,by kernel_rfl,by kernel_rfl⟩
  · exact ⟨_,takes,Tryz.func164,by kernel_rfl,by kernel_rfl⟩
  · exact ⟨_,takes,Tryz.func165,by kernel_rfl,by kernel_rfl⟩
  · exact ⟨_,takes,Tryz.func166,by kernel_rfl,by kernel_rfl⟩
  · exact ⟨_,takes,Tryz.func177,by kernel_rfl,by kernel_rfl⟩
  · exact ⟨_,takes,Tryz.func178,by kernel_rfl,by kernel_rfl⟩
  · exact ⟨_,takes,Tryz.func109,by kernel_rfl,by kernel_rfl⟩
  · exact ⟨_,takes,Tryz.func112,by kernel_rfl,by kernel_rfl⟩
  · exact ⟨_,takes,Tryz.func113,by kernel_rfl,by kernel_rfl⟩
  · exact ⟨_,takes,Tryz.func119,by kernel_rfl,by kernel_rfl⟩
  · exact ⟨_,takes,Tryz.func122,by kernel_rfl,by kernel_rfl⟩
  · exact ⟨_,takes,Tryz.func125,by kernel_rfl,by kernel_rfl⟩
  · exact ⟨_,takes,Tryz.func126,by kernel_rfl,by kernel_rfl⟩
  · exact ⟨_,takes,Tryz.func127,by kernel_rfl,by kernel_rfl⟩
  · exact ⟨_,takes,Tryz.func128,by kernel_rfl,by kernel_rfl⟩
  · exact ⟨_,takes,Tryz.func129,by kernel_rfl,by kernel_rfl⟩
  · exact ⟨_,takes,Tryz.func130,by kernel_rfl,by kernel_rfl⟩
  · exact ⟨_,takes,Tryz.func134,by kernel_rfl,by kernel_rfl⟩
  · exact ⟨_,takes,Tryz.func138,by kernel_rfl,by kernel_rfl⟩
  · exact ⟨_,takes,Tryz.func111,by kernel_rfl,by kernel_rfl⟩
  · exact ⟨_,takes,Tryz.func142,by kernel_rfl,by kernel_rfl⟩
  · exact ⟨_,takes,Tryz.func116,by kernel_rfl,by kernel_rfl⟩
  · exact ⟨_,takes,Tryz.func191,by kernel_rfl,by kernel_rfl⟩
  · exact ⟨_,takes,Tryz.func192,by kernel_rfl,by kernel_rfl⟩
  · exact ⟨_,takes,Tryz.func193,by kernel_rfl,by kernel_rfl⟩
  · exact ⟨_,takes,Tryz.func194,by kernel_rfl,by kernel_rfl⟩
  · exact ⟨_,takes,Tryz.func195,by kernel_rfl,by kernel_rfl⟩
  · exact ⟨_,takes,Tryz.func196,by kernel_rfl,by kernel_rfl⟩
  · exact ⟨_,takes,Tryz.func197,by kernel_rfl,by kernel_rfl⟩
  · exact ⟨_,takes,Tryz.func198,by kernel_rfl,by kernel_rfl⟩
  · exact ⟨_,takes,Tryz.func199,by kernel_rfl,by kernel_rfl⟩
  · exact ⟨_,takes,Tryz.func200,by kernel_rfl,by kernel_rfl⟩
  · exact ⟨_,takes,Tryz.func201,by kernel_rfl,by kernel_rfl⟩
  · exact ⟨_,takes,Tryz.func203,by kernel_rfl,by kernel_rfl⟩
  · exact ⟨_,takes,Tryz.func202,by kernel_rfl,by kernel_rfl⟩
  · exact ⟨_,takes,Tryz.func204,by kernel_rfl,by kernel_rfl⟩
  · exact ⟨_,takes,Tryz.func205,by kernel_rfl,by kernel_rfl⟩
  · exact ⟨_,takes,Tryz.func206,by kernel_rfl,by kernel_rfl⟩
  · exact ⟨_,takes,Tryz.func207,by kernel_rfl,by kernel_rfl⟩
  · exact ⟨_,takes,Tryz.func188,by kernel_rfl,by kernel_rfl⟩
  · exact ⟨_,takes,Tryz.func110,by kernel_rfl,by kernel_rfl⟩
  · exact ⟨_,takes,Tryz.func115,by kernel_rfl,by kernel_rfl⟩
  · exact ⟨_,takes,Tryz.func114,by kernel_rfl,by kernel_rfl⟩
  · exact ⟨_,takes,Tryz.func121,by kernel_rfl,by kernel_rfl⟩
  · exact ⟨_,takes,Tryz.func120,by kernel_rfl,by kernel_rfl⟩
  · exact ⟨_,takes,Tryz.func124,by kernel_rfl,by kernel_rfl⟩
  · exact ⟨_,takes,Tryz.func123,by kernel_rfl,by kernel_rfl⟩
  · exact ⟨_,takes,Tryz.func132,by kernel_rfl,by kernel_rfl⟩
  · exact ⟨_,takes,Tryz.func131,by kernel_rfl,by kernel_rfl⟩
  · exact ⟨_,takes,Tryz.func136,by kernel_rfl,by kernel_rfl⟩
  · exact ⟨_,takes,Tryz.func135,by kernel_rfl,by kernel_rfl⟩
  · exact ⟨_,takes,Tryz.func139,by kernel_rfl,by kernel_rfl⟩
  · exact ⟨_,takes,Tryz.func190,by kernel_rfl,by kernel_rfl⟩
  · exact ⟨_,takes,Tryz.func189,by kernel_rfl,by kernel_rfl⟩
  · exact ⟨_,takes,Tryz.func231,by kernel_rfl,by kernel_rfl⟩
  · exact ⟨_,takes,Tryz.func232,by kernel_rfl,by kernel_rfl⟩
  · exact ⟨_,takes,Tryz.func233,by kernel_rfl,by kernel_rfl⟩
  · exact ⟨_,takes,Tryz.func234,by kernel_rfl,by kernel_rfl⟩
  · exact ⟨_,takes,Tryz.func235,by kernel_rfl,by kernel_rfl⟩
  · exact ⟨_,takes,Tryz.func236,by kernel_rfl,by kernel_rfl⟩
  · exact ⟨_,takes,Tryz.func237,by kernel_rfl,by kernel_rfl⟩
  · exact ⟨_,takes,Tryz.func238,by kernel_rfl,by kernel_rfl⟩
  · exact ⟨_,takes,Tryz.func117,by kernel_rfl,by kernel_rfl⟩
  · exact ⟨_,takes,Tryz.func118,by kernel_rfl,by kernel_rfl⟩
  · exact ⟨_,takes,Tryz.func133,by kernel_rfl,by kernel_rfl⟩
  · exact ⟨_,takes,Tryz.func137,by kernel_rfl,by kernel_rfl⟩
  · exact ⟨_,takes,Tryz.func184,by kernel_rfl,by kernel_rfl⟩
  · exact ⟨_,takes,Tryz.func183,by kernel_rfl,by kernel_rfl⟩
  · exact ⟨_,takes,Tryz.func252,by kernel_rfl,by kernel_rfl⟩
  · exact ⟨_,takes,Tryz.func253,by kernel_rfl,by kernel_rfl⟩
  · exact ⟨_,takes,Tryz.func254,by kernel_rfl,by kernel_rfl⟩
  · exact ⟨_,takes,Tryz.func255,by kernel_rfl,by kernel_rfl⟩
  · exact ⟨_,takes,Tryz.func256,by kernel_rfl,by kernel_rfl⟩
  · exact ⟨_,takes,Tryz.func257,by kernel_rfl,by kernel_rfl⟩
  · exact ⟨_,takes,Tryz.func179,by kernel_rfl,by kernel_rfl⟩
  · exact ⟨_,takes,Tryz.func180,by kernel_rfl,by kernel_rfl⟩
  · exact ⟨_,takes,Tryz.func181,by kernel_rfl,by kernel_rfl⟩
  · exact ⟨_,takes,Tryz.func182,by kernel_rfl,by kernel_rfl⟩
  · exact ⟨_,takes,Tryz.func186,by kernel_rfl,by kernel_rfl⟩
  · exact ⟨_,takes,Tryz.func185,by kernel_rfl,by kernel_rfl⟩
  · exact ⟨_,takes,Tryz.func267,by kernel_rfl,by kernel_rfl⟩
  · exact ⟨_,takes,Tryz.func268,by kernel_rfl,by kernel_rfl⟩
  · exact ⟨_,takes,Tryz.func222,by kernel_rfl,by kernel_rfl⟩
  · exact ⟨_,takes,Tryz.func224,by kernel_rfl,by kernel_rfl⟩
  · exact ⟨_,takes,Tryz.func225,by kernel_rfl,by kernel_rfl⟩
  · exact ⟨_,takes,Tryz.func226,by kernel_rfl,by kernel_rfl⟩
  · exact ⟨_,takes,Tryz.func228,by kernel_rfl,by kernel_rfl⟩
  · exact ⟨_,takes,Tryz.func227,by kernel_rfl,by kernel_rfl⟩
  · exact ⟨_,takes,Tryz.func187,by kernel_rfl,by kernel_rfl⟩
  · exact ⟨_,takes,Tryz.func271,by kernel_rfl,by kernel_rfl⟩
  · exact ⟨_,takes,Tryz.func272,by kernel_rfl,by kernel_rfl⟩
  · exact ⟨_,takes,Tryz.func273,by kernel_rfl,by kernel_rfl⟩
  · exact ⟨_,takes,Tryz.func248,by kernel_rfl,by kernel_rfl⟩
  · exact ⟨_,takes,Tryz.func249,by kernel_rfl,by kernel_rfl⟩
  · exact ⟨_,takes,Tryz.func250,by kernel_rfl,by kernel_rfl⟩
  · exact ⟨_,takes,Tryz.func230,by kernel_rfl,by kernel_rfl⟩
  · exact ⟨_,takes,Tryz.func229,by kernel_rfl,by kernel_rfl⟩
  · exact ⟨_,takes,Tryz.func274,by kernel_rfl,by kernel_rfl⟩
  · exact ⟨_,takes,Tryz.func275,by kernel_rfl,by kernel_rfl⟩
  · exact ⟨_,takes,Tryz.func265,by kernel_rfl,by kernel_rfl⟩
  · exact ⟨_,takes,Tryz.func266,by kernel_rfl,by kernel_rfl⟩
  · exact ⟨_,takes,Tryz.func251,by kernel_rfl,by kernel_rfl⟩
  · exact ⟨_,takes,Tryz.func16,by kernel_rfl,by kernel_rfl⟩
  · exact ⟨_,takes,Tryz.func18,by kernel_rfl,by kernel_rfl⟩
  · exact ⟨_,takes,Tryz.func21,by kernel_rfl,by kernel_rfl⟩
  · exact ⟨_,takes,Tryz.func39,by kernel_rfl,by kernel_rfl⟩
  · exact ⟨_,takes,Tryz.func42,by kernel_rfl,by kernel_rfl⟩
  · exact ⟨_,takes,Tryz.func43,by kernel_rfl,by kernel_rfl⟩
  · exact ⟨_,takes,Tryz.func49,by kernel_rfl,by kernel_rfl⟩
  · exact ⟨_,takes,Tryz.func50,by kernel_rfl,by kernel_rfl⟩
  · exact ⟨_,takes,Tryz.func51,by kernel_rfl,by kernel_rfl⟩
  · exact ⟨_,takes,Tryz.func88,by kernel_rfl,by kernel_rfl⟩
  · exact ⟨_,takes,Tryz.func90,by kernel_rfl,by kernel_rfl⟩
  · exact ⟨_,takes,Tryz.func97,by kernel_rfl,by kernel_rfl⟩
  · exact ⟨_,takes,Tryz.func98,by kernel_rfl,by kernel_rfl⟩
  · exact ⟨_,takes,Tryz.func99,by kernel_rfl,by kernel_rfl⟩
  · exact ⟨_,takes,Tryz.func170,by kernel_rfl,by kernel_rfl⟩
  · exact ⟨_,takes,Tryz.func171,by kernel_rfl,by kernel_rfl⟩
  · exact ⟨_,takes,Tryz.func172,by kernel_rfl,by kernel_rfl⟩
  · exact ⟨_,takes,Tryz.func173,by kernel_rfl,by kernel_rfl⟩
  · exact ⟨_,takes,Tryz.func174,by kernel_rfl,by kernel_rfl⟩
  · exact ⟨_,takes,Tryz.func175,by kernel_rfl,by kernel_rfl⟩
  · exact ⟨_,takes,Tryz.func210,by kernel_rfl,by kernel_rfl⟩
  · exact ⟨_,takes,Tryz.func211,by kernel_rfl,by kernel_rfl⟩
  · exact ⟨_,takes,Tryz.func212,by kernel_rfl,by kernel_rfl⟩
  · exact ⟨_,takes,Tryz.func213,by kernel_rfl,by kernel_rfl⟩
  · exact ⟨_,takes,Tryz.func214,by kernel_rfl,by kernel_rfl⟩
  · exact ⟨_,takes,Tryz.func215,by kernel_rfl,by kernel_rfl⟩
  · exact ⟨_,takes,Tryz.func216,by kernel_rfl,by kernel_rfl⟩
  · exact ⟨_,takes,Tryz.func217,by kernel_rfl,by kernel_rfl⟩
  · exact ⟨_,takes,Tryz.func218,by kernel_rfl,by kernel_rfl⟩
  · exact ⟨_,takes,Tryz.func219,by kernel_rfl,by kernel_rfl⟩
  · exact ⟨_,takes,Tryz.func220,by kernel_rfl,by kernel_rfl⟩
  · exact ⟨_,takes,Tryz.func221,by kernel_rfl,by kernel_rfl⟩
  · exact ⟨_,takes,Tryz.func244,by kernel_rfl,by kernel_rfl⟩
  · exact ⟨_,takes,Tryz.func245,by kernel_rfl,by kernel_rfl⟩
  · exact ⟨_,takes,Tryz.func246,by kernel_rfl,by kernel_rfl⟩
  · exact ⟨_,takes,Tryz.func247,by kernel_rfl,by kernel_rfl⟩
  · exact ⟨_,takes,Tryz.func263,by kernel_rfl,by kernel_rfl⟩
  · exact ⟨_,takes,Tryz.func264,by kernel_rfl,by kernel_rfl⟩
end Go.Proofs.YtleomfgijkapfaaGreatDoor
end
