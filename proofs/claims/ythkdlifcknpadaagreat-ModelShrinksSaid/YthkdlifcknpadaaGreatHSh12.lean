import Derived.Test.YthkdlifcknpadaaGreatHSh11
set_option linter.all false
section
namespace Go.Proofs.YthkdlifcknpadaaGreat
open Go Go.Proofs.YthkdlifcknpadaaGreat.Abs
set_option maxRecDepth 100000
set_option maxHeartbeats 0
def Zr:FuncId→List Nat:=fun _=>[]
def Zlr:FuncId→List Nat:=fun x=>if x=Ou then [1000040,1000042,1000048,1000051] else []
noncomputable def RY:AFn:=cF (cFn Tryz.prog Zr Tryz.f6)
theorem ZbT:cFn Tryz.prog Zr Tryz.f6=some RY:=QJ (by kernel_rfl)
noncomputable def TS:AFn:=cF (cFn Tryz.prog Zlr Tryz.f10)
theorem Zap:cFn Tryz.prog Zlr Tryz.f10=some TS:=QJ (by kernel_rfl)
noncomputable def PQ:AFn:=cF (cFn Tryz.prog Zr Tryz.f11)
theorem ZdF:cFn Tryz.prog Zr Tryz.f11=some PQ:=QJ (by kernel_rfl)
noncomputable def PP:AFn:=cF (cFn Tryz.prog Zr Tryz.f14)
theorem ZdE:cFn Tryz.prog Zr Tryz.f14=some PP:=QJ (by kernel_rfl)
noncomputable def Bc:AFn:=cF (cFn Tryz.prog Zr Tryz.f15)
theorem ZbU:cFn Tryz.prog Zr Tryz.f15=some Bc:=QJ (by kernel_rfl)
noncomputable def PS:AFn:=cF (cFn Tryz.prog Zr Tryz.f16)
theorem ZdG:cFn Tryz.prog Zr Tryz.f16=some PS:=QJ (by kernel_rfl)
noncomputable def TU:AFn:=cF (cFn Tryz.prog Zr Tryz.f32)
theorem Zaq:cFn Tryz.prog Zr Tryz.f32=some TU:=QJ (by kernel_rfl)
noncomputable def WH:AFn:=cF (cFn Tryz.prog Zr Tryz.f31)
theorem X7:cFn Tryz.prog Zr Tryz.f31=some WH:=QJ (by kernel_rfl)
noncomputable def Bg:AFn:=cF (cFn Tryz.prog Zr Tryz.f37)
theorem ZbV:cFn Tryz.prog Zr Tryz.f37=some Bg:=QJ (by kernel_rfl)
noncomputable def WU:AFn:=cF (cFn Tryz.prog Zr Tryz.f38)
theorem XU:cFn Tryz.prog Zr Tryz.f38=some WU:=QJ (by kernel_rfl)
noncomputable def ZI:AFn:=cF (cFn Tryz.prog Zr Tryz.f39)
theorem Yz:cFn Tryz.prog Zr Tryz.f39=some ZI:=QJ (by kernel_rfl)
noncomputable def Ip:AFn:=cF (cFn Tryz.prog Zr Tryz.f40)
theorem SA:cFn Tryz.prog Zr Tryz.f40=some Ip:=QJ (by kernel_rfl)
noncomputable def Qc:AFn:=cF (cFn Tryz.prog Zr Tryz.f41)
theorem Vy:cFn Tryz.prog Zr Tryz.f41=some Qc:=QJ (by kernel_rfl)
noncomputable def IV:AFn:=cF (cFn Tryz.prog Zr Tryz.f90)
theorem AO:cFn Tryz.prog Zr Tryz.f90=some IV:=QJ (by kernel_rfl)
noncomputable def We:AFn:=cF (cFn Tryz.prog Zr Tryz.f89)
theorem Xl:cFn Tryz.prog Zr Tryz.f89=some We:=QJ (by kernel_rfl)
noncomputable def IW:AFn:=cF (cFn Tryz.prog Zr Tryz.f92)
theorem AP:cFn Tryz.prog Zr Tryz.f92=some IW:=QJ (by kernel_rfl)
noncomputable def Yq:AFn:=cF (cFn Tryz.prog Zr Tryz.f91)
theorem WM:cFn Tryz.prog Zr Tryz.f91=some Yq:=QJ (by kernel_rfl)
noncomputable def IX:AFn:=cF (cFn Tryz.prog Zr Tryz.f94)
theorem AQ:cFn Tryz.prog Zr Tryz.f94=some IX:=QJ (by kernel_rfl)
noncomputable def IY:AFn:=cF (cFn Tryz.prog Zr Tryz.f96)
theorem AU:cFn Tryz.prog Zr Tryz.f96=some IY:=QJ (by kernel_rfl)
noncomputable def Y8:AFn:=cF (cFn Tryz.prog Zr Tryz.f95)
theorem Qs:cFn Tryz.prog Zr Tryz.f95=some Y8:=QJ (by kernel_rfl)
noncomputable def Z8:AFn:=cF (cFn Tryz.prog Zr Tryz.f98)
theorem ZY:cFn Tryz.prog Zr Tryz.f98=some Z8:=QJ (by kernel_rfl)
noncomputable def JV:AFn:=cF (cFn Tryz.prog Zr Tryz.f99)
theorem TM:cFn Tryz.prog Zr Tryz.f99=some JV:=QJ (by kernel_rfl)
noncomputable def YF:AFn:=cF (cFn Tryz.prog Zr Tryz.f100)
theorem Q5:cFn Tryz.prog Zr Tryz.f100=some YF:=QJ (by kernel_rfl)
noncomputable def YR:AFn:=cF (cFn Tryz.prog Zr Tryz.f101)
theorem QV:cFn Tryz.prog Zr Tryz.f101=some YR:=QJ (by kernel_rfl)
noncomputable def QB:AFn:=cF (cFn Tryz.prog Zr Tryz.f102)
theorem J9:cFn Tryz.prog Zr Tryz.f102=some QB:=QJ (by kernel_rfl)
noncomputable def ZL:AFn:=cF (cFn Tryz.prog Zr Tryz.f103)
theorem Y4:cFn Tryz.prog Zr Tryz.f103=some ZL:=QJ (by kernel_rfl)
noncomputable def U9:AFn:=cF (cFn Tryz.prog Zr Tryz.f104)
theorem LJ:cFn Tryz.prog Zr Tryz.f104=some U9:=QJ (by kernel_rfl)
noncomputable def ZX:AFn:=cF (cFn Tryz.prog Zr Tryz.f105)
theorem YS:cFn Tryz.prog Zr Tryz.f105=some ZX:=QJ (by kernel_rfl)
noncomputable def Gg:AFn:=cF (cFn Tryz.prog Zr Tryz.f106)
theorem Pq:cFn Tryz.prog Zr Tryz.f106=some Gg:=QJ (by kernel_rfl)
noncomputable def Yu:AFn:=cF (cFn Tryz.prog Zr Tryz.f107)
theorem WR:cFn Tryz.prog Zr Tryz.f107=some Yu:=QJ (by kernel_rfl)
noncomputable def Oa:AFn:=cF (cFn Tryz.prog Zr Tryz.f108)
theorem AX:cFn Tryz.prog Zr Tryz.f108=some Oa:=QJ (by kernel_rfl)
noncomputable def WG:AFn:=cF (cFn Tryz.prog Zr Tryz.f128)
theorem X6:cFn Tryz.prog Zr Tryz.f128=some WG:=QJ (by kernel_rfl)
noncomputable def WT:AFn:=cF (cFn Tryz.prog Zr Tryz.f129)
theorem XT:cFn Tryz.prog Zr Tryz.f129=some WT:=QJ (by kernel_rfl)
noncomputable def EJ:AFn:=cF (cFn Tryz.prog Zr Tryz.f130)
theorem Zfq:cFn Tryz.prog Zr Tryz.f130=some EJ:=QJ (by kernel_rfl)
noncomputable def Qd:AFn:=cF (cFn Tryz.prog Zr Tryz.f132)
theorem Vz:cFn Tryz.prog Zr Tryz.f132=some Qd:=QJ (by kernel_rfl)
noncomputable def Yh:AFn:=cF (cFn Tryz.prog Zr Tryz.f146)
theorem Wu:cFn Tryz.prog Zr Tryz.f146=some Yh:=QJ (by kernel_rfl)
noncomputable def EL:AFn:=cF (cFn Tryz.prog Zr Tryz.f147)
theorem Zfr:cFn Tryz.prog Zr Tryz.f147=some EL:=QJ (by kernel_rfl)
noncomputable def Yg:AFn:=cF (cFn Tryz.prog Zr Tryz.f161)
theorem Ws:cFn Tryz.prog Zr Tryz.f161=some Yg:=QJ (by kernel_rfl)
noncomputable def ZsR:List (Nat×AFn):=[(6,RY),(10,TS),(11,PQ),(14,PP),(15,Bc),(16,PS),(32,TU),(31,WH),(37,Bg),(38,WU),(39,ZI),(40,Ip),(41,Qc),(90,IV),(89,We),(92,IW),(91,Yq),(94,IX),(96,IY),(95,Y8),(98,Z8),(99,JV),(100,YF),(101,YR),(102,QB),(103,ZL),(104,U9),(105,ZX),(106,Gg),(107,Yu),(108,Oa),(128,WG),(129,WT),(130,EJ),(132,Qd),(146,Yh),(147,EL),(161,Yg)] ++ tab
theorem Zlq:∀ p ∈ ZsR,∃ fn takes,Tryz.prog.funcs[p.1]? = some fn∧(fn.name == "runtime.NumGoroutine")=false∧cFn Tryz.prog takes fn=some p.2:=by
 intro p hp
 rcases List.mem_append.1 hp with hp | hp
 ·simp only [List.mem_cons,List.not_mem_nil,or_false] at hp
  rcases hp with rfl | rfl | rfl | rfl | rfl | rfl | rfl | rfl | rfl | rfl | rfl | rfl | rfl | rfl | rfl | rfl | rfl | rfl | rfl | rfl | rfl | rfl | rfl | rfl | rfl | rfl | rfl | rfl | rfl | rfl | rfl | rfl | rfl | rfl | rfl | rfl | rfl | rfl
  ·exact ⟨Tryz.f6,Zr,Tryz.func6,by kernel_rfl,ZbT⟩
  ·exact ⟨Tryz.f10,Zlr,Tryz.func10,by kernel_rfl,Zap⟩
  ·exact ⟨Tryz.f11,Zr,Tryz.func11,by kernel_rfl,ZdF⟩
  ·exact ⟨Tryz.f14,Zr,Tryz.func14,by kernel_rfl,ZdE⟩
  ·exact ⟨Tryz.f15,Zr,Tryz.func15,by kernel_rfl,ZbU⟩
  ·exact ⟨Tryz.f16,Zr,Tryz.func16,by kernel_rfl,ZdG⟩
  ·exact ⟨Tryz.f32,Zr,Tryz.func32,by kernel_rfl,Zaq⟩
  ·exact ⟨Tryz.f31,Zr,Tryz.func31,by kernel_rfl,X7⟩
  ·exact ⟨Tryz.f37,Zr,Tryz.func37,by kernel_rfl,ZbV⟩
  ·exact ⟨Tryz.f38,Zr,Tryz.func38,by kernel_rfl,XU⟩
  ·exact ⟨Tryz.f39,Zr,Tryz.func39,by kernel_rfl,Yz⟩
  ·exact ⟨Tryz.f40,Zr,Tryz.func40,by kernel_rfl,SA⟩
  ·exact ⟨Tryz.f41,Zr,Tryz.func41,by kernel_rfl,Vy⟩
  ·exact ⟨Tryz.f90,Zr,Tryz.func90,by kernel_rfl,AO⟩
  ·exact ⟨Tryz.f89,Zr,Tryz.func89,by kernel_rfl,Xl⟩
  ·exact ⟨Tryz.f92,Zr,Tryz.func92,by kernel_rfl,AP⟩
  ·exact ⟨Tryz.f91,Zr,Tryz.func91,by kernel_rfl,WM⟩
  ·exact ⟨Tryz.f94,Zr,Tryz.func94,by kernel_rfl,AQ⟩
  ·exact ⟨Tryz.f96,Zr,Tryz.func96,by kernel_rfl,AU⟩
  ·exact ⟨Tryz.f95,Zr,Tryz.func95,by kernel_rfl,Qs⟩
  ·exact ⟨Tryz.f98,Zr,Tryz.func98,by kernel_rfl,ZY⟩
  ·exact ⟨Tryz.f99,Zr,Tryz.func99,by kernel_rfl,TM⟩
  ·exact ⟨Tryz.f100,Zr,Tryz.func100,by kernel_rfl,Q5⟩
  ·exact ⟨Tryz.f101,Zr,Tryz.func101,by kernel_rfl,QV⟩
  ·exact ⟨Tryz.f102,Zr,Tryz.func102,by kernel_rfl,J9⟩
  ·exact ⟨Tryz.f103,Zr,Tryz.func103,by kernel_rfl,Y4⟩
  ·exact ⟨Tryz.f104,Zr,Tryz.func104,by kernel_rfl,LJ⟩
  ·exact ⟨Tryz.f105,Zr,Tryz.func105,by kernel_rfl,YS⟩
  ·exact ⟨Tryz.f106,Zr,Tryz.func106,by kernel_rfl,Pq⟩
  ·exact ⟨Tryz.f107,Zr,Tryz.func107,by kernel_rfl,WR⟩
  ·exact ⟨Tryz.f108,Zr,Tryz.func108,by kernel_rfl,AX⟩
  ·exact ⟨Tryz.f128,Zr,Tryz.func128,by kernel_rfl,X6⟩
  ·exact ⟨Tryz.f129,Zr,Tryz.func129,by kernel_rfl,XT⟩
  ·exact ⟨Tryz.f130,Zr,Tryz.func130,by kernel_rfl,Zfq⟩
  ·exact ⟨Tryz.f132,Zr,Tryz.func132,by kernel_rfl,Vz⟩
  ·exact ⟨Tryz.f146,Zr,Tryz.func146,by kernel_rfl,Wu⟩
  ·exact ⟨Tryz.f147,Zr,Tryz.func147,by kernel_rfl,Zfr⟩
  ·exact ⟨Tryz.f161,Zr,Tryz.func161,by kernel_rfl,Ws⟩
 ·exact Zoo p hp
end Go.Proofs.YthkdlifcknpadaaGreat
end
section
namespace Go.Proofs.YthkdlifcknpadaaGreat
open Go Go.Proofs.YthkdlifcknpadaaGreat.Abs Go.Proofs.YthkdlifcknpadaaGreat.Tl
set_option maxRecDepth 100000
instance noP (C:Cfg):RP (Zy C):=⟨fun _ _ _ _ _=>False⟩
def tG:Nat→Option (List (TV tT)):=fun _=>none
def GF:Nat→Option (List AV):=fun _=>none
theorem Zus:GR tG GF:=fun g c h=>by cases h
noncomputable def cT (f:FuncId):Option AFn:=(tab.find? (·.1 == f)).map (·.2)
structure St (C:Cfg)(L:Nat):Prop where
 L:C.L=L + 64
 G:GR tG C.G
 T:∀ f a,cT f=some a→C.T f=some a
 grow:∀ (m:Nat) (n:Int) (hp:List Zh),0≤n→n≤100000→Zy C (m + 1) 135 [.own 2 [],.int .i64 n] hp=some (.own 2 [],hp,none)
 awake:∀ (m:Nat) (hp:List Zh),Zy C (m + 1) 6 [] hp=some (.bool true,hp,none)
def Zmj (l:List WF)(n:Int):Option (List WF):=if l.length=0∧0≤n∧n≤100000 then some [] else none
def Zos:Sum tT:=⟨135,[.own 2 (.row 7),.int .i64],fun x=>.par _ (Zmj x.1 x.2.1) (SD.tv tT (.own 2 (.row 7)))⟩
theorem ZsM {C:Cfg}{L:Nat}(h:St C L):U4 C Zos:=fun x hp avs hv y hy=>by
 obtain ⟨(l:List WF),(n:Int),u⟩:=x
 change (if l.length=0∧0≤n∧n≤100000 then some [] else none)=some y at hy
 split at hy
 ·rename_i hc
  cases hy
  obtain rfl:=List.eq_nil_of_length_eq_zero hc.1
  cases hv with
  | cons _ a h1 _ _ h2=>cases h2 with
   | cons _ b h3 _ _ h4=>cases h4 with
    | nil =>
     cases h1 with | own _ _ _ =>
     have:=VR.int h3; subst this
     exact ⟨.own 2 [],fun ad=>.own 2 (.row 7) [],1,fun m hm=>by
      obtain ⟨k,rfl⟩:∃ k,m=k + 1:=⟨m - 1,by omega⟩
      exact h.grow k n hp hc.2.1 hc.2.2⟩
 ·cases hy
@[reducible] noncomputable def fT (S:List (Sum tT))(L:Nat)(a:AFn)(A:List LN)(d:RD)(g:List SD)(x:RTy tT g):Option (d.Ty tT):=fnT tF tG (qOf tF S) 0 L a A d (tvL tT g x) []
@[reducible] noncomputable def fI (S:List (Sum tT))(L:Nat)(I:List (Inl tT))(a:AFn)(A:List LN)(d:RD)(g:List SD)(x:RTy tT g):Option (d.Ty tT):=fnT tF tG (Zlm tF tG (qOf tF S) L I 8) 0 L a A d (tvL tT g x) []
@[reducible] noncomputable def mU (f:FuncId)(g:List SD)(d:RD)(y:RTy tT g→Option (d.Ty tT)):Sum tT:=⟨f,g,fun x=>.par (d.Ty tT) (y x) (d.tv tT)⟩
abbrev SX (u:Nat→Sum tT):Prop:=∀ {C:Cfg} {L:Nat},St C L→U4 C (u L)
theorem sT {C:Cfg}{L:Nat}(h:St C L){S:List (Sum tT)}(hS:∀ s ∈ S,U4 C s){f:FuncId}{g:List SD}{d:RD}{a:AFn}{A:List LN}{y:RTy tT g→Option (d.Ty tT)}(hT:cT f=some a)(hk:a.keep=false)(hy:∀ x,y x=fT S L a A d g x):U4 C (mU f g d y) :=
 XN XD h.L h.G (JA XD hS) A (h.T _ _ hT) hk fun x=>(hy x).symm
theorem sI {C:Cfg}{L:Nat}(h:St C L){S:List (Sum tT)}(hS:∀ s ∈ S,U4 C s){I:List (Inl tT)}(hI:∀ i ∈ I,C.T i.f=some i.fn∧i.fn.keep=false){f:FuncId}{g:List SD}{d:RD}{a:AFn}{A:List LN}{y:RTy tT g→Option (d.Ty tT)}(hT:cT f=some a)(hk:a.keep=false)(hy:∀ x,y x=fI S L I a A d g x):U4 C (mU f g d y) :=
 XN XD h.L h.G (ZeG XD h.L h.G (JA XD hS) hI 8) A (h.T _ _ hT) hk fun x=>(hy x).symm
end Go.Proofs.YthkdlifcknpadaaGreat
end
