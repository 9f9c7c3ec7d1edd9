import Derived.Test.YthkdlifcknpadaaGreatHSh17
set_option linter.all false
section
namespace Go.Proofs.YthkdlifcknpadaaGreat
open Go Go.RowKit Go.Shelf Go.Proofs.YthkdlifcknpadaaGreat.Abs
set_option maxRecDepth 100000
set_option maxHeartbeats 0
noncomputable def Zu2:AFn:=cF (ZqN Tryz.prog Zr Tryz.f6)
theorem Zo0:ZqN Tryz.prog Zr Tryz.f6=some Zu2:=QJ (by kernel_rfl)
noncomputable def CW:Cfg:=⟨fun _=>none,fun f=>(ZsR.find? (·.1 == f)).map (·.2),ZhV 135 2 24,1000⟩
noncomputable def isR (f:FuncId)(args:List AV)(v:AV):Bool:=match Zy CW 60 f args [] with
 | some (w,[],none)=>eqA 5 v w
 | _=>false
def isT:Option (AV×List Zh×Eff)→Bool
 | some (.bool true,_,_)=>true
 | _=>false
def zD:YV:=⟨0,0,0,0,[],[]⟩
def Zsv (q w:List UInt8):Zb:=⟨[112,108,97,110,116],[],[⟨[109],1,[],0,⟨[],zD,zD⟩⟩],[],[],[q],[],[],[],[[100,111,110,101]],[⟨[112,97,114,116],[⟨[107],1⟩],[],[]⟩],[⟨[112,97,114,116],[3],1,0,0⟩],[⟨[112,97,114,116,115],[⟨1,w,[112,97,114,116]⟩,⟨-1,[105,110,115,105,100,101],[112,97,114,116]⟩],0⟩]⟩
def Zu0:Zb:=⟨[121,97,114,100],[],[],[],[],[],[],[],[],[],[],[],[]⟩
def Znz (q w t:List UInt8):AV:=.agg (Yf ⟨[115,104,111,112],[],[Zsv q w,Zu0],[⟨[112,108,97,110,116],t,4⟩]⟩)
def mA:AV:=Znz [113] [99,114,101,97,116,101,100] [121,97,114,100]
def mB:AV:=Znz [109] [99,114,101,97,116,101,100] [121,97,114,100]
def mC:AV:=Znz [113] [115,116,111,114,101,100] [121,97,114,100]
def mD:AV:=Znz [113] [99,114,101,97,116,101,100] [112,108,97,110,116]
def Zr9:List (Nat×List AV×AV):=[(7,[mA],.int .i64 0),(7,[mB],.int .i64 4),(7,[mC],.int .i64 5),(7,[mD],.int .i64 1),(16,[mA,mA],.bool true),(16,[mA,mB],.bool false)]
def Zpq (f:FuncId)(args:List AV):Option AV:=(Zr9.find? fun e=>e.1 == f && allEq (eqA 12) e.2.1 args).map (·.2.2)
noncomputable def CM:Cfg:=⟨fun _=>none,fun f=>if [7,16].contains f then none else (ZsR.find? (·.1 == f)).map (·.2),fun f args hp=>(Zpq f args).map fun v=>(v,hp,none),1000⟩
end Go.Proofs.YthkdlifcknpadaaGreat
end
