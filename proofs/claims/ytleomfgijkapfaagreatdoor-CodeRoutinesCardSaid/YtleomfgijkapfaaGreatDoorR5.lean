import Derived.Test.YtleomfgijkapfaaGreatDoorR4
set_option linter.all false
section
namespace Go.Proofs.YtleomfgijkapfaaGreatDoor
open Go Go.RowKit Go.Proofs.YtleomfgijkapfaaGreatDoor.Abs
open Nat (reduceAdd reduceLeDiff)
set_option maxRecDepth 100000
set_option maxHeartbeats 0
def Z0b (n:Nat):List UInt8:=if n < 10 then [UInt8.ofNat (48 + n)] else [UInt8.ofNat (48 + n / 10),UInt8.ofNat (48 + n % 10)]
def textS (f:FuncId)(args:List AV):Option AV:=if f=40 then (match args with
 | [.int .i64 n]=>if 0≤n∧n < 100 then some (.str (Z0b n.toNat)) else none
 | _=>none) else none
def O17 (f:FuncId)(args:List AV)(hp:List Zw):Option (AV×List Zw×Eff) :=
 match f with
 | 38=>wsO f args hp
 | 44=>wbO f args hp
 | 45=>Z0z f args hp
 | 168=>Zxd f args hp
 | 40=>(textS f args).map fun v=>(v,hp,none)
 | _=>Zrj 223 2 24 f args hp
def CW:Cfg:=⟨fun g=>if g=0 then some [.lst 9 (KW.map Jp)] else none,fun f=>(ZzF.find? (·.1 == f)).map (·.2),O17,1000⟩
def isR (f:FuncId)(args:List AV)(v:AV):Bool:=match Zb CW 60 f args [] with
 | some (w,[],none)=>eqA 5 v w
 | _=>false
def isT:Option (AV×List Zw×Eff)→Bool
 | some (.bool true,_,_)=>true
 | _=>false
def Z0o (n:Int):ZH:=⟨1,[],n,[]⟩
def zE:ZH:=⟨0,[],0,[]⟩
def zD:Gg:=⟨0,0,0,0,[],[]⟩
def Zxe:Yo:=⟨6,0,0,0,Z0o 5,zE,[],zD,false⟩
def Z0i (c:Int):Yo:=⟨14,1,0,c,Z0o 0,zE,[Z0o 1],zD,false⟩
def Z08:Yo:=⟨19,0,0,0,zE,zE,[],zD,false⟩
def Z0h:Yo:=⟨4,2,0,0,zE,zE,[],zD,false⟩
def ZzR (l:List Yo):Q3:=⟨[106,111,98],1,2,l⟩
def ZyF (n:UInt8):YX:=⟨[n],[],[],[],[],[],[],[],[],[],[⟨[106,111,98],[⟨[107],1⟩],[],[]⟩],[],[]⟩
def Z0u (c:Int):ZN:=⟨[115,104,111,112],[⟨ZyF 97,[ZzR [Zxe,Z0i c,Z08]]⟩,⟨ZyF 98,[ZzR [Z08]]⟩],[⟨0,1,4⟩]⟩
def pA (c:Int):AV:=.agg (ZX (Z0u c))
def ZqF:AV:=.agg (Qr (ZzR [Zxe]))
def loopA:AV:=.agg (Qr (ZzR [Zxe,Z0h]))
def Z0F:AV:=.str [48,32,104,111,108,100,32,48,32,48,32,48,32,48,32,40,49,32,53,41,10]
def ZyY:List (Nat×List AV×AV):=[(11,[pA 4],.int .i64 0),(11,[pA 3],.int .i64 16),(14,[pA 4,.int .i64 0,ZqF],.int .i64 8),(14,[pA 4,.int .i64 0,loopA],.int .i64 2),(18,[ZqF],Z0F),(21,[pA 4,pA 4],.bool true),(21,[pA 4,pA 3],.bool false)]
def Zxj (f:FuncId)(args:List AV):Option AV:=(ZyY.find? fun e=>e.1 == f && allEq (eqA 12) e.2.1 args).map (·.2.2)
def CM:Cfg:=⟨fun _=>none,fun f=>if [11,14,18,21].contains f then none else (ZzF.find? (·.1 == f)).map (·.2),fun f args hp=>(Zxj f args).map fun v=>(v,hp,none),1000⟩
end Go.Proofs.YtleomfgijkapfaaGreatDoor
end
section
namespace Go.Proofs.YtleomfgijkapfaaGreatDoor
open Go Go.Proofs.YtleomfgijkapfaaGreatDoor.Abs
set_option maxRecDepth 100000
set_option maxHeartbeats 0
theorem run_text:isR 18 [ZqF] Z0F=true:=by kernel_rfl
theorem Zyd:isT (ZgW CM [11,14,16,18,21,22] 20 Zbl [] [])=true:=by kernel_rfl
end Go.Proofs.YtleomfgijkapfaaGreatDoor
end
section
namespace Go.Proofs.YtleomfgijkapfaaGreatDoor
open Go Go.Proofs.YtleomfgijkapfaaGreatDoor.Abs
set_option maxRecDepth 100000
set_option maxHeartbeats 0
theorem ZzA:isR 14 [pA 4,.int .i64 0,ZqF] (.int .i64 8)=true:=by kernel_rfl
end Go.Proofs.YtleomfgijkapfaaGreatDoor
end
section
namespace Go.Proofs.YtleomfgijkapfaaGreatDoor
open Go Go.Proofs.YtleomfgijkapfaaGreatDoor.Abs
set_option maxRecDepth 100000
set_option maxHeartbeats 0
theorem ZzB:isR 14 [pA 4,.int .i64 0,loopA] (.int .i64 2)=true:=by kernel_rfl
end Go.Proofs.YtleomfgijkapfaaGreatDoor
end
section
namespace Go.Proofs.YtleomfgijkapfaaGreatDoor
open Go Go.Proofs.YtleomfgijkapfaaGreatDoor.Abs
set_option maxRecDepth 100000
set_option maxHeartbeats 0
theorem ZzC:isR 21 [pA 4,pA 4] (.bool true)=true:=by kernel_rfl
end Go.Proofs.YtleomfgijkapfaaGreatDoor
end
section
namespace Go.Proofs.YtleomfgijkapfaaGreatDoor
open Go Go.Proofs.YtleomfgijkapfaaGreatDoor.Abs
set_option maxRecDepth 100000
set_option maxHeartbeats 0
theorem ZzD:isR 21 [pA 4,pA 3] (.bool false)=true:=by kernel_rfl
end Go.Proofs.YtleomfgijkapfaaGreatDoor
end
