import Derived.Test.YtcfjcimhjmpkiaaGreatDoorHTb18
set_option linter.all false
section
namespace Go.Proofs.YtcfjcimhjmpkiaaGreatDoor
open Go Go.RowKit Go.Proofs.YtcfjcimhjmpkiaaGreatDoor.Abs
set_option maxRecDepth 100000
set_option maxHeartbeats 0
def Np (n:Nat):List UInt8:=if n < 10 then [UInt8.ofNat (48 + n)] else if n < 100 then [UInt8.ofNat (48 + n / 10),UInt8.ofNat (48 + n % 10)] else [UInt8.ofNat (48 + n / 100),UInt8.ofNat (48 + n / 10 % 10),UInt8.ofNat (48 + n % 10)]
def NM (f:FuncId)(args:List AV):Option AV:=if f=26 then (match args with
 | [.int .i64 n]=>if 0≤n∧n < 1000 then some (.str (Np n.toNat)) else none
 | _=>none) else none
def Nc (f:FuncId)(args:List AV)(hp:List AObj):Option (AV×List AObj×Eff) :=
 match f with
 | 37=>NZ f args hp
 | 39=>Ll f args hp
 | 27=>(NL f args).map fun v=>(v,hp,none)
 | 88=>(NK f args).map fun v=>(v,hp,none)
 | 136=>(NJ f args).map fun v=>(v,hp,none)
 | _=>(NM f args).map fun v=>(v,hp,none)
def Ny:Option (AV×List AObj×Eff)→Bool
 | some (.bool true,_,_)=>true
 | _=>false
def pA:AV:=(.agg [(.str [109]),(.lst 14 [[(.str [97]),(.lst 3 []),(.lst 17 []),(.lst 3 []),(.lst 3 []),(.lst 1 []),(.lst 1 []),(.lst 1 [[(.str [116])]]),(.lst 1 []),(.lst 1 []),(.lst 4 []),(.lst 5 []),(.lst 3 []),(.lst 4 [])]]),(.lst 3 [])])
def qA:AV:=(.agg [(.int .i64 0),(.int .i64 5),(.int .i64 0),(.lst 9 []),(.lst 7 []),(.int .i64 0),(.lst 1 []),(.lst 5 []),(.lst 7 []),(.lst 4 []),(.lst 1 []),(.lst 3 []),(.lst 5 [[(.int .i64 3),(.int .i64 7),(.int .i64 21),(.int .i64 1),(.int .i64 4)]]),(.lst 6 []),(.lst 1 []),(.lst 1 []),(.lst 1 []),(.int .i64 0)])
def TR (l:List (Nat×List AV×AV))(f:FuncId)(args:List AV):Option AV:=(l.find? fun e=>e.1 == f && allEq (Nq 12) e.2.1 args).map (·.2.2)
noncomputable def CM (l:List (Nat×List AV×AV)):Cfg:=⟨fun _=>none,fun f=>if (l.map (·.1)).contains f then none else (PL.find? (·.1 == f)).map (·.2),fun f args hp=>if (l.map (·.1)).contains f then (TR l f args).map fun v=>(v,hp,none) else Nc f args hp,1000⟩
noncomputable def Nw (l:List (Nat×List AV×AV))(f:FuncId)(args:List AV)(v:AV):Bool:=match evalCall (CM l) 60 f args [] with
 | some (w,[],none)=>Nq 5 v w
 | _=>false
def m0:List (Nat×List AV×AV):=[]
def m1:List (Nat×List AV×AV):=[(73,[pA],.int .i64 0)]
def m2:List (Nat×List AV×AV):=[(41,[pA,qA],.int .i64 0)]
end Go.Proofs.YtcfjcimhjmpkiaaGreatDoor
end
