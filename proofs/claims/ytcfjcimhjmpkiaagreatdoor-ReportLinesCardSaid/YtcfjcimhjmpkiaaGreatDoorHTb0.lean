import GoSem.Claim
import Derived.Items
import Derived.Below
import Derived.WalkKit
import Derived.Maps.AppendAt
import Derived.Laws.Cells
import Derived.Laws.StructEq
import Derived.ChangeKeysEq
import Derived.Laws.CopyRow
import Derived.Laws.IdiomStrings
import Derived.Laws.BytesArg
import Derived.Lib.AppendStr
import Derived.Laws.OwnMore
import Derived.Lib.OthersKept
import Derived.Lib.Strings
import Derived.MapKept
import Derived.WideKeyRuns
set_option linter.all false
section
section
namespace Go.Proofs.YtcfjcimhjmpkiaaGreatDoor.Abs
open Go
inductive AV where
 | undef
 | bool (b:Bool)
 | int (k:IntKind) (n:Int)
 | str (s:List UInt8)
 | nilp
 | nilf
 | nilm
 | nili
 | nils (k:Nat)
 | lst (k:Nat) (rows:List (List AV))
 | own (k:Nat) (rows:List (List AV))
 | arr (g off len k:Nat)
 | arrs (g off len k m:Nat)
 | ref (cells:List AV)
 | ptr (g off:Nat)
 | map (g:Nat)
 | fn (f:FuncId) (first caps:List AV)
 | agg (cells:List AV)
 | tup (vs:List AV)
 deriving Inhabited
inductive AObj where
 | dead
 | cells (cs:List AV) (t:TypeId)
 | map (es:List (AV×AV))
 | iter (s:List UInt8) (pos:Nat)
 | buf (l:List UInt8) (t e:TypeId) (m:List AV)
 deriving Inhabited
inductive Opnd where
 | tmp (t:Nat)
 | const (v:AV)
 | glob (g:Nat)
 deriving Inhabited
inductive Conv where
 | int (k:IntKind)
 | str
 | bytes
 | ofBytes
 deriving Inhabited
inductive Shape where
 | str
 | slice (k:Nat)
 | arr (n k:Nat)
 deriving Inhabited
inductive CK where
 | int
 | bool
 | str
 deriving Inhabited
inductive EqSh where
 | prim
 | bool
 | ptr
 | func
 | struct (ks:List CK)
 deriving Inhabited
inductive KSh where
 | one (c:CK)
 | pair (c:CK)
 deriving Inhabited
inductive LenSh where
 | str
 | slice
 | map
 deriving Inhabited
inductive AOp where
 | bad
 | mv (x:Opnd)
 | take (s:Nat)
 | pick (c a b:Opnd)
 | mk (t:TypeId) (cells:List AV)
 | box (t:TypeId) (n:Nat) (x:Opnd)
 | build (zero:List AV) (parts:List (Nat×Nat×Opnd))
 | lit (e:TypeId) (k:Nat) (parts:List Opnd)
 | lita (e:TypeId) (k:Nat) (parts:List Opnd)
 | ldc (p:Opnd)
 | lda (n:Nat) (p:Opnd)
 | ldt (p:Opnd)
 | st (n:Nat) (p x:Opnd)
 | stt (p:Opnd) (s:Nat)
 | nilchk (x:Opnd)
 | bin (op:BinOp) (sh:EqSh) (x y:Opnd)
 | un (op:UnOp) (x:Opnd)
 | conv (c:Conv) (x:Opnd)
 | mkfn (f:FuncId) (first caps:List Opnd)
 | mkmap
 | mksl (e:TypeId) (zero:List AV) (n:Opnd)
 | slice (sh:Shape) (x:Opnd) (lo hi:Option Opnd)
 | slice3 (sh:Shape) (x hi mx:Opnd)
 | fa (off:Nat) (x:Opnd)
 | fld (off n:Nat) (agg:Bool) (x:Opnd)
 | ia (sh:Shape) (x i:Opnd)
 | idx (x i:Opnd)
 | look (sh:KSh) (zero:AV) (x i:Opnd) (ok:Bool)
 | mupd (sh:KSh) (m k v:Opnd)
 | range (x:Opnd)
 | next (x:Opnd)
 | extract (x:Opnd) (i:Nat)
 | len (sh:LenSh) (x:Opnd)
 | app (k bytes:Nat) (s:Nat) (x:Opnd)
 | appn (k bytes:Nat) (x:Opnd)
 | apps (bytes:Nat) (s:Nat) (x:Opnd)
 | copy (k:Nat) (d x:Opnd)
 | slicez (k:Nat) (x hi:Opnd)
 | appz (k:Nat) (s:Nat) (x:Opnd)
 | mvz (s:Nat)
 | min (xs:List Opnd)
 | max (xs:List Opnd)
 | call (f:Opnd) (args:List (Nat ⊕ Opnd))
 deriving Inhabited
structure AOper where
 dst:Option Nat
 op:AOp
 guard:Option (Nat×Bool)
 deriving Inhabited
inductive ACode where
 | skip
 | region (draw:Bool) (ops:List AOper)
 | regionB (ops:List AOper)
 | seq (a b:ACode)
 | cond (c:Opnd) (thn els:ACode)
 | block (id:Nat) (body:ACode)
 | loop (body:ACode)
 | scope (body:ACode)
 | exit (id:Nat)
 | ret
 | bad
 deriving Inhabited
inductive ARes where
 | tmp (t:Nat)
 | one (t:Nat)
 | agg (t n:Nat)
 deriving Inhabited
structure AFn where
 ntmps:Nat
 results:List ARes
 code:ACode
 keep:Bool
 deriving Inhabited
inductive AExit where
 | normal
 | exit (id:Nat)
 | ret
abbrev Eff:=Option (Nat×Nat)
structure AState where
 sl:List AV
 hp:List AObj
 ef:Eff
 bs:Nat
def AV.ro:AV→AV
 | .undef=>.undef | .bool b=>.bool b | .int k n=>.int k n | .str s=>.str s | .nilp=>.nilp | .nilf=>.nilf | .nilm=>.nilm | .nili=>.nili | .nils k=>.lst k []
 | .lst k r=>.lst k r | .own k r=>.lst k r | .arr g o l k=>.arr g o l k | .arrs g o l k m=>.arrs g o l k m | .ref c=>.ref c | .ptr g o=>.ptr g o | .map g=>.map g
 | .fn f a c=>.fn f a c | .agg c=>.agg c | .tup v=>.tup v
def AV.up:AV→AV
 | .nils k=>.own k []
 | v=>v
def AV.nm:AV→AV
 | .undef=>.undef | .bool b=>.bool b | .int k n=>.int k n | .str s=>.str s | .nilp=>.nilp | .nilf=>.nilf | .nilm=>.nilm | .nili=>.nili | .nils k=>.lst k []
 | .lst k r=>.lst k r | .own k r=>.lst k r | .arr g o l k=>.arr g o l k | .arrs g o l k m=>.arrs g o l k m | .ref c=>.ref c | .ptr g o=>.ptr g o | .map g=>.map g
 | .fn f a c=>.fn f a c | .agg c=>.agg (c.map AV.ro) | .tup v=>.tup v
def AV.cells:AV→List AV
 | .agg cs=>cs
 | v=>[v]
def AV.noId1:AV→Bool
 | .arr .. | .arrs .. | .ptr .. | .map .. | .agg _ | .tup _ | .undef=>false
 | .fn _ a cs=>a.isEmpty && cs.isEmpty
 | _=>true
def AV.one:AV→Bool
 | .agg _ | .tup _ | .undef=>false
 | _=>true
def AV.laid:AV→Bool
 | .tup _ | .undef=>false
 | _=>true
def AV.flat1:AV→Bool
 | .undef | .bool _ | .int .. | .str _ | .nilp | .nilf | .nilm | .nili=>true
 | .fn _ a cs=>a.isEmpty && cs.isEmpty
 | _=>false
def AV.flatE:AV→Bool
 | .agg cs=>cs.all AV.flat1
 | v=>v.flat1
def AV.flat:AV→Bool
 | .agg cs=>cs.all AV.flat1
 | .tup vs=>vs.all AV.flatE
 | v=>v.flat1
def AV.conc1:AV→Value
 | .bool b=>.bool b
 | .int k n=>.int k n
 | .str s=>.string ⟨s.toArray⟩
 | .nilp=>.pointer none
 | .nilf=>.nilFunc
 | .nilm=>.map none
 | .nili=>.nilIface
 | .fn f _ _=>.func (.func f) #[] #[]
 | _=>.tuple #[]
def AV.concE:AV→Value
 | .agg cs=>.agg (cs.map AV.conc1).toArray
 | v=>v.conc1
def AV.conc:AV→Value
 | .agg cs=>.agg (cs.map AV.conc1).toArray
 | .tup vs=>.tuple (vs.map AV.concE).toArray
 | v=>v.conc1
def Eff.or:Eff→Eff→Eff
 | none,b=>b
 | a,none=>a
 | some (a,b),some (c,d)=>some (Nat.min a c,Nat.max b d)
def eqCell:CK→AV→AV→Option Bool
 | .bool,.bool a,.bool b=>some (a == b)
 | .int,.int k a,.int l b=>if k=l then some (a == b) else none
 | .str,.str a,.str b=>some (a == b)
 | _,_,_=>none
def eqCells:List CK→List AV→List AV→Option Bool
 | [],[],[]=>some true
 | k :: ks,a :: l,b :: m=>match eqCell k a b with
  | some true=>eqCells ks l m
  | some false=>some false
  | none=>none
 | _,_,_=>none
def eqVal:EqSh→AV→AV→Option Bool
 | .bool,.bool a,.bool b=>some (a == b)
 | .struct ks,.agg a,.agg b=>eqCells ks a b
 | .ptr,.nilp,.nilp=>some true
 | .ptr,.nilp,.ptr _ _=>some false
 | .ptr,.ptr _ _,.nilp=>some false
 | .ptr,.nilp,.ref _=>some false
 | .ptr,.ref _,.nilp=>some false
 | .func,.nilf,.nilf=>some true
 | .func,.nilf,.fn _ _ _=>some false
 | .func,.fn _ _ _,.nilf=>some false
 | _,_,_=>none
def strOp (op:BinOp)(x y:List UInt8):Option AV :=
 match op with
 | .add=>if x.length + y.length≤4611686018427387904 then some (.str (x ++ y)) else none
 | .eql=>some (.bool (x == y))
 | .neq=>some (.bool (!(x == y)))
 | .lss=>some (.bool (Op.bytesLess x y))
 | .leq=>some (.bool (Op.bytesLess x y || x == y))
 | .gtr=>some (.bool (!(Op.bytesLess x y || x == y)))
 | .geq=>some (.bool (!Op.bytesLess x y))
 | _=>none
def intBin (op:BinOp)(k:IntKind)(x y:Int):Option AV :=
 match op with
 | .add=>some (.int k (k.wrap (x + y)))
 | .sub=>some (.int k (k.wrap (x - y)))
 | .mul=>some (.int k (k.wrap (x * y)))
 | .quo=>if y=0 then none else some (.int k (k.wrap (x.tdiv y)))
 | .rem=>if y=0 then none else some (.int k (x.tmod y))
 | .eql=>some (.bool (x == y))
 | .neq=>some (.bool (x != y))
 | .lss=>some (.bool (decide (x < y)))
 | .leq=>some (.bool (decide (x≤y)))
 | .gtr=>some (.bool (decide (x > y)))
 | .geq=>some (.bool (decide (x ≥ y)))
 | .and=>some (.int k (k.wrap ((BitVec.ofInt k.bits x &&& BitVec.ofInt k.bits y).toNat:Int)))
 | .or=>some (.int k (k.wrap ((BitVec.ofInt k.bits x ||| BitVec.ofInt k.bits y).toNat:Int)))
 | .xor=>some (.int k (k.wrap ((BitVec.ofInt k.bits x ^^^ BitVec.ofInt k.bits y).toNat:Int)))
 | .andNot=>some (.int k (k.wrap ((BitVec.ofInt k.bits x &&& ~~~ BitVec.ofInt k.bits y).toNat:Int)))
 | _=>none
def shiftVal (op:BinOp)(k:IntKind)(x y:Int):Option AV :=
 if y < 0 then none else
 match op with
 | .shl=>some (.int k (k.wrap (x * 2 ^ (min y.toNat k.bits))))
 | .shr=>some (.int k (x.fdiv (2 ^ (min y.toNat k.bits))))
 | _=>none
def isShift:BinOp→Bool
 | .shl | .shr=>true
 | _=>false
def binVal (op:BinOp)(sh:EqSh)(x y:AV):Option AV :=
 match sh with
 | .prim=>match x,y with
  | .int k a,.int l b=>if isShift op then shiftVal op k a b else if k=l then intBin op k a b else none
  | .str a,.str b=>strOp op a b
  | _,_=>none
 | sh=>match op with
  | .eql=>(eqVal sh x y).map .bool
  | .neq=>(eqVal sh x y).map fun b=>.bool (!b)
  | _=>none
def unVal:UnOp→AV→Option AV
 | .neg,.int k n=>some (.int k (k.wrap (0 - n)))
 | .not,.bool b=>some (.bool (!b))
 | _,_=>none
def byteRow (c:UInt8):List AV:=[.int .u8 c.toNat]
def byteOf:List AV→Option UInt8
 | [.int .u8 n]=>some (UInt8.ofNat n.toNat)
 | _=>none
def chunk (k:Nat):Nat→List AV→List (List AV)
 | 0,_=>[]
 | n + 1,cs=>cs.take k :: chunk k n (cs.drop k)
def splice (cs:List AV)(off:Nat)(new:List AV):List AV:=cs.take off ++ new ++ cs.drop (off + new.length)
def fill:List AV→List (Nat×Nat×AV)→Option (List AV)
 | cs,[]=>some cs
 | cs,(off,n,v) :: rest=>if v.cells.length=n∧off + n≤cs.length∧v.laid=true then fill (splice cs off v.cells) rest else none
section
variable (G:Nat→Option (List AV))
def opnd (sl:List AV):Opnd→Option AV
 | .tmp t=>(sl[t]?).map AV.ro
 | .const v=>some v
 | .glob g=>(G g).map .ref
def opnds (sl:List AV):List Opnd→Option (List AV)
 | []=>some []
 | x :: l=>match opnd G sl x with
  | some v=>(opnds sl l).map (v :: ·)
  | none=>none
def optOpnd (sl:List AV):Option Opnd→Option (Option AV)
 | none=>some none
 | some x=>(opnd G sl x).map some
end
def rowsOf (hp:List AObj):AV→Option (Nat×List (List AV))
 | .lst k r=>some (k,r)
 | .own k r=>some (k,r)
 | .arr g off len k=>match hp[g]? with
  | some (.cells cs _)=>if off + len * k≤cs.length then some (k,chunk k len (cs.drop off)) else none
  | _=>none
 | _=>none
def bound (n:Nat)(dflt:Nat):Option AV→Option Nat
 | none=>some dflt
 | some (.int _ i)=>if 0≤i∧i≤n then some i.toNat else none
 | _=>none
def sliceVal (sh:Shape)(x:AV)(lo hi:Option AV):Option AV :=
 match sh,x with
 | .str,.str s=>match bound s.length s.length hi with
  | some h=>match bound h 0 lo with
   | some l=>some (.str ((s.take h).drop l))
   | none=>none
  | none=>none
 | .slice k,.lst k' r=>if k=k' then match bound r.length r.length hi with
   | some h=>match bound h 0 lo with
    | some l=>some (.lst k ((r.take h).drop l))
    | none=>none
   | none=>none
  else none
 | .slice k,.arr g off len k'=>if k=k' then match bound len len hi with
   | some h=>match bound h 0 lo with
    | some l=>if l=h then some (.lst k []) else some (.arr g (off + l * k) (h - l) k)
    | none=>none
   | none=>none
  else none
 | .arr n k,.ptr g off=>match bound n n hi with
   | some h=>match bound h 0 lo with
    | some l=>if l=h then some (.lst k []) else some (.arr g (off + l * k) (h - l) k)
    | none=>none
   | none=>none
 | _,_=>none
def slicezVal (k:Nat)(x hi:AV):Option AV :=
 match x,hi with
 | .arr g off len k',.int _ h=>if k=k'∧0 < h∧h≤len then some (.arrs g off h.toNat k len) else none
 | _,_=>none
def slice3Val (sh:Shape)(x hi mx:AV):Option AV :=
 match sh,x,hi,mx with
 | .slice k,.lst k' r,.int _ h,.int _ m=>if k=k'∧0≤h∧h≤m∧m≤r.length then some (.lst k (r.take h.toNat)) else none
 | .slice k,.arr g off len k',.int _ h,.int _ m=>if k=k'∧0≤h∧h≤m∧m≤len then some (if h=0 then .lst k [] else .arr g off h.toNat k) else none
 | .arr n k,.ptr g off,.int _ h,.int _ m=>if 0≤h∧h≤m∧m≤n then some (if h=0 then .lst k [] else .arr g off h.toNat k) else none
 | _,_,_,_=>none
def iaVal (sh:Shape)(x i:AV):Option AV :=
 match sh,x,i with
 | .slice k,.lst k' r,.int _ n=>if k=k'∧0≤n then (r[n.toNat]?).map .ref else none
 | .slice k,.arr g off len k',.int _ n=>if k=k'∧0≤n∧n < len then some (.ptr g (off + n.toNat * k)) else none
 | .arr len k,.ptr g off,.int _ n=>if 0≤n∧n < len then some (.ptr g (off + n.toNat * k)) else none
 | .arr len k,.ref cs,.int _ n=>if 0≤n∧n < len then some (.ref (cs.drop (n.toNat * k))) else none
 | _,_,_=>none
def idxVal (x i:AV):Option AV :=
 match x,i with
 | .str s,.int _ n=>if 0≤n then (s[n.toNat]?).map fun b=>.int .u8 b.toNat else none
 | _,_=>none
def faVal (off:Nat):AV→Option AV
 | .ref cs=>some (.ref (cs.drop off))
 | .ptr g o=>some (.ptr g (o + off))
 | _=>none
def fldVal (off n:Nat)(agg:Bool):AV→Option AV
 | .agg cs=>if off + n≤cs.length then (if agg then some (.agg ((cs.drop off).take n)) else (cs[off]?).map AV.ro) else none
 | _=>none
def ldcVal (hp:List AObj):AV→Option AV
 | .ref (c :: _)=>some c.ro
 | .ptr g o=>match hp[g]? with
  | some (.cells cs _)=>(cs[o]?).map AV.ro
  | some (.buf _ _ _ m)=>if 2≤o then (m[o - 2]?).map AV.ro else none
  | _=>none
 | _=>none
def ldaVal (hp:List AObj)(n:Nat):AV→Option AV
 | .ref cs=>if n≤cs.length then some (.agg ((cs.take n).map AV.ro)) else none
 | .ptr g o=>match hp[g]? with
  | some (.cells cs _)=>if o + n≤cs.length then some (.agg (((cs.drop o).take n).map AV.ro)) else none
  | _=>none
 | _=>none
def lenVal (hp:List AObj):LenSh→AV→Option AV
 | .str,.str s=>some (.int .i64 s.length)
 | .slice,.lst _ r=>some (.int .i64 r.length)
 | .slice,.arr _ _ n _=>some (.int .i64 n)
 | .map,.nilm=>some (.int .i64 0)
 | .map,.map g=>match hp[g]? with
  | some (.map es)=>some (.int .i64 es.length)
  | _=>none
 | _,_=>none
def keyEq:KSh→AV→AV→Option Bool
 | .one c,a,b=>eqCell c a b
 | .pair c,.agg [x0,x1],.agg [y0,y1]=>match eqCell c x0 y0 with
  | some true=>eqCell c x1 y1
  | r=>r
 | _,_,_=>none
def keyFit:KSh→AV→Bool
 | .one .int,.int _ _=>true
 | .one .bool,.bool _=>true
 | .one .str,.str _=>true
 | .pair .int,.agg [.int _ _,.int _ _]=>true
 | .pair .str,.agg [.str _,.str _]=>true
 | _,_=>false
def find (sh:KSh)(k:AV):List (AV×AV)→Option (Option AV)
 | []=>some none
 | (k',v) :: l=>match keyEq sh k k' with
  | some true=>some (some v)
  | some false=>find sh k l
  | none=>none
def update (sh:KSh)(k v:AV):List (AV×AV)→Option (List (AV×AV))
 | []=>some [(k,v)]
 | (k',v') :: l=>match keyEq sh k k' with
  | some true=>some ((k',v) :: l)
  | some false=>(update sh k v l).map ((k',v') :: ·)
  | none=>none
def lookVal (hp:List AObj)(sh:KSh)(zero x i:AV)(ok:Bool):Option AV :=
 if keyFit sh i=false then none else
 match (match x with
  | .nilm=>some none
  | .map g=>match hp[g]? with
   | some (.map es)=>find sh i es
   | _=>none
  | _=>none) with
 | some (some v)=>some (if ok then .tup [v,.bool true] else v)
 | some none=>some (if ok then .tup [zero,.bool false] else zero)
 | none=>none
def convVal (hp:List AObj):Conv→AV→Option AV
 | .int k,.int _ n=>some (.int k (k.wrap n))
 | .str,.str s=>some (.str s)
 | .bytes,.str s=>some (.lst 1 (s.map byteRow))
 | .ofBytes,x=>match rowsOf hp x with
  | some (1,r)=>(r.mapM byteOf).map .str
  | _=>none
 | _,_=>none
def minL:Int→List AV→Option Int
 | m,[]=>some m
 | m,.int .i64 n :: l=>minL (if n < m then n else m) l
 | _,_=>none
def maxL:Int→List AV→Option Int
 | m,[]=>some m
 | m,.int .i64 n :: l=>maxL (if n > m then n else m) l
 | _,_=>none
def frz1 (bs:Nat)(hp:List AObj):Nat→AV→Option AV
 | d,.arr g off len k=>if g < bs then some (.arr g off len k) else
  match d with
  | 0=>none
  | d + 1=>match hp[g]? with
   | some (.cells cs _)=>if off + len * k≤cs.length then
     (((cs.drop off).take (len * k)).mapM (frz1 bs hp d)).bind fun cs'=>if cs'.all AV.noId1 then some (.lst k (chunk k len cs')) else none
    else none
   | _=>none
 | _,.arrs g off len k m=>if g < bs then some (.arrs g off len k m) else none
 | _,.ptr g o=>if g < bs then some (.ptr g o) else none
 | _,.map g=>if g < bs then some (.map g) else none
 | _,.agg _=>none
 | _,.tup _=>none
 | _,.fn f a cs=>if a.isEmpty && cs.isEmpty then some (.fn f [] []) else none
 | _,v=>some v.ro
def frz2 (bs:Nat)(hp:List AObj):AV→Option AV
 | .agg cs=>(cs.mapM (frz1 bs hp 4)).map .agg
 | v=>frz1 bs hp 4 v
def frz (bs:Nat)(hp:List AObj):AV→Option AV
 | .tup vs=>(vs.mapM (frz2 bs hp)).map .tup
 | .own k r=>some (.own k r)
 | v=>frz2 bs hp v
def AV.lacks1 (g:Nat):AV→Bool
 | .arr h _ _ _ | .arrs h _ _ _ _ | .ptr h _ | .map h=>!Nat.beq h g
 | .fn _ a cs=>a.isEmpty && cs.isEmpty
 | .agg _ | .tup _=>false
 | _=>true
def AV.lacks2 (g:Nat):AV→Bool
 | .fn _ a cs=>a.all (AV.lacks1 g) && cs.all (AV.lacks1 g)
 | .agg cs=>cs.all (AV.lacks1 g)
 | v=>v.lacks1 g
def AV.lacks (g:Nat):AV→Bool
 | .tup vs=>vs.all (AV.lacks2 g)
 | v=>v.lacks2 g
def AObj.lacks (g:Nat):AObj→Bool
 | .cells cs _=>cs.all (AV.lacks g)
 | _=>true
def thaw (g:Nat)(cs:List AV)(v:AV):Option AV :=
 if v.lacks g then some v else match v with
 | .arr _ off len k | .arrs _ off len k _=>if off + len * k≤cs.length then some (.lst k (chunk k len ((cs.map AV.ro).drop off))) else none
 | _=>none
def thawL (g:Nat)(cs:List AV):List AV→Option (List AV)
 | []=>some []
 | v :: l=>match thaw g cs v,thawL g cs l with
  | some x,some r=>some (x :: r)
  | _,_=>none
def lacksFrom (g:Nat):Nat→List AObj→Bool
 | _,[]=>true
 | n,o :: l=>(Nat.beq n g || o.lacks g) && lacksFrom g (n + 1) l
section
variable (G:Nat→Option (List AV))(call:FuncId→List AV→List AObj→Option (AV×List AObj×Eff))
def AState.note (s:AState)(g:Nat)(v:Nat):Eff:=if g < s.bs then Eff.or s.ef (some (g,v)) else s.ef
def AState.let_ (s:AState)(t:Nat):AState:={ s with sl:=s.sl.modify t AV.ro }
def AState.put (s:AState)(d:Option Nat)(v:AV):AState :=
 match d with
 | some d=>{ s with sl:=s.sl.set d v }
 | none=>s
def isOwn:AV→Bool
 | .own .. => true
 | _=>false
def argVals:List AV→List (Nat ⊕ Opnd)→Option (List AV×List AV)
 | sl,[]=>some ([],sl)
 | sl,.inl t :: l=>match sl[t]? with
  | some v=>(argVals (sl.modify t AV.ro) l).map fun p=>(v :: p.1,p.2)
  | none=>none
 | sl,.inr x :: l=>match opnd G sl x with
  | some v=>(argVals sl l).map fun p=>(v :: p.1,p.2)
  | none=>none
def AState.after (s:AState):Eff→Eff
 | some (a,b)=>if a < s.bs then Eff.or s.ef (some (a,b)) else s.ef
 | none=>s.ef
def evalOp (s:AState):AOp→Option (AV×AState)
 | .bad=>none
 | .mv x=>(opnd G s.sl x).map (·,s)
 | .take t=>match s.sl[t]? with
  | some v=>some (v,s.let_ t)
  | none=>none
 | .pick c a b=>match opnd G s.sl c with
  | some (.bool true)=>(opnd G s.sl a).map (·,s)
  | some (.bool false)=>(opnd G s.sl b).map (·,s)
  | _=>none
 | .mk t cells=>some (.ptr s.hp.length 0,{ s with hp:=s.hp ++ [.cells cells t] })
 | .box t n x=>match opnd G s.sl x with
  | some v=>if v.cells.length=n∧v.laid=true then some (.ptr s.hp.length 0,{ s with hp:=s.hp ++ [.cells v.cells t] }) else none
  | none=>none
 | .build zero parts=>match opnds G s.sl (parts.map (·.2.2)) with
  | some vs=>(fill zero ((parts.zip vs).map fun (p,v)=>(p.1,p.2.1,v.nm))).map fun cs=>(.agg cs,s)
  | none=>none
 | .lit e k parts=>match opnds G s.sl parts with
  | some vs=>if vs.all (fun v=>v.cells.length == k && v.cells.all AV.noId1) then some (.own k (vs.map fun v=>v.cells.map AV.ro),s)
   else if vs.all (fun v=>v.cells.length == k && v.laid) then some (.arr s.hp.length 0 vs.length k,{ s with hp:=s.hp ++ [.cells (vs.map AV.cells).flatten e] }) else none
  | none=>none
 | .lita e k parts=>match opnds G s.sl parts with
  | some vs=>if vs.all (fun v=>v.cells.length == k && v.laid) then some (.arr s.hp.length 0 vs.length k,{ s with hp:=s.hp ++ [.cells (vs.map AV.cells).flatten e] }) else none
  | none=>none
 | .ldc p=>match opnd G s.sl p with
  | some p=>(ldcVal s.hp p).map (·,s)
  | none=>none
 | .lda n p=>match opnd G s.sl p with
  | some p=>(ldaVal s.hp n p).map (·,s)
  | none=>none
 | .ldt p=>match opnd G s.sl p with
  | some (.ptr g o)=>match s.hp[g]? with
   | some (.cells cs t)=>match cs[o]? with
    | some v=>some (v.up,{ s with hp:=s.hp.set g (.cells (cs.set o v.ro) t),ef := s.note g 0 })
    | none=>none
   | _=>none
  | _=>none
 | .st n p x=>match opnd G s.sl p,opnd G s.sl x with
  | some (.ptr g o),some v=>match s.hp[g]? with
   | some (.cells cs t)=>if v.cells.length=n∧o + n≤cs.length∧v.laid=true then
     some (.undef,{ s with hp:=s.hp.set g (.cells (splice cs o v.cells) t),ef := s.note g 0 })
    else none
   | some (.buf l t e m)=>if n=1∧2≤o∧o - 2 < m.length∧v.flat1=true∧v.one=true then
     some (.undef,{ s with hp:=s.hp.set g (.buf l t e (m.set (o - 2) v)),ef := s.note g 0 })
    else none
   | _=>none
  | _,_=>none
 | .stt p t=>match opnd G s.sl p,s.sl[t]? with
  | some (.ptr g o),some v=>match s.hp[g]? with
   | some (.cells cs t')=>if v.one=true∧o < cs.length then
     some (.undef,{ s.let_ t with hp:=s.hp.set g (.cells (cs.set o v) t'),ef := s.note g 0 })
    else none
   | _=>none
  | _,_=>none
 | .nilchk x=>match opnd G s.sl x with
  | some (.ref c)=>some (.ref c,s)
  | some (.ptr g o)=>some (.ptr g o,s)
  | some (.fn f a c)=>some (.fn f a c,s)
  | _=>none
 | .bin op sh x y=>match opnd G s.sl x,opnd G s.sl y with
  | some a,some b=>(binVal op sh a b).map (·,s)
  | _,_=>none
 | .un op x=>match opnd G s.sl x with
  | some a=>(unVal op a).map (·,s)
  | none=>none
 | .conv c x=>match opnd G s.sl x with
  | some a=>(convVal s.hp c a).map (·,s)
  | none=>none
 | .mkfn f first caps=>match opnds G s.sl first,opnds G s.sl caps with
  | some us,some vs=>some (.fn f us vs,s)
  | _,_=>none
 | .mkmap=>some (.map s.hp.length,{ s with hp:=s.hp ++ [.map []] })
 | .mksl e zero n=>match opnd G s.sl n with
  | some (.int _ n)=>if 0≤n∧n≤4294967296 then
    some (.arr s.hp.length 0 n.toNat zero.length,{ s with hp:=s.hp ++ [.cells (List.flatten (List.replicate n.toNat zero)) e] })
   else none
  | _=>none
 | .slice sh x lo hi=>match opnd G s.sl x,optOpnd G s.sl lo,optOpnd G s.sl hi with
  | some x,some lo,some hi=>(sliceVal sh x lo hi).map (·,s)
  | _,_,_=>none
 | .slice3 sh x hi mx=>match opnd G s.sl x,opnd G s.sl hi,opnd G s.sl mx with
  | some x,some hi,some mx=>(slice3Val sh x hi mx).map (·,s)
  | _,_,_=>none
 | .fa off x=>match opnd G s.sl x with
  | some x=>(faVal off x).map (·,s)
  | none=>none
 | .fld off n agg x=>match opnd G s.sl x with
  | some x=>(fldVal off n agg x).map (·,s)
  | none=>none
 | .ia sh x i=>match opnd G s.sl x,opnd G s.sl i with
  | some x,some i=>(iaVal sh x i).map (·,s)
  | _,_=>none
 | .idx x i=>match opnd G s.sl x,opnd G s.sl i with
  | some x,some i=>(idxVal x i).map (·,s)
  | _,_=>none
 | .look sh zero x i ok=>match opnd G s.sl x,opnd G s.sl i with
  | some x,some i=>(lookVal s.hp sh zero x i ok).map (·,s)
  | _,_=>none
 | .mupd sh m k v=>match opnd G s.sl m,opnd G s.sl k,opnd G s.sl v with
  | some (.map g),some k,some v=>match s.hp[g]? with
   | some (.map es)=>if keyFit sh k && v.flat1 then match update sh k v es with
     | some es'=>some (.undef,{ s with hp:=s.hp.set g (.map es'),ef := s.note g 0 })
     | none=>none
    else none
   | _=>none
  | _,_,_=>none
 | .range x=>match opnd G s.sl x with
  | some (.str b)=>some (.ptr s.hp.length 0,{ s with hp:=s.hp ++ [.iter b 0] })
  | _=>none
 | .next x=>match opnd G s.sl x with
  | some (.ptr g 0)=>match s.hp[g]? with
   | some (.iter b pos)=>if pos < b.length then
     some (.tup [.bool true,.int .i64 pos,.int .i32 (Utf8.decode ⟨b.toArray⟩ pos).1],{ s with hp:=s.hp.set g (.iter b (pos + (Utf8.decode ⟨b.toArray⟩ pos).2)),ef := s.note g 0 })
    else some (.tup [.bool false],s)
   | _=>none
  | _=>none
 | .extract x i=>match opnd G s.sl x with
  | some (.tup vs)=>(vs[i]?).map fun v=>(v.ro,s)
  | _=>none
 | .len sh x=>match opnd G s.sl x with
  | some x=>(lenVal s.hp sh x).map (·,s)
  | none=>none
 | .app k bytes t x=>match s.sl[t]?,opnd G s.sl x with
  | some (.own k' r),some x=>match rowsOf s.hp x with
   | some (k'',r')=>if k=k'∧k=k''∧r'.all (·.all AV.noId1)∧(r.length + r'.length) * bytes≤140737488355328 then
     some (.own k (r ++ r'),s.let_ t) else none
   | none=>none
  | _,_=>none
 | .apps bytes t x=>match s.sl[t]?,opnd G s.sl x with
  | some (.own k r),some (.str l)=>if k=1∧(r.length + l.length) * bytes≤140737488355328 then some (.own 1 (r ++ l.map byteRow),s.let_ t) else none
  | _,_=>none
 | .appn k bytes x=>match opnd G s.sl x with
  | some x=>match rowsOf s.hp x with
   | some (k'',r')=>if k=k''∧r'.all (·.all AV.noId1)∧r'.length * bytes≤140737488355328 then some (.own k r',s) else none
   | none=>none
  | none=>none
 | .copy k d x=>match opnd G s.sl d,opnd G s.sl x with
  | some (.arr g off len k''),some x=>match rowsOf s.hp x,s.hp[g]? with
   | some (k',r),some (.cells cs t)=>if k=k'∧k=k''∧off + Nat.min r.length len * k≤cs.length∧((r.take (Nat.min r.length len)).flatten.map AV.ro).all AV.one=true then
     some (.int .i64 (Nat.min r.length len:Nat),{ s with hp:=s.hp.set g (.cells (splice cs off ((r.take (Nat.min r.length len)).flatten.map AV.ro)) t),ef := s.note g 0 }) else none
   | _,_=>none
  | some (.lst _ []),some x=>match rowsOf s.hp x with
   | some (k',_)=>if k=k' then some (.int .i64 0,s) else none
   | none=>none
  | _,_=>none
 | .slicez k x hi=>match opnd G s.sl x,opnd G s.sl hi with
  | some x,some h=>(slicezVal k x h).map (·,s)
  | _,_=>none
 | .appz k t x=>match s.sl[t]?,opnd G s.sl x with
  | some (.arrs g off len k' m),some x=>match rowsOf s.hp x,s.hp[g]? with
   | some (k'',r),some (.cells cs ty)=>if k=k'∧k=k''∧len + r.length≤m∧off + len * k + r.length * k≤cs.length∧(r.flatten.map AV.ro).all AV.one=true then
     some (.arr g off (len + r.length) k,{ s with hp:=s.hp.set g (.cells (splice cs (off + len * k) (r.flatten.map AV.ro)) ty),ef := s.note g 0 }) else none
   | _,_=>none
  | _,_=>none
 | .mvz t=>match s.sl[t]? with
  | some (.arr g off len k)=>match s.hp[g]? with
   | some (.cells cs _)=>if s.bs≤g∧off + len * k≤cs.length∧cs.all AV.noId1=true∧lacksFrom g 0 s.hp=true then
     (thawL g cs s.sl).map fun sl=>(.lst k (chunk k len ((cs.map AV.ro).drop off)),{ s with sl:=sl,hp := s.hp.set g .dead }) else none
   | _=>none
  | some v=>some (v.ro,s)
  | none=>none
 | .min xs=>match opnds G s.sl xs with
  | some (.int .i64 n :: l)=>(minL n l).map fun n=>(.int .i64 n,s)
  | _=>none
 | .max xs=>match opnds G s.sl xs with
  | some (.int .i64 n :: l)=>(maxL n l).map fun n=>(.int .i64 n,s)
  | _=>none
 | .call f args=>match opnd G s.sl f,argVals G s.sl args with
  | some (.fn f first caps),some (vs,sl)=>match call f (first.map AV.nm ++ vs ++ caps.map AV.nm) s.hp with
   | some (v,hp,e)=>some (v,{ sl := sl,hp := hp,ef := s.after e,bs := s.bs })
   | none=>none
  | _,_=>none
def wantedA (s:AState):Option (Nat×Bool)→Option Bool
 | none=>some true
 | some (t,want)=>match s.sl[t]? with
  | some (.bool b)=>some (b == want)
  | some .undef=>some false
  | _=>none
def evalOper (o:AOper)(s:AState):Option AState :=
 match wantedA s o.guard with
 | some true=>match evalOp G call s o.op with
  | some (v,s')=>some (s'.put o.dst v)
  | none=>none
 | some false=>some (s.put o.dst .undef)
 | none=>none
def evalOps:List AOper→AState→Option AState
 | [],s=>some s
 | o :: l,s=>match evalOper G call o s with
  | some s'=>evalOps l s'
  | none=>none
def quietOp:AOp→Bool
 | .mv _ | .pick .. | .ldc _ | .lda .. | .nilchk _ | .bin .. | .un .. | .slice .. | .slice3 .. | .fa .. | .fld .. | .ia .. | .idx .. | .extract .. | .len .. | .call .. => true
 | _=>false
def quietCall (f:FuncId)(args:List AV)(hp:List AObj):Option (AV×List AObj×Eff) :=
 match call f args hp with
 | some (v,_,none)=>if v.flat then some (v,hp,none) else none
 | _=>none
def AV.bare:AV→Bool
 | .agg cs=>cs.all AV.noId1
 | v=>v.noId1
def bareCall (f:FuncId)(args:List AV)(hp:List AObj):Option (AV×List AObj×Eff) :=
 if args.all AV.bare then match call f args [] with
  | some (v,hp',none)=>match frz 0 hp' v with
   | some v'=>some (v',hp,none)
   | none=>none
  | _=>none
 else none
def noHand:AOp→Bool
 | .call _ args=>args.all fun | .inr _=>true | .inl _=>false
 | _=>true
def quietAll:List AOper→Bool
 | []=>true
 | o :: l=>quietOp o.op && noHand o.op && quietAll l
inductive HK where
 | free
 | look
 | read
 | set
 | mark
 | alloc
def oR:Opnd→List Nat
 | .tmp t=>[t]
 | _=>[]
def oRs (l:List Opnd):List Nat:=l.flatMap oR
def oRo:Option Opnd→List Nat
 | none=>[]
 | some x=>oR x
def hkind:AOp→Option HK
 | .mv _ | .take _ | .pick .. | .build .. | .nilchk _ | .bin .. | .un .. | .slice .. | .slicez .. | .slice3 .. | .fa .. | .fld .. | .ia .. | .idx .. | .extract .. | .min _ | .max _ | .apps .. => some .free
 | .ldc _ | .lda .. => some .look
 | .len .. | .app .. | .appn .. | .conv .. => some .read
 | .call f args=>if noHand (.call f args) then some .read else none
 | .st .. | .stt .. | .copy .. => some .set
 | .ldt _=>some .mark
 | .lit _ _ []=>some .free
 | .lit .. | .lita .. => some .alloc
 | _=>none
def opReads:AOp→List Nat
 | .mv x | .nilchk x | .un _ x | .fa _ x | .fld _ _ _ x | .extract x _ | .ldc x | .lda _ x | .len _ x | .appn _ _ x | .conv _ x | .ldt x | .box _ _ x=>oR x
 | .take t=>[t]
 | .slicez _ x hi=>oR x ++ oR hi
 | .pick a b c=>oR a ++ (oR b ++ oR c)
 | .build _ parts=>oRs (parts.map (·.2.2))
 | .bin _ _ x y | .ia _ x y | .idx x y | .st _ x y | .copy _ x y=>oR x ++ oR y
 | .slice _ x lo hi=>oR x ++ (oRo lo ++ oRo hi)
 | .slice3 _ x hi mx=>oR x ++ (oR hi ++ oR mx)
 | .min xs | .max xs | .lit _ _ xs | .lita _ _ xs=>oRs xs
 | .app _ _ t x | .apps _ t x=>t :: oR x
 | .stt p t=>t :: oR p
 | .call f args=>oR f ++ args.flatMap fun x=>match x with | .inl t=>[t] | .inr x=>oR x
 | _=>[]
def opTakes:AOp→List Nat
 | .take t | .app _ _ t _ | .apps _ t _ | .stt _ t=>[t]
 | _=>[]
def opReadsO (o:AOper):List Nat:=(match o.guard with | some (t,_)=>[t] | none=>[]) ++ opReads o.op
def opWrites (o:AOper):List Nat:=o.dst.toList ++ opTakes o.op
def apartB (l m:List Nat):Bool:=l.all fun i=>!m.contains i
def hcomm:HK→HK→Bool
 | .free,_ | _,.free=>true
 | .look,.look | .look,.read | .read,.look | .read,.read=>true
 | .look,.mark | .mark,.look | .look,.alloc | .mark,.alloc=>true
 | _,_=>false
def commB (o1 o2:AOper):Bool :=
 (match hkind o1.op,hkind o2.op with
  | some k1,some k2=>hcomm k1 k2
  | _,_=>false) && apartB (opWrites o1) (opReadsO o2) && apartB (opWrites o1) (opWrites o2) && apartB (opWrites o2) (opReadsO o1)
def stT:AOp→List Nat
 | .st _ _ (.tmp t)=>[t]
 | _=>[]
def stPat1 (ds:List Nat)(o:AOper):Bool:=match o.op,o.guard with
 | .lda _ (.tmp p),none=>!ds.contains p && o.dst.isSome
 | .st _ (.tmp p) (.tmp _),none=>!ds.contains p && o.dst.isNone
 | _,_=>false
def stPat (ops:List AOper):Bool:=ops.all (stPat1 (ops.filterMap AOper.dst)) && ops.any fun o=>o.dst.isNone
def slotsB (x y:AOper):Bool:=(match x.dst with
 | some d=>!(y.dst == some d) && !(stT y.op).contains d
 | none=>true) && (match y.dst with
 | some d=>!(stT x.op).contains d
 | none=>true)
def stObj (s:AState):AOp→Option (Bool×Nat)
 | .lda _ (.tmp p)=>match s.sl[p]? with
  | some (.ptr g _)=>some (false,g)
  | _=>none
 | .st _ (.tmp p) _=>match s.sl[p]? with
  | some (.ptr g _)=>some (true,g)
  | _=>none
 | _=>none
def stApart (s:AState)(x y:AOper):Bool:=match stObj s x.op,stObj s y.op with
 | some (a,g),some (b,h)=>(!a && !b) || !Nat.beq g h
 | _,_=>false
def pairsB {α:Type}(f:α→α→Bool):List α→Bool
 | []=>true
 | x :: l=>l.all (f x) && pairsB f l
def stAll (s:AState)(ops:List AOper):Bool:=(ops.all fun o=>match stObj s o.op with
 | some (b,g)=>!b || Nat.ble s.bs g
 | none=>false) && pairsB (stApart s) ops
def stOk (s:AState)(ops:List AOper):Bool:=!stPat ops || stAll s ops
inductive RC where
 | pre
 | at (r:Nat)
 | any
def isAlloc (o:AOper):Bool:=match o.op,o.guard,o.dst with
 | .mk ..,none,some _=>true
 | .box ..,none,some _=>true
 | _,_,_=>false
def allocSlots (l:List AOper):List Nat:=l.filterMap fun o=>if isAlloc o then o.dst else none
def setSlot (o:AOper):Option Nat:=match o.op,o.guard with
 | .st _ (.tmp t) _,none=>some t
 | .stt (.tmp t) _,none=>some t
 | _,_=>none
def isPre (o:AOper):Bool:=match hkind o.op with
 | some .free | some .look | some .read=>true
 | _=>false
def isFree (o:AOper):Bool:=match hkind o.op with
 | some .free=>true
 | _=>false
def isSet (o:AOper):Bool:=match hkind o.op with
 | some .set=>true
 | _=>false
def idx (t:Nat):List Nat→Option Nat
 | []=>none
 | u :: l=>if u=t then some 0 else (idx t l).map (· + 1)
def rcls (sl:List Nat)(o:AOper):RC :=
 match isAlloc o with
 | true=>match o.dst with
  | some d=>match idx d sl with
   | some r=>.at r
   | none=>.any
  | none=>.any
 | false=>match setSlot o with
  | some t=>match idx t sl with
   | some r=>.at r
   | none=>.any
  | none=>if isPre o then .pre else .any
def slotsApart (o1 o2:AOper):Bool:=apartB (opWrites o1) (opReadsO o2) && apartB (opWrites o1) (opWrites o2) && apartB (opWrites o2) (opReadsO o1)
def commR (sl:List Nat)(o1 o2:AOper):Bool :=
 (match rcls sl o1,rcls sl o2 with
  | .pre,.pre | .pre,.at _ | .at _,.pre=>true
  | .at r,.at q=>r != q
  | _,_=>false) && slotsApart o1 o2
def okFrom (sl:List Nat):Nat→List AOper→Bool
 | k,[]=>k == sl.length
 | k,o :: l=>match isAlloc o with
  | true=>(o.dst == sl[k]?) && okFrom sl (k + 1) l
  | false=>(isFree o || (isPre o && k == 0) || (isSet o && k == sl.length)) && apartB (opWrites o) sl && okFrom sl k l
def nodupB:List Nat→Bool
 | []=>true
 | u :: l=>!l.contains u && nodupB l
def iter (body:AState→Option (AExit×AState)):Nat→AState→Option (AExit×AState)
 | 0,_=>none
 | n + 1,s=>match body s with
  | some (.normal,s')=>iter body n s'
  | r=>r
variable (L:Nat)
def evalCode:ACode→AState→Option (AExit×AState)
 | .skip,s=>some (.normal,s)
 | .region false ops,s=>(evalOps G call ops s).map (.normal,·)
 | .region true ops,s=>(evalOps G (quietCall call) ops s).map (.normal,·)
 | .regionB ops,s=>if stOk s ops=true then (evalOps G (bareCall call) ops s).map (.normal,·) else none
 | .seq a b,s=>match evalCode a s with
  | some (.normal,s')=>evalCode b s'
  | r=>r
 | .cond c a b,s=>match opnd G s.sl c with
  | some (.bool true)=>evalCode a s
  | some (.bool false)=>evalCode b s
  | _=>none
 | .block id c,s=>match evalCode c s with
  | some (.exit i,s')=>if i=id then some (.normal,s') else some (.exit i,s')
  | r=>r
 | .loop c,s=>iter (evalCode c) L s
 | .scope c,s=>evalCode c s
 | .exit id,s=>some (.exit id,s)
 | .ret,s=>some (.ret,s)
 | .bad,_=>none
end
def AV.under1 (bs:Nat):AV→Bool
 | .arr g _ _ _ | .ptr g _ | .map g=>g < bs
 | v=>v.noId1
def AV.under (bs:Nat):AV→Bool
 | .fn _ a cs=>a.all (AV.under1 bs) && cs.all (AV.under1 bs)
 | v=>v.under1 bs
def AObj.under (bs:Nat):AObj→Bool
 | .cells cs _=>cs.all (AV.under bs)
 | _=>true
def finish (v:AV)(s:AState)(hp0:List AObj):AV×List AObj×Eff :=
 match frz s.bs s.hp v with
 | some v'=>match s.ef with
  | none=>(v',hp0,none)
  | some e=>if (s.hp.take s.bs).all (AObj.under s.bs) then (v',s.hp.take s.bs,some e) else (v.nm,s.hp,s.ef)
 | none=>(v.nm,s.hp,s.ef)
def resVal (s:AState):ARes→Option AV
 | .tmp t=>s.sl[t]?
 | .one t=>match s.sl[t]? with
  | some v=>ldcVal s.hp v
  | none=>none
 | .agg t n=>match s.sl[t]? with
  | some v=>ldaVal s.hp n v
  | none=>none
def resVals (s:AState):List ARes→Option (List AV)
 | []=>some []
 | r :: l=>match resVal s r,resVals s l with
  | some v,some vs=>some (v.nm :: vs)
  | _,_=>none
def resultOf (s:AState):List ARes→Option AV
 | [r]=>resVal s r
 | rs=>(resVals s rs).map .tup
structure Cfg where
 G:Nat→Option (List AV)
 T:FuncId→Option AFn
 O:FuncId→List AV→List AObj→Option (AV×List AObj×Eff)
 L:Nat
def evalCall (C:Cfg):Nat→FuncId→List AV→List AObj→Option (AV×List AObj×Eff)
 | 0,_,_,_=>none
 | n + 1,f,args,hp=>match C.T f with
  | some fn=>match evalCode C.G (evalCall C n) C.L fn.code ⟨args ++ List.replicate (fn.ntmps - args.length) .undef,hp,none,hp.length⟩ with
   | some (.exit _,_)=>none
   | some (_,s)=>match resultOf s fn.results with
    | some v=>some (if fn.keep then (v.nm,s.hp,s.ef) else finish v s hp)
    | none=>none
   | none=>none
  | none=>C.O f args hp
end Go.Proofs.YtcfjcimhjmpkiaaGreatDoor.Abs
end
section
namespace Go.Proofs.YtcfjcimhjmpkiaaGreatDoor.Abs
open Go Go.RowKit
inductive Loc where
 | slot (t:Nat)
 | cell (g i:Nat)
 | res
 | outer
 | arg (j:Nat)
 deriving DecidableEq
inductive Kind where
 | imm
 | own (g:Nat)
 | list (n:Nat) (l:Loc)
abbrev Ghost:=Nat→Kind
def FixedK (o:Nat):Kind→Prop
 | .imm=>True
 | .own _=>False
 | .list n _=>o < n
def Fixed (Γ:Ghost)(b o:Nat):Prop:=FixedK o (Γ b)
inductive Rep (Γ:Ghost)(w:World):AV→Value→Prop
 | undef:Rep Γ w .undef (.tuple #[])
 | bool (b:Bool):Rep Γ w (.bool b) (.bool b)
 | int (k:IntKind) (n:Int):Rep Γ w (.int k n) (.int k n)
 | str (s:List UInt8):Rep Γ w (.str s) (.string ⟨s.toArray⟩)
 | nilp:Rep Γ w .nilp (.pointer none)
 | nilf:Rep Γ w .nilf .nilFunc
 | nilm:Rep Γ w .nilm (.map none)
 | nili:Rep Γ w .nili .nilIface
 | nils (k:Nat):Rep Γ w (.nils k) (.slice none 0 0)
 | lstNil (k:Nat):Rep Γ w (.lst k []) (.slice none 0 0)
 | lstE (k:Nat) (A:Addr) (cap:Nat):Rep Γ w (.lst k []) (.slice (some A) 0 cap)
 | lst (k:Nat) (rows:List (List AV)) (b o cap:Nat) (cv:Nat→Nat→Value) (hlen:rows.length≤cap) (hk:∀ r ∈ rows,r.length=k)
   (hc:∀ (i j:Nat) (r:List AV) (c:AV),rows[i]? = some r→r[j]? = some c→w.cell? ⟨b,o + (i * k + j),none⟩=some (cv i j)∧Fixed Γ b (o + (i * k + j))∧c.noId1=true)
   (hr:∀ (i j:Nat) (r:List AV) (c:AV),rows[i]? = some r→r[j]? = some c→Rep Γ w c (cv i j)):Rep Γ w (.lst k rows) (.slice (some ⟨b,o,none⟩) rows.length cap)
 | own (k:Nat) (rows:List (List AV)) (v:Value) (h:Rep Γ w (.lst k rows) v):Rep Γ w (.own k rows) v
 | arr (g off len k cap b:Nat) (hb:Γ b=.own g) (hc:len≤cap):Rep Γ w (.arr g off len k) (.slice (some ⟨b,off,none⟩) len cap)
 | arrs (g off len k m cap b:Nat) (hb:Γ b=.own g) (hc:len≤cap) (hm:m≤cap):Rep Γ w (.arrs g off len k m) (.slice (some ⟨b,off,none⟩) len cap)
 | ref (cells:List AV) (b o:Nat) (cv:Nat→Value)
   (hc:∀ (j:Nat) (c:AV),cells[j]? = some c→w.cell? ⟨b,o + j,none⟩=some (cv j)∧Fixed Γ b (o + j)∧c.noId1=true)
   (hr:∀ j c,cells[j]? = some c→Rep Γ w c (cv j)):Rep Γ w (.ref cells) (.pointer (some ⟨b,o,none⟩))
 | ptr (g off b:Nat) (hb:Γ b=.own g):Rep Γ w (.ptr g off) (.pointer (some ⟨b,off,none⟩))
 | map (g b:Nat) (hb:Γ b=.own g):Rep Γ w (.map g) (.map (some b))
 | fn (f:FuncId) (first caps:List AV) (fv cv:Array Value) (hs1:fv.size=first.length) (hr1:∀ j c,first[j]? = some c→Rep Γ w c (fv.getD j undef))
   (hs:cv.size=caps.length) (hr:∀ j c,caps[j]? = some c→Rep Γ w c (cv.getD j undef)):Rep Γ w (.fn f first caps) (.func (.func f) fv cv)
 | agg (cells:List AV) (cv:Array Value) (hs:cv.size=cells.length)
   (h1:∀ (j:Nat) (c:AV),cells[j]? = some c→c.one=true) (hn:∀ j k r,cells[j]? = some (.own k r)→r=[]∧cv.getD j undef=.slice none 0 0)
   (hr:∀ j c,cells[j]? = some c→Rep Γ w c (cv.getD j undef)):Rep Γ w (.agg cells) (.agg cv)
 | tup (vs:List AV) (cv:Array Value) (hs:cv.size=vs.length) (hr:∀ j c,vs[j]? = some c→Rep Γ w c (cv.getD j undef)):Rep Γ w (.tup vs) (.tuple cv)
def FixMono (Γ:Ghost)(w:World)(Γ':Ghost)(w':World):Prop :=
 ∀ b o v,Fixed Γ b o→w.cell? ⟨b,o,none⟩=some v→Fixed Γ' b o∧w'.cell? ⟨b,o,none⟩=some v
def OwnMono (Γ Γ':Ghost):Prop:=∀ b g,Γ b=.own g→Γ' b=.own g
theorem FixMono.refl (Γ:Ghost)(w:World):FixMono Γ w Γ w:=fun _ _ _ h1 h2=>⟨h1,h2⟩
theorem FixMono.trans {Γ Γ1 Γ2:Ghost}{w w1 w2:World}(h:FixMono Γ w Γ1 w1)(h':FixMono Γ1 w1 Γ2 w2):FixMono Γ w Γ2 w2 :=
 fun b o v h1 h2=>let ⟨a1,a2⟩:=h b o v h1 h2; h' b o v a1 a2
theorem OwnMono.refl (Γ:Ghost):OwnMono Γ Γ:=fun _ _ h=>h
theorem OwnMono.trans {Γ Γ1 Γ2:Ghost}(h:OwnMono Γ Γ1)(h':OwnMono Γ1 Γ2):OwnMono Γ Γ2:=fun b g hg=>h' b g (h b g hg)
theorem Rep.mono {Γ Γ':Ghost}{w w':World}(hf:FixMono Γ w Γ' w')(ho:OwnMono Γ Γ'){x:AV}{v:Value}(h:Rep Γ w x v):Rep Γ' w' x v:=by
 induction h with
 | undef=>exact .undef
 | bool b=>exact .bool b
 | int k n=>exact .int k n
 | str s=>exact .str s
 | nilp=>exact .nilp
 | nilf=>exact .nilf
 | nilm=>exact .nilm
 | nili=>exact .nili
 | nils k=>exact .nils k
 | lstNil k=>exact .lstNil k
 | lstE k A cap=>exact .lstE k A cap
 | lst k rows b o cap cv hlen hk hc hr ih =>
  refine .lst k rows b o cap cv hlen hk (fun i j r c h1 h2=>?_) (fun i j r c h1 h2=>ih i j r c h1 h2)
  obtain ⟨a1,a2,a3⟩:=hc i j r c h1 h2
  obtain ⟨b1,b2⟩:=hf _ _ _ a2 a1
  exact ⟨b2,b1,a3⟩
 | own k rows v h ih=>exact .own k rows v ih
 | arr g off len k cap b hb hc=>exact .arr g off len k cap b (ho b g hb) hc
 | arrs g off len k m cap b hb hc hm=>exact .arrs g off len k m cap b (ho b g hb) hc hm
 | ref cells b o cv hc hr ih =>
  refine .ref cells b o cv (fun j c h1=>?_) (fun j c h1=>ih j c h1)
  obtain ⟨a1,a2,a3⟩:=hc j c h1
  obtain ⟨b1,b2⟩:=hf _ _ _ a2 a1
  exact ⟨b2,b1,a3⟩
 | ptr g off b hb=>exact .ptr g off b (ho b g hb)
 | map g b hb=>exact .map g b (ho b g hb)
 | fn f first caps fv cv hs1 hr1 hs hr ih1 ih=>exact .fn f first caps fv cv hs1 (fun j c h=>ih1 j c h) hs (fun j c h=>ih j c h)
 | agg cells cv hs h1 hn hr ih=>exact .agg cells cv hs h1 hn (fun j c h=>ih j c h)
 | tup vs cv hs hr ih=>exact .tup vs cv hs (fun j c h=>ih j c h)
theorem Rep.noId {Γ Γ':Ghost}{w w':World}(hf:FixMono Γ w Γ' w'){x:AV}{v:Value}(h:Rep Γ w x v):x.noId1=true→Rep Γ' w' x v:=by
 induction h with
 | undef=>intro h; cases h
 | bool b=>intro; exact .bool b
 | int k n=>intro; exact .int k n
 | str s=>intro; exact .str s
 | nilp=>intro; exact .nilp
 | nilf=>intro; exact .nilf
 | nilm=>intro; exact .nilm
 | nili=>intro; exact .nili
 | nils k=>intro; exact .nils k
 | lstNil k=>intro; exact .lstNil k
 | lstE k A cap=>intro; exact .lstE k A cap
 | lst k rows b o cap cv hlen hk hc hr ih =>
  intro _
  refine .lst k rows b o cap cv hlen hk (fun i j r c h1 h2=>?_) (fun i j r c h1 h2=>ih i j r c h1 h2 (hc i j r c h1 h2).2.2)
  obtain ⟨a1,a2,a3⟩:=hc i j r c h1 h2
  obtain ⟨b1,b2⟩:=hf _ _ _ a2 a1
  exact ⟨b2,b1,a3⟩
 | own k rows v h ih=>intro _; exact .own k rows v (ih rfl)
 | arr g off len k cap b hb hc=>intro h; cases h
 | arrs g off len k m cap b hb hc hm=>intro h; cases h
 | ref cells b o cv hc hr ih =>
  intro _
  refine .ref cells b o cv (fun j c h1=>?_) (fun j c h1=>ih j c h1 (hc j c h1).2.2)
  obtain ⟨a1,a2,a3⟩:=hc j c h1
  obtain ⟨b1,b2⟩:=hf _ _ _ a2 a1
  exact ⟨b2,b1,a3⟩
 | ptr g off b hb=>intro h; cases h
 | map g b hb=>intro h; cases h
 | fn f first caps fv cv hs1 hr1 hs hr ih1 ih =>
  intro h
  have:first=[]∧caps=[]:=by simpa [AV.noId1] using h
  obtain ⟨rfl,rfl⟩:=this
  exact .fn f [] [] fv cv hs1 (fun j c h=>by simp at h) hs (fun j c h=>by simp at h)
 | agg cells cv hs h1 hn hr ih=>intro h; cases h
 | tup vs cv hs hr ih=>intro h; cases h
theorem Rep.ro {Γ:Ghost}{w:World}{x:AV}{v:Value}(h:Rep Γ w x v):Rep Γ w x.ro v:=by
 cases h <;> simp only [AV.ro]
 case own k rows h=>exact h
 all_goals first
  | exact .undef | exact .bool _ | exact .int _ _ | exact .str _ | exact .nilp | exact .nilf | exact .nilm | exact .nili | exact .lstNil _ | exact .lstE _ _ _
  | (apply Rep.lst <;> assumption) | (apply Rep.arr <;> assumption) | (apply Rep.arrs <;> assumption) | (apply Rep.ref <;> assumption) | (apply Rep.ptr <;> assumption) | (apply Rep.map <;> assumption)
  | (apply Rep.fn <;> assumption) | (apply Rep.agg <;> assumption) | (apply Rep.tup <;> assumption)
theorem one_ro (x:AV):x.ro.one=x.one:=by cases x <;> rfl
theorem noId1_ro (x:AV):x.ro.noId1=x.noId1:=by cases x <;> rfl
theorem noId1_one {x:AV}(h:x.noId1=true):x.one=true:=by cases x <;> first | rfl | cases h
theorem ro_ne_own {x:AV}{k:Nat}{r:List (List AV)}:x.ro≠.own k r:=by cases x <;> simp [AV.ro]
theorem Rep.oneCell {Γ:Ghost}{w:World}{x:AV}{v:Value}(h:Rep Γ w x v)(h1:x.one=true):v.oneCell'=true:=by
 induction h <;> first | rfl | (cases h1; done) | skip
 case own h ih=>exact ih rfl
theorem Rep.nm {Γ:Ghost}{w:World}{x:AV}{v:Value}(h:Rep Γ w x v):Rep Γ w x.nm v:=by
 cases h <;> simp only [AV.nm]
 case own k rows h=>exact h
 case agg cells cv hs h1 hn hr =>
  refine .agg _ cv (by simpa using hs) (fun j c h=>?_) (fun j k r h=>?_) (fun j c h=>?_)
  ·rw [List.getElem?_map] at h
   obtain ⟨c',h',rfl⟩:=Option.map_eq_some_iff.1 h
   rw [one_ro]; exact h1 j c' h'
  ·rw [List.getElem?_map] at h
   obtain ⟨c',h',e⟩:=Option.map_eq_some_iff.1 h
   exact absurd e ro_ne_own
  ·rw [List.getElem?_map] at h
   obtain ⟨c',h',rfl⟩:=Option.map_eq_some_iff.1 h
   exact (hr j c' h').ro
 all_goals first
  | exact .undef | exact .bool _ | exact .int _ _ | exact .str _ | exact .nilp | exact .nilf | exact .nilm | exact .nili | exact .lstNil _ | exact .lstE _ _ _
  | (apply Rep.lst <;> assumption) | (apply Rep.arr <;> assumption) | (apply Rep.arrs <;> assumption) | (apply Rep.ref <;> assumption) | (apply Rep.ptr <;> assumption) | (apply Rep.map <;> assumption)
  | (apply Rep.fn <;> assumption) | (apply Rep.tup <;> assumption)
def OwnAt (Γ:Ghost)(w:World)(l:Loc)(x:AV)(v:Value):Prop :=
 ∀ k rows,x=.own k rows→(v=.slice none 0 0∧rows=[]) ∨
  ∃ b cap e cur,v=.slice (some ⟨b,0,none⟩) rows.length cap∧Γ b=.list (rows.length * k) l∧w.heap[b]? = some (.cells cur e (0,0))∧rows.length≤cap∧cap≤maxLen∧cur.size=cap * k ∧
   (∀ r ∈ rows,r.length=k)∧∀ (i j:Nat) (r:List AV) (c:AV),rows[i]? = some r→r[j]? = some c→c.noId1=true∧Rep Γ w c (cur.getD (i * k + j) undef)
theorem OwnAt.of_ro (Γ:Ghost)(w:World)(l:Loc)(x:AV)(v:Value):OwnAt Γ w l x.ro v:=fun _ _ h=>absurd h ro_ne_own
theorem OwnAt.of_ne {Γ:Ghost}{w:World}{l:Loc}{x:AV}{v:Value}(h:∀ k r,x≠.own k r):OwnAt Γ w l x v:=fun k r e=>absurd e (h k r)
theorem OwnAt.nil {Γ:Ghost}{w:World}{l:Loc}{x:AV}{v:Value}(h:∀ k r,x=.own k r→r=[]∧v=.slice none 0 0):OwnAt Γ w l x v :=
 fun k r e=>.inl ⟨(h k r e).2,(h k r e).1⟩
theorem OwnAt.mono {Γ Γ':Ghost}{w w':World}{l l':Loc}{x:AV}{v:Value}(hf:FixMono Γ w Γ' w')(ho:OwnMono Γ Γ')
  (hb:∀ b n,Γ b=.list n l→Γ' b=.list n l'∧w'.heap[b]? = w.heap[b]?) (h:OwnAt Γ w l x v):OwnAt Γ' w' l' x v:=by
 intro k rows e
 rcases h k rows e with h | ⟨b,cap,e,cur,hv,hg,hh,h1,h2,h3,h4,h5⟩
 ·exact .inl h
 ·obtain ⟨g1,g2⟩:=hb b _ hg
  exact .inr ⟨b,cap,e,cur,hv,g1,g2.trans hh,h1,h2,h3,h4,fun i j r c a1 a2=>⟨(h5 i j r c a1 a2).1,(h5 i j r c a1 a2).2.mono hf ho⟩⟩
def BufAt (Γ:Ghost)(w:World)(g b:Nat)(l:List UInt8)(e:TypeId)(m:List AV)(C:Array Value):Prop :=
 m.all AV.flat1=true∧((l=[]∧(C=(.pointer none :: .slice none 0 0 :: m.map AV.conc1).toArray∨C=(.pointer (some ⟨b,0,none⟩) :: .slice none 0 0 :: m.map AV.conc1).toArray)) ∨
  ∃ k cap cur,C=(.pointer (some ⟨b,0,none⟩) :: .slice (some ⟨k,0,none⟩) l.length cap :: m.map AV.conc1).toArray∧Γ k=.list l.length (.cell g 1)∧w.heap[k]? = some (.cells cur e (0,0))∧l.length≤cap∧cap≤maxLen∧cur.size=cap ∧
   ∀ (j:Nat) (x:UInt8),l[j]? = some x→cur[j]? = some (.int .u8 x.toNat))
theorem BufAt.mono {Γ Γ':Ghost}{w w':World}{g b:Nat}{l:List UInt8}{e:TypeId}{m:List AV}{C:Array Value}(hb:∀ b n i,Γ b=.list n (.cell g i)→Γ' b=.list n (.cell g i)∧w'.heap[b]? = w.heap[b]?)(h:BufAt Γ w g b l e m C):BufAt Γ' w' g b l e m C:=by
 obtain ⟨hm,h⟩:=h
 refine ⟨hm,?_⟩
 rcases h with h | ⟨k,cap,cur,h1,h2,h3,h4⟩
 ·exact .inl h
 ·obtain ⟨e1,e2⟩:=hb k _ _ h2
  exact .inr ⟨k,cap,cur,h1,e1,e2.trans h3,h4⟩
theorem BufAt.cell {Γ:Ghost}{w:World}{g b:Nat}{l:List UInt8}{e:TypeId}{m:List AV}{C:Array Value}(h:BufAt Γ w g b l e m C){o:Nat}{v:AV}(hv:m[o]? = some v):C[o + 2]? = some v.conc1∧v.flat1=true:=by
 refine ⟨?_,List.all_eq_true.1 h.1 v (List.mem_of_getElem? hv)⟩
 rcases h.2 with ⟨_,rfl | rfl⟩ | ⟨k,cap,cur,rfl,_⟩ <;> simp [hv]
theorem BufAt.put {Γ:Ghost}{w:World}{g b:Nat}{l:List UInt8}{e:TypeId}{m:List AV}{C:Array Value}(h:BufAt Γ w g b l e m C){o:Nat}{v:AV}(hv:v.flat1=true):BufAt Γ w g b l e (m.set o v) (C.setIfInBounds (o + 2) v.conc1):=by
 refine ⟨List.all_eq_true.2 fun c hc=>?_,?_⟩
 ·rcases List.mem_or_eq_of_mem_set hc with h' | rfl
  ·exact List.all_eq_true.1 h.1 c h'
  ·exact hv
 ·rcases h.2 with ⟨hl,rfl | rfl⟩ | ⟨k,cap,cur,rfl,hr⟩
  ·exact .inl ⟨hl,.inl (by simp [List.map_set])⟩
  ·exact .inl ⟨hl,.inr (by simp [List.map_set])⟩
  ·exact .inr ⟨k,cap,cur,by simp [List.map_set],hr⟩
theorem BufAt.size {Γ:Ghost}{w:World}{g b:Nat}{l:List UInt8}{e:TypeId}{m:List AV}{C:Array Value}(h:BufAt Γ w g b l e m C):C.size=m.length + 2:=by
 rcases h.2 with ⟨_,rfl | rfl⟩ | ⟨k,cap,cur,rfl,_⟩ <;> simp
def ObjRel (Γ:Ghost)(w:World)(g:Nat):AObj→Prop
 | .dead=>True
 | .cells cs t=>∃ b C,Γ b=.own g∧w.heap[b]? = some (.cells C t (0,0))∧C.size=cs.length ∧
   ∀ (i:Nat) (c:AV),cs[i]? = some c→c.one=true∧Rep Γ w c (C.getD i undef)∧OwnAt Γ w (.cell g i) c (C.getD i undef)
 | .map es=>∃ b ms clk,Γ b=.own g∧w.heap[b]? = some (.map ms clk)∧ms.size=es.length ∧
   ∀ (i:Nat) (e:AV×AV),es[i]? = some e→∃ m,ms[i]? = some m∧e.1.flat=true∧e.2.flat1=true∧m.key=e.1.conc∧m.val=e.2.conc1
 | .iter s pos=>∃ b,Γ b=.own g∧w.heap[b]? = some (.stringIter ⟨s.toArray⟩ pos)
 | .buf l t e m=>∃ b C,Γ b=.own g∧w.heap[b]? = some (.cells C t (0,0))∧BufAt Γ w g b l e m C
structure RW (W0:World)(Γ:Ghost)(w:World)(hp:List AObj):Prop where
 objs:∀ g o,hp[g]? = some o→ObjRel Γ w g o
 inj:∀ b b' g,Γ b=.own g→Γ b'=.own g→b=b'
 fresh:∀ b,w.heap.size≤b→Γ b=.imm
 lt:∀ b g,Γ b=.own g→g < hp.length
 old:Below W0.heap.size W0 w
 oldImm:∀ b,b < W0.heap.size→Γ b=.imm
 dead:∀ g,hp[g]? = some .dead→∀ b,Γ b≠.own g
def Spared (e:Eff)(g:Nat):Prop:=∀ a b,e=some (a,b)→g < a
def Kept (e:Eff):Kind→Prop
 | .imm=>True
 | .own g=>Spared e g
 | .list _ .outer=>True
 | .list _ (.cell g _)=>Spared e g
 | .list _ _=>False
structure Frame (Γ0:Ghost)(w0:World)(Γ:Ghost)(w:World)(e:Eff):Prop where
 os:w.os=w0.os
 tape:w.tape=w0.tape
 output:w.output=w0.output
 size:w0.heap.size≤w.heap.size
 fix:FixMono Γ0 w0 Γ w
 own:OwnMono Γ0 Γ
 keep:∀ b,b < w0.heap.size→Kept e (Γ0 b)→Γ b=Γ0 b∧w.heap[b]? = w0.heap[b]?
theorem cell_heap {w w':World}{b o:Nat}(h:w'.heap[b]? = w.heap[b]?):w'.cell? ⟨b,o,none⟩=w.cell? ⟨b,o,none⟩:=by simp [World.cell?,h]
theorem lt_of_cell {w:World}{b o:Nat}{v:Value}(h:w.cell? ⟨b,o,none⟩=some v):b < w.heap.size:=World.block_lt_of_cell? w _ h
theorem lt_of_some {w:World}{b:Nat}{x:Obj}(h:w.heap[b]? = some x):b < w.heap.size:=(Array.getElem?_eq_some_iff.1 h).1
theorem Frame.refl (Γ:Ghost)(w:World)(e:Eff):Frame Γ w Γ w e :=
 ⟨rfl,rfl,rfl,Nat.le_refl _,.refl _ _,.refl _,fun _ _ _=>⟨rfl,rfl⟩⟩
structure Slots (Γ:Ghost)(w:World)(sl:List AV)(tmps:Array Value):Prop where
 size:tmps.size=sl.length
 rep:∀ t v,sl[t]? = some v→Rep Γ w v (tmps.getD t undef)
 own:∀ t v,sl[t]? = some v→OwnAt Γ w (.slot t) v (tmps.getD t undef)
structure Entry where
 W0:World
 Γ0:Ghost
 w0:World
structure Inv (E:Entry)(s:AState)(Γ:Ghost)(a:Act)(w:World):Prop where
 defers:a.defers=[]
 slots:Slots Γ w s.sl a.tmps
 rw:RW E.W0 Γ w s.hp
 fr:Frame E.Γ0 E.w0 Γ w s.ef
 base:∀ b g,E.Γ0 b=.own g→g < s.bs
 base2:∀ b n g i,E.Γ0 b=.list n (.cell g i)→g < s.bs
 le:s.bs≤s.hp.length
 back:∀ b g,Γ b=.own g→g < s.bs→E.Γ0 b=.own g
end Go.Proofs.YtcfjcimhjmpkiaaGreatDoor.Abs
end
section
namespace Go.Proofs.YtcfjcimhjmpkiaaGreatDoor.Abs
open Go Go.RowKit
def relabK (l:Loc)(f:Nat→Kind):Kind→Kind
 | .imm=>.imm
 | .own g=>.own g
 | .list n m=>if m=l then f n else .list n m
def relab (Γ:Ghost)(l:Loc)(f:Nat→Kind):Ghost:=fun b=>relabK l f (Γ b)
def toImm:Nat→Kind:=fun _=>.imm
def toLoc (l:Loc):Nat→Kind:=fun n=>.list n l
theorem relab_own {Γ:Ghost}{l:Loc}{f:Nat→Kind}:OwnMono Γ (relab Γ l f):=by
 intro b g h
 simp only [relab,h,relabK]
theorem relab_fix {Γ:Ghost}{w:World}{l:Loc}{f:Nat→Kind}(hf:∀ n o,o < n→FixedK o (f n)):FixMono Γ w (relab Γ l f) w:=by
 intro b o v h1 h2
 refine ⟨?_,h2⟩
 unfold Fixed relab at *
 cases h:Γ b with
 | imm=>simp [relabK,FixedK]
 | own g=>rw [h] at h1; exact h1.elim
 | list n m =>
  rw [h] at h1
  simp only [relabK]
  split
  ·exact hf n o h1
  ·exact h1
theorem toImm_fix (n o:Nat)(_:o < n):FixedK o (toImm n):=trivial
theorem toLoc_fix {l:Loc}(n o:Nat)(h:o < n):FixedK o (toLoc l n):=h
theorem relab_imm {Γ:Ghost}{l:Loc}{f:Nat→Kind}{b:Nat}(h:Γ b=.imm):relab Γ l f b=.imm:=by simp [relab,h,relabK]
theorem relab_other {Γ:Ghost}{l:Loc}{f:Nat→Kind}{b n:Nat}{m:Loc}(h:Γ b=.list n m)(hne:m≠l):relab Γ l f b=.list n m:=by simp [relab,h,relabK,hne]
theorem relab_at {Γ:Ghost}{l:Loc}{f:Nat→Kind}{b n:Nat}(h:Γ b=.list n l):relab Γ l f b=f n:=by simp [relab,h,relabK]
def ListF (f:Nat→Kind):Prop:=∀ n g,f n≠.own g
theorem toImm_listF:ListF toImm:=fun _ _ h=>by cases h
theorem toLoc_listF {l:Loc}:ListF (toLoc l):=fun _ _ h=>by cases h
theorem relab_own_inv {Γ:Ghost}{l:Loc}{f:Nat→Kind}(hf:ListF f){b g:Nat}(h:relab Γ l f b=.own g):Γ b=.own g:=by
 unfold relab at h
 cases hb:Γ b with
 | imm=>rw [hb] at h; cases h
 | own g'=>rw [hb] at h; exact h
 | list n m =>
  rw [hb] at h
  simp only [relabK] at h
  split at h
  ·exact absurd h (hf n g)
  ·cases h
theorem ObjRel.relab {Γ:Ghost}{w:World}{g:Nat}{o:AObj}{l:Loc}{f:Nat→Kind}(hf:∀ n o,o < n→FixedK o (f n))(hl:∀ i,l≠.cell g i)(h:ObjRel Γ w g o):ObjRel (relab Γ l f) w g o:=by
 cases o with
 | dead=>trivial
 | cells cs t =>
  obtain ⟨b,C,h1,h2,h3,h4⟩:=h
  refine ⟨b,C,relab_own b g h1,h2,h3,fun i c hc=>?_⟩
  obtain ⟨a1,a2,a3⟩:=h4 i c hc
  exact ⟨a1,a2.mono (relab_fix hf) relab_own,a3.mono (relab_fix hf) relab_own fun _ _ hb=>⟨relab_other hb (Ne.symm (hl i)),rfl⟩⟩
 | map es =>
  obtain ⟨b,ms,clk,h1,h2,h3,h4⟩:=h
  refine ⟨b,ms,clk,relab_own b g h1,h2,h3,fun i e he=>?_⟩
  obtain ⟨m,a1,a2,a3,a4,a5⟩:=h4 i e he
  exact ⟨m,a1,a2,a3,a4,a5⟩
 | iter s pos =>
  obtain ⟨b,h1,h2⟩:=h
  exact ⟨b,relab_own b g h1,h2⟩
 | buf _ _ _ _ =>
  obtain ⟨b,C,h1,h2,h3⟩:=h
  exact ⟨b,C,relab_own b g h1,h2,h3.mono fun _ _ i hb=>⟨relab_other hb (Ne.symm (hl i)),rfl⟩⟩
theorem RW.relab {W0 w:World}{Γ:Ghost}{hp:List AObj}{l:Loc}{f:Nat→Kind}(hf:∀ n o,o < n→FixedK o (f n))(hF:ListF f)(hl:∀ g i,l≠.cell g i)(h:RW W0 Γ w hp):RW W0 (relab Γ l f) w hp :=
 ⟨fun g o ho=>(h.objs g o ho).relab hf (hl g),fun b b' g h1 h2=>h.inj b b' g (relab_own_inv hF h1) (relab_own_inv hF h2),fun b hb=>relab_imm (h.fresh b hb),
  fun b g hb=>h.lt b g (relab_own_inv hF hb),h.old,fun b hb=>relab_imm (h.oldImm b hb),fun g hg b hb=>h.dead g hg b (relab_own_inv hF hb)⟩
def Mine:Loc→Prop
 | .slot _ | .res | .arg _=>True
 | _=>False
theorem Frame.relab {Γ0 Γ:Ghost}{w0 w:World}{c:Eff}{l:Loc}{f:Nat→Kind}(hf:∀ n o,o < n→FixedK o (f n))(hl:Mine l)(h:Frame Γ0 w0 Γ w c):Frame Γ0 w0 (relab Γ l f) w c:=by
 refine ⟨h.os,h.tape,h.output,h.size,h.fix.trans (relab_fix hf),h.own.trans relab_own,fun b hb hk=>?_⟩
 obtain ⟨e1,e2⟩:=h.keep b hb hk
 refine ⟨?_,e2⟩
 unfold Abs.relab
 rw [e1]
 cases hg:Γ0 b with
 | imm=>rfl
 | own g=>rfl
 | list n m =>
  simp only [relabK]
  split
  ·rename_i e
   subst e
   rw [hg] at hk
   cases m <;> first | exact hk.elim | exact hl.elim
  ·rfl
theorem Slots.relab {Γ:Ghost}{w:World}{sl:List AV}{tmps:Array Value}{l:Loc}{f:Nat→Kind}(hf:∀ n o,o < n→FixedK o (f n))(hl:∀ t,l≠.slot t)(h:Slots Γ w sl tmps):Slots (relab Γ l f) w sl tmps :=
 ⟨h.size,fun t v hv=>(h.rep t v hv).mono (relab_fix hf) relab_own,fun t v hv=>(h.own t v hv).mono (relab_fix hf) relab_own fun _ _ hb=>⟨relab_other hb (Ne.symm (hl t)),rfl⟩⟩
theorem Slots.put {Γ:Ghost}{w:World}{sl:List AV}{tmps:Array Value}(h:Slots Γ w sl tmps)(d:Nat){v:AV}{cv:Value}(hr:Rep Γ w v cv)(ho:OwnAt Γ w .res v cv) :
  Slots (Abs.relab (Abs.relab Γ (.slot d) toImm) .res (toLoc (.slot d))) w (sl.set d v) (tmps.setIfInBounds d cv):=by
 have f1:=relab_fix (Γ := Γ) (w := w) (l := .slot d) toImm_fix
 have f2:=relab_fix (Γ := Abs.relab Γ (.slot d) toImm) (w := w) (l := .res) (toLoc_fix (l := .slot d))
 have ff:=f1.trans f2
 have oo:OwnMono Γ (Abs.relab (Abs.relab Γ (.slot d) toImm) .res (toLoc (.slot d))):=relab_own.trans relab_own
 refine ⟨by simpa using h.size,fun t x hx=>?_,fun t x hx=>?_⟩
 ·rw [List.getElem?_set] at hx
  split at hx
  ·rename_i e
   subst e
   split at hx
   ·rename_i hlt
    obtain rfl:=Option.some.inj hx
    rw [Array.getD_eq_getD_getElem?,Array.getElem?_setIfInBounds,if_pos rfl,if_pos (by rw [h.size]; exact hlt)]
    exact hr.mono ff oo
   ·cases hx
  ·rename_i e
   have:(tmps.setIfInBounds d cv).getD t undef=tmps.getD t undef:=by
    rw [Array.getD_eq_getD_getElem?,Array.getD_eq_getD_getElem?,Array.getElem?_setIfInBounds,if_neg e]
   rw [this]
   exact (h.rep t x hx).mono ff oo
 ·rw [List.getElem?_set] at hx
  split at hx
  ·rename_i e
   subst e
   split at hx
   ·rename_i hlt
    obtain rfl:=Option.some.inj hx
    rw [Array.getD_eq_getD_getElem?,Array.getElem?_setIfInBounds,if_pos rfl,if_pos (by rw [h.size]; exact hlt)]
    refine ho.mono ff oo fun b n hb=>⟨?_,rfl⟩
    exact relab_at (relab_other hb (by simp))
   ·cases hx
  ·rename_i e
   have:(tmps.setIfInBounds d cv).getD t undef=tmps.getD t undef:=by
    rw [Array.getD_eq_getD_getElem?,Array.getD_eq_getD_getElem?,Array.getElem?_setIfInBounds,if_neg e]
   rw [this]
   refine (h.own t x hx).mono ff oo fun b n hb=>⟨?_,rfl⟩
   exact relab_other (relab_other hb (by simp; omega)) (by simp)
theorem Inv.put {E:Entry}{s:AState}{Γ:Ghost}{a:Act}{w:World}(h:Inv E s Γ a w)(d:Option Nat){v:AV}{cv:Value}(hr:Rep Γ w v cv)(ho:OwnAt Γ w .res v cv) :
  ∃ Γ',Inv E (s.put d v) Γ' (a.put d cv) w:=by
 cases d with
 | none=>exact ⟨Γ,h⟩
 | some d =>
  refine ⟨relab (relab Γ (.slot d) toImm) .res (toLoc (.slot d)),h.defers,h.slots.put d hr ho,?_,?_,h.base,h.base2,h.le,fun b g hb=>h.back b g (relab_own_inv toImm_listF (relab_own_inv toLoc_listF hb))⟩
  ·exact (h.rw.relab toImm_fix toImm_listF (by simp)).relab toLoc_fix toLoc_listF (by simp)
  ·exact (h.fr.relab (l := .slot d) toImm_fix trivial).relab (l := .res) toLoc_fix trivial
theorem Inv.take {E:Entry}{s:AState}{Γ:Ghost}{a:Act}{w:World}(h:Inv E s Γ a w)(t:Nat){v:AV}(hv:s.sl[t]? = some v) :
  ∃ Γ',Inv E (s.let_ t) Γ' a w∧Rep Γ' w v (a.tmps.getD t undef)∧OwnAt Γ' w .res v (a.tmps.getD t undef):=by
 have f1:=relab_fix (Γ := Γ) (w := w) (l := .slot t) (toLoc_fix (l := .res))
 have o1:OwnMono Γ (relab Γ (.slot t) (toLoc .res)):=relab_own
 refine ⟨relab Γ (.slot t) (toLoc .res),⟨h.defers,⟨by simpa [AState.let_] using h.slots.size,fun u x hx=>?_,fun u x hx=>?_⟩,h.rw.relab toLoc_fix toLoc_listF (by simp),h.fr.relab (l := .slot t) toLoc_fix trivial,h.base,h.base2,h.le,fun b g hb=>h.back b g (relab_own_inv toLoc_listF hb)⟩,?_,?_⟩
 ·simp only [AState.let_,List.getElem?_modify] at hx
  obtain ⟨y,hy,e⟩:=Option.map_eq_some_iff.1 hx
  have:=(h.slots.rep u y hy).mono f1 o1
  split at e
  ·subst e; exact this.ro
  ·subst e; exact this
 ·simp only [AState.let_,List.getElem?_modify] at hx
  obtain ⟨y,hy,e⟩:=Option.map_eq_some_iff.1 hx
  split at e
  ·subst e; exact .of_ro _ _ _ _ _
  ·rename_i ne
   subst e
   exact (h.slots.own u y hy).mono f1 o1 fun b n hb=>⟨relab_other hb (by simp; omega),rfl⟩
 ·exact (h.slots.rep t v hv).mono f1 o1
 ·exact (h.slots.own t v hv).mono f1 o1 fun b n hb=>⟨relab_at hb,rfl⟩
structure Step (Γ:Ghost)(w:World)(Γ':Ghost)(w':World)(X:Nat→Prop):Prop where
 os:w'.os=w.os
 tape:w'.tape=w.tape
 output:w'.output=w.output
 size:w.heap.size≤w'.heap.size
 same:∀ b,b < w.heap.size→¬ X b→Γ' b=Γ b∧w'.heap[b]? = w.heap[b]?
 fix:FixMono Γ w Γ' w'
 own:OwnMono Γ Γ'
theorem Slots.step {Γ Γ':Ghost}{w w':World}{X:Nat→Prop}{sl:List AV}{tmps:Array Value}(h:Slots Γ w sl tmps)(st:Step Γ w Γ' w' X)(fresh:∀ b,w.heap.size≤b→Γ b=.imm)
  (hX:∀ b n t,X b→Γ b≠.list n (.slot t)):Slots Γ' w' sl tmps :=
 ⟨h.size,fun t v hv=>(h.rep t v hv).mono st.fix st.own,fun t v hv=>(h.own t v hv).mono st.fix st.own fun b n hb=>by
  have hlt:b < w.heap.size:=by
   rcases Nat.lt_or_ge b w.heap.size with h' | h'
   ·exact h'
   ·rw [fresh b h'] at hb; cases hb
  obtain ⟨e1,e2⟩:=st.same b hlt fun hx=>hX b n t hx hb
  exact ⟨e1.trans hb,e2⟩⟩
theorem ObjRel.step {Γ Γ':Ghost}{w w':World}{X:Nat→Prop}{g:Nat}{o:AObj}(h:ObjRel Γ w g o)(st:Step Γ w Γ' w' X)(fresh:∀ b,w.heap.size≤b→Γ b=.imm)
  (hX:∀ b,X b→Γ b≠.own g) (hX2:∀ b n i,X b→Γ b≠.list n (.cell g i)):ObjRel Γ' w' g o:=by
 have lt:∀ b,Γ b≠.imm→b < w.heap.size:=fun b hb=>by
  rcases Nat.lt_or_ge b w.heap.size with h' | h'
  ·exact h'
  ·exact absurd (fresh b h') hb
 cases o with
 | dead=>trivial
 | cells cs t =>
  obtain ⟨b,C,h1,h2,h3,h4⟩:=h
  obtain ⟨e1,e2⟩:=st.same b (lt b (by rw [h1]; simp)) fun hx=>hX b hx h1
  refine ⟨b,C,e1.trans h1,e2.trans h2,h3,fun i c hc=>?_⟩
  obtain ⟨a1,a2,a3⟩:=h4 i c hc
  refine ⟨a1,a2.mono st.fix st.own,a3.mono st.fix st.own fun b n hb=>?_⟩
  obtain ⟨e1,e2⟩:=st.same b (lt b (by rw [hb]; simp)) fun hx=>hX2 b n i hx hb
  exact ⟨e1.trans hb,e2⟩
 | map es =>
  obtain ⟨b,ms,clk,h1,h2,h3,h4⟩:=h
  obtain ⟨e1,e2⟩:=st.same b (lt b (by rw [h1]; simp)) fun hx=>hX b hx h1
  refine ⟨b,ms,clk,e1.trans h1,e2.trans h2,h3,fun i e he=>?_⟩
  obtain ⟨m,a1,a2,a3,a4,a5⟩:=h4 i e he
  exact ⟨m,a1,a2,a3,a4,a5⟩
 | iter s pos =>
  obtain ⟨b,h1,h2⟩:=h
  obtain ⟨e1,e2⟩:=st.same b (lt b (by rw [h1]; simp)) fun hx=>hX b hx h1
  exact ⟨b,e1.trans h1,e2.trans h2⟩
 | buf _ _ _ _ =>
  obtain ⟨b,C,h1,h2,h3⟩:=h
  obtain ⟨e1,e2⟩:=st.same b (lt b (by rw [h1]; simp)) fun hx=>hX b hx h1
  refine ⟨b,C,e1.trans h1,e2.trans h2,h3.mono fun b n i hb=>?_⟩
  obtain ⟨e1,e2⟩:=st.same b (lt b (by rw [hb]; simp)) fun hx=>hX2 b n i hx hb
  exact ⟨e1.trans hb,e2⟩
theorem Frame.step {Γ0 Γ Γ':Ghost}{w0 w w':World}{X:Nat→Prop}{c c':Eff}{bs:Nat}(h:Frame Γ0 w0 Γ w c)(st:Step Γ w Γ' w' X)
  (hX:∀ b,X b→(∃ g,Γ b=.own g∧∀ g',g' < bs→Spared c' g'→g'≠g)∨∃ n,Γ b=.list n .res) (hc:∀ g',g' < bs→Spared c' g'→Spared c g')
  (base:∀ b g,Γ0 b=.own g→g < bs) (base2:∀ b n g i,Γ0 b=.list n (.cell g i)→g < bs):Frame Γ0 w0 Γ' w' c':=by
 refine ⟨st.os.trans h.os,st.tape.trans h.tape,st.output.trans h.output,Nat.le_trans h.size st.size,h.fix.trans st.fix,h.own.trans st.own,fun b hb hk=>?_⟩
 have hk':Kept c (Γ0 b):=by
  cases hg:Γ0 b with
  | imm=>trivial
  | own g=>rw [hg] at hk; exact hc g (base b g hg) hk
  | list n m =>
   rw [hg] at hk
   cases m with
   | outer=>trivial
   | cell g i=>exact hc g (base2 b n g i hg) hk
   | slot t=>exact hk
   | res=>exact hk
   | arg j=>exact hk
 obtain ⟨a1,a2⟩:=h.keep b hb hk'
 obtain ⟨e1,e2⟩:=st.same b (Nat.lt_of_lt_of_le hb h.size) fun hx=>by
  rcases hX b hx with ⟨g,hg,hge⟩ | ⟨n,hg⟩
  ·rw [a1] at hg
   rw [hg] at hk
   exact hge g (base b g hg) hk rfl
  ·rw [a1] at hg
   rw [hg] at hk
   exact hk
 exact ⟨e1.trans a1,e2.trans a2⟩
theorem below_step {W0 w w':World}{Γ Γ':Ghost}{X:Nat→Prop}(h:Below W0.heap.size W0 w)(oldImm:∀ b,b < W0.heap.size→Γ b=.imm)(st:Step Γ w Γ' w' X)(hX:∀ b,X b→Γ b≠.imm) :
  Below W0.heap.size W0 w'∧∀ b,b < W0.heap.size→Γ' b=.imm:=by
 have same:∀ b,b < W0.heap.size→Γ' b=Γ b∧w'.heap[b]? = w.heap[b]?:=fun b hb=>st.same b (Nat.lt_of_lt_of_le hb h.size) fun hx=>hX b hx (oldImm b hb)
 exact ⟨⟨st.os.trans h.os,st.tape.trans h.tape,st.output.trans h.output,Nat.le_trans h.size st.size,fun b hb=>(same b hb).2.trans (h.block b hb)⟩,fun b hb=>(same b hb).1.trans (oldImm b hb)⟩
theorem Inv.plain {E:Entry}{s:AState}{Γ Γ':Ghost}{a:Act}{w w':World}{X:Nat→Prop}(h:Inv E s Γ a w)(st:Step Γ w Γ' w' X)
  (hX:∀ b,X b→∃ n,Γ b=.list n .res) (inj:∀ b g,Γ' b=.own g→Γ b=.own g) (fresh':∀ b,w'.heap.size≤b→Γ' b=.imm):Inv E s Γ' a w':=by
 have k1:∀ b,X b→Γ b≠.imm:=fun b hx e=>by obtain ⟨n,hn⟩:=hX b hx; rw [hn] at e; cases e
 obtain ⟨o1,o2⟩:=below_step h.rw.old h.rw.oldImm st k1
 refine ⟨h.defers,h.slots.step st h.rw.fresh (fun b n t hx e=>by obtain ⟨m,hm⟩:=hX b hx; rw [hm] at e; cases e),⟨fun g o ho=>?_,fun b b' g h1 h2=>h.rw.inj b b' g (inj b g h1) (inj b' g h2),fresh',fun b g hb=>h.rw.lt b g (inj b g hb),o1,o2,fun g hg b hb=>h.rw.dead g hg b (inj b g hb)⟩,
  h.fr.step (bs := s.bs) st (fun b hx=>.inr (hX b hx)) (fun _ _ h=>h) h.base h.base2,h.base,h.base2,h.le,fun b g hb=>h.back b g (inj b g hb)⟩
 exact (h.rw.objs g o ho).step st h.rw.fresh (fun b hx e=>by obtain ⟨m,hm⟩:=hX b hx; rw [hm] at e; cases e) (fun b n i hx e=>by obtain ⟨m,hm⟩:=hX b hx; rw [hm] at e; cases e)
def setG (Γ:Ghost)(b:Nat)(k:Kind):Ghost:=fun b'=>if b'=b then k else Γ b'
theorem setG_same (Γ:Ghost)(b:Nat)(k:Kind):setG Γ b k b=k:=by simp [setG]
theorem setG_other (Γ:Ghost){b b':Nat}(k:Kind)(h:b'≠b):setG Γ b k b'=Γ b':=by simp [setG,h]
theorem step_alloc {Γ:Ghost}{w:World}(fresh:∀ b,w.heap.size≤b→Γ b=.imm)(o:Obj)(k:Kind):Step Γ w (setG Γ w.heap.size k) (w.alloc o) fun _=>False:=by
 have hs:∀ b,b < w.heap.size→setG Γ w.heap.size k b=Γ b:=fun b hb=>setG_other Γ k (by omega)
 refine ⟨rfl,rfl,rfl,by simp,fun b hb _=>⟨hs b hb,Below.heap_alloc w o b hb⟩,fun b f v h1 h2=>?_,fun b g hb=>?_⟩
 ·have hb:=lt_of_cell h2
  exact ⟨by unfold Fixed; rw [hs b hb]; exact h1,(cell_heap (Below.heap_alloc w o b hb)).trans h2⟩
 ·rcases Nat.lt_or_ge b w.heap.size with h' | h'
  ·rw [hs b h']; exact hb
  ·rw [fresh b h'] at hb; cases hb
theorem Inv.allocPlain {E:Entry}{s:AState}{Γ:Ghost}{a:Act}{w:World}(h:Inv E s Γ a w)(o:Obj)(k:Kind)(hk:∀ g,k≠.own g):Inv E s (setG Γ w.heap.size k) a (w.alloc o):=by
 refine h.plain (step_alloc h.rw.fresh o k) (fun _ hx=>hx.elim) (fun b g hb=>?_) (fun b hb=>?_)
 ·unfold setG at hb
  split at hb
  ·exact absurd hb (hk g)
  ·exact hb
 ·have:w.heap.size + 1≤b:=by simpa using hb
  rw [setG_other Γ k (by omega)]
  exact h.rw.fresh b (by omega)
theorem Inv.allocObj {E:Entry}{s:AState}{Γ:Ghost}{a:Act}{w:World}(h:Inv E s Γ a w)(o:Obj)(ao:AObj)
  (hrel:ObjRel (setG Γ w.heap.size (.own s.hp.length)) (w.alloc o) s.hp.length ao) (hao:ao≠.dead:=by nofun):Inv E { s with hp:=s.hp ++ [ao] } (setG Γ w.heap.size (.own s.hp.length)) a (w.alloc o):=by
 have st:=step_alloc h.rw.fresh o (.own s.hp.length)
 obtain ⟨o1,o2⟩:=below_step h.rw.old h.rw.oldImm st fun _ hx=>hx.elim
 have hinv:∀ b g,setG Γ w.heap.size (.own s.hp.length) b=.own g→(b=w.heap.size∧g=s.hp.length)∨Γ b=.own g:=by
  intro b g hb
  unfold setG at hb
  split at hb
  ·rename_i e
   exact .inl ⟨e,by cases hb; rfl⟩
  ·exact .inr hb
 refine ⟨h.defers,h.slots.step st h.rw.fresh (fun _ _ _ hx=>hx.elim),⟨fun g x hx=>?_,fun b b' g h1 h2=>?_,fun b hb=>?_,fun b g hb=>?_,o1,o2,fun g hg b hb=>?_⟩,h.fr.step (bs := s.bs) st (fun _ hx=>hx.elim) (fun _ _ h=>h) h.base h.base2,h.base,h.base2,?_,fun b g hb hl=>?_⟩
 ·rw [List.getElem?_append] at hx
  split at hx
  ·exact (h.rw.objs g x hx).step st h.rw.fresh (fun _ hx=>hx.elim) (fun _ _ _ hx=>hx.elim)
  ·rename_i hge
   have:g=s.hp.length:=by
    rcases Nat.lt_or_ge (g - s.hp.length) 1 with h' | h'
    ·omega
    ·rw [List.getElem?_eq_none (by simpa using h')] at hx; cases hx
   subst this
   simp only [Nat.sub_self,List.getElem?_cons_zero,Option.some.injEq] at hx
   subst hx
   exact hrel
 ·rcases hinv b g h1 with ⟨rfl,rfl⟩ | k1 <;> rcases hinv b' _ h2 with ⟨rfl,e⟩ | k2
  ·rfl
  ·have:=h.rw.lt _ _ k2; omega
  ·subst e; have:=h.rw.lt _ _ k1; omega
  ·exact h.rw.inj b b' g k1 k2
 ·have:w.heap.size + 1≤b:=by simpa using hb
  rw [setG_other Γ _ (by omega)]
  exact h.rw.fresh b (by omega)
 ·simp only [List.length_append,List.length_singleton]
  rcases hinv b g hb with ⟨rfl,rfl⟩ | k1
  ·omega
  ·have:=h.rw.lt _ _ k1; omega
 ·rw [List.getElem?_append] at hg
  split at hg
  ·rename_i hlt
   rcases hinv b g hb with ⟨rfl,rfl⟩ | k1
   ·omega
   ·exact h.rw.dead g hg b k1
  ·cases hk:g - s.hp.length with
   | zero=>rw [hk] at hg; exact hao (by simpa using hg)
   | succ k=>rw [hk] at hg; simp at hg
 ·simp only [List.length_append,List.length_singleton]
  have:=h.le
  omega
 ·rcases hinv b g hb with ⟨rfl,rfl⟩ | k1
  ·have:=h.le; simp only at hl; omega
  ·exact h.back b g k1 hl
theorem Inv.fill {E:Entry}{s:AState}{Γ:Ghost}{a:Act}{w:World}(h:Inv E s Γ a w)(o:Obj)(ao:AObj){n:Nat}(hn:s.hp[n]? = some .dead)(hbs:s.bs≤n)
  (hrel:ObjRel (setG Γ w.heap.size (.own n)) (w.alloc o) n ao) (hao:ao≠.dead:=by nofun):Inv E { s with hp:=s.hp.set n ao } (setG Γ w.heap.size (.own n)) a (w.alloc o):=by
 have st:=step_alloc h.rw.fresh o (.own n)
 have hlt:n < s.hp.length:=(List.getElem?_eq_some_iff.1 hn).1
 obtain ⟨o1,o2⟩:=below_step h.rw.old h.rw.oldImm st fun _ hx=>hx.elim
 have hinv:∀ b g,setG Γ w.heap.size (.own n) b=.own g→(b=w.heap.size∧g=n)∨Γ b=.own g:=by
  intro b g hb
  unfold setG at hb
  split at hb
  ·rename_i e
   exact .inl ⟨e,by cases hb; rfl⟩
  ·exact .inr hb
 refine ⟨h.defers,h.slots.step st h.rw.fresh (fun _ _ _ hx=>hx.elim),⟨fun g x hx=>?_,fun b b' g h1 h2=>?_,fun b hb=>?_,fun b g hb=>?_,o1,o2,fun g hg b hb=>?_⟩,h.fr.step (bs := s.bs) st (fun _ hx=>hx.elim) (fun _ _ h=>h) h.base h.base2,h.base,h.base2,by simpa using h.le,fun b g hb hl=>?_⟩
 ·simp only [List.getElem?_set] at hx
  split at hx
  ·rename_i e
   subst e
   obtain rfl:=Option.some.inj hx
   exact hrel
  ·exact (h.rw.objs g x hx).step st h.rw.fresh (fun _ hx=>hx.elim) (fun _ _ _ hx=>hx.elim)
 ·rcases hinv b g h1 with ⟨rfl,rfl⟩ | k1 <;> rcases hinv b' _ h2 with ⟨rfl,e⟩ | k2
  ·rfl
  ·exact absurd k2 (h.rw.dead _ hn b')
  ·subst e; exact absurd k1 (h.rw.dead _ hn b)
  ·exact h.rw.inj b b' g k1 k2
 ·have:w.heap.size + 1≤b:=by simpa using hb
  rw [setG_other Γ _ (by omega)]
  exact h.rw.fresh b (by omega)
 ·simp only [List.length_set]
  rcases hinv b g hb with ⟨rfl,rfl⟩ | k1
  ·omega
  ·exact h.rw.lt _ _ k1
 ·simp only [List.getElem?_set] at hg
  split at hg
  ·rename_i e
   subst e
   exact hao (Option.some.inj hg)
  ·rename_i ne
   rcases hinv b g hb with ⟨rfl,rfl⟩ | k1
   ·exact ne rfl
   ·exact h.rw.dead g hg b k1
 ·rcases hinv b g hb with ⟨rfl,rfl⟩ | k1
  ·simp only at hl; omega
  ·exact h.back b g k1 hl
def Noted (s:AState)(g:Nat)(e:Eff):Prop:=∀ g',g' < s.bs→Spared e g'→Spared s.ef g'∧g'≠g
theorem spared_or {e:Eff}{x y g:Nat}(h:Spared (Eff.or e (some (x,y))) g):Spared e g∧g < x:=by
 cases e with
 | none=>exact ⟨fun _ _ e=>(by cases e),h x y rfl⟩
 | some p =>
  obtain ⟨a,b⟩:=p
  have:=h (Nat.min a x) (Nat.max b y) rfl
  have h1:Nat.min a x≤a:=Nat.min_le_left _ _
  have h2:Nat.min a x≤x:=Nat.min_le_right _ _
  exact ⟨fun a' b' e=>(by cases e; omega),by omega⟩
theorem noted_note (s:AState)(g v:Nat):Noted s g (s.note g v):=by
 intro g' hb h
 unfold AState.note at h
 split at h
 ·obtain ⟨h1,h2⟩:=spared_or h
  exact ⟨h1,by omega⟩
 ·exact ⟨h,by omega⟩
theorem Inv.update {E:Entry}{s:AState}{Γ:Ghost}{a:Act}{w w':World}{g b:Nat}{ao:AObj}{e:Eff}(h:Inv E s Γ a w)(hb:Γ b=.own g)(st:Step Γ w Γ w' (· = b))(hn:Noted s g e)
  (hsz:w'.heap.size=w.heap.size) (hrel:ObjRel Γ w' g ao) (hao:ao≠.dead:=by nofun):Inv E { s with hp:=s.hp.set g ao,ef := e } Γ a w':=by
 have hX:∀ b',b'=b→Γ b'=.own g:=fun b' hb'=>by rw [hb']; exact hb
 obtain ⟨o1,o2⟩:=below_step h.rw.old h.rw.oldImm st fun b' hx e=>by rw [hX b' hx] at e; cases e
 refine ⟨h.defers,h.slots.step st h.rw.fresh (fun b' n t hx e=>by rw [hX b' hx] at e; cases e),⟨fun g' x hx=>?_,h.rw.inj,fun b hb=>h.rw.fresh b (by omega),fun b' g' hb'=>by simpa using h.rw.lt b' g' hb',o1,o2,fun g' hg' b' hb'=>?_⟩,
  h.fr.step (bs := s.bs) st (fun b' hx=>.inl ⟨g,hX b' hx,fun g' hl he=>(hn g' hl he).2⟩) (fun g' hl he=>(hn g' hl he).1) h.base h.base2,h.base,h.base2,by simpa using h.le,h.back⟩
 case refine_2 =>
  simp only [List.getElem?_set] at hg'
  split at hg'
  ·split at hg'
   ·exact hao (Option.some.inj hg')
   ·cases hg'
  ·exact h.rw.dead g' hg' b' hb'
 simp only [List.getElem?_set] at hx
 split at hx
 ·rename_i e
  subst e
  split at hx
  ·obtain rfl:=Option.some.inj hx
   exact hrel
  ·cases hx
 ·rename_i ne
  refine (h.rw.objs g' x hx).step st h.rw.fresh (fun b' hx e=>?_) (fun b' n i hx e=>by rw [hX b' hx] at e; cases e)
  rw [hX b' hx] at e
  cases e
  exact ne rfl
end Go.Proofs.YtcfjcimhjmpkiaaGreatDoor.Abs
end
section
namespace Go.Proofs.YtcfjcimhjmpkiaaGreatDoor.Abs
open Go Go.RowKit
def elemSize (P:Program)(t:TypeId):Nat :=
 match P.underlying t with
 | some (.slice e)=>P.cellsOf e
 | _=>0
def isAggB (P:Program)(t:TypeId):Bool :=
 match P.underlying t with
 | some (.struct _) | some (.array _ _)=>true
 | _=>false
def isI64B (P:Program)(t:TypeId):Bool:=match P.underlying t with
 | some (.int .i64)=>true
 | _=>false
def isSliceB (P:Program)(t:TypeId):Bool :=
 match P.underlying t with
 | some (.slice _)=>true
 | _=>false
def isStrB (P:Program)(t:TypeId):Bool :=
 match P.underlying t with
 | some .string=>true
 | _=>false
def cellTypes (P:Program):Nat→TypeId→Option (List TypeId)
 | 0,_=>none
 | d + 1,t=>match P.underlying t with
  | some (.struct fs)=>(fs.toList.mapM fun f=>cellTypes P d f.type).map List.flatten
  | some (.array n e)=>(cellTypes P d e).map fun l=>(List.replicate n l).flatten
  | some _=>some [t]
  | none=>none
def ofCell (P:Program)(t:TypeId):Value→Option AV
 | .bool b=>some (.bool b)
 | .int k n=>some (.int k n)
 | .string s=>some (.str s.data.toList)
 | .pointer none=>some .nilp
 | .nilFunc=>some .nilf
 | .map none=>some .nilm
 | .nilIface=>some .nili
 | .slice none 0 0=>some (.own (elemSize P t) [])
 | _=>none
def ofCells (P:Program):List TypeId→List Value→Option (List AV)
 | [],[]=>some []
 | t :: ts,v :: vs=>match ofCell P t v,ofCells P ts vs with
  | some x,some l=>some (x :: l)
  | _,_=>none
 | _,_=>none
def ofConst (P:Program)(t:TypeId)(v:Value):Option AV :=
 match v with
 | .agg cs=>match cellTypes P 16 t with
  | some ts=>(ofCells P ts cs.toList).map .agg
  | none=>none
 | .tuple vs=>if vs.isEmpty then some .undef else none
 | v=>ofCell P t v
def cOpnd (P:Program)(t:TypeId):Operand→Option Opnd
 | .tmp i=>some (.tmp i)
 | .const v=>(ofConst P t v).map .const
 | .global g=>some (.glob g)
 | .func f=>some (.const (.fn f [] []))
def cOpnds (P:Program):List TypeId→List Operand→Option (List Opnd)
 | [],[]=>some []
 | t :: ts,x :: xs=>match cOpnd P t x,cOpnds P ts xs with
  | some y,some l=>some (y :: l)
  | _,_=>none
 | _,_=>none
def cOpt (P:Program):Option Operand→Option (Option Opnd)
 | none=>some none
 | some x=>(cOpnd P 0 x).map some
def cShape (P:Program)(t:TypeId):Option Shape :=
 match P.underlying t with
 | some .string=>some .str
 | some (.slice e)=>if 0 < P.cellsOf e then some (.slice (P.cellsOf e)) else none
 | some (.array n e)=>if 0 < P.cellsOf e∧1 < n then some (.arr n (P.cellsOf e)) else none
 | _=>none
def zeroOf (P:Program)(t:TypeId):Option AV :=
 match P.info? t with
 | some i=>match i.zero with
  | some z=>ofConst P t z
  | none=>none
 | none=>none
def zeroMk (P:Program)(t:TypeId):Option AV :=
 match zeroOf P t with
 | some (.agg (.nilp :: .own 1 [] :: m))=>if m.all AV.flat1=true then some (.agg (.nilp :: .nils 1 :: m)) else some (.agg (.nilp :: .own 1 [] :: m))
 | z=>z
def cKind (P:Program)(t:TypeId):Option CK :=
 match P.underlying t with
 | some .bool=>some .bool
 | some (.int _)=>some .int
 | some .string=>some .str
 | _=>none
def cKinds (P:Program):Nat→List Field→Option (List CK)
 | _,[]=>some []
 | i,f :: l=>if f.name ≠ "_" ∧ f.offset=i then match cKind P f.type,cKinds P (i + 1) l with
   | some k,some ks=>some (k :: ks)
   | _,_=>none
  else none
def eqSh (P:Program)(t:TypeId):Option EqSh :=
 match P.underlying t with
 | some (.int _)=>some .prim
 | some .string=>some .prim
 | some .bool=>some .bool
 | some (.pointer _)=>some .ptr
 | some (.func _ _ _)=>some .func
 | some (.struct fs)=>if P.stoodInHeld t=false∧P.eqGuardType P.depth t=false then (cKinds P 0 fs.toList).map .struct else none
 | some (.array n e)=>match cKind P e with
  | some c=>if P.cellsOf e=1∧P.eqGuardType P.depth t=false∧(P.info? e).isSome=true∧n≤8 then some (.struct (List.replicate n c)) else none
  | none=>none
 | _=>none
def keySh (P:Program)(t:TypeId):Option KSh :=
 match P.underlying t with
 | some (.array n e)=>match cKind P e with
  | some c=>if P.cellsOf e=1∧n=2 then some (.pair c) else none
  | none=>none
 | _=>(cKind P t).map .one
def cField (P:Program)(s:TypeId)(f:Nat):Option (Nat×Nat×Bool) :=
 match P.underlying s with
 | some (.struct fs)=>match fs[f]? with
  | some x=>if 0 < P.cellsOf x.type∧(P.underlying x.type).isSome=true then some (x.offset,P.cellsOf x.type,isAggB P x.type) else none
  | none=>none
 | _=>none
def cPlace (P:Program)(t:TypeId)(i:Nat):Option (Nat×Nat×TypeId) :=
 match P.underlying t with
 | some (.struct fs)=>match fs[i]? with
  | some x=>some (x.offset,P.cellsOf x.type,x.type)
  | none=>none
 | some (.array _ e)=>some (i * P.cellsOf e,P.cellsOf e,e)
 | _=>none
def structOk (P:Program)(t:TypeId):Bool :=
 match P.underlying t with
 | some (.struct fs)=>fs.toList.all fun f=>(P.info? f.type).isSome
 | some (.array _ e)=>(P.info? e).isSome
 | _=>false
def cParts (P:Program)(t:TypeId):List (Nat×Operand)→Option (List (Nat×Nat×Opnd))
 | []=>some []
 | (i,x) :: l=>match cPlace P t i with
  | some (off,n,ft)=>match cOpnd P ft x,cParts P t l with
   | some y,some r=>some ((off,n,y) :: r)
   | _,_=>none
  | none=>none
def cArgs (P:Program)(hand:Nat→Bool):List TypeId→List Operand→Option (List (Nat ⊕ Opnd))
 | [],[]=>some []
 | t :: ts,x :: xs=>match (match x with
   | .tmp i=>if hand i then some (.inl i) else some (.inr (.tmp i))
   | x=>(cOpnd P t x).map .inr),cArgs P hand ts xs with
  | some y,some l=>some (y :: l)
  | _,_=>none
 | _,_=>none
def isTmp:Operand→Option Nat
 | .tmp t=>some t
 | _=>none
def litMark:Nat:=1000000
def zMark (hand:Nat→Bool):Option Nat→Bool
 | some d=>hand (2000000 + d)
 | none=>false
def cOp (P:Program)(hand:Nat→Bool)(draw:Bool)(o:Oper):Option AOp :=
 match o.op with
 | .move x=>match x with
  | .tmp t=>if !draw && (o.dst.map hand).getD false then some (.take t) else if zMark hand o.dst then some (.mvz t) else some (.mv (.tmp t))
  | x=>(cOpnd P o.type x).map .mv
 | .assign x=>match x with
  | .tmp t=>if draw then some (.mv (.tmp t)) else some (.take t)
  | x=>(cOpnd P o.type x).map .mv
 | .pick c a b=>match cOpnd P 0 c,cOpnd P o.type a,cOpnd P o.type b with
  | some c,some a,some b=>some (.pick c a b)
  | _,_,_=>none
 | .alloc e=>match zeroMk P e with
  | some z=>if z.cells.all AV.one then some (.mk e z.cells) else none
  | none=>none
 | .box e x=>(cOpnd P e x).map (.box e (P.cellsOf e))
 | .build t parts=>if structOk P t then match zeroMk P t,cParts P t parts.toList with
   | some (.agg z),some ps=>some (.build z ps)
   | _,_=>none
  else none
 | .buildSlice t len parts=>match P.underlying t with
  | some (.slice e)=>if parts.toList.map (·.1)=List.range len∧len * P.cellsOf e≤16777216∧0 < P.cellsOf e∧(zeroOf P e).isSome=true then
    (cOpnds P (parts.toList.map fun _=>e) (parts.toList.map (·.2))).map (if hand litMark || hand (litMark + 1 + e) then .lita e (P.cellsOf e) else .lit e (P.cellsOf e)) else none
  | _=>none
 | .load t p=>match cOpnd P 0 p with
  | some p=>if isAggB P t then some (.lda (P.cellsOf t) p) else if (P.underlying t).isSome then
    (if !draw && (o.dst.map hand).getD false && isSliceB P t then some (.ldt p) else some (.ldc p)) else none
  | none=>none
 | .store t p x=>if (P.info? t).isNone then none else match cOpnd P 0 p with
  | some p'=>if !isI64B P t && !isAggB P t && P.cellsOf t == 1 then match isTmp x with
    | some s=>some (.stt p' s)
    | none=>(cOpnd P t x).map (.st (P.cellsOf t) p')
   else (cOpnd P t x).map (.st (P.cellsOf t) p')
  | none=>none
 | .nilCheck x=>(cOpnd P 0 x).map .nilchk
 | .binOp op t x y _=>match eqSh P t,cOpnd P t x,cOpnd P t y with
  | some sh,some x,some y=>some (.bin op sh x y)
  | _,_,_=>none
 | .unOp op t x=>(cOpnd P t x).map (.un op)
 | .convert src dst x=>match cOpnd P src x,P.underlying src,P.underlying dst with
  | some x,some (.int _),some (.int k)=>some (.conv (.int k) x)
  | some x,some .string,some .string=>some (.conv .str x)
  | some x,some .string,some (.slice e)=>if P.underlying e matches some (.int .u8) then some (.conv .bytes x) else none
  | some x,some (.slice e),some .string=>if P.underlying e matches some (.int .u8) then some (.conv .ofBytes x) else none
  | _,_,_=>none
 | .makeFunc (.func f) first caps=>match cOpnds P (first.toList.map fun _=>0) first.toList,cOpnds P (caps.toList.map fun _=>0) caps.toList with
  | some us,some vs=>some (.mkfn f us vs)
  | _,_=>none
 | .makeMap _ none=>some .mkmap
 | .makeSlice t (.tmp l) (.tmp c)=>if l=c then match P.underlying t with
   | some (.slice e)=>match zeroOf P e,P.info? e with
    | some z,some i=>if z.cells.all AV.one=true∧z.cells.length=i.size∧i.bytes≤16384∧0 < i.size then some (.mksl e z.cells (.tmp l)) else none
    | _,_=>none
   | _=>none
  else none
 | .makeSlice t (.const (.int kl l)) (.const (.int kc c))=>if kl=kc∧l=c then match P.underlying t with
   | some (.slice e)=>match zeroOf P e,P.info? e with
    | some z,some i=>if z.cells.all AV.one=true∧z.cells.length=i.size∧i.bytes≤16384∧0 < i.size then some (.mksl e z.cells (.const (.int kl l))) else none
    | _,_=>none
   | _=>none
  else none
 | .slice t x lo hi none=>match cShape P t,cOpnd P t x,cOpt P lo,cOpt P hi with
  | some sh,some x,some lo,some hi=>if zMark hand o.dst then (match sh,lo,hi with
    | .slice k,none,some hi=>some (.slicez k x hi)
    | _,_,_=>none) else some (.slice sh x lo hi)
  | _,_,_,_=>none
 | .slice t x none (some hi) (some mx)=>match cShape P t,cOpnd P t x,cOpnd P 0 hi,cOpnd P 0 mx with
  | some sh,some x,some hi,some mx=>some (.slice3 sh x hi mx)
  | _,_,_,_=>none
 | .fieldAddr s x f=>match cField P s f,cOpnd P 0 x with
  | some (off,_,_),some x=>some (.fa off x)
  | _,_=>none
 | .field s x f=>match cField P s f,cOpnd P s x with
  | some (off,n,agg),some x=>some (.fld off n agg x)
  | _,_=>none
 | .indexAddr t x i=>match cShape P t,cOpnd P t x,cOpnd P 0 i with
  | some (.slice k),some x,some i=>some (.ia (.slice k) x i)
  | some (.arr n k),some x,some i=>some (.ia (.arr n k) x i)
  | _,_,_=>none
 | .index t x i=>match cShape P t,cOpnd P t x,cOpnd P 0 i with
  | some .str,some x,some i=>some (.idx x i)
  | _,_,_=>none
 | .lookup t x i ok=>match P.underlying t with
  | some (.map k e)=>match keySh P k,zeroOf P e,cOpnd P t x,cOpnd P k i with
   | some sh,some z,some x,some i=>if z.flat1 then some (.look sh z x i ok) else none
   | _,_,_,_=>none
  | _=>none
 | .mapUpdate t m k v=>match P.underlying t with
  | some (.map kt e)=>match keySh P kt,cOpnd P t m,cOpnd P kt k,cOpnd P e v with
   | some sh,some m,some k,some v=>some (.mupd sh m k v)
   | _,_,_,_=>none
  | _=>none
 | .range t x=>match P.underlying t with
  | some .string=>(cOpnd P t x).map .range
  | _=>none
 | .next x true=>(cOpnd P 0 x).map .next
 | .extract x i=>(cOpnd P 0 x).map (.extract · i)
 | .call c=>match c.callee with
  | .value f=>match cOpnd P 0 f,cArgs P (fun t=>!draw && hand t) c.argTypes.toList c.args.toList with
   | some f,some args=>some (.call f args)
   | _,_=>none
  | .builtin .len=>match c.args.toList,c.argTypes.toList with
   | [x],[t]=>match P.underlying t with
    | some .string=>(cOpnd P t x).map (.len .str)
    | some (.slice _)=>(cOpnd P t x).map (.len .slice)
    | some (.map _ _)=>(cOpnd P t x).map (.len .map)
    | _=>none
   | _,_=>none
  | .builtin .append=>match c.args.toList,c.argTypes.toList with
   | [s,x],[t,u]=>match P.underlying t with
    | some (.slice e)=>match P.info? e,zeroOf P e with
     | some i,some z=>if t=u∧0 < i.size∧z.cells.length=i.size∧0 < i.bytes then match s,cOpnd P t x with
       | .tmp a,some x=>if zMark hand o.dst then some (.appz i.size a x) else some (.app i.size i.bytes a x)
       | .const (.slice none 0 0),some x=>some (.appn i.size i.bytes x)
       | _,_=>none
      else if i.size=1∧z.cells.length=1∧0 < i.bytes∧isStrB P u=true then match s,cOpnd P u x with
       | .tmp a,some x=>some (.apps i.bytes a x)
       | _,_=>none
      else none
     | _,_=>none
    | _=>none
   | _,_=>none
  | .builtin .copy=>match c.args.toList,c.argTypes.toList with
   | [d,x],[t,u]=>match P.underlying t with
    | some (.slice e)=>match P.info? e with
     | some i=>if t=u∧0 < i.size then match cOpnd P t d,cOpnd P t x with
       | some d,some x=>some (.copy i.size d x)
       | _,_=>none
      else none
     | none=>none
    | _=>none
   | _,_=>none
  | .builtin .min=>match c.argTypes.toList with
   | t :: _=>if P.underlying t matches some (.int .i64) then (cOpnds P c.argTypes.toList c.args.toList).map .min else none
   | _=>none
  | .builtin .max=>match c.argTypes.toList with
   | t :: _=>if P.underlying t matches some (.int .i64) then (cOpnds P c.argTypes.toList c.args.toList).map .max else none
   | _=>none
  | _=>none
 | _=>none
def handed (takes:FuncId→List Nat)(res:List Nat)(ops:List Oper):List Nat :=
 takes litMark ++ ops.flatMap fun o=>match o.op with
  | .call { callee := .builtin .append,args,.. } => (args.toList.take 1).filterMap isTmp
  | .call { callee := .value (.func f),args,.. } => (args.toList.zipIdx.filter fun p=>(takes f).contains p.2).filterMap fun p=>isTmp p.1
  | .assign (.tmp t)=>if (o.dst.map res.contains).getD false then [t] else []
  | _=>[]
def cOpers (P:Program)(hand:Nat→Bool)(draw:Bool)(ops:Array Oper):List Oper→Option (List AOper)
 | []=>some []
 | o :: l=>match (match o.guard with
   | none=>some none
   | some (j,want)=>match (ops[j]?).bind (·.dst) with
    | some d=>some (some (d,want))
    | none=>none),cOpers P hand draw ops l with
  | some g,some r=>some (⟨o.dst,(cOp P hand draw o).getD .bad,g⟩ :: r)
  | _,_=>none
def maskOf (ms:List Nat):List Edge→Nat
 | []=>0
 | e :: l=>match Region.binds .any e with
  | true=>(maskOf ms l ||| 2 ^ e.on) ||| ms.getD e.on 0
  | false=>maskOf ms l
def masksFrom:List Oper→List Nat→List Nat
 | [],ms=>ms
 | o :: l,ms=>masksFrom l (ms ++ [maskOf ms o.after.toList])
def masks (ops:Array Oper):List Nat:=masksFrom ops.toList []
def waitsB (ops:Array Oper)(i j:Nat):Bool:=Nat.testBit ((masks ops).getD i 0) j
inductive Waits (ops:Array Oper):Nat→Nat→Prop
 | direct {i:Nat} {o:Oper} {e:Edge}:ops[i]? = some o→e ∈ o.after.toList→Region.binds .any e=true→Waits ops i e.on
 | via {i j:Nat} {o:Oper} {e:Edge}:ops[i]? = some o→e ∈ o.after.toList→Region.binds .any e=true→Waits ops e.on j→Waits ops i j
theorem maskOf_ok {ops:Array Oper}{ms:List Nat}(hm:∀ i j,Nat.testBit (ms.getD i 0) j=true→Waits ops i j){i:Nat}{o:Oper}(ho:ops[i]? = some o):∀ (l:List Edge),(∀ e ∈ l,e ∈ o.after.toList)→∀ j,Nat.testBit (maskOf ms l) j=true→Waits ops i j
 | [],_,j,h=>by simp [maskOf] at h
 | e :: l,hl,j,h=>by
  unfold maskOf at h
  split at h
  ·rename_i hb
   rw [Nat.testBit_or,Nat.testBit_or,Bool.or_eq_true,Bool.or_eq_true] at h
   rcases h with (h | h) | h
   ·exact maskOf_ok hm ho l (fun e he=>hl e (List.mem_cons_of_mem _ he)) j h
   ·rw [Nat.testBit_two_pow] at h
    have:e.on=j:=by simpa using h
    subst this
    exact .direct ho (hl e (List.mem_cons_self ..)) hb
   ·exact .via ho (hl e (List.mem_cons_self ..)) hb (hm _ _ h)
  ·exact maskOf_ok hm ho l (fun e he=>hl e (List.mem_cons_of_mem _ he)) j h
theorem masksFrom_ok {ops:Array Oper}:∀ (l:List Oper) (ms:List Nat),(∀ k,l[k]? = ops[ms.length + k]?)→(∀ i j,Nat.testBit (ms.getD i 0) j=true→Waits ops i j)→∀ i j,Nat.testBit ((masksFrom l ms).getD i 0) j=true→Waits ops i j
 | [],ms,_,hm,i,j,h=>hm i j h
 | o :: l,ms,hl,hm,i,j,h=>by
  have ho:ops[ms.length]? = some o:=by have:=hl 0; simpa using this.symm
  refine masksFrom_ok l (ms ++ [maskOf ms o.after.toList]) (fun k=>?_) (fun i j h=>?_) i j h
  ·have:=hl (k + 1)
   simp only [List.getElem?_cons_succ] at this
   rw [this,List.length_append,List.length_singleton,Nat.add_assoc,Nat.add_comm 1 k]
  ·rw [List.getD_eq_getElem?_getD,List.getElem?_append] at h
   split at h
   ·exact hm i j (by rw [List.getD_eq_getElem?_getD]; exact h)
   ·rename_i hge
    cases hk:i - ms.length with
    | zero =>
     rw [hk] at h
     have:i=ms.length:=by omega
     subst this
     exact maskOf_ok hm ho _ (fun e he=>he) j (by simpa using h)
    | succ k=>rw [hk] at h; simp at h
theorem waits_of {ops:Array Oper}{i j:Nat}(h:waitsB ops i j=true):Waits ops i j :=
 masksFrom_ok ops.toList [] (fun k=>by simp) (fun i j h=>by simp at h) i j h
def ClosedL (ops:Array Oper)(listed:Array Bool):Prop:=∀ i o e,ops[i]? = some o→listed.getD i false=true→e ∈ o.after→Region.binds .any e=true→listed.getD e.on false=true
theorem ClosedL.waits {ops:Array Oper}{listed:Array Bool}(h:ClosedL ops listed){i j:Nat}(hw:Waits ops i j):listed.getD i false=true→listed.getD j false=true:=by
 induction hw with
 | direct ho he hb=>exact fun hi=>h _ _ _ ho hi (Array.mem_toList_iff.1 he) hb
 | via ho he hb _ ih=>exact fun hi=>ih (h _ _ _ ho hi (Array.mem_toList_iff.1 he) hb)
theorem ClosedL.ready {ops:Array Oper}{listed:Array Bool}(h:ClosedL ops listed){i j:Nat}{o:Oper}(ho:ops[i]? = some o)(hd:∀ e ∈ o.after,Region.binds .any e=true→listed.getD e.on false=true)(hw:Waits ops i j):listed.getD j false=true:=by
 cases hw with
 | direct ho' he hb=>rw [ho] at ho'; cases ho'; exact hd _ (Array.mem_toList_iff.1 he) hb
 | via ho' he hb hw=>rw [ho] at ho'; cases ho'; exact h.waits hw (hd _ (Array.mem_toList_iff.1 he) hb)
theorem getD_set_true {listed:Array Bool}{i j:Nat}(h:listed.getD j false=true):(listed.setIfInBounds i true).getD j false=true:=by
 rw [Array.getD_eq_getD_getElem?,Array.getElem?_setIfInBounds]
 split
 ·split
  ·rfl
  ·rename_i e _
   subst e
   rw [Array.getD_eq_getD_getElem?] at h
   rename_i hs
   rw [Array.getElem?_eq_none (by omega)] at h
   cases h
 ·rw [Array.getD_eq_getD_getElem?] at h; exact h
theorem ClosedL.list {ops:Array Oper}{listed:Array Bool}(h:ClosedL ops listed){i:Nat}{o:Oper}(ho:ops[i]? = some o)(hd:∀ e ∈ o.after,Region.binds .any e=true→listed.getD e.on false=true):ClosedL ops (listed.setIfInBounds i true):=by
 intro j o' e ho' hj he hb
 by_cases hji:j=i
 ·subst hji
  rw [ho] at ho'
  cases ho'
  exact getD_set_true (hd e he hb)
 ·refine getD_set_true (h j o' e ho' ?_ he hb)
  rw [Array.getD_eq_getD_getElem?,Array.getElem?_setIfInBounds,if_neg (fun e=>hji e.symm)] at hj
  rw [Array.getD_eq_getD_getElem?]
  exact hj
theorem ClosedL.start (ops:Array Oper)(n:Nat):ClosedL ops (Array.replicate n false):=by
 intro i o e _ h
 rw [Array.getD_eq_getD_getElem?,Array.getElem?_replicate] at h
 split at h <;> cases h
def drawOk (ops:Array Oper)(bops:List AOper):Bool :=
 ((List.range ops.size).all fun i=>match ops[i]? with
  | some o=>o.after.all fun e=>!Region.binds .any e || decide (e.on < i)
  | none=>false) &&
 (bops.all fun o=>noHand o.op) &&
 (List.range ops.size).all fun i=>(List.range i).all fun j=>waitsB ops i j || (match bops[j]?,bops[i]? with
  | some x,some y=>commB x y
  | _,_=>false)
def drawOk2 (ops:Array Oper)(bops:List AOper):Bool :=
 ((List.range ops.size).all fun i=>match ops[i]? with
  | some o=>o.after.all fun e=>!Region.binds .any e || decide (e.on < i)
  | none=>false) &&
 (bops.all fun o=>noHand o.op) && okFrom (allocSlots bops) 0 bops && nodupB (allocSlots bops) &&
 (List.range ops.size).all fun i=>(List.range i).all fun j=>waitsB ops i j || (match bops[j]?,bops[i]? with
  | some x,some y=>commR (allocSlots bops) x y
  | _,_=>false)
def drawS (ops:Array Oper)(bops:List AOper):Bool :=
 ((List.range ops.size).all fun i=>match ops[i]? with
  | some o=>o.after.all fun e=>!Region.binds .any e || decide (e.on < i)
  | none=>false) && stPat bops &&
 (List.range ops.size).all fun i=>(List.range i).all fun j=>waitsB ops i j || (match bops[j]?,bops[i]? with
  | some x,some y=>slotsB x y
  | _,_=>false)
def pinFrom (ops:Array Oper):Nat→Nat
 | 0=>0
 | n + 1=>if (List.range n).all (fun j=>waitsB ops n j) then pinFrom ops n else n + 1
def isCallOp:AOp→Bool
 | .call .. => true
 | _=>false
def endsInCall (bops:List AOper):Bool :=
 match bops.getLast? with
 | some o=>isCallOp o.op
 | none=>false
def pinOk (ops:Array Oper)(bops:List AOper)(n:Nat):Bool :=
 ((List.range ops.size).all fun i=>match ops[i]? with
  | some o=>o.after.all fun e=>!Region.binds .any e || decide (e.on < i)
  | none=>false) &&
 (bops.take n).all (fun o=>noHand o.op) && decide (n≤ops.size) &&
 ((List.range ops.size).all fun i=>decide (i < n) || (List.range i).all fun j=>waitsB ops i j) &&
 (List.range n).all fun i=>(List.range i).all fun j=>waitsB ops i j || (match bops[j]?,bops[i]? with
  | some x,some y=>commB x y
  | _,_=>false)
def listMark:Nat:=999999
def callsOf (l:List Nat)(bops:List AOper):Bool:=bops.any fun o=>match o.op with
 | .call (.const (.fn f _ _)) _=>l.contains f
 | _=>false
def cCode (P:Program)(takes:FuncId→List Nat)(res:List Nat):Code→Option ACode
 | .skip=>some .skip
 | .region _ ops false=>(cOpers P (fun t=>(handed takes res ops.toList).contains t) false ops ops.toList).map (.region false)
 | .region _ ops true=>match cOpers P (fun t=>(handed takes res ops.toList).contains t) true ops ops.toList,cOpers P (fun t=>(handed takes res ops.toList).contains t) false ops ops.toList with
  | some aops,some bops=>if ((bops.drop (pinFrom ops ops.size)).all (fun o=>o.guard.isNone) && endsInCall bops && decide (pinFrom ops ops.size < bops.length)) && pinOk ops bops (pinFrom ops ops.size) then some (.seq (.region true (bops.take (pinFrom ops ops.size))) (.region false (bops.drop (pinFrom ops ops.size)))) else if callsOf (takes listMark) bops && drawOk2 ops bops then some (.regionB bops) else if Region.lexB .any ops && quietAll aops then some (.region true aops) else if drawOk ops bops then some (.region true bops) else if drawOk2 ops bops then some (.regionB bops) else if drawS ops bops then some (.regionB bops) else some .bad
  | _,_=>none
 | .seq a b=>match cCode P takes res a,cCode P takes res b with
  | some a,some b=>some (.seq a b)
  | _,_=>none
 | .cond c a b=>match cOpnd P 0 c,cCode P takes res a,cCode P takes res b with
  | some c,some a,some b=>some (.cond c a b)
  | _,_,_=>none
 | .block id c=>(cCode P takes res c).map (.block id)
 | .loop c=>(cCode P takes res c).map .loop
 | .scope c=>(cCode P takes res c).map .scope
 | .exit id=>some (.exit id)
 | .ret=>some .ret
 | .label _=>some .skip
 | _=>some .bad
def resTmps:List ResultVar→List Nat
 | []=>[]
 | .tmp t :: l=>t :: resTmps l
 | _ :: l=>resTmps l
def cRes (P:Program):ResultVar→Option ARes
 | .tmp t=>some (.tmp t)
 | .cell t ty=>if isAggB P ty then some (.agg t (P.cellsOf ty)) else if (P.underlying ty).isSome then some (.one t) else none
def cRess (P:Program):List ResultVar→Option (List ARes)
 | []=>some []
 | r :: l=>match cRes P r,cRess P l with
  | some x,some xs=>some (x :: xs)
  | _,_=>none
def cFn (P:Program)(takes:FuncId→List Nat)(fn:Func):Option AFn :=
 match fn.body,cRess P fn.results.toList with
 | some c,some rs=>(cCode P takes (resTmps fn.results.toList) c).map fun ac=>⟨fn.ntmps,rs,ac,!(takes litMark).isEmpty⟩
 | _,_=>none
end Go.Proofs.YtcfjcimhjmpkiaaGreatDoor.Abs
end
section
namespace Go.Proofs.YtcfjcimhjmpkiaaGreatDoor.Abs
open Go Go.RowKit
def GOk (G:Nat→Option (List AV))(W0:World):Prop :=
 ∀ g cells,G g=some cells→g < W0.heap.size∧∀ (j:Nat) (c:AV),cells[j]? = some c→∃ u,W0.cell? ⟨g,j,none⟩=some u∧c.noId1=true∧Rep (fun _=>.imm) W0 c u
theorem RW.oldFix {W0 w:World}{Γ:Ghost}{hp:List AObj}(h:RW W0 Γ w hp):FixMono (fun _=>.imm) W0 Γ w:=by
 intro b o v _ hc
 have hb:=lt_of_cell hc
 exact ⟨by unfold Fixed; rw [h.oldImm b hb]; trivial,(cell_heap (h.old.block b hb)).trans hc⟩
section
variable {P:Program}
theorem ofCell_rep {t:TypeId}{v:Value}{x:AV}(h:ofCell P t v=some x)(Γ:Ghost)(w:World):Rep Γ w x v∧x.one=true∧∀ k r,x=.own k r→r=[]∧v=.slice none 0 0:=by
 unfold ofCell at h
 split at h <;> first | cases h; done | skip
 all_goals (obtain rfl:=Option.some.inj h; refine ⟨?_,rfl,?_⟩)
 case h_3.refine_1 s =>
  have:s=⟨s.data.toList.toArray⟩:=by cases s; simp
  rw [this]; exact .str _
 all_goals first
  | exact .bool _ | exact .int _ _ | exact .nilp | exact .nilf | exact .nilm | exact .nili | exact .own _ _ _ (.lstNil _)
  | (intro k r e; cases e; done)
  | (intro k r e; injection e with _ e; exact ⟨e.symm,rfl⟩)
theorem ofCells_rep:∀ {ts:List TypeId} {vs:List Value} {xs:List AV},ofCells P ts vs=some xs→∀ (Γ:Ghost) (w:World),
  vs.length=xs.length∧∀ (j:Nat) (c:AV),xs[j]? = some c→∃ u,vs[j]? = some u∧Rep Γ w c u∧c.one=true∧∀ k r,c=.own k r→r=[]∧u=.slice none 0 0
 | [],[],xs,h,Γ,w=>by
  simp only [ofCells,Option.some.injEq] at h
  subst h
  exact ⟨rfl,fun j c hc=>by simp at hc⟩
 | [],_ :: _,xs,h,Γ,w=>by simp [ofCells] at h
 | _ :: _,[],xs,h,Γ,w=>by simp [ofCells] at h
 | t :: ts,v :: vs,xs,h,Γ,w=>by
  simp only [ofCells] at h
  split at h
  ·rename_i x l h1 h2
   obtain rfl:=Option.some.inj h
   obtain ⟨a1,a2⟩:=ofCells_rep h2 Γ w
   refine ⟨by simp [a1],fun j c hc=>?_⟩
   cases j with
   | zero =>
    obtain rfl:=Option.some.inj (by simpa using hc:some x=some c)
    obtain ⟨b1,b2,b3⟩:=ofCell_rep h1 Γ w
    exact ⟨v,rfl,b1,b2,b3⟩
   | succ j=>exact a2 j c (by simpa using hc)
  ·cases h
theorem ofConst_rep {t:TypeId}{v:Value}{x:AV}(h:ofConst P t v=some x)(Γ:Ghost)(w:World):Rep Γ w x v∧∀ k r,x=.own k r→r=[]∧v=.slice none 0 0:=by
 unfold ofConst at h
 split at h
 ·rename_i cs
  split at h
  ·rename_i ts hts
   obtain ⟨l,hl,rfl⟩:=Option.map_eq_some_iff.1 h
   obtain ⟨a1,a2⟩:=ofCells_rep hl Γ w
   have hg:∀ (j:Nat) u,cs.toList[j]? = some u→cs.getD j undef=u:=fun j u hu=>by
    rw [Array.getD_eq_getD_getElem?]; rw [Array.getElem?_toList] at hu; rw [hu]; rfl
   refine ⟨.agg l cs (by rw [← a1]; simp) (fun j c hc=>?_) (fun j k r hc=>?_) (fun j c hc=>?_),fun k r e=>by cases e⟩
   ·obtain ⟨u,_,_,h3,_⟩:=a2 j c hc; exact h3
   ·obtain ⟨u,h1,_,_,h4⟩:=a2 j _ hc
    rw [hg j u h1]; exact h4 k r rfl
   ·obtain ⟨u,h1,h2,_⟩:=a2 j c hc
    rw [hg j u h1]; exact h2
  ·cases h
 ·rename_i vs
  split at h
  ·rename_i he
   obtain rfl:=Option.some.inj h
   obtain rfl:vs=#[]:=by simpa using he
   exact ⟨.undef,fun k r e=>by cases e⟩
  ·cases h
 ·obtain ⟨a1,_,a3⟩:=ofCell_rep h Γ w
  exact ⟨a1,a3⟩
end
section
variable {P:Program}{G:Nat→Option (List AV)}{E:Entry}{s:AState}{Γ:Ghost}{a:Act}{w:World}
theorem cOpnd_rep (hG:GOk G E.W0)(hI:Inv E s Γ a w){t:TypeId}{x:Operand}{y:Opnd}{v:AV}(hc:cOpnd P t x=some y)(h:opnd G s.sl y=some v) :
  Rep Γ w v (a.eval x)∧∀ k r,v=.own k r→r=[]∧a.eval x=.slice none 0 0:=by
 cases x with
 | tmp i =>
  obtain rfl:=Option.some.inj hc
  obtain ⟨u,hu,rfl⟩:=Option.map_eq_some_iff.1 h
  exact ⟨(hI.slots.rep i u hu).ro,fun k r e=>absurd e ro_ne_own⟩
 | const c =>
  obtain ⟨x,hx,rfl⟩:=Option.map_eq_some_iff.1 hc
  obtain rfl:=Option.some.inj h
  exact ofConst_rep hx Γ w
 | global g =>
  obtain rfl:=Option.some.inj hc
  obtain ⟨cells,hg,rfl⟩:=Option.map_eq_some_iff.1 h
  obtain ⟨hlt,hcs⟩:=hG g cells hg
  have hfix:=hI.rw.oldFix
  refine ⟨.ref cells g 0 (fun j=>(w.cell? ⟨g,j,none⟩).getD undef) (fun j c hc=>?_) (fun j c hc=>?_),fun k r e=>by cases e⟩
  ·obtain ⟨u,h1,h2,h3⟩:=hcs j c hc
   obtain ⟨f1,f2⟩:=hfix g j u trivial h1
   rw [Nat.zero_add,f2]
   exact ⟨rfl,f1,h2⟩
  ·obtain ⟨u,h1,h2,h3⟩:=hcs j c hc
   obtain ⟨f1,f2⟩:=hfix g j u trivial h1
   rw [f2]
   exact h3.noId hfix h2
 | func f =>
  obtain rfl:=Option.some.inj hc
  obtain rfl:=Option.some.inj h
  exact ⟨.fn f [] [] #[] #[] rfl (fun j c h=>by simp at h) rfl (fun j c h=>by simp at h),fun k r e=>by cases e⟩
theorem cOpnd_own (hG:GOk G E.W0)(hI:Inv E s Γ a w){t:TypeId}{x:Operand}{y:Opnd}{v:AV}(l:Loc)(hc:cOpnd P t x=some y)(h:opnd G s.sl y=some v):OwnAt Γ w l v (a.eval x) :=
 .nil (cOpnd_rep hG hI hc h).2
theorem cOpnds_rep (hG:GOk G E.W0)(hI:Inv E s Γ a w):∀ {ts:List TypeId} {xs:List Operand} {ys:List Opnd} {vs:List AV},cOpnds P ts xs=some ys→opnds G s.sl ys=some vs →
  xs.length=vs.length∧∀ (j:Nat) (v:AV),vs[j]? = some v→∃ x,xs[j]? = some x∧Rep Γ w v (a.eval x)∧∀ k r,v=.own k r→r=[]∧a.eval x=.slice none 0 0
 | [],[],ys,vs,hc,h=>by
  obtain rfl:=Option.some.inj hc
  obtain rfl:=Option.some.inj h
  exact ⟨rfl,fun j v hv=>by simp at hv⟩
 | [],_ :: _,ys,vs,hc,h=>by simp [cOpnds] at hc
 | _ :: _,[],ys,vs,hc,h=>by simp [cOpnds] at hc
 | t :: ts,x :: xs,ys,vs,hc,h=>by
  simp only [cOpnds] at hc
  split at hc
  ·rename_i y l h1 h2
   obtain rfl:=Option.some.inj hc
   simp only [opnds] at h
   split at h
   ·rename_i v hv
    obtain ⟨vs',hvs,rfl⟩:=Option.map_eq_some_iff.1 h
    obtain ⟨a1,a2⟩:=cOpnds_rep hG hI h2 hvs
    refine ⟨by simp [a1],fun j u hu=>?_⟩
    cases j with
    | zero =>
     obtain rfl:=Option.some.inj (by simpa using hu:some v=some u)
     obtain ⟨b1,b2⟩:=cOpnd_rep hG hI h1 hv
     exact ⟨x,rfl,b1,b2⟩
    | succ j=>exact a2 j u (by simpa using hu)
   ·cases h
  ·cases hc
def OpOk (P:Program)(E:Entry)(s':AState)(v:AV)(a:Act)(w:World)(o:Oper):Prop :=
 ∃ Γ' cv w',((execOp a.eval o).run P w=.ok (.value cv) w'∨((execOp a.eval o).run P w=.ok .skip w'∧cv=undef))∧Inv E s' Γ' a w'∧Rep Γ' w' v cv∧OwnAt Γ' w' .res v cv
theorem OpOk.wp {s':AState}{v:AV}{o:Oper}(h:OpOk P E s' v a w o){K:Act→World→Prop}{Q:Exit→Act→World→Prop}
  (hK:∀ Γ' cv w',Inv E s' Γ' a w'→Rep Γ' w' v cv→OwnAt Γ' w' .res v cv→K (a.put o.dst cv) w'):o.wp P a w K Q:=by
 obtain ⟨Γ',cv,w',hr,h1,h2,h3⟩:=h
 unfold Oper.wp
 rcases hr with hr | ⟨hr,rfl⟩ <;> rw [hr]
 ·exact hK Γ' cv w' h1 h2 h3
 ·exact hK Γ' _ w' h1 h2 h3
def Upon (w w':World):Prop:=∀ b,b < w.heap.size→w'.heap[b]? = w.heap[b]?
theorem Upon.refl (w:World):Upon w w:=fun _ _=>rfl
theorem Upon.cell {w w':World}(h:Upon w w'){b o:Nat}{v:Value}(hc:w.cell? ⟨b,o,none⟩=some v):w'.cell? ⟨b,o,none⟩=some v:=(cell_heap (h b (lt_of_cell hc))).trans hc
def OpCalm (P:Program)(Γ:Ghost)(w:World)(v:AV)(a:Act)(o:Oper):Prop :=
 ∃ cv,(∀ w',Upon w w'→(execOp a.eval o).run P w'=.ok (.value cv) w')∧Rep Γ w v cv∧∀ k r,v=.own k r→r=[]∧cv=.slice none 0 0
theorem OpCalm.mk' {P:Program}{Γ:Ghost}{w:World}{v:AV}{a:Act}{o:Oper}{cv:Value}(hr:∀ w',Upon w w'→(execOp a.eval o).run P w'=.ok (.value cv) w')(h1:Rep Γ w v cv)(h2:∀ k r,v=.own k r→r=[]∧cv=.slice none 0 0):OpCalm P Γ w v a o:=⟨cv,hr,h1,h2⟩
theorem OpOk.pure {v:AV}{cv:Value}{o:Oper}(hI:Inv E s Γ a w)(hr:(execOp a.eval o).run P w=.ok (.value cv) w)(h1:Rep Γ w v cv)(h2:∀ k r,v=.own k r→r=[]∧cv=.slice none 0 0):OpOk P E s v a w o :=
 ⟨Γ,cv,w,.inl hr,hI,h1,.nil h2⟩
theorem OpCalm.ok {v:AV}{o:Oper}(h:OpCalm P Γ w v a o)(hI:Inv E s Γ a w):OpOk P E s v a w o:=by
 obtain ⟨cv,hr,h1,h2⟩:=h
 exact .pure hI (hr w (.refl w)) h1 h2
def OpFit (P:Program)(E:Entry)(Γ:Ghost)(s s':AState)(v:AV)(a:Act)(w:World)(o:Oper)(ao:AOp):Prop :=
 OpOk P E s' v a w o∧(quietOp ao=true→s'=s∧OpCalm P Γ w v a o)
theorem OpCalm.fit {v:AV}{o:Oper}{ao:AOp}(h:OpCalm P Γ w v a o)(hI:Inv E s Γ a w):OpFit P E Γ s s v a w o ao:=⟨h.ok hI,fun _=>⟨rfl,h⟩⟩
theorem OpOk.fit {v:AV}{o:Oper}{s':AState}{ao:AOp}(h:OpOk P E s' v a w o)(hq:quietOp ao=false:=by rfl):OpFit P E Γ s s' v a w o ao:=⟨h,fun q=>by rw [hq] at q; cases q⟩
end
section
variable {P:Program}{Γ:Ghost}{w:World}
theorem eqGuard_run (op:BinOp)(t:TypeId)(x y:Operand){a b:Value}(ha:(∀ c,a≠.agg c)∧a≠.nilIface):(eqGuard op t x y a b).run P w=.ok () w:=by
 cases a with
 | agg c=>exact absurd rfl (ha.1 c)
 | nilIface=>exact absurd rfl ha.2
 | bool b=>rw [eqGuard_at_bool]; rfl
 | int k n=>rw [eqGuard_at_int]; rfl
 | float k n=>rw [eqGuard_at_float]; rfl
 | complex k n m=>rw [eqGuard_at_complex]; rfl
 | string s=>rw [eqGuard_at_string]; rfl
 | pointer p=>rw [eqGuard_at_pointer]; rfl
 | slice p n m=>rw [eqGuard_at_slice]; rfl
 | map r=>rw [eqGuard_at_map]; rfl
 | chan r=>rw [eqGuard_at_chan]; rfl
 | func f a c=>rw [eqGuard_at_func]; rfl
 | nilFunc=>rw [eqGuard_at_nilFunc]; rfl
 | iface d u=>rw [eqGuard_at_iface]; rfl
 | tuple vs=>rw [eqGuard_at_tuple]; rfl
theorem conc1_rep {v:AV}(h:v.flat1=true)(Γ:Ghost)(w:World):Rep Γ w v v.conc1:=by
 cases v <;> first | (cases h; done) | skip
 case undef=>exact .undef
 case bool b=>exact .bool b
 case int k n=>exact .int k n
 case str s=>exact .str s
 case nilp=>exact .nilp
 case nilf=>exact .nilf
 case nilm=>exact .nilm
 case nili=>exact .nili
 case fn f a c =>
  have:a=[]∧c=[]:=by simpa [AV.flat1] using h
  obtain ⟨rfl,rfl⟩:=this
  exact .fn f [] [] #[] #[] rfl (fun j c h=>by simp at h) rfl (fun j c h=>by simp at h)
theorem Rep.conc1 {v:AV}{cv:Value}(h:Rep Γ w v cv)(hf:v.flat1=true):cv=v.conc1:=by
 cases h <;> first | (cases hf; done) | rfl | skip
 case fn f a c fv cv hs1 hr1 hs hr =>
  have:a=[]∧c=[]:=by simpa [AV.flat1] using hf
  obtain ⟨rfl,rfl⟩:=this
  simp only [List.length_nil,Array.size_eq_zero_iff] at hs1 hs
  subst hs1 hs
  rfl
theorem flat1_own {v:AV}(h:v.flat1=true):∀ k r,v≠.own k r:=by cases v <;> first | (cases h; done) | simp
theorem intBin_run (op:BinOp)(k:IntKind)(x y:Int)(t:TypeId){v:AV}(h:intBin op k x y=some v):(binOp op t (.int k x) (.int k y)).run P w=.ok v.conc1 w∧v.flat1=true:=by
 cases op <;> simp only [intBin] at h <;> first | (cases h; done) | skip
 case quo =>
  split at h
  ·cases h
  ·rename_i hy
   obtain rfl:=Option.some.inj h
   exact ⟨by simp [binOp,Op.intDiv,hy,AV.conc1],rfl⟩
 case rem =>
  split at h
  ·cases h
  ·rename_i hy
   obtain rfl:=Option.some.inj h
   exact ⟨by simp [binOp,Op.intDiv,hy,AV.conc1],rfl⟩
 all_goals
  obtain rfl:=Option.some.inj h
  exact ⟨by simp [binOp,Op.intArith,Op.intCmp,Op.intBits,AV.conc1],rfl⟩
theorem shiftVal_run (op:BinOp)(k l:IntKind)(x y:Int)(t:TypeId){v:AV}(hs:isShift op=true)(h:shiftVal op k x y=some v):(binOp op t (.int k x) (.int l y)).run P w=.ok v.conc1 w∧v.flat1=true:=by
 unfold shiftVal at h
 split at h
 ·cases h
 ·rename_i hy
  cases op <;> first | (cases hs; done) | skip
  all_goals
   obtain rfl:=Option.some.inj h
   exact ⟨by simp [binOp,Op.shift,hy,AV.conc1],rfl⟩
theorem bytes_append (x y:List UInt8):ByteArray.mk x.toArray ++ ByteArray.mk y.toArray=ByteArray.mk (x ++ y).toArray:=by
 apply WideShapes.bytes_inj
 simp
theorem bytes_size (x:List UInt8):(ByteArray.mk x.toArray).size=x.length:=by simp [ByteArray.size]
theorem strOp_run (op:BinOp)(x y:List UInt8)(t:TypeId){v:AV}(h:strOp op x y=some v):(binOp op t (.string ⟨x.toArray⟩) (.string ⟨y.toArray⟩)).run P w=.ok v.conc1 w∧v.flat1=true:=by
 cases op <;> simp only [strOp] at h <;> first | (cases h; done) | skip
 case add =>
  split at h
  ·rename_i hl
   obtain rfl:=Option.some.inj h
   refine ⟨?_,rfl⟩
   simp only [binOp,Op.stringOp,bytes_size,bytes_append,IntKind.max_i64]
   rw [if_neg (by omega)]
   rfl
  ·cases h
 all_goals
  obtain rfl:=Option.some.inj h
  exact ⟨by simp [binOp,Op.stringOp,AV.conc1],rfl⟩
end
end Go.Proofs.YtcfjcimhjmpkiaaGreatDoor.Abs
end
section
namespace Go.Proofs.YtcfjcimhjmpkiaaGreatDoor.Abs
open Go Go.RowKit
section
variable {P:Program}{Γ:Ghost}{w:World}
theorem eqCell_run {c:CK}{t:TypeId}{x y:AV}{u v:Value}{b:Bool}(hk:cKind P t=some c)(hx:Rep Γ w x u)(hy:Rep Γ w y v)(h:eqCell c x y=some b)(d:Nat)(w':World) :
  (Op.equalIn (d + 1) t u v).run P w'=.ok b w':=by
 unfold cKind at hk
 unfold eqCell at h
 split at h <;> first | (cases h; done) | skip
 ·cases hx; cases hy
  obtain rfl:=Option.some.inj h
  split at hk <;> first | (cases hk; done) | skip
  rename_i hu
  exact run_equalIn_bool' w' d t _ _ hu
 ·cases hx; cases hy
  split at h
  ·rename_i e
   subst e
   obtain rfl:=Option.some.inj h
   split at hk <;> first | (cases hk; done) | skip
   rename_i hu
   exact run_equalIn_int w' d t _ _ _ _ hu
  ·cases h
 ·cases hx; cases hy
  obtain rfl:=Option.some.inj h
  split at hk <;> first | (cases hk; done) | skip
  rename_i hu
  rw [run_equalIn_string w' d t _ _ hu]
  simp
theorem part_cell {t:TypeId}{cs:Array Value}{off:Nat}{u:Value}(ht:isAggB P t=false)(hu:(P.underlying t).isSome=true)(h:cs[off]? = some u)(w:World):(part t cs off).run P w=.ok u w:=by
 obtain ⟨d,hd⟩:=Option.isSome_iff_exists.1 hu
 unfold isAggB at ht
 rw [hd] at ht
 have:(isAgg t).run P w=.ok false w:=by
  unfold isAgg
  simp only [Sem.run_bind,run_underlying hd,Result.andThen_ok]
  cases d <;> first | rfl | (simp at ht; done)
 simp [part,this,h]
theorem cKind_one {t:TypeId}{c:CK}(h:cKind P t=some c):isAggB P t=false∧(P.underlying t).isSome=true:=by
 unfold cKind at h
 unfold isAggB
 split at h <;> first | (cases h; done) | skip
 all_goals (rename_i hu; rw [hu]; exact ⟨rfl,rfl⟩)
theorem eqCells_run (d:Nat):∀ {fs:List Field} {ks:List CK} {xs ys:List AV} {us vs:Array Value} {b:Bool} (i:Nat),cKinds P i fs=some ks→eqCells ks xs ys=some b →
  (∀ (j:Nat) (c:AV),xs[j]? = some c→∃ u,us[i + j]? = some u∧Rep Γ w c u)→(∀ (j:Nat) (c:AV),ys[j]? = some c→∃ u,vs[i + j]? = some u∧Rep Γ w c u)→∀ w',(Op.eqFields (d + 1) us vs fs).run P w'=.ok b w'
 | [],ks,xs,ys,us,vs,b,i,hk,h,hx,hy,w'=>by
  obtain rfl:=Option.some.inj hk
  cases xs <;> cases ys <;> simp only [eqCells] at h <;> first | (cases h; done) | skip
  obtain rfl:=Option.some.inj h
  rfl
 | f :: fs,ks,xs,ys,us,vs,b,i,hk,h,hx,hy,w'=>by
  simp only [cKinds] at hk
  split at hk
  ·rename_i hf
   obtain ⟨hn,ho⟩:=hf
   split at hk
   ·rename_i k ks' h1 h2
    obtain rfl:=Option.some.inj hk
    cases xs with
    | nil=>simp [eqCells] at h
    | cons x xs =>
     cases ys with
     | nil=>simp [eqCells] at h
     | cons y ys =>
      obtain ⟨u,hu,hru⟩:=hx 0 x rfl
      obtain ⟨v,hv,hrv⟩:=hy 0 y rfl
      simp only [Nat.add_zero] at hu hv
      obtain ⟨g1,g2⟩:=cKind_one h1
      have p1:=part_cell (cs := us) (off := f.offset) g1 g2 (by rw [ho]; exact hu) w'
      have p2:=part_cell (cs := vs) (off := f.offset) g1 g2 (by rw [ho]; exact hv) w'
      simp only [eqCells] at h
      simp only [Op.eqFields,ne_eq,hn,not_false_eq_true,if_true,Sem.run_bind,p1,p2,Result.andThen_ok]
      cases hq:eqCell k x y with
      | none=>rw [hq] at h; cases h
      | some q =>
       rw [hq] at h
       rw [eqCell_run h1 hru hrv hq d w']
       cases q with
       | true =>
        simp only [Result.andThen_ok,Bool.not_true,Bool.false_eq_true,if_false]
        exact eqCells_run d (i + 1) h2 h (fun j c hc=>by have:=hx (j + 1) c (by simpa using hc); rwa [show i + (j + 1)=i + 1 + j by omega] at this)
         (fun j c hc=>by have:=hy (j + 1) c (by simpa using hc); rwa [show i + (j + 1)=i + 1 + j by omega] at this) w'
       | false =>
        obtain rfl:=Option.some.inj h
        simp
   ·cases hk
  ·cases hk
theorem eqItems_run (d:Nat){e:TypeId}{c:CK}(hk:cKind P e=some c)(hn:P.cellsOf e=1){us vs:Array Value}:∀ (m i:Nat) {xs ys:List AV} {b:Bool},eqCells (List.replicate m c) xs ys=some b →
  (∀ (j:Nat) (c:AV),xs[j]? = some c→∃ u,us[i + j]? = some u∧Rep Γ w c u)→(∀ (j:Nat) (c:AV),ys[j]? = some c→∃ u,vs[i + j]? = some u∧Rep Γ w c u)→∀ w',(Op.eqItems (d + 1) e (P.cellsOf e) us vs (List.range' i m)).run P w'=.ok b w'
 | 0,i,xs,ys,b,h,hx,hy,w'=>by
  cases xs <;> cases ys <;> simp only [List.replicate,eqCells] at h <;> first | (cases h; done) | skip
  obtain rfl:=Option.some.inj h
  rfl
 | m + 1,i,xs,ys,b,h,hx,hy,w'=>by
  cases xs with
  | nil=>simp [List.replicate,eqCells] at h
  | cons x xs =>
   cases ys with
   | nil=>simp [List.replicate,eqCells] at h
   | cons y ys =>
    obtain ⟨u,hu,hru⟩:=hx 0 x rfl
    obtain ⟨v,hv,hrv⟩:=hy 0 y rfl
    simp only [Nat.add_zero] at hu hv
    obtain ⟨g1,g2⟩:=cKind_one hk
    have p1:=part_cell (cs := us) (off := i * P.cellsOf e) g1 g2 (by rw [hn,Nat.mul_one]; exact hu) w'
    have p2:=part_cell (cs := vs) (off := i * P.cellsOf e) g1 g2 (by rw [hn,Nat.mul_one]; exact hv) w'
    simp only [List.replicate,eqCells] at h
    simp only [List.range'_succ,Op.eqItems,Sem.run_bind,p1,p2,Result.andThen_ok]
    cases hq:eqCell c x y with
    | none=>rw [hq] at h; cases h
    | some q =>
     rw [hq] at h
     rw [eqCell_run hk hru hrv hq d w']
     cases q with
     | true =>
      simp only [Result.andThen_ok,Bool.not_true,Bool.false_eq_true,if_false]
      exact eqItems_run d hk hn m (i + 1) h (fun j c hc=>by have:=hx (j + 1) c (by simpa using hc); rwa [show i + (j + 1)=i + 1 + j by omega] at this)
       (fun j c hc=>by have:=hy (j + 1) c (by simpa using hc); rwa [show i + (j + 1)=i + 1 + j by omega] at this) w'
     | false =>
      obtain rfl:=Option.some.inj h
      simp
theorem agg_cells {cells:List AV}{u:Value}(h:Rep Γ w (.agg cells) u):∃ cv:Array Value,u=.agg cv∧cv.size=cells.length∧∀ (j:Nat) (c:AV),cells[j]? = some c→∃ u,cv[j]? = some u∧Rep Γ w c u:=by
 cases h with
 | agg _ cv hs h1 hn hr =>
  refine ⟨cv,rfl,hs,fun j c hc=>?_⟩
  have hj:j < cells.length:=by
   rcases Nat.lt_or_ge j cells.length with h | h
   ·exact h
   ·rw [List.getElem?_eq_none h] at hc; cases hc
  have hj':j < cv.size:=by omega
  refine ⟨cv[j],Array.getElem?_eq_getElem hj',?_⟩
  have:=hr j c hc
  rwa [Array.getD_eq_getD_getElem?,Array.getElem?_eq_getElem hj'] at this
theorem eqNil_run {sh:EqSh}{t:TypeId}{x y:AV}{u v:Value}{b:Bool}(hs:eqSh P t=some sh)(hsh:sh=.ptr∨sh=.func)(hx:Rep Γ w x u)(hy:Rep Γ w y v)(h:eqVal sh x y=some b)(w':World)(d:Nat) :
  (Op.equalIn (d + 1) t u v).run P w'=.ok b w'∧((∀ c,u≠.agg c)∧u≠.nilIface)∧(binOp .eql t u v=(do pure (.bool (← Op.equal t u v))))∧(binOp .neq t u v=(do pure (.bool (!(← Op.equal t u v))))):=by
 unfold eqSh at hs
 unfold eqVal at h
 split at h <;> first | (cases h; done) | (rcases hsh with e | e <;> cases e; done) | skip
 all_goals
  (cases hx; cases hy
   obtain rfl:=Option.some.inj h
   split at hs <;> first | (cases hs; done) | skip
   ·rename_i hu
    exact ⟨by simp [Op.equalIn,run_underlying hu],⟨by simp,by simp⟩,rfl,rfl⟩
   ·split at hs
    ·obtain ⟨_,_,e⟩:=Option.map_eq_some_iff.1 hs; cases e
    ·cases hs
   ·split at hs <;> first | (cases hs; done) | (split at hs <;> cases hs))
theorem eqVal_run {sh:EqSh}{t:TypeId}{x y:AV}{u v:Value}{b:Bool}(hs:eqSh P t=some sh)(hx:Rep Γ w x u)(hy:Rep Γ w y v)(h:eqVal sh x y=some b)(w':World) :
  (Op.equalIn 10000 t u v).run P w'=.ok b w'∧(∀ op x y,(eqGuard op t x y u v).run P w'=.ok () w')∧(binOp .eql t u v=(do pure (.bool (← Op.equal t u v))))∧(binOp .neq t u v=(do pure (.bool (!(← Op.equal t u v))))):=by
 cases sh with
 | prim=>simp [eqVal] at h
 | ptr=>obtain ⟨e1,e2,e3,e4⟩:=eqNil_run hs (.inl rfl) hx hy h w' 9999; exact ⟨e1,fun op x y=>eqGuard_run op t x y e2,e3,e4⟩
 | func=>obtain ⟨e1,e2,e3,e4⟩:=eqNil_run hs (.inr rfl) hx hy h w' 9999; exact ⟨e1,fun op x y=>eqGuard_run op t x y e2,e3,e4⟩
 | bool =>
  cases x <;> cases y <;> simp only [eqVal] at h <;> first | (cases h; done) | skip
  unfold eqSh at hs
  cases hx; cases hy
  obtain rfl:=Option.some.inj h
  split at hs <;> first | (cases hs; done) | skip
  ·rename_i hu
   exact ⟨run_equalIn_bool' w' 9999 t _ _ hu,fun op x y=>eqGuard_run op t x y ⟨by simp,by simp⟩,rfl,rfl⟩
  ·split at hs
   ·obtain ⟨_,_,e⟩:=Option.map_eq_some_iff.1 hs; cases e
   ·cases hs
  ·split at hs <;> first | (cases hs; done) | (split at hs <;> cases hs)
 | struct ks =>
  cases x <;> cases y <;> simp only [eqVal] at h <;> first | (cases h; done) | skip
  obtain ⟨us,rfl,hs1,hu⟩:=agg_cells hx
  obtain ⟨vs,rfl,hs2,hv⟩:=agg_cells hy
  unfold eqSh at hs
  split at hs <;> first | (cases hs; done) | skip
  ·rename_i fs hus
   split at hs
   ·rename_i hc
    obtain ⟨ks,hks,e⟩:=Option.map_eq_some_iff.1 hs
    cases e
    have hfs:P.fieldsOf t=fs:=by unfold Program.fieldsOf; rw [hus]
    refine ⟨?_,fun op x y=>run_eqGuard_agg w' op t x y us vs hc.2,rfl,rfl⟩
    rw [run_equalIn_agg w' 9999 t us vs (by rw [hfs]; exact hus) hc.1,hfs]
    exact eqCells_run 9998 0 hks h (fun j c hc=>by simpa using hu j c hc) (fun j c hc=>by simpa using hv j c hc) w'
   ·cases hs
  ·rename_i n e hus
   split at hs
   ·rename_i c hk
    split at hs
    ·rename_i hc
     cases hs
     obtain ⟨i,hi⟩:=Option.isSome_iff_exists.1 hc.2.2.1
     refine ⟨?_,fun op x y=>run_eqGuard_agg w' op t x y us vs hc.2.1,rfl,rfl⟩
     rw [run_equalIn_array w' 9999 us vs hus hi,List.range_eq_range']
     exact eqItems_run 9998 hk hc.1 n 0 h (fun j c hc=>by simpa using hu j c hc) (fun j c hc=>by simpa using hv j c hc) w'
    ·cases hs
   ·cases hs
theorem binVal_run {sh:EqSh}{op:BinOp}{t:TypeId}{x y:AV}{u v:Value}{r:AV}(hs:eqSh P t=some sh)(hx:Rep Γ w x u)(hy:Rep Γ w y v)(h:binVal op sh x y=some r)(a b:Operand)(w':World) :
  ((do eqGuard op t a b u v; binOp op t u v:Sem Value)).run P w'=.ok r.conc1 w'∧r.flat1=true:=by
 unfold binVal at h
 split at h
 ·split at h <;> first | (cases h; done) | skip
  ·split at h
   ·rename_i hsh
    cases hx; cases hy
    obtain ⟨a1,a2⟩:=shiftVal_run (P := P) (w := w') op _ _ _ _ t hsh h
    exact ⟨by rw [Sem.run_bind,eqGuard_run op t a b ⟨by simp,by simp⟩,Result.andThen_ok,a1],a2⟩
   split at h
   ·rename_i e
    subst e
    cases hx; cases hy
    obtain ⟨a1,a2⟩:=intBin_run (P := P) (w := w') op _ _ _ t h
    exact ⟨by rw [Sem.run_bind,eqGuard_run op t a b ⟨by simp,by simp⟩,Result.andThen_ok,a1],a2⟩
   ·cases h
  ·cases hx; cases hy
   obtain ⟨a1,a2⟩:=strOp_run (P := P) (w := w') op _ _ t h
   exact ⟨by rw [Sem.run_bind,eqGuard_run op t a b ⟨by simp,by simp⟩,Result.andThen_ok,a1],a2⟩
 ·split at h <;> first | (cases h; done) | skip
  ·obtain ⟨b',hb,rfl⟩:=Option.map_eq_some_iff.1 h
   obtain ⟨e1,e2,e3,e4⟩:=eqVal_run hs hx hy hb w'
   refine ⟨?_,rfl⟩
   rw [Sem.run_bind,e2,Result.andThen_ok,e3]
   simp [Op.equal,Op.maxDepth,e1,AV.conc1]
  ·obtain ⟨b',hb,rfl⟩:=Option.map_eq_some_iff.1 h
   obtain ⟨e1,e2,e3,e4⟩:=eqVal_run hs hx hy hb w'
   refine ⟨?_,rfl⟩
   rw [Sem.run_bind,e2,Result.andThen_ok,e4]
   simp [Op.equal,Op.maxDepth,e1,AV.conc1]
end
section
variable {Γ:Ghost}{w:World}
theorem Rep.cellsRep {v:AV}{cv:Value}(h:Rep Γ w v cv)(hl:v.laid=true)(hn:∀ k r,v=.own k r→r=[]∧cv=.slice none 0 0) :
  cv.cells.size=v.cells.length∧∀ (i:Nat) (c:AV),v.cells[i]? = some c→c.one=true∧Rep Γ w c (cv.cells.getD i Go.undef)∧∀ k r,c=.own k r→r=[]∧cv.cells.getD i Go.undef=.slice none 0 0:=by
 cases h with
 | agg cells cv hs h1 hn' hr=>exact ⟨hs,fun i c hc=>⟨h1 i c hc,hr i c hc,fun k r e=>by subst e; exact hn' i k r hc⟩⟩
 | undef=>cases hl
 | tup vs cv hs hr=>cases hl
 | own k rows v h =>
  obtain ⟨rfl,rfl⟩:=hn k rows rfl
  refine ⟨rfl,fun i c hc=>?_⟩
  cases i with
  | zero =>
   obtain rfl:=Option.some.inj (by simpa [AV.cells] using hc:some (AV.own k [])=some c)
   exact ⟨rfl,.own k [] _ (.lstNil k),fun k' r e=>by injection e with _ e; exact ⟨e.symm,rfl⟩⟩
  | succ i=>simp [AV.cells] at hc
 | _ =>
  refine ⟨rfl,fun i c hc=>?_⟩
  cases i with
  | zero =>
   simp only [AV.cells,List.getElem?_cons_zero,Option.some.injEq] at hc
   subst hc
   refine ⟨rfl,?_,fun k r e=>by cases e⟩
   first
    | exact .bool _ | exact .int _ _ | exact .str _ | exact .nilp | exact .nilf | exact .nilm | exact .nili | exact .nils _ | exact .lstNil _ | exact .lstE _ _ _
    | (apply Rep.lst <;> assumption) | (apply Rep.arr <;> assumption) | (apply Rep.arrs <;> assumption) | (apply Rep.ref <;> assumption) | (apply Rep.ptr <;> assumption) | (apply Rep.map <;> assumption) | (apply Rep.fn <;> assumption)
  | succ i=>simp [AV.cells] at hc
end
section
variable {P:Program}{G:Nat→Option (List AV)}{E:Entry}{s:AState}{Γ:Ghost}{a:Act}{w:World}{o:Oper}
theorem ok_mv (hG:GOk G E.W0)(hI:Inv E s Γ a w){x:Operand}{y:Opnd}{t:TypeId}{v:AV}(ho:o.op=.move x∨o.op=.assign x)(hc:cOpnd P t x=some y)(h:opnd G s.sl y=some v):OpCalm P Γ w v a o:=by
 obtain ⟨h1,h2⟩:=cOpnd_rep hG hI hc h
 exact .mk' (fun w' _=>by rcases ho with ho | ho <;> simp [execOp,ho]) h1 h2
theorem ok_take (hI:Inv E s Γ a w){t:Nat}{v:AV}(ho:o.op=.move (.tmp t)∨o.op=.assign (.tmp t))(h:s.sl[t]? = some v):OpOk P E (s.let_ t) v a w o:=by
 obtain ⟨Γ',h1,h2,h3⟩:=hI.take t h
 exact ⟨Γ',_,w,.inl (by rcases ho with ho | ho <;> simp only [execOp,ho] <;> rfl),h1,h2,h3⟩
theorem ok_pick (hG:GOk G E.W0)(hI:Inv E s Γ a w){c x y:Operand}{c' x' y':Opnd}{t:TypeId}{b:Bool}{v:AV}(ho:o.op=.pick c x y)(h1:cOpnd P 0 c=some c')(h2:cOpnd P t x=some x')(h3:cOpnd P t y=some y')
  (hc:opnd G s.sl c'=some (.bool b)) (h:opnd G s.sl (if b then x' else y')=some v):OpCalm P Γ w v a o:=by
 have hb:=(cOpnd_rep hG hI h1 hc).1
 have hb':a.eval c=.bool b:=by generalize a.eval c=u at hb; cases hb; rfl
 have hr:∀ w',Upon w w'→(execOp a.eval o).run P w'=.ok (.value (a.eval (if b then x else y))) w':=fun w' _=>by
  simp only [execOp,ho,hb']
  cases b <;> simp [asBool]
 cases b with
 | true=>obtain ⟨k1,k2⟩:=cOpnd_rep hG hI h2 h; exact .mk' hr k1 k2
 | false=>obtain ⟨k1,k2⟩:=cOpnd_rep hG hI h3 h; exact .mk' hr k1 k2
theorem alloc_obj (hI:Inv E s Γ a w){e:TypeId}{v:AV}{cv:Value}(hr:Rep Γ w v cv)(hl:v.laid=true)(hn:∀ k r,v=.own k r→r=[]∧cv=.slice none 0 0) :
  Inv E { s with hp:=s.hp ++ [.cells v.cells e] } (setG Γ w.heap.size (.own s.hp.length)) a (w.alloc (.cells cv.cells e))∧Rep (setG Γ w.heap.size (.own s.hp.length)) (w.alloc (.cells cv.cells e)) (.ptr s.hp.length 0) (.pointer (some ⟨w.heap.size,0,none⟩)):=by
 obtain ⟨a1,a2⟩:=hr.cellsRep hl hn
 have st:=step_alloc hI.rw.fresh (.cells cv.cells e) (.own s.hp.length)
 refine ⟨hI.allocObj _ _ ⟨w.heap.size,cv.cells,setG_same _ _ _,heap_alloc_new w _,a1,fun i c hc=>?_⟩,.ptr _ _ _ (setG_same _ _ _)⟩
 obtain ⟨b1,b2,b3⟩:=a2 i c hc
 exact ⟨b1,b2.mono st.fix st.own,.nil b3⟩
theorem zeroOf_spec {t:TypeId}{z:AV}(h:zeroOf P t=some z):∃ i zv,P.info? t=some i∧i.zero=some zv∧∀ (Γ:Ghost) (w:World),Rep Γ w z zv∧∀ k r,z=.own k r→r=[]∧zv=.slice none 0 0:=by
 unfold zeroOf at h
 split at h
 ·rename_i i hi
  split at h
  ·rename_i zv hz
   exact ⟨i,zv,hi,hz,ofConst_rep h⟩
  ·cases h
 ·cases h
theorem zeroMk_spec {t:TypeId}{z:AV}(h:zeroMk P t=some z):∃ i zv,P.info? t=some i∧i.zero=some zv∧∀ (Γ:Ghost) (w:World),Rep Γ w z zv∧∀ k r,z=.own k r→r=[]∧zv=.slice none 0 0:=by
 unfold zeroMk at h
 split at h
 ·rename_i m hz
  split at h
  ·rename_i hm
   cases h
   obtain ⟨i,zv,h1,h2,h3⟩:=zeroOf_spec hz
   refine ⟨i,zv,h1,h2,fun Γ w=>⟨?_,fun k r e=>by cases e⟩⟩
   obtain ⟨k1,_⟩:=h3 Γ w
   cases k1 with
   | agg cells cv hs q1 qn qr =>
    have e1:=(qn 1 1 [] rfl).2
    refine .agg _ cv hs (fun j c hc=>?_) (fun j k r hc=>?_) (fun j c hc=>?_)
    ·match j,hc with
     | 0,hc=>cases hc; rfl
     | 1,hc=>cases hc; rfl
     | j + 2,hc=>exact q1 (j + 2) c hc
    ·match j,hc with
     | 0,hc=>cases hc
     | 1,hc=>cases hc
     | j + 2,hc=>exact qn (j + 2) k r hc
    ·match j,hc with
     | 0,hc=>cases hc; exact qr 0 _ rfl
     | 1,hc=>cases hc; rw [e1]; exact .nils 1
     | j + 2,hc=>exact qr (j + 2) c hc
  ·cases h; exact zeroOf_spec hz
 ·exact zeroOf_spec h
theorem laid_of_one {z:AV}(h:z.cells.all AV.one=true):z.laid=true:=by cases z <;> first | rfl | (simp [AV.cells,AV.one] at h)
theorem ok_mk (hI:Inv E s Γ a w){e:TypeId}{z:AV}(ho:o.op=.alloc e)(hz:zeroMk P e=some z)(h1:z.cells.all AV.one=true):OpOk P E { s with hp:=s.hp ++ [.cells z.cells e] } (.ptr s.hp.length 0) a w o:=by
 obtain ⟨i,zv,hi,hzv,hrep⟩:=zeroMk_spec hz
 obtain ⟨k1,k2⟩:=hrep Γ w
 obtain ⟨i1,i2⟩:=alloc_obj hI (e := e) k1 (laid_of_one h1) k2
 refine ⟨_,_,_,.inl ?_,i1,i2,.of_ne (by simp)⟩
 simp only [execOp,ho]
 simp [Instr.alloc,zeroValue,typeInfo,hi,hzv,newVar,newRow]
theorem ok_box (hG:GOk G E.W0)(hI:Inv E s Γ a w){e:TypeId}{x:Operand}{y:Opnd}{v:AV}(ho:o.op=.box e x)(hc:cOpnd P e x=some y)(h:opnd G s.sl y=some v)(hl:v.laid=true):OpOk P E { s with hp:=s.hp ++ [.cells v.cells e] } (.ptr s.hp.length 0) a w o:=by
 obtain ⟨k1,k2⟩:=cOpnd_rep hG hI hc h
 obtain ⟨i1,i2⟩:=alloc_obj hI (e := e) k1 hl k2
 refine ⟨_,_,_,.inl ?_,i1,i2,.of_ne (by simp)⟩
 simp only [execOp,ho]
 simp [Instr.box,newVar,newRow]
theorem ok_bin (hG:GOk G E.W0)(hI:Inv E s Γ a w){op:BinOp}{t t':TypeId}{x y:Operand}{x' y':Opnd}{sh:EqSh}{u v r:AV}(ho:o.op=.binOp op t x y t')(hs:eqSh P t=some sh)(h1:cOpnd P t x=some x')(h2:cOpnd P t y=some y')
  (hx:opnd G s.sl x'=some u) (hy:opnd G s.sl y'=some v) (h:binVal op sh u v=some r):OpCalm P Γ w r a o:=by
 have e1:=fun w'=>(binVal_run hs (cOpnd_rep hG hI h1 hx).1 (cOpnd_rep hG hI h2 hy).1 h x y w').1
 have e2:=(binVal_run hs (cOpnd_rep hG hI h1 hx).1 (cOpnd_rep hG hI h2 hy).1 h x y w).2
 refine .mk' (cv := r.conc1) (fun w' _=>?_) (conc1_rep e2 Γ w) fun k r' e=>absurd e (flat1_own e2 k r')
 simp only [execOp,ho,Sem.run_bind,e1,Result.andThen_ok]
 rfl
theorem ok_un (hG:GOk G E.W0)(hI:Inv E s Γ a w){op:UnOp}{t:TypeId}{x:Operand}{x':Opnd}{u r:AV}(ho:o.op=.unOp op t x)(h1:cOpnd P t x=some x')(hx:opnd G s.sl x'=some u)(h:unVal op u=some r):OpCalm P Γ w r a o:=by
 have hu:=(cOpnd_rep hG hI h1 hx).1
 unfold unVal at h
 split at h <;> first | (cases h; done) | skip
 all_goals
  obtain rfl:=Option.some.inj h
  generalize hq:a.eval x=q at hu
  cases hu
  refine .mk' (cv := AV.conc1 _) (fun w' _=>?_) (conc1_rep (by rfl) Γ w) fun k r e=>by cases e
  simp [execOp,ho,hq,Op.unary,Op.intArith,AV.conc1]
end
end Go.Proofs.YtcfjcimhjmpkiaaGreatDoor.Abs
end
section
namespace Go.Proofs.YtcfjcimhjmpkiaaGreatDoor.Abs
open Go Go.RowKit
section
variable {P:Program}
theorem isAgg_run {t:TypeId}{b:Bool}(h:isAggB P t=b)(hu:(P.underlying t).isSome=true)(w:World):(isAgg t).run P w=.ok b w:=by
 obtain ⟨d,hd⟩:=Option.isSome_iff_exists.1 hu
 unfold isAggB at h
 rw [hd] at h
 unfold isAgg
 simp only [Sem.run_bind,run_underlying hd,Result.andThen_ok]
 cases d <;> simp only at h <;> subst h <;> rfl
theorem isAggB_some {t:TypeId}(h:isAggB P t=true):(P.underlying t).isSome=true:=by
 unfold isAggB at h
 cases hd:P.underlying t with
 | none=>rw [hd] at h; cases h
 | some d=>rfl
theorem info_of_underlying {t:TypeId}(h:(P.underlying t).isSome=true):∃ i,P.info? t=some i:=by
 unfold Program.underlying at h
 cases hi:P.info? t with
 | none=>rw [hi] at h; cases h
 | some i=>exact ⟨i,rfl⟩
theorem sizeOf_run {t:TypeId}{i:TypeInfo}(h:P.info? t=some i)(w:World):(sizeOf t).run P w=.ok (P.cellsOf t) w:=by simp [sizeOf,typeInfo,h,Program.cellsOf]
theorem add_lit (b o n:Nat):(⟨b,o,none⟩:Addr).add n=⟨b,o + n,none⟩:=Addr.add_lit b o n
end
section
variable {P:Program}{G:Nat→Option (List AV)}{E:Entry}{s:AState}{Γ:Ghost}{a:Act}{w:World}{o:Oper}
theorem Inv.cells (hI:Inv E s Γ a w){g off:Nat}{cs:List AV}{t:TypeId}{v:Value}(hp:Rep Γ w (.ptr g off) v)(hg:s.hp[g]? = some (.cells cs t)) :
  ∃ b C,v=.pointer (some ⟨b,off,none⟩)∧Γ b=.own g∧w.heap[b]? = some (.cells C t (0,0))∧C.size=cs.length ∧
   ∀ (i:Nat) (c:AV),cs[i]? = some c→c.one=true∧Rep Γ w c (C.getD i Go.undef)∧OwnAt Γ w (.cell g i) c (C.getD i Go.undef):=by
 cases hp with
 | ptr _ _ b hb =>
  obtain ⟨b',C,h1,h2,h3,h4⟩:=hI.rw.objs g _ hg
  obtain rfl:=hI.rw.inj b b' g hb h1
  exact ⟨b,C,rfl,hb,h2,h3,h4⟩
theorem Inv.buf (hI:Inv E s Γ a w){g off:Nat}{l:List UInt8}{t e:TypeId}{m:List AV}{v:Value}(hp:Rep Γ w (.ptr g off) v)(hg:s.hp[g]? = some (.buf l t e m)) :
  ∃ b C,v=.pointer (some ⟨b,off,none⟩)∧Γ b=.own g∧w.heap[b]? = some (.cells C t (0,0))∧BufAt Γ w g b l e m C:=by
 cases hp with
 | ptr _ _ b hb =>
  obtain ⟨b',C,h1,h2,h3⟩:=hI.rw.objs g _ hg
  obtain rfl:=hI.rw.inj b b' g hb h1
  exact ⟨b,C,rfl,hb,h2,h3⟩
theorem getD_of_lt {C:Array Value}{i:Nat}(h:i < C.size):C[i]? = some (C.getD i Go.undef):=by
 rw [Array.getD_eq_getD_getElem?,Array.getElem?_eq_getElem h]; rfl
theorem Zc {α:Type}{l:List α}{i:Nat}{x:α}(h:l[i]? = some x):i < l.length:=(List.getElem?_eq_some_iff.1 h).1
theorem ldc_run (hI:Inv E s Γ a w){x:AV}{v:AV}{u:Value}(hp:Rep Γ w x u)(h:ldcVal s.hp x=some v) :
  ∃ b off cv,u=.pointer (some ⟨b,off,none⟩)∧w.cell? ⟨b,off,none⟩=some cv∧Rep Γ w v cv∧∀ k r,v≠.own k r:=by
 unfold ldcVal at h
 split at h
 ·rename_i c l
  obtain rfl:=Option.some.inj h
  cases hp with
  | ref _ b o cv hc hr =>
   have:=hc 0 c rfl
   exact ⟨b,o,cv 0,rfl,this.1,(hr 0 c rfl).ro,fun k r=>ro_ne_own⟩
 ·rename_i g off
  split at h
  ·rename_i cs t hg
   obtain ⟨c,hc,rfl⟩:=Option.map_eq_some_iff.1 h
   obtain ⟨b,C,rfl,hb,hh,hs,hcs⟩:=hI.cells hp hg
   obtain ⟨_,h2,_⟩:=hcs off c hc
   refine ⟨b,off,C.getD off Go.undef,rfl,?_,h2.ro,fun k r=>ro_ne_own⟩
   rw [cell_of_row w b off C t (0,0) hh]
   exact getD_of_lt (by have:=Zc hc; omega)
  ·rename_i l t e m hg
   split at h <;> first | (cases h; done) | skip
   rename_i hoff
   obtain ⟨c,hc,rfl⟩:=Option.map_eq_some_iff.1 h
   obtain ⟨b,C,rfl,hb,hh,hbuf⟩:=hI.buf hp hg
   obtain ⟨h1,h2⟩:=hbuf.cell hc
   refine ⟨b,off,c.conc1,rfl,?_,(conc1_rep h2 Γ w).ro,fun k r=>ro_ne_own⟩
   rw [cell_of_row w b off C t (0,0) hh,← h1,show off - 2 + 2=off by omega]
  ·cases h
 ·cases h
theorem ok_ldc (hG:GOk G E.W0)(hI:Inv E s Γ a w){t:TypeId}{p:Operand}{p':Opnd}{x v:AV}(ho:o.op=.load t p)(ht:isAggB P t=false)(hu:(P.underlying t).isSome=true)(hc:cOpnd P 0 p=some p')
  (hx:opnd G s.sl p'=some x) (h:ldcVal s.hp x=some v):OpCalm P Γ w v a o:=by
 obtain ⟨b,off,cv,e,hcell,hr,hn⟩:=ldc_run hI (cOpnd_rep hG hI hc hx).1 h
 refine .mk' (fun w' hw=>?_) hr fun k r e=>absurd e (hn k r)
 have hcell:=hw.cell hcell
 simp only [execOp,ho,e]
 simp [Instr.loadAt,Instr.sureAddr,loadVar,isAgg_run ht hu,hcell]
theorem agg_mk {cs:List AV}{cv:List Value}(hl:cv.length=cs.length)(h:∀ (j:Nat) (c:AV),cs[j]? = some c→c.one=true∧∃ u,cv[j]? = some u∧Rep Γ w c u):Rep Γ w (.agg (cs.map AV.ro)) (.agg cv.toArray):=by
 have hg:∀ (j:Nat) u,cv[j]? = some u→cv.toArray.getD j Go.undef=u:=fun j u hu=>by
  rw [Array.getD_eq_getD_getElem?,List.getElem?_toArray,hu]; rfl
 refine .agg _ _ (by simpa using hl) (fun j c hc=>?_) (fun j k r hc=>?_) (fun j c hc=>?_)
 ·rw [List.getElem?_map] at hc
  obtain ⟨c',h',rfl⟩:=Option.map_eq_some_iff.1 hc
  rw [one_ro]; exact (h j c' h').1
 ·rw [List.getElem?_map] at hc
  obtain ⟨c',h',e⟩:=Option.map_eq_some_iff.1 hc
  exact absurd e ro_ne_own
 ·rw [List.getElem?_map] at hc
  obtain ⟨c',h',rfl⟩:=Option.map_eq_some_iff.1 hc
  obtain ⟨_,u,hu,hr⟩:=h j c' h'
  rw [hg j u hu]; exact hr.ro
theorem lda_run (hI:Inv E s Γ a w){n:Nat}{x:AV}{v:AV}{u:Value}(hp:Rep Γ w x u)(h:ldaVal s.hp n x=some v) :
  ∃ b off,∃ cv:List Value,u=.pointer (some ⟨b,off,none⟩)∧cv.length=n∧(∀ j y,cv[j]? = some y→w.cell? ⟨b,off + j,none⟩=some y)∧Rep Γ w v (.agg cv.toArray)∧∀ k r,v≠.own k r:=by
 unfold ldaVal at h
 split at h
 ·rename_i cs
  split at h
  ·rename_i hn
   obtain rfl:=Option.some.inj h
   cases hp with
   | ref _ b o cv hc hr =>
    refine ⟨b,o,(List.range n).map cv,rfl,by simp,fun j y hj=>?_,agg_mk (by simp; omega) (fun j c hc'=>?_),by simp⟩
    ·rw [List.getElem?_map] at hj
     obtain ⟨j',hj',rfl⟩:=Option.map_eq_some_iff.1 hj
     have hlt:=Zc hj'
     simp only [List.length_range] at hlt
     rw [List.getElem?_range hlt] at hj'
     obtain rfl:=Option.some.inj hj'
     exact (hc j _ (List.getElem?_eq_getElem (by omega))).1
    ·rw [List.getElem?_take] at hc'
     split at hc'
     ·rename_i hjn
      refine ⟨noId1_one (hc j c hc').2.2,cv j,?_,hr j c hc'⟩
      rw [List.getElem?_map,List.getElem?_range hjn]; rfl
     ·cases hc'
  ·cases h
 ·rename_i g off
  split at h
  ·rename_i cs t hg
   split at h
   ·rename_i hn
    obtain rfl:=Option.some.inj h
    obtain ⟨b,C,rfl,hb,hh,hs,hcs⟩:=hI.cells hp hg
    refine ⟨b,off,(List.range n).map fun j=>C.getD (off + j) Go.undef,rfl,by simp,fun j y hj=>?_,agg_mk (by simp; omega) (fun j c hc'=>?_),by simp⟩
    ·rw [List.getElem?_map] at hj
     obtain ⟨j',hj',rfl⟩:=Option.map_eq_some_iff.1 hj
     have hlt:=Zc hj'
     simp only [List.length_range] at hlt
     rw [List.getElem?_range hlt] at hj'
     obtain rfl:=Option.some.inj hj'
     rw [cell_of_row w b (off + j) C t (0,0) hh]
     exact getD_of_lt (by omega)
    ·rw [List.getElem?_take] at hc'
     split at hc'
     ·rename_i hjn
      rw [List.getElem?_drop] at hc'
      obtain ⟨h1,h2,_⟩:=hcs _ c hc'
      refine ⟨h1,C.getD (off + j) Go.undef,?_,h2⟩
      rw [List.getElem?_map,List.getElem?_range hjn]; rfl
     ·cases hc'
   ·cases h
  ·cases h
 ·cases h
theorem ok_lda (hG:GOk G E.W0)(hI:Inv E s Γ a w){t:TypeId}{p:Operand}{p':Opnd}{x v:AV}(ho:o.op=.load t p)(ht:isAggB P t=true)(hc:cOpnd P 0 p=some p')
  (hx:opnd G s.sl p'=some x) (h:ldaVal s.hp (P.cellsOf t) x=some v):OpCalm P Γ w v a o:=by
 obtain ⟨b,off,cv,e,hl,hcell,hr,hn⟩:=lda_run hI (cOpnd_rep hG hI hc hx).1 h
 refine .mk' (fun w' hw=>?_) hr fun k r e=>absurd e (hn k r)
 have hu:=isAggB_some ht
 obtain ⟨i,hi⟩:=info_of_underlying hu
 have hld:=run_loadCells_list (P := P) w' ⟨b,off,none⟩ cv (fun j y hj=>by rw [add_lit]; exact hw.cell (hcell j y hj))
 rw [hl] at hld
 simp only [execOp,ho,e]
 simp [Instr.loadAt,Instr.sureAddr,loadVar,isAgg_run ht hu,sizeOf_run hi,hld]
theorem Inv.loose (hI:Inv E s Γ a w){g off:Nat}{cs:List AV}{t':TypeId}{v:AV}(hg:s.hp[g]? = some (.cells cs t'))(hv:cs[off]? = some v) :
  Inv E { s with hp:=s.hp.set g (.cells (cs.set off v.ro) t'),ef := s.note g 0 } (relab Γ (.cell g off) (toLoc .res)) a w:=by
 obtain ⟨b,C,hb,hh,hs,hcs⟩:=hI.rw.objs g _ hg
 obtain ⟨h1,h2,h3⟩:=hcs off v hv
 have f1:=relab_fix (Γ := Γ) (w := w) (l := .cell g off) (toLoc_fix (l := .res))
 have o1:OwnMono Γ (relab Γ (.cell g off) (toLoc .res)):=relab_own
 have hgl:g < s.hp.length:=Zc hg
 refine ⟨hI.defers,hI.slots.relab toLoc_fix (by simp),⟨fun g' x hx=>?_,fun b b' g' k1 k2=>hI.rw.inj b b' g' (relab_own_inv toLoc_listF k1) (relab_own_inv toLoc_listF k2),fun b hb=>relab_imm (hI.rw.fresh b hb),
  fun b g' hb=>by simpa using hI.rw.lt b g' (relab_own_inv toLoc_listF hb),hI.rw.old,fun b hb=>relab_imm (hI.rw.oldImm b hb),fun g' hg' b' hb'=>?_⟩,?_,hI.base,hI.base2,by simpa using hI.le,fun b' g' hb'=>hI.back b' g' (relab_own_inv toLoc_listF hb')⟩
 ·simp only [List.getElem?_set] at hx
  split at hx
  ·rename_i e
   subst e
   obtain rfl:=Option.some.inj hx
   refine ⟨b,C,o1 b g hb,hh,by simpa using hs,fun i c hc=>?_⟩
   rw [List.getElem?_set] at hc
   split at hc
   ·rename_i e
    subst e
    split at hc
    ·obtain rfl:=Option.some.inj hc
     exact ⟨by rw [one_ro]; exact h1,(h2.mono f1 o1).ro,.of_ro _ _ _ _ _⟩
    ·cases hc
   ·rename_i ne
    obtain ⟨a1,a2,a3⟩:=hcs i c hc
    exact ⟨a1,a2.mono f1 o1,a3.mono f1 o1 fun b n hb=>⟨relab_other hb (by simp; omega),rfl⟩⟩
  ·rename_i ne
   exact (hI.rw.objs g' x hx).relab toLoc_fix fun i e=>by cases e; exact ne rfl
 ·simp only [List.getElem?_set] at hg'
  split at hg'
  ·cases hg'
  ·exact hI.rw.dead g' hg' b' (relab_own_inv toLoc_listF hb')
 ·have hn:=noted_note s g 0
  have fr:=hI.fr
  refine ⟨fr.os,fr.tape,fr.output,fr.size,fr.fix.trans f1,fr.own.trans o1,fun b hb hk=>?_⟩
  have hk2:Kept s.ef (E.Γ0 b)∧∀ n,E.Γ0 b≠.list n (.cell g off):=by
   cases hg:E.Γ0 b with
   | imm=>exact ⟨trivial,fun _ e=>by cases e⟩
   | own g'=>rw [hg] at hk; exact ⟨(hn g' (hI.base b g' hg) hk).1,fun _ e=>by cases e⟩
   | list n m =>
    rw [hg] at hk
    cases m with
    | outer=>exact ⟨trivial,fun _ e=>by cases e⟩
    | cell g' i =>
     obtain ⟨n1,n2⟩:=hn g' (hI.base2 b n g' i hg) hk
     exact ⟨n1,fun _ e=>by cases e; exact n2 rfl⟩
    | slot t=>exact hk.elim
    | res=>exact hk.elim
    | arg j=>exact hk.elim
  obtain ⟨e1,e2⟩:=fr.keep b hb hk2.1
  refine ⟨?_,e2⟩
  unfold Abs.relab
  rw [e1]
  cases hg:E.Γ0 b with
  | imm=>rfl
  | own g=>rfl
  | list n m =>
   simp only [relabK]
   split
   ·rename_i e
    subst e
    exact absurd hg (hk2.2 n)
   ·rfl
theorem ok_ldt (hG:GOk G E.W0)(hI:Inv E s Γ a w){t:TypeId}{p:Operand}{p':Opnd}{v:AV}{g off:Nat}{cs:List AV}{t':TypeId}(ho:o.op=.load t p)(ht:isAggB P t=false)(hu:(P.underlying t).isSome=true)(hc:cOpnd P 0 p=some p')
  (hx:opnd G s.sl p'=some (.ptr g off)) (hg:s.hp[g]? = some (.cells cs t')) (hv:cs[off]? = some v):OpOk P E { s with hp:=s.hp.set g (.cells (cs.set off v.ro) t'),ef := s.note g 0 } v.up a w o:=by
 obtain ⟨b,C,e,hb,hh,hs,hcs⟩:=hI.cells (cOpnd_rep hG hI hc hx).1 hg
 obtain ⟨h1,h2,h3⟩:=hcs off v hv
 have hoff:off < C.size:=by have:=Zc hv; omega
 have f1:=relab_fix (Γ := Γ) (w := w) (l := .cell g off) (toLoc_fix (l := .res))
 have o1:OwnMono Γ (relab Γ (.cell g off) (toLoc .res)):=relab_own
 have hgl:g < s.hp.length:=Zc hg
 refine ⟨relab Γ (.cell g off) (toLoc .res),C.getD off Go.undef,w,.inl ?_,hI.loose hg hv,?_,?_⟩
 ·simp only [execOp,ho,e]
  have hcell:w.cell? ⟨b,off,none⟩=some (C.getD off Go.undef):=by rw [cell_of_row w b off C t' (0,0) hh]; exact getD_of_lt hoff
  simp [Instr.loadAt,Instr.sureAddr,loadVar,isAgg_run ht hu,hcell]
 ·generalize C.getD off Go.undef=u at h2
  cases v <;> first | exact h2.mono f1 o1 | (cases h2; exact .own _ _ _ (.lstNil _))
 ·generalize C.getD off Go.undef=u at h2 h3
  cases v with
  | nils k=>cases h2; exact .nil fun k' r e=>by injection e with _ e; exact ⟨e.symm,rfl⟩
  | _=>exact h3.mono f1 o1 fun b n hb=>⟨relab_at hb,rfl⟩
theorem step_row {g b:Nat}{t:TypeId}{C C':Array Value}(hb:Γ b=.own g)(hh:w.heap[b]? = some (.cells C t (0,0))):Step Γ w Γ (w.setRow b C') (· = b):=by
 refine ⟨rfl,rfl,rfl,by simp,fun b' _ hne=>⟨rfl,setRow_other w b b' C' hne⟩,fun b' o' v h1 h2=>⟨h1,?_⟩,.refl _⟩
 have:b'≠b:=by
  rintro rfl
  unfold Fixed at h1
  rw [hb] at h1
  exact h1
 rw [cell_setRow_other w b C' ⟨b',o',none⟩ this]
 exact h2
theorem splice_get {cs new:List AV}{o:Nat}(h:o + new.length≤cs.length)(i:Nat):(splice cs o new)[i]? = if i < o then cs[i]? else if i < o + new.length then new[i - o]? else cs[i]?:=by
 unfold splice
 have h1:(cs.take o).length=o:=by simp; omega
 split
 ·rw [List.append_assoc,List.getElem?_append_left (by omega),List.getElem?_take,if_pos (by assumption)]
 ·split
  ·rw [List.append_assoc,List.getElem?_append_right (by omega),h1,List.getElem?_append_left (by omega)]
  ·rw [List.getElem?_append_right (by simp; omega),List.getElem?_drop]
   congr 1
   simp
   omega
theorem splice_get' {cs new:List Value}{o:Nat}(h:o + new.length≤cs.length)(i:Nat):(cs.take o ++ new ++ cs.drop (o + new.length))[i]? = if i < o then cs[i]? else if i < o + new.length then new[i - o]? else cs[i]?:=by
 have h1:(cs.take o).length=o:=by simp; omega
 split
 ·rw [List.append_assoc,List.getElem?_append_left (by omega),List.getElem?_take,if_pos (by assumption)]
 ·split
  ·rw [List.append_assoc,List.getElem?_append_right (by omega),h1,List.getElem?_append_left (by omega)]
  ·rw [List.getElem?_append_right (by simp; omega),List.getElem?_drop]
   congr 1
   simp
   omega
theorem splice_len {cs new:List AV}{o:Nat}(h:o + new.length≤cs.length):(splice cs o new).length=cs.length:=by unfold splice; simp; omega
theorem store_run (hI:Inv E s Γ a w){g off:Nat}{cs:List AV}{t' t:TypeId}{p x:Value}{v:AV}{i:TypeInfo}(hi:P.info? t=some i)(hp:Rep Γ w (.ptr g off) p)(hg:s.hp[g]? = some (.cells cs t'))
  (hn:x.cells.size=v.cells.length) (hcell:∀ (j:Nat) (c:AV),v.cells[j]? = some c→c.one=true∧Rep Γ w c (x.cells.getD j Go.undef)∧OwnAt Γ w (.cell g (off + j)) c (x.cells.getD j Go.undef))
  (hsz:v.cells.length=P.cellsOf t) (hfit:off + v.cells.length≤cs.length) {e:Eff} (he:Noted s g e) :
  ∃ w',(Instr.storeAt t p x).run P w=.ok () w'∧Inv E { s with hp:=s.hp.set g (.cells (splice cs off v.cells) t'),ef := e } Γ a w':=by
 obtain ⟨b,C,rfl,hb,hh,hs,hcs⟩:=hI.cells hp hg
 have hone:∀ y ∈ x.cells.toList,y.oneCell'=true:=fun y hy=>by
  obtain ⟨j,hj⟩:=List.mem_iff_getElem?.1 hy
  have hjl:j < v.cells.length:=by have:=Zc hj; simp at this; omega
  obtain ⟨c1,c2,_⟩:=hcell j _ (List.getElem?_eq_getElem hjl)
  have:x.cells.getD j Go.undef=y:=by
   rw [Array.getD_eq_getD_getElem?]; rw [Array.getElem?_toList] at hj; rw [hj]; rfl
  rw [this] at c2
  exact c2.oneCell c1
 have hst:=run_storeCells_at P b off t' x.cells.toList 0 C w hh (by simp; omega) hone
 simp only [Nat.add_zero] at hst
 have st:=step_row (C':=(C.toList.take off ++ x.cells.toList ++ C.toList.drop (off + x.cells.toList.length)).toArray) hb hh
 refine ⟨_,?_,hI.update hb st he (by simp) ?_⟩
 ·simp only [Instr.storeAt,Instr.sureAddr,storeVar]
  simp [sizeOf_run hi,hn,hsz,hst]
 ·have hsp:=splice_get (cs := cs) (new := v.cells) hfit
  have hsp':=splice_get' (cs := C.toList) (new := x.cells.toList) (o := off) (by simp; omega)
  refine ⟨b,_,hb,setRow_heap w b C _ t' (0,0) hh,?_,fun i c hc=>?_⟩
  ·simp only [List.size_toArray,splice_len hfit,List.length_append,List.length_take,List.length_drop,Array.length_toList]
   omega
  ·have hget:∀ i,(C.toList.take off ++ x.cells.toList ++ C.toList.drop (off + x.cells.toList.length)).toArray.getD i Go.undef=if i < off then C.getD i Go.undef else if i < off + v.cells.length then x.cells.getD (i - off) Go.undef else C.getD i Go.undef:=by
    intro i
    rw [Array.getD_eq_getD_getElem?,List.getElem?_toArray,hsp' i]
    simp only [Array.length_toList,hn]
    split
    ·rw [Array.getD_eq_getD_getElem?,Array.getElem?_toList]
    ·split
     ·rw [Array.getD_eq_getD_getElem?,Array.getElem?_toList]
     ·rw [Array.getD_eq_getD_getElem?,Array.getElem?_toList]
   rw [hget i]
   rw [hsp i] at hc
   have keep:∀ (l:Loc) {c:AV} {u:Value},OwnAt Γ w l c u→OwnAt Γ (w.setRow b (C.toList.take off ++ x.cells.toList ++ C.toList.drop (off + x.cells.toList.length)).toArray) l c u:=fun l c u h =>
    h.mono st.fix st.own fun b' n hb'=>⟨hb',setRow_other w b b' _ (by rintro rfl; rw [hb] at hb'; cases hb')⟩
   split
   ·rename_i h1
    rw [if_pos h1] at hc
    obtain ⟨a1,a2,a3⟩:=hcs i c hc
    exact ⟨a1,a2.mono st.fix st.own,keep _ a3⟩
   ·rename_i h1
    rw [if_neg h1] at hc
    split
    ·rename_i h2
     rw [if_pos h2] at hc
     obtain ⟨a1,a2,a3⟩:=hcell (i - off) c hc
     rw [show off + (i - off)=i by omega] at a3
     exact ⟨a1,a2.mono st.fix st.own,keep _ a3⟩
    ·rename_i h2
     rw [if_neg h2] at hc
     obtain ⟨a1,a2,a3⟩:=hcs i c hc
     exact ⟨a1,a2.mono st.fix st.own,keep _ a3⟩
theorem cells_run (hI:Inv E s Γ a w){g off b:Nat}{cs new:List AV}{t':TypeId}{xs:List Value}(hb:Γ b=.own g)(hg:s.hp[g]? = some (.cells cs t'))
  (hn:xs.length=new.length) (hcell:∀ (j:Nat) (c:AV),new[j]? = some c→c.one=true∧Rep Γ w c (xs.getD j Go.undef)∧OwnAt Γ w (.cell g (off + j)) c (xs.getD j Go.undef))
  (hfit:off + new.length≤cs.length) {e:Eff} (he:Noted s g e) :
  ∃ w',(storeCells ⟨b,off,none⟩ xs).run P w=.ok () w'∧Inv E { s with hp:=s.hp.set g (.cells (splice cs off new) t'),ef := e } Γ a w':=by
 obtain ⟨b',C,h1,hh,hs,hcs⟩:=hI.rw.objs g _ hg
 obtain rfl:=hI.rw.inj b b' g hb h1
 have hone:∀ y ∈ xs,y.oneCell'=true:=fun y hy=>by
  obtain ⟨j,hj⟩:=List.mem_iff_getElem?.1 hy
  have hjl:j < new.length:=by have:=Zc hj; omega
  obtain ⟨c1,c2,_⟩:=hcell j _ (List.getElem?_eq_getElem hjl)
  have:xs.getD j Go.undef=y:=by
   rw [List.getD_eq_getElem?_getD,hj]; rfl
  rw [this] at c2
  exact c2.oneCell c1
 have hst:=run_storeCells_at P b off t' xs 0 C w hh (by simp; omega) hone
 simp only [Nat.add_zero] at hst
 have st:=step_row (C':=(C.toList.take off ++ xs ++ C.toList.drop (off + xs.length)).toArray) hb hh
 refine ⟨_,?_,hI.update hb st he (by simp) ?_⟩
 ·exact hst
 ·have hsp:=splice_get (cs := cs) (new := new) hfit
  have hsp':=splice_get' (cs := C.toList) (new := xs) (o := off) (by simp; omega)
  refine ⟨b,_,hb,setRow_heap w b C _ t' (0,0) hh,?_,fun i c hc=>?_⟩
  ·simp only [List.size_toArray,splice_len hfit,List.length_append,List.length_take,List.length_drop,Array.length_toList]
   omega
  ·have hget:∀ i,(C.toList.take off ++ xs ++ C.toList.drop (off + xs.length)).toArray.getD i Go.undef=if i < off then C.getD i Go.undef else if i < off + new.length then xs.getD (i - off) Go.undef else C.getD i Go.undef:=by
    intro i
    rw [Array.getD_eq_getD_getElem?,List.getElem?_toArray,hsp' i]
    simp only [hn]
    split
    ·rw [Array.getD_eq_getD_getElem?,Array.getElem?_toList]
    ·split
     ·rw [List.getD_eq_getElem?_getD]
     ·rw [Array.getD_eq_getD_getElem?,Array.getElem?_toList]
   rw [hget i]
   rw [hsp i] at hc
   have keep:∀ (l:Loc) {c:AV} {u:Value},OwnAt Γ w l c u→OwnAt Γ (w.setRow b (C.toList.take off ++ xs ++ C.toList.drop (off + xs.length)).toArray) l c u:=fun l c u h =>
    h.mono st.fix st.own fun b' n hb'=>⟨hb',setRow_other w b b' _ (by rintro rfl; rw [hb] at hb'; cases hb')⟩
   split
   ·rename_i h1
    rw [if_pos h1] at hc
    obtain ⟨a1,a2,a3⟩:=hcs i c hc
    exact ⟨a1,a2.mono st.fix st.own,keep _ a3⟩
   ·rename_i h1
    rw [if_neg h1] at hc
    split
    ·rename_i h2
     rw [if_pos h2] at hc
     obtain ⟨a1,a2,a3⟩:=hcell (i - off) c hc
     rw [show off + (i - off)=i by omega] at a3
     exact ⟨a1,a2.mono st.fix st.own,keep _ a3⟩
    ·rename_i h2
     rw [if_neg h2] at hc
     obtain ⟨a1,a2,a3⟩:=hcs i c hc
     exact ⟨a1,a2.mono st.fix st.own,keep _ a3⟩
theorem set_row {C:Array Value}{off:Nat}(u:Value)(h:off < C.size):(C.toList.take off ++ [u] ++ C.toList.drop (off + [u].length)).toArray=C.setIfInBounds off u:=by
 apply Array.ext'
 rw [Array.toList_setIfInBounds,List.set_eq_take_append_cons_drop,if_pos (by simpa using h)]
 simp
theorem store_buf_run (hI:Inv E s Γ a w){g off:Nat}{l:List UInt8}{t' e0 t:TypeId}{m:List AV}{p:Value}{v:AV}{i:TypeInfo}(hi:P.info? t=some i)(hp:Rep Γ w (.ptr g off) p)(hg:s.hp[g]? = some (.buf l t' e0 m))(hv:v.flat1=true)(hv1:v.one=true)(hsz:P.cellsOf t=1)(h2:2≤off)(hfit:off - 2 < m.length){e:Eff}(he:Noted s g e) :
  ∃ w',(Instr.storeAt t p v.conc1).run P w=.ok () w'∧Inv E { s with hp:=s.hp.set g (.buf l t' e0 (m.set (off - 2) v)),ef := e } Γ a w':=by
 obtain ⟨b,C,rfl,hb,hh,hbuf⟩:=hI.buf hp hg
 have hoff:off < C.size:=by rw [hbuf.size]; omega
 have hone:v.conc1.oneCell'=true:=by cases v <;> first | rfl | (cases hv; done) | (cases hv1; done)
 have hc:v.conc1.cells=#[v.conc1]:=by cases v <;> first | rfl | (cases hv; done) | (cases hv1; done)
 have hst:=run_storeCells_at P b off t' [v.conc1] 0 C w hh (by simp; omega) (fun y hy=>by rw [List.mem_singleton] at hy; rw [hy]; exact hone)
 simp only [Nat.add_zero] at hst
 rw [set_row v.conc1 hoff] at hst
 have st:=step_row (C':=C.setIfInBounds off v.conc1) hb hh
 refine ⟨_,?_,hI.update hb st he (by simp) ?_⟩
 ·simp only [Instr.storeAt,Instr.sureAddr,storeVar]
  simp [sizeOf_run hi,hc,hsz,hst]
 ·refine ⟨b,_,hb,setRow_heap w b C _ t' (0,0) hh,?_⟩
  have:=(hbuf.put (o := off - 2) hv).mono (Γ':=Γ) (w':=w.setRow b (C.setIfInBounds off v.conc1)) fun b' n j hb'=>⟨hb',setRow_other w b b' _ (by rintro rfl; rw [hb] at hb'; cases hb')⟩
  rwa [show off - 2 + 2=off by omega] at this
theorem ok_stb (hG:GOk G E.W0)(hI:Inv E s Γ a w){t t' e0:TypeId}{p x:Operand}{p' x':Opnd}{v:AV}{g off:Nat}{l:List UInt8}{m:List AV}{i:TypeInfo}(hi:P.info? t=some i)(ho:o.op=.store t p x)(hcp:cOpnd P 0 p=some p')(hcx:cOpnd P t x=some x')
  (hp:opnd G s.sl p'=some (.ptr g off)) (hx:opnd G s.sl x'=some v) (hg:s.hp[g]? = some (.buf l t' e0 m)) (hn:P.cellsOf t=1∧2≤off∧off - 2 < m.length∧v.flat1=true∧v.one=true) :
  OpOk P E { s with hp:=s.hp.set g (.buf l t' e0 (m.set (off - 2) v)),ef := s.note g 0 } .undef a w o:=by
 obtain ⟨k1,k2⟩:=cOpnd_rep hG hI hcx hx
 obtain ⟨w',hr,hI'⟩:=store_buf_run hI hi (cOpnd_rep hG hI hcp hp).1 hg hn.2.2.2.1 hn.2.2.2.2 hn.1 hn.2.1 hn.2.2.1 (noted_note s g 0)
 rw [← k1.conc1 hn.2.2.2.1] at hr
 exact ⟨Γ,Go.undef,w',.inr ⟨by simp only [execOp,ho]; simp [hr],rfl⟩,hI',.undef,.of_ne (by simp)⟩
theorem ok_st (hG:GOk G E.W0)(hI:Inv E s Γ a w){t t':TypeId}{p x:Operand}{p' x':Opnd}{v:AV}{g off:Nat}{cs:List AV}{i:TypeInfo}(hi:P.info? t=some i)(ho:o.op=.store t p x)(hcp:cOpnd P 0 p=some p')(hcx:cOpnd P t x=some x')
  (hp:opnd G s.sl p'=some (.ptr g off)) (hx:opnd G s.sl x'=some v) (hg:s.hp[g]? = some (.cells cs t')) (hn:v.cells.length=P.cellsOf t∧off + P.cellsOf t≤cs.length∧v.laid=true) :
  OpOk P E { s with hp:=s.hp.set g (.cells (splice cs off v.cells) t'),ef := s.note g 0 } .undef a w o:=by
 obtain ⟨k1,k2⟩:=cOpnd_rep hG hI hcx hx
 obtain ⟨c1,c2⟩:=k1.cellsRep hn.2.2 k2
 obtain ⟨w',hr,hI'⟩:=store_run hI (v := v) hi (cOpnd_rep hG hI hcp hp).1 hg c1 (fun j c hc=>⟨(c2 j c hc).1,(c2 j c hc).2.1,.nil (c2 j c hc).2.2⟩) hn.1 (by omega) (noted_note s g 0)
 exact ⟨Γ,Go.undef,w',.inr ⟨by simp only [execOp,ho]; simp [hr],rfl⟩,hI',.undef,.of_ne (by simp)⟩
theorem ok_stt (hG:GOk G E.W0)(hI:Inv E s Γ a w){t t':TypeId}{p:Operand}{p':Opnd}{v:AV}{g off sl:Nat}{cs:List AV}{i:TypeInfo}(hi:P.info? t=some i)(h1:P.cellsOf t=1)(ho:o.op=.store t p (.tmp sl))(hcp:cOpnd P 0 p=some p')
  (hp:opnd G s.sl p'=some (.ptr g off)) (hv:s.sl[sl]? = some v) (hg:s.hp[g]? = some (.cells cs t')) (hn:v.one=true∧off < cs.length) :
  OpOk P E { s.let_ sl with hp:=s.hp.set g (.cells (cs.set off v) t'),ef := s.note g 0 } .undef a w o:=by
 have hpr:=(cOpnd_rep hG hI hcp hp).1
 obtain ⟨Γ1,i1,r1,w1⟩:=hI.take sl hv
 have f2:=relab_fix (Γ := Γ1) (w := w) (l := .res) (toLoc_fix (l := .cell g off))
 have o2:OwnMono Γ1 (relab Γ1 .res (toLoc (.cell g off))):=relab_own
 have i2:Inv E (s.let_ sl) (relab Γ1 .res (toLoc (.cell g off))) a w:=⟨i1.defers,i1.slots.relab toLoc_fix (by simp),i1.rw.relab toLoc_fix toLoc_listF (by simp),i1.fr.relab (l := .res) toLoc_fix trivial,i1.base,i1.base2,i1.le,fun b g hb=>i1.back b g (relab_own_inv toLoc_listF hb)⟩
 have vc:v.cells=[v]:=by
  have h1:=hn.1
  cases v <;> first | rfl | (simp [AV.one] at h1)
 have xc:(a.tmps.getD sl Go.undef).cells=#[a.tmps.getD sl Go.undef]:=by
  have:=r1.oneCell hn.1
  generalize a.tmps.getD sl Go.undef=u at this
  cases u <;> first | rfl | (cases this)
 have hcells:∀ (j:Nat) (c:AV),v.cells[j]? = some c→c.one=true∧Rep (relab Γ1 .res (toLoc (.cell g off))) w c ((a.tmps.getD sl Go.undef).cells.getD j Go.undef)∧OwnAt (relab Γ1 .res (toLoc (.cell g off))) w (.cell g (off + j)) c ((a.tmps.getD sl Go.undef).cells.getD j Go.undef):=by
  intro j c hc
  rw [vc] at hc
  cases j with
  | zero =>
   obtain rfl:=Option.some.inj (by simpa using hc:some v=some c)
   rw [xc]
   exact ⟨hn.1,r1.mono f2 o2,w1.mono f2 o2 fun b n hb=>⟨relab_at hb,rfl⟩⟩
  | succ j=>simp at hc
 have hpr2:Rep (relab Γ1 .res (toLoc (.cell g off))) w (.ptr g off) (a.eval p):=by
  have:=(cOpnd_rep (P := P) (G := G) (t := 0) (x := p) (y := p') (v := .ptr g off) hG i2 hcp ?_).1
  ·exact this
  ·cases p' with
   | tmp q =>
    obtain ⟨y,hy,e⟩:=Option.map_eq_some_iff.1 hp
    cases y <;> simp only [AV.ro] at e <;> first | (cases e; done) | skip
    cases e
    simp only [opnd,AState.let_,List.getElem?_modify,hy]
    split <;> rfl
   | const c=>exact hp
   | glob q=>exact hp
 obtain ⟨w',hr,hI'⟩:=store_run i2 (v := v) (t := t) (t':=t') (cs := cs) (e := s.note g 0) hi hpr2 hg (by rw [xc,vc]; rfl) hcells (by rw [vc,h1]; rfl) (by rw [vc]; exact hn.2) (noted_note s g 0)
 have hsp:splice cs off v.cells=cs.set off v:=by
  rw [vc]
  unfold splice
  rw [List.set_eq_take_append_cons_drop,if_pos hn.2]
  simp
 rw [hsp] at hI'
 exact ⟨_,Go.undef,w',.inr ⟨by simp only [execOp,ho]; show Sem.run P (do Instr.storeAt t (a.eval p) (a.tmps.getD sl Go.undef); Pure.pure Next.skip) w=_; rw [Sem.run_bind,hr]; rfl,rfl⟩,hI',.undef,.of_ne (by simp)⟩
end
end Go.Proofs.YtcfjcimhjmpkiaaGreatDoor.Abs
end
section
namespace Go.Proofs.YtcfjcimhjmpkiaaGreatDoor.Abs
open Go Go.RowKit
section
variable {P:Program}{G:Nat→Option (List AV)}{E:Entry}{s:AState}{Γ:Ghost}{a:Act}{w:World}{o:Oper}
theorem ok_nilchk (hG:GOk G E.W0)(hI:Inv E s Γ a w){x:Operand}{x':Opnd}{v:AV}(ho:o.op=.nilCheck x)(hc:cOpnd P 0 x=some x')(hx:opnd G s.sl x'=some v)
  (hv:(∃ c,v=.ref c)∨(∃ g o,v=.ptr g o)∨∃ f b c,v=.fn f b c):OpCalm P Γ w v a o:=by
 obtain ⟨k1,k2⟩:=cOpnd_rep hG hI hc hx
 refine .mk' (cv := a.eval x) (fun w' _=>?_) k1 k2
 simp only [execOp,ho]
 generalize a.eval x=u at k1
 rcases hv with ⟨c,rfl⟩ | ⟨g,q,rfl⟩ | ⟨f,b,c,rfl⟩ <;> cases k1 <;> rfl
theorem cField_spec {st:TypeId}{f off n:Nat}{agg:Bool}(h:cField P st f=some (off,n,agg)):∃ fs x i,P.underlying st=some (.struct fs)∧fs[f]? = some x∧x.offset=off∧P.cellsOf x.type=n∧isAggB P x.type=agg∧0 < n∧P.info? x.type=some i∧(P.underlying x.type).isSome=true:=by
 unfold cField at h
 split at h
 ·rename_i fs hfs
  split at h
  ·rename_i x hx
   split at h
   ·rename_i hn
    simp only [Option.some.injEq,Prod.mk.injEq] at h
    obtain ⟨rfl,rfl,rfl⟩:=h
    obtain ⟨i,hi⟩:=info_of_underlying hn.2
    exact ⟨fs,x,i,hfs,hx,rfl,rfl,rfl,hn.1,hi,hn.2⟩
   ·cases h
  ·cases h
 ·cases h
theorem ok_fa (hG:GOk G E.W0)(hI:Inv E s Γ a w){st:TypeId}{x:Operand}{x':Opnd}{f off n:Nat}{agg:Bool}{u v:AV}(ho:o.op=.fieldAddr st x f)(hf:cField P st f=some (off,n,agg))(hc:cOpnd P 0 x=some x')(hx:opnd G s.sl x'=some u)
  (h:faVal off u=some v):OpCalm P Γ w v a o:=by
 obtain ⟨fs,fd,i,h1,h2,h3,h4,_,h5,h6,_⟩:=cField_spec hf
 have k1:=(cOpnd_rep hG hI hc hx).1
 have hrun:∀ b q,a.eval x=.pointer (some ⟨b,q,none⟩)→∀ w',Upon w w'→(execOp a.eval o).run P w'=.ok (.value (.pointer (some ⟨b,q + off,none⟩))) w':=fun b q e w' _=>by
  simp only [execOp,ho,e]
  simp [Instr.fieldAt,run_underlying h1,h2,Instr.sureAddr,fieldPlace,sizeOf_run h6,h4,add_lit,h3]
  omega
 unfold faVal at h
 split at h <;> first | (cases h; done) | skip
 ·rename_i cs
  obtain rfl:=Option.some.inj h
  generalize hq:a.eval x=q at k1
  cases k1 with
  | ref _ b q cv hc' hr =>
   refine .mk' (hrun b q hq) (.ref _ b (q + off) (fun j=>cv (off + j)) (fun j c hj=>?_) (fun j c hj=>?_)) (fun k r e=>by cases e)
   ·rw [List.getElem?_drop] at hj
    have:=hc' (off + j) c hj
    rwa [← Nat.add_assoc] at this
   ·rw [List.getElem?_drop] at hj
    exact hr (off + j) c hj
 ·rename_i g q
  obtain rfl:=Option.some.inj h
  generalize hq:a.eval x=q at k1
  cases k1 with
  | ptr _ _ b hb=>exact .mk' (hrun b q hq) (.ptr g (q + off) b hb) (fun k r e=>by cases e)
theorem ok_fld (hG:GOk G E.W0)(hI:Inv E s Γ a w){st:TypeId}{x:Operand}{x':Opnd}{f off n:Nat}{agg:Bool}{u v:AV}(ho:o.op=.field st x f)(hf:cField P st f=some (off,n,agg))(hc:cOpnd P st x=some x')(hx:opnd G s.sl x'=some u)
  (h:fldVal off n agg u=some v):OpCalm P Γ w v a o:=by
 obtain ⟨fs,fd,i,h1,h2,h3,h4,h5,h6,h7,hu⟩:=cField_spec hf
 have k1:=(cOpnd_rep hG hI hc hx).1
 unfold fldVal at h
 split at h <;> first | (cases h; done) | skip
 rename_i cs
 split at h <;> first | (cases h; done) | skip
 rename_i hfit
 generalize hq:a.eval x=q at k1
 cases k1 with
 | agg _ cv hs g1 g2 g3 =>
  cases agg with
  | true =>
   simp only [if_true] at h
   obtain rfl:=Option.some.inj h
   refine .mk' (cv := .agg (cv.extract off (off + n))) (fun w' _=>?_) (.agg _ _ (by simp; omega) (fun j c hj=>?_) (fun j k r hj=>?_) (fun j c hj=>?_)) (fun k r e=>by cases e)
   ·simp only [execOp,ho,hq]
    simp [Instr.field,run_underlying h1,h2,asAgg,part,isAgg_run h5 hu,sizeOf_run h7,h3,h4]
   ·rw [List.getElem?_take] at hj
    split at hj
    ·rw [List.getElem?_drop] at hj; exact g1 _ c hj
    ·cases hj
   ·rw [List.getElem?_take] at hj
    split at hj
    ·rename_i hlt
     rw [List.getElem?_drop] at hj
     obtain ⟨e1,e2⟩:=g2 _ k r hj
     refine ⟨e1,?_⟩
     rw [← e2]
     simp only [Array.getD_eq_getD_getElem?,Array.getElem?_extract]
     rw [if_pos (by omega)]
    ·cases hj
   ·rw [List.getElem?_take] at hj
    split at hj
    ·rename_i hlt
     rw [List.getElem?_drop] at hj
     have:=g3 _ c hj
     simp only [Array.getD_eq_getD_getElem?,Array.getElem?_extract] at this ⊢
     rw [if_pos (by omega)]
     exact this
    ·cases hj
  | false =>
   simp only [Bool.false_eq_true,if_false] at h
   obtain ⟨c,hcj,rfl⟩:=Option.map_eq_some_iff.1 h
   refine .mk' (cv := cv.getD off Go.undef) (fun w' _=>?_) (g3 off c hcj).ro (fun k r e=>absurd e ro_ne_own)
   have hp:=part_cell (cs := cv) (off := off) h5 hu (getD_of_lt (by have:=Zc hcj; omega)) w'
   simp only [execOp,ho,hq]
   simp only [Instr.field,Sem.run_bind,run_underlying h1,Result.andThen_ok,h2,asAgg,h3]
   simp only [Sem.run_pure,Result.andThen_ok,hp]
theorem cShape_slice {t:TypeId}{k:Nat}(h:cShape P t=some (.slice k)):∃ e i,P.underlying t=some (.slice e)∧P.cellsOf e=k∧0 < k∧P.info? e=some i:=by
 unfold cShape at h
 split at h <;> first | (cases h; done) | skip
 ·split at h <;> first | (cases h; done) | skip
  rename_i e hu hk
  cases h
  refine ⟨e,?_⟩
  unfold Program.cellsOf at hk ⊢
  cases hi:P.info? e with
  | none=>rw [hi] at hk; simp at hk
  | some i=>exact ⟨i,hu,rfl,by rw [hi] at hk; exact hk,rfl⟩
 ·split at h <;> cases h
theorem cShape_arr {t:TypeId}{n k:Nat}(h:cShape P t=some (.arr n k)):∃ e i,P.underlying t=some (.array n e)∧P.cellsOf e=k∧0 < k∧1 < n∧P.info? e=some i:=by
 unfold cShape at h
 split at h <;> first | (cases h; done) | skip
 ·split at h <;> cases h
 ·split at h <;> first | (cases h; done) | skip
  rename_i n' e hu hk
  cases h
  refine ⟨e,?_⟩
  have hk':=hk.1
  unfold Program.cellsOf at hk' ⊢
  cases hi:P.info? e with
  | none=>rw [hi] at hk'; simp at hk'
  | some i=>exact ⟨i,hu,rfl,by rw [hi] at hk'; exact hk',hk.2,rfl⟩
theorem cShape_str {t:TypeId}(h:cShape P t=some .str):P.underlying t=some .string:=by
 unfold cShape at h
 split at h <;> first | (cases h; done) | assumption | (split at h <;> cases h)
theorem elem_of {t e:TypeId}(h:P.underlying t=some (.slice e)):P.elem t=e:=by unfold Program.elem; rw [h]
theorem elem_of' {t e:TypeId}{n:Nat}(h:P.underlying t=some (.array n e)):P.elem t=e∧P.arrayLen t=n:=by unfold Program.elem Program.arrayLen; rw [h]; exact ⟨rfl,rfl⟩
theorem ok_ia (hG:GOk G E.W0)(hI:Inv E s Γ a w){t:TypeId}{sh:Shape}{x i:Operand}{x' i':Opnd}{u n v:AV}(ho:o.op=.indexAddr t x i)(hs:cShape P t=some sh)(hc:cOpnd P t x=some x')(hci:cOpnd P 0 i=some i')
  (hx:opnd G s.sl x'=some u) (hi:opnd G s.sl i'=some n) (h:iaVal sh u n=some v):OpCalm P Γ w v a o:=by
 have k1:=(cOpnd_rep hG hI hc hx).1
 have k2:=(cOpnd_rep hG hI hci hi).1
 unfold iaVal at h
 split at h <;> first | (cases h; done) | skip
 ·rename_i k k' rows kd m
  split at h <;> first | (cases h; done) | skip
  rename_i hk
  obtain ⟨rfl,hm⟩:=hk
  obtain ⟨r,hr,rfl⟩:=Option.map_eq_some_iff.1 h
  obtain ⟨e,ti,hu,hsz,hpos,hinfo⟩:=cShape_slice hs
  generalize hq:a.eval x=q at k1
  generalize hq2:a.eval i=q2 at k2
  cases k2
  have hlt:=Zc hr
  cases k1 with
  | lstNil=>simp at hr
  | lstE=>simp at hr
  | lst _ _ b off cap cv hlen hk hc' hr' =>
   refine .mk' (cv := .pointer (some ⟨b,off + m.toNat * k,none⟩)) (fun w' _=>?_) (.ref r b (off + m.toNat * k) (cv m.toNat) (fun j c hj=>?_) (fun j c hj=>hr' _ j r c hr hj)) (fun k r e=>by cases e)
   ·simp only [execOp,ho,hq,hq2]
    simp only [Sem.run_bind]
    rw [run_indexAt_slice w' t _ _ _ _ _ (by rw [elem_of hu]; exact hu),if_pos ⟨hm,by omega⟩,elem_of hu]
    simp [sizeOf_run hinfo,hsz,add_lit]
   ·have:=hc' _ j r c hr hj
    rwa [← Nat.add_assoc] at this
 ·rename_i k g off len k' kd m
  split at h <;> first | (cases h; done) | skip
  rename_i hk
  obtain ⟨rfl,hm,hlt⟩:=hk
  obtain rfl:=Option.some.inj h
  obtain ⟨e,ti,hu,hsz,hpos,hinfo⟩:=cShape_slice hs
  generalize hq:a.eval x=q at k1
  generalize hq2:a.eval i=q2 at k2
  cases k2
  cases k1 with
  | arr _ _ _ _ cap b hb hcap =>
   refine .mk' (cv := .pointer (some ⟨b,off + m.toNat * k,none⟩)) (fun w' _=>?_) (.ptr g _ b hb) (fun k r e=>by cases e)
   simp only [execOp,ho,hq,hq2]
   simp only [Sem.run_bind]
   rw [run_indexAt_slice w' t _ _ _ _ _ (by rw [elem_of hu]; exact hu),if_pos ⟨hm,hlt⟩,elem_of hu]
   simp [sizeOf_run hinfo,hsz,add_lit]
 ·rename_i len k g off kd m
  split at h <;> first | (cases h; done) | skip
  rename_i hk
  obtain rfl:=Option.some.inj h
  obtain ⟨e,ti,hu,hsz,hpos,hn,hinfo⟩:=cShape_arr hs
  generalize hq:a.eval x=q at k1
  generalize hq2:a.eval i=q2 at k2
  cases k2
  cases k1 with
  | ptr _ _ b hb =>
   refine .mk' (cv := .pointer (some ⟨b,off + m.toNat * k,none⟩)) (fun w' _=>?_) (.ptr g _ b hb) (fun k r e=>by cases e)
   simp only [execOp,ho,hq,hq2]
   simp only [Sem.run_bind]
   rw [run_indexAt_array w' t _ _ _ (by rw [(elem_of' hu).1,(elem_of' hu).2]; exact hu),(elem_of' hu).2,if_pos hk,(elem_of' hu).1]
   simp [sizeOf_run hinfo,hsz,add_lit]
 ·rename_i len k cs kd m
  split at h <;> first | (cases h; done) | skip
  rename_i hk
  obtain rfl:=Option.some.inj h
  obtain ⟨e,ti,hu,hsz,hpos,hn,hinfo⟩:=cShape_arr hs
  generalize hq:a.eval x=q at k1
  generalize hq2:a.eval i=q2 at k2
  cases k2
  cases k1 with
  | ref _ b off cv hc' hr' =>
   refine .mk' (cv := .pointer (some ⟨b,off + m.toNat * k,none⟩)) (fun w' _=>?_) (.ref _ b _ (fun j=>cv (m.toNat * k + j)) (fun j c hj=>?_) (fun j c hj=>?_)) (fun k r e=>by cases e)
   ·simp only [execOp,ho,hq,hq2]
    simp only [Sem.run_bind]
    rw [run_indexAt_array w' t _ _ _ (by rw [(elem_of' hu).1,(elem_of' hu).2]; exact hu),(elem_of' hu).2,if_pos hk,(elem_of' hu).1]
    simp [sizeOf_run hinfo,hsz,add_lit]
   ·rw [List.getElem?_drop] at hj
    have:=hc' _ c hj
    rwa [← Nat.add_assoc] at this
   ·rw [List.getElem?_drop] at hj
    exact hr' _ c hj
theorem ok_idx (hG:GOk G E.W0)(hI:Inv E s Γ a w){t:TypeId}{x i:Operand}{x' i':Opnd}{u n v:AV}(ho:o.op=.index t x i)(hs:cShape P t=some .str)(hc:cOpnd P t x=some x')(hci:cOpnd P 0 i=some i')
  (hx:opnd G s.sl x'=some u) (hi:opnd G s.sl i'=some n) (h:idxVal u n=some v):OpCalm P Γ w v a o:=by
 have k1:=(cOpnd_rep hG hI hc hx).1
 have k2:=(cOpnd_rep hG hI hci hi).1
 have hu:=cShape_str hs
 unfold idxVal at h
 split at h <;> first | (cases h; done) | skip
 rename_i l kd m
 split at h <;> first | (cases h; done) | skip
 rename_i hm
 obtain ⟨c,hcj,rfl⟩:=Option.map_eq_some_iff.1 h
 generalize hq:a.eval x=q at k1
 generalize hq2:a.eval i=q2 at k2
 cases k2; cases k1
 have hget:(ByteArray.mk l.toArray)[m.toNat]? = some c:=by
  have hlt:=Zc hcj
  have hlt':m.toNat < (ByteArray.mk l.toArray).size:=by rw [bytes_size]; exact hlt
  rw [getElem?_pos (ByteArray.mk l.toArray) m.toNat hlt']
  have:=List.getElem?_eq_some_iff.1 hcj
  obtain ⟨h1,h2⟩:=this
  rw [← h2]
  rfl
 refine .mk' (cv := .int .u8 c.toNat) (fun w' _=>?_) (.int _ _) (fun k r e=>by cases e)
 simp only [execOp,ho,hq,hq2]
 simp [Instr.index,asIntOf,run_underlying hu,hm,hget]
theorem ok_extract (hG:GOk G E.W0)(hI:Inv E s Γ a w){x:Operand}{x':Opnd}{i:Nat}{vs:List AV}{v:AV}(ho:o.op=.extract x i)(hc:cOpnd P 0 x=some x')(hx:opnd G s.sl x'=some (.tup vs))(h:vs[i]? = some v):OpCalm P Γ w v.ro a o:=by
 have k1:=(cOpnd_rep hG hI hc hx).1
 generalize hq:a.eval x=q at k1
 cases k1 with
 | tup _ cv hs hr =>
  have hlt:i < cv.size:=by have:=Zc h; omega
  refine .mk' (cv := cv.getD i Go.undef) (fun w' _=>?_) (hr i v h).ro (fun k r e=>absurd e ro_ne_own)
  simp only [execOp,ho,hq]
  simp only [Instr.extract,getD_of_lt hlt]
  rfl
theorem ok_mkfn (hG:GOk G E.W0)(hI:Inv E s Γ a w){f:FuncId}{fst caps:Array Operand}{fst' caps':List Opnd}{us vs:List AV}(ho:o.op=.makeFunc (.func f) fst caps)(hc1:cOpnds P (fst.toList.map fun _=>0) fst.toList=some fst')
  (hc2:cOpnds P (caps.toList.map fun _=>0) caps.toList=some caps') (h1:opnds G s.sl fst'=some us) (h2:opnds G s.sl caps'=some vs):OpOk P E s (.fn f us vs) a w o:=by
 obtain ⟨a1,a2⟩:=cOpnds_rep hG hI hc1 h1
 obtain ⟨b1,b2⟩:=cOpnds_rep hG hI hc2 h2
 have get:∀ (xs:Array Operand) (j:Nat) x,xs.toList[j]? = some x→(xs.map a.eval).getD j Go.undef=a.eval x:=fun xs j x hx=>by
  rw [Array.getElem?_toList] at hx
  rw [Array.getD_eq_getD_getElem?,Array.getElem?_map,hx]; rfl
 refine .pure (cv := .func (.func f) (fst.map a.eval) (caps.map a.eval)) hI (by simp [execOp,ho,Instr.makeFunc]) (.fn f us vs _ _ (by simpa using a1) (fun j c hj=>?_) (by simpa using b1) (fun j c hj=>?_)) (fun k r e=>by cases e)
 ·obtain ⟨x,hx,hr,_⟩:=a2 j c hj
  rw [get fst j x hx]; exact hr
 ·obtain ⟨x,hx,hr,_⟩:=b2 j c hj
  rw [get caps j x hx]; exact hr
theorem ok_mkmap (hI:Inv E s Γ a w){t:TypeId}(ho:o.op=.makeMap t none):OpOk P E { s with hp:=s.hp ++ [.map []] } (.map s.hp.length) a w o:=by
 have i1:=hI.allocObj (.map #[] 0) (.map []) ⟨w.heap.size,#[],0,setG_same _ _ _,heap_alloc_new w _,rfl,fun i e he=>by simp at he⟩
 exact ⟨_,.map (some w.heap.size),_,.inl (by simp [execOp,ho,Instr.makeMap]),i1,.map _ _ (setG_same _ _ _),.of_ne (by simp)⟩
theorem ok_range (hG:GOk G E.W0)(hI:Inv E s Γ a w){t:TypeId}{x:Operand}{x':Opnd}{l:List UInt8}(ho:o.op=.range t x)(hu:P.underlying t=some .string)(hc:cOpnd P t x=some x')(hx:opnd G s.sl x'=some (.str l)) :
  OpOk P E { s with hp:=s.hp ++ [.iter l 0] } (.ptr s.hp.length 0) a w o:=by
 have k1:=(cOpnd_rep hG hI hc hx).1
 generalize hq:a.eval x=q at k1
 cases k1
 have i1:=hI.allocObj (.stringIter ⟨l.toArray⟩ 0) (.iter l 0) ⟨w.heap.size,setG_same _ _ _,heap_alloc_new w _⟩
 exact ⟨_,.pointer (some ⟨w.heap.size,0,none⟩),_,.inl (by simp only [execOp,ho,hq]; simp [Instr.range,run_underlying hu]),i1,.ptr _ _ _ (setG_same _ _ _),.of_ne (by simp)⟩
end
end Go.Proofs.YtcfjcimhjmpkiaaGreatDoor.Abs
end
section
namespace Go.Proofs.YtcfjcimhjmpkiaaGreatDoor.Abs
open Go Go.RowKit
theorem row_idx {i n j k:Nat}(hi:i < n)(hj:j < k):i * k + j < n * k:=by
 have h:(i + 1) * k≤n * k:=Nat.mul_le_mul_right k hi
 rw [Nat.add_mul,Nat.one_mul] at h
 omega
section
variable {Γ:Ghost}{w:World}
theorem Rep.drew {x:AV}{v:Value}(h:Rep Γ w x v):Rep Γ w.drew x v :=
 Rep.mono (show FixMono Γ w Γ w.drew from fun _ _ _ h1 h2=>⟨h1,h2⟩) (.refl _) h
theorem OwnAt.rep {l:Loc}{k:Nat}{rows:List (List AV)}{v:Value}(h:OwnAt Γ w l (.own k rows) v):Rep Γ w (.own k rows) v:=by
 rcases h k rows rfl with ⟨rfl,rfl⟩ | ⟨b,cap,e,cur,rfl,hg,hh,h1,h2,h3,h4,h5⟩
 ·exact .own k [] _ (.lstNil k)
 ·have key:∀ i j r c,rows[i]? = some r→r[j]? = some c→i < rows.length∧j < k:=fun i j r c hi hj=>by
   have:=Zc hj
   rw [h4 r (List.mem_of_getElem? hi)] at this
   exact ⟨Zc hi,this⟩
  refine .own k rows _ (.lst k rows b 0 cap (fun i j=>cur.getD (i * k + j) Go.undef) h1 h4 (fun i j r c hi hj=>?_) fun i j r c hi hj=>(h5 i j r c hi hj).2)
  obtain ⟨a1,a2⟩:=key i j r c hi hj
  have hlt:=row_idx a1 a2
  refine ⟨?_,?_,(h5 i j r c hi hj).1⟩
  ·rw [Nat.zero_add,cell_of_row w b _ cur e (0,0) hh]
   have:rows.length * k≤cap * k:=Nat.mul_le_mul_right k h1
   exact getD_of_lt (by omega)
  ·unfold Fixed
   rw [hg,Nat.zero_add]
   exact hlt
end
theorem chunk_length (k:Nat):∀ (n:Nat) (cs:List AV),(chunk k n cs).length=n
 | 0,_=>rfl
 | n + 1,cs=>by simp [chunk,chunk_length k n]
theorem chunk_get (k:Nat):∀ (n:Nat) (cs:List AV) (i:Nat) (r:List AV),(chunk k n cs)[i]? = some r→r=(cs.drop (i * k)).take k
 | 0,cs,i,r,h=>by simp [chunk] at h
 | n + 1,cs,0,r,h=>by
  simp only [chunk,List.getElem?_cons_zero,Option.some.injEq] at h
  simp [← h]
 | n + 1,cs,i + 1,r,h=>by
  simp only [chunk,List.getElem?_cons_succ] at h
  rw [chunk_get k n _ i r h,List.drop_drop,Nat.add_mul,Nat.one_mul,Nat.add_comm]
section
variable {P:Program}{G:Nat→Option (List AV)}{E:Entry}{s:AState}{Γ:Ghost}{a:Act}{w:World}{o:Oper}
structure Reads (Γ:Ghost)(w:World)(k:Nat)(rows:List (List AV))(A:Option Addr)(news:List Value):Prop where
 rowLen:∀ r ∈ rows,r.length=k
 len:news.length=rows.length * k
 nil:A=none→rows=[]
 cell:∀ ad,A=some ad→∀ j y,news[j]? = some y→w.cell? (ad.add j)=some y
 rep:∀ (i j:Nat) (r:List AV) (c:AV),rows[i]? = some r→r[j]? = some c→∃ y,news[i * k + j]? = some y∧Rep Γ w c y
theorem rowsOf_spec (hI:Inv E s Γ a w){x:AV}{u:Value}{k:Nat}{rows:List (List AV)}(hr:Rep Γ w x u)(h:rowsOf s.hp x=some (k,rows)) :
  ∃ A cap news,u=.slice A rows.length cap∧(A=none→cap=0)∧Reads Γ w k rows A news:=by
 have lst:∀ {k rows u},Rep Γ w (.lst k rows) u→∃ A cap news,u=.slice A rows.length cap∧(A=none→cap=0)∧Reads Γ w k rows A news:=by
  intro k rows u hr
  cases hr with
  | lstNil=>exact ⟨none,0,[],rfl,fun _=>rfl,by simp,by simp,fun _=>rfl,fun ad h=>(by cases h),fun i j r c h=>by simp at h⟩
  | lstE _ A cap=>exact ⟨some A,cap,[],rfl,fun h=>(by cases h),by simp,by simp,fun _=>rfl,fun ad _ j y hy=>(by simp at hy),fun i j r c h=>by simp at h⟩
  | lst _ _ b off cap cv hlen hk hc hr' =>
   rcases Nat.eq_zero_or_pos k with rfl | hpos
   ·refine ⟨_,cap,[],rfl,(fun h=>by cases h),hk,by simp,(fun h=>by cases h),fun ad _ j y hy=>by simp at hy,fun i j r c hi hj=>?_⟩
    have:=Zc hj
    rw [hk r (List.mem_of_getElem? hi)] at this
    omega
   ·have hget:∀ p,p < rows.length * k→∃ r c,rows[p / k]? = some r∧r[p % k]? = some c:=fun p hp=>by
     have h1:p / k < rows.length:=Nat.div_lt_of_lt_mul (by rw [Nat.mul_comm]; exact hp)
     have h2:p % k < (rows[p / k]).length:=by rw [hk _ (List.getElem_mem h1)]; exact Nat.mod_lt _ hpos
     exact ⟨_,_,List.getElem?_eq_getElem h1,List.getElem?_eq_getElem h2⟩
    refine ⟨_,cap,(List.range (rows.length * k)).map fun p=>cv (p / k) (p % k),rfl,(fun h=>by cases h),hk,by simp,(fun h=>by cases h),fun ad hA j y hy=>?_,fun i j r c hi hj=>?_⟩
    ·cases hA
     rw [List.getElem?_map] at hy
     obtain ⟨j',hj',rfl⟩:=Option.map_eq_some_iff.1 hy
     have hlt:=Zc hj'
     simp only [List.length_range] at hlt
     rw [List.getElem?_range hlt] at hj'
     obtain rfl:=Option.some.inj hj'
     obtain ⟨r,c,h1,h2⟩:=hget j hlt
     have:=(hc _ _ r c h1 h2).1
     rw [add_lit]
     rwa [show j / k * k + j % k=j by rw [Nat.mul_comm]; exact Nat.div_add_mod j k] at this
    ·have hj':=Zc hj
     rw [hk r (List.mem_of_getElem? hi)] at hj'
     have hlt:=row_idx (Zc hi) hj'
     refine ⟨cv i j,?_,hr' i j r c hi hj⟩
     rw [List.getElem?_map,List.getElem?_range hlt]
     simp only [Option.map_some,Option.some.injEq]
     rw [Nat.add_comm,Nat.add_mul_div_right _ _ hpos,Nat.div_eq_of_lt hj',Nat.zero_add,Nat.add_mul_mod_self_right,Nat.mod_eq_of_lt hj']
 unfold rowsOf at h
 split at h <;> first | (cases h; done) | skip
 ·obtain ⟨rfl,rfl⟩:=Prod.mk.inj (Option.some.inj h)
  exact lst hr
 ·obtain ⟨rfl,rfl⟩:=Prod.mk.inj (Option.some.inj h)
  cases hr with
  | own _ _ _ h=>exact lst h
 ·rename_i g off len k'
  split at h <;> first | (cases h; done) | skip
  rename_i cs t hg
  split at h <;> first | (cases h; done) | skip
  rename_i hfit
  obtain ⟨rfl,rfl⟩:=Prod.mk.inj (Option.some.inj h)
  cases hr with
  | arr _ _ _ _ cap b hb hcap =>
   obtain ⟨b',C,h1,h2,h3,h4⟩:=hI.rw.objs g _ hg
   obtain rfl:=hI.rw.inj b b' g hb h1
   have hrow:∀ (i:Nat) (r:List AV),(chunk k' len (cs.drop off))[i]? = some r→i < len∧r.length=k'∧∀ (j:Nat) (c:AV),r[j]? = some c→j < k'∧cs[off + (i * k' + j)]? = some c:=by
    intro i r hi
    have hil:=Zc hi
    rw [chunk_length] at hil
    have he:=chunk_get k' len _ i r hi
    have hle:(i + 1) * k'≤len * k':=Nat.mul_le_mul_right k' hil
    rw [Nat.add_mul,Nat.one_mul] at hle
    refine ⟨hil,by rw [he]; simp; omega,fun j c hj=>?_⟩
    rw [he,List.getElem?_take] at hj
    split at hj
    ·rename_i hjk
     refine ⟨hjk,?_⟩
     rw [List.getElem?_drop,List.getElem?_drop] at hj
     exact hj
    ·cases hj
   refine ⟨some ⟨b,off,none⟩,cap,(List.range (len * k')).map fun p=>C.getD (off + p) Go.undef,by rw [chunk_length],fun h=>(by cases h),fun r hr=>?_,by simp [chunk_length],fun h=>(by cases h),fun ad hA j y hy=>?_,fun i j r c hi hj=>?_⟩
   ·obtain ⟨i,hi⟩:=List.mem_iff_getElem?.1 hr
    exact (hrow i r hi).2.1
   ·cases hA
    rw [List.getElem?_map] at hy
    obtain ⟨j',hj',rfl⟩:=Option.map_eq_some_iff.1 hy
    have hlt:=Zc hj'
    simp only [List.length_range] at hlt
    rw [List.getElem?_range hlt] at hj'
    obtain rfl:=Option.some.inj hj'
    rw [add_lit,cell_of_row w b (off + j) C t (0,0) h2]
    exact getD_of_lt (by omega)
   ·obtain ⟨h5,h6,h7⟩:=hrow i r hi
    obtain ⟨h8,h9⟩:=h7 j c hj
    refine ⟨C.getD (off + (i * k' + j)) Go.undef,?_,(h4 _ c h9).2.1⟩
    rw [List.getElem?_map,List.getElem?_range (row_idx h5 h8)]; rfl
theorem Reads.mono {Γ':Ghost}{w':World}{k:Nat}{rows:List (List AV)}{A:Option Addr}{news:List Value}(h:Reads Γ w k rows A news)(ho:OwnMono Γ Γ')(hf:FixMono Γ w Γ' w')(hw:w'=w):Reads Γ' w' k rows A news:=by
 subst hw
 exact ⟨h.rowLen,h.len,h.nil,h.cell,fun i j r c hi hj=>let ⟨y,h1,h2⟩:=h.rep i j r c hi hj; ⟨y,h1,h2.mono hf ho⟩⟩
end
section
variable {P:Program}{E:Entry}{s:AState}{Γ:Ghost}{a:Act}{w:World}
theorem Inv.drew (h:Inv E s Γ a w):Inv E s Γ a w.drew:=by
 refine h.plain (X := fun _=>False) ⟨rfl,rfl,rfl,Nat.le_refl _,fun _ _ _=>⟨rfl,rfl⟩,fun _ _ _ h1 h2=>⟨h1,h2⟩,.refl _⟩ (fun _ hx=>hx.elim) (fun _ _ h=>h) h.rw.fresh
theorem own_new (hI:Inv E s Γ a w){k cap:Nat}{rows:List (List AV)}{e:TypeId}{cur:Array Value}(hcap:rows.length≤cap)(hmax:cap≤maxLen)(hsz:cur.size=cap * k)(hk:∀ r ∈ rows,r.length=k)
  (hr:∀ (i j:Nat) (r:List AV) (c:AV),rows[i]? = some r→r[j]? = some c→c.noId1=true∧Rep Γ w c (cur.getD (i * k + j) Go.undef)) :
  ∃ Γ',Inv E s Γ' a (w.alloc (.cells cur e))∧OwnAt Γ' (w.alloc (.cells cur e)) .res (.own k rows) (.slice (some ⟨w.heap.size,0,none⟩) rows.length cap):=by
 have st:=step_alloc hI.rw.fresh (.cells cur e) (.list (rows.length * k) .res)
 refine ⟨_,hI.allocPlain (.cells cur e) (.list (rows.length * k) .res) (by simp),fun k' rows' e'=>?_⟩
 cases e'
 exact .inr ⟨w.heap.size,cap,e,cur,rfl,setG_same _ _ _,heap_alloc_new w _,hcap,hmax,hsz,hk,fun i j r c hi hj=>⟨(hr i j r c hi hj).1,(hr i j r c hi hj).2.mono st.fix st.own⟩⟩
theorem append_core (hI:Inv E s Γ a w){t u ty e:TypeId}{i:TypeInfo}{z:Value}(hzs:z.cells.size=i.size)(hpos:0 < i.size){rows news:List (List AV)}{v X:Value}
  (ho:OwnAt Γ w .res (.own i.size rows) v) {ns:List Value} (hnl:ns.length=news.length * i.size) (hnr:∀ r ∈ news,r.length=i.size) (hnp:∀ (p j:Nat) (r:List AV) (c:AV),news[p]? = some r→r[j]? = some c→∃ y,ns[p * i.size + j]? = some y∧Rep Γ w c y)
  (hid:∀ r ∈ news,∀ c ∈ r,c.noId1=true) (hb:(rows.length + news.length) * i.bytes≤140737488355328) (hb1:0 < i.bytes)
  (r0:news=[]→(Builtin.append_ #[t,u] ty #[.slice none 0 0,X]).run P w=.ok (.slice none 0 0) w)
  (r1:0 < news.length→(Builtin.append_ #[t,u] ty #[.slice none 0 0,X]).run P w=.ok (.slice (some ⟨w.heap.size,0,none⟩) news.length (grownCap w news.length 0 e)) (w.drew.alloc (.cells (ns.toArray ++ Builtin.zeroCells z.cells (grownCap w news.length 0 e - news.length)) e)))
  (r2:∀ (b cap':Nat) (e0:TypeId) (cur:Array Value),w.heap[b]? = some (.cells cur e0 (0,0))→rows.length + news.length≤cap'→cur.size=cap' * i.size→(Builtin.append_ #[t,u] ty #[.slice (some ⟨b,0,none⟩) rows.length cap',X]).run P w =
   .ok (.slice (some ⟨b,0,none⟩) (rows.length + news.length) cap') (w.setRow b (cur.toList.take (rows.length * i.size) ++ ns ++ cur.toList.drop (rows.length * i.size + ns.length)).toArray))
  (r3:∀ (b cap':Nat) (e0:TypeId) (cur:Array Value),w.heap[b]? = some (.cells cur e0 (0,0))→cap' < rows.length + news.length→rows.length≤cap'→cur.size=cap' * i.size→(Builtin.append_ #[t,u] ty #[.slice (some ⟨b,0,none⟩) rows.length cap',X]).run P w =
   .ok (.slice (some ⟨w.heap.size,0,none⟩) (rows.length + news.length) (grownCap w (rows.length + news.length) cap' e))
    (w.drew.alloc (.cells ((cur.toList.take (rows.length * i.size)).toArray ++ ns.toArray ++ Builtin.zeroCells z.cells (grownCap w (rows.length + news.length) cap' e - (rows.length + news.length))) e))) :
  ∃ Γ' v' w',(Builtin.append_ #[t,u] ty #[v,X]).run P w=.ok v' w'∧Inv E s Γ' a w'∧OwnAt Γ' w' .res (.own i.size (rows ++ news)) v':=by
 have hlen63:rows.length + news.length≤140737488355328:=Nat.le_trans (Nat.le_mul_of_pos_right _ hb1) hb
 have hmax:maxLen=9223372036854775807:=rfl
 have hgrow:∀ (old:Nat),rows.length + news.length≤grownCap w (rows.length + news.length) old e∧grownCap w (rows.length + news.length) old e≤maxLen:=fun old =>
  ⟨grownCap_ge w _ old e,grownCap_le_maxLen w _ old e (by omega)⟩
 have fresh:∀ (old:Nat) (olds:List Value),olds.length=rows.length * i.size→(∀ r ∈ rows,r.length=i.size)→(∀ (p j:Nat) (r:List AV) (c:AV),rows[p]? = some r→r[j]? = some c→c.noId1=true∧∃ y,olds[p * i.size + j]? = some y∧Rep Γ w c y) →
   ∃ Γ',Inv E s Γ' a (w.drew.alloc (.cells (olds.toArray ++ ns.toArray ++ Builtin.zeroCells z.cells (grownCap w (rows.length + news.length) old e - (rows.length + news.length))) e)) ∧
    OwnAt Γ' (w.drew.alloc (.cells (olds.toArray ++ ns.toArray ++ Builtin.zeroCells z.cells (grownCap w (rows.length + news.length) old e - (rows.length + news.length))) e)) .res (.own i.size (rows ++ news))
     (.slice (some ⟨w.heap.size,0,none⟩) (rows.length + news.length) (grownCap w (rows.length + news.length) old e)):=by
  intro old olds hol hrl hor
  have hg:=hgrow old
  have hlen:(rows ++ news).length=rows.length + news.length:=by simp
  have:=own_new (E := E) (s := s) (Γ := Γ) (a := a) (w := w.drew) hI.drew (k := i.size) (cap := grownCap w (rows.length + news.length) old e) (rows := rows ++ news) (e := e)
   (cur := olds.toArray ++ ns.toArray ++ Builtin.zeroCells z.cells (grownCap w (rows.length + news.length) old e - (rows.length + news.length))) (by rw [hlen]; exact hg.1) hg.2 ?_ (fun r hr=>?_) (fun p j r c hp hj=>?_)
  ·rw [hlen] at this; exact this
  ·simp only [Array.size_append,List.size_toArray,size_zeroCells,hzs,hol,hnl,← Nat.add_mul]
   congr 1
   omega
  ·rcases List.mem_append.1 hr with h | h
   ·exact hrl r h
   ·exact hnr r h
  ·have hget:∀ q y,(olds ++ ns)[q]? = some y→(olds.toArray ++ ns.toArray ++ Builtin.zeroCells z.cells (grownCap w (rows.length + news.length) old e - (rows.length + news.length))).getD q Go.undef=y:=fun q y hq=>by
    have hlt:=Zc hq
    rw [Array.getD_eq_getD_getElem?,Array.getElem?_append_left (by simpa using hlt)]
    rw [List.append_toArray,List.getElem?_toArray,hq]; rfl
   rw [List.getElem?_append] at hp
   split at hp
   ·rename_i hpl
    obtain ⟨a1,y,a2,a3⟩:=hor p j r c hp hj
    rw [hget _ y (by rw [List.getElem?_append_left (Zc a2)]; exact a2)]
    exact ⟨a1,a3.drew⟩
   ·rename_i hpl
    obtain ⟨y,a2,a3⟩:=hnp _ j r c hp hj
    have hge:rows.length * i.size≤p * i.size:=Nat.mul_le_mul_right _ (by omega)
    rw [hget _ y (by
     rw [List.getElem?_append_right (by rw [hol]; omega),hol,← a2]
     congr 1
     rw [Nat.sub_mul]; omega)]
    exact ⟨hid r (List.mem_of_getElem? hp) c (List.mem_of_getElem? hj),a3.drew⟩
 rcases ho _ _ rfl with ⟨rfl,rfl⟩ | ⟨b,cap',e0,cur,rfl,hg,hh,h1,h2,h3,h4,h5⟩
 ·rcases Nat.eq_zero_or_pos news.length with hm | hm
  ·obtain rfl:=List.eq_nil_of_length_eq_zero hm
   obtain rfl:ns=[]:=List.eq_nil_of_length_eq_zero (by simpa using hnl)
   exact ⟨Γ,.slice none 0 0,w,r0 rfl,hI,by simpa using ho⟩
  ·obtain ⟨Γ',i1,o1⟩:=fresh 0 [] (by simp) (by simp) (fun p j r c hp=>by simp at hp)
   simp only [List.length_nil,Nat.zero_add,List.nil_append,Array.empty_append] at i1 o1
   exact ⟨Γ',_,_,r1 hm,i1,o1⟩
 ·have hole:rows.length * i.size≤cap' * i.size:=Nat.mul_le_mul_right _ h1
  have holds:(cur.toList.take (rows.length * i.size)).length=rows.length * i.size:=by simp; omega
  have hoget:∀ q,q < rows.length * i.size→(cur.toList.take (rows.length * i.size))[q]? = some (cur.getD q Go.undef):=fun q hq=>by
   rw [List.getElem?_take,if_pos hq,Array.getElem?_toList]
   exact getD_of_lt (by omega)
  have horep:∀ (p j:Nat) (r:List AV) (c:AV),rows[p]? = some r→r[j]? = some c→c.noId1=true∧∃ y,(cur.toList.take (rows.length * i.size))[p * i.size + j]? = some y∧Rep Γ w c y:=fun p j r c hp hj=>by
   have hj':=Zc hj
   rw [h4 r (List.mem_of_getElem? hp)] at hj'
   exact ⟨(h5 p j r c hp hj).1,_,hoget _ (row_idx (Zc hp) hj'),(h5 p j r c hp hj).2⟩
  by_cases hroom:rows.length + news.length≤cap'
  ·have hfit:rows.length * i.size + ns.length≤cur.size:=by rw [hnl,h3,← Nat.add_mul]; exact Nat.mul_le_mul_right _ hroom
   have hrun:=r2 b cap' e0 cur hh hroom h3
   have hcurget:∀ q,q < (rows.length + news.length) * i.size→(cur.toList.take (rows.length * i.size) ++ ns ++ cur.toList.drop (rows.length * i.size + ns.length)).toArray[q]? = (cur.toList.take (rows.length * i.size) ++ ns)[q]?:=fun q hq=>by
    rw [List.getElem?_toArray,List.getElem?_append_left (by simp only [List.length_append,holds,hnl]; rw [← Nat.add_mul]; exact hq)]
   have st:Step Γ w (setG Γ b (.list ((rows.length + news.length) * i.size) .res)) (w.setRow b (cur.toList.take (rows.length * i.size) ++ ns ++ cur.toList.drop (rows.length * i.size + ns.length)).toArray) (· = b):=by
    refine ⟨rfl,rfl,rfl,by simp,fun b' _ hne=>⟨setG_other Γ _ hne,setRow_other w b b' _ hne⟩,fun b' q y k1 k2=>?_,fun b' g hb'=>?_⟩
    ·by_cases hbb:b'=b
     ·subst hbb
      unfold Fixed at k1 ⊢
      rw [hg] at k1
      rw [setG_same]
      have hq:q < rows.length * i.size:=k1
      have hle:rows.length * i.size≤(rows.length + news.length) * i.size:=Nat.mul_le_mul_right _ (by omega)
      refine ⟨Nat.lt_of_lt_of_le hq hle,?_⟩
      rw [cell_of_row w b' q cur e0 (0,0) hh] at k2
      rw [cell_setRow_same w b' q cur _ e0 (0,0) hh,hcurget q (by omega),List.getElem?_append_left (by rw [holds]; exact hq),hoget q hq,← k2]
      exact (getD_of_lt (by omega)).symm
     ·unfold Fixed at k1 ⊢
      rw [setG_other Γ _ hbb]
      exact ⟨k1,(cell_setRow_other w b _ ⟨b',q,none⟩ hbb).trans k2⟩
    ·by_cases hbb:b'=b
     ·subst hbb; rw [hg] at hb'; cases hb'
     ·rw [setG_other Γ _ hbb]; exact hb'
   have hinv:Inv E s (setG Γ b (.list ((rows.length + news.length) * i.size) .res)) a (w.setRow b (cur.toList.take (rows.length * i.size) ++ ns ++ cur.toList.drop (rows.length * i.size + ns.length)).toArray):=by
    refine hI.plain st (fun b' hb'=>⟨_,(congrArg Γ hb').trans hg⟩) (fun b' g hb'=>?_) (fun b' hb'=>?_)
    ·by_cases hbb:b'=b
     ·subst hbb; rw [setG_same] at hb'; cases hb'
     ·rw [setG_other Γ _ hbb] at hb'; exact hb'
    ·have hsz:w.heap.size≤b':=by simpa using hb'
     have:=lt_of_some hh
     rw [setG_other Γ _ (by omega)]
     exact hI.rw.fresh b' hsz
   refine ⟨_,_,_,hrun,hinv,fun k' rows' e'=>?_⟩
   cases e'
   refine .inr ⟨b,cap',e0,_,by simp,by rw [setG_same]; simp,setRow_heap w b cur _ e0 _ hh,by simpa using hroom,h2,?_,fun r hr=>?_,fun p j r c hp hj=>?_⟩
   ·simp only [List.size_toArray,List.length_append,List.length_take,List.length_drop,Array.length_toList]
    omega
   ·rcases List.mem_append.1 hr with h | h
    ·exact h4 r h
    ·exact hnr r h
   ·rw [List.getElem?_append] at hp
    split at hp
    ·rename_i hpl
     obtain ⟨a1,y,a2,a3⟩:=horep p j r c hp hj
     have hlt:=Zc a2
     rw [holds] at hlt
     have hle:rows.length * i.size≤(rows.length + news.length) * i.size:=Nat.mul_le_mul_right _ (by omega)
     rw [Array.getD_eq_getD_getElem?,hcurget _ (by omega),List.getElem?_append_left (by rw [holds]; exact hlt),a2]
     exact ⟨a1,a3.mono st.fix st.own⟩
    ·rename_i hpl
     obtain ⟨y,a2,a3⟩:=hnp _ j r c hp hj
     have hge:rows.length * i.size≤p * i.size:=Nat.mul_le_mul_right _ (by omega)
     have hj':=Zc hj
     rw [hnr r (List.mem_of_getElem? hp)] at hj'
     have hpl':=Zc hp
     rw [Array.getD_eq_getD_getElem?,hcurget _ (row_idx (by omega) hj'),List.getElem?_append_right (by rw [holds]; omega),holds,show p * i.size + j - rows.length * i.size=(p - rows.length) * i.size + j by rw [Nat.sub_mul]; omega,a2]
     exact ⟨hid r (List.mem_of_getElem? hp) c (List.mem_of_getElem? hj),a3.mono st.fix st.own⟩
  ·obtain ⟨Γ',i1,o1⟩:=fresh cap' _ holds h4 horep
   exact ⟨Γ',_,_,r3 b cap' e0 cur hh (by omega) h1 h3,i1,o1⟩
theorem append_run (hI:Inv E s Γ a w){t ty e:TypeId}{i:TypeInfo}{z:Value}(ht:P.underlying t=some (.slice e))(hi:P.info? e=some i)(hz:i.zero=some z)(hzs:z.cells.size=i.size)(hpos:0 < i.size){rows news:List (List AV)}{v:Value}
  (ho:OwnAt Γ w .res (.own i.size rows) v) {A:Option Addr} {cap:Nat} {ns:List Value} (hn:Reads Γ w i.size news A ns) (hid:∀ r ∈ news,∀ c ∈ r,c.noId1=true)
  (hb:(rows.length + news.length) * i.bytes≤140737488355328) (hb1:0 < i.bytes) :
  ∃ Γ' v' w',(Builtin.append_ #[t,t] ty #[v,.slice A news.length cap]).run P w=.ok v' w'∧Inv E s Γ' a w'∧OwnAt Γ' w' .res (.own i.size (rows ++ news)) v':=by
 have hlen63:rows.length + news.length≤140737488355328:=Nat.le_trans (Nat.le_mul_of_pos_right _ hb1) hb
 have hmax:maxLen=9223372036854775807:=rfl
 rcases A with _ | ad
 ·obtain rfl:=hn.nil rfl
  refine ⟨Γ,v,w,?_,hI,by simpa using ho⟩
  rcases ho _ _ rfl with ⟨rfl,rfl⟩ | ⟨b,cap',e0,cur,rfl,_,_,h1,_⟩
  ·simp [Builtin.append_,run_underlying ht,sizeOf,typeInfo,hi,Builtin.lenOf,Builtin.firstCells]
  ·simp [Builtin.append_,run_underlying ht,sizeOf,typeInfo,hi,Builtin.lenOf,Builtin.firstCells,h1,storeCells]
 ·have hnews:=hn.cell ad rfl
  have hone:∀ u ∈ ns,u.oneCell'=true:=fun u hu=>by
   obtain ⟨p,hp⟩:=List.mem_iff_getElem?.1 hu
   have hlt:=Zc hp
   rw [hn.len] at hlt
   have h1:p / i.size < news.length:=Nat.div_lt_of_lt_mul (by rw [Nat.mul_comm]; exact hlt)
   have h2:p % i.size < (news[p / i.size]).length:=by rw [hn.rowLen _ (List.getElem_mem h1)]; exact Nat.mod_lt _ hpos
   obtain ⟨y,h3,h4⟩:=hn.rep _ _ _ _ (List.getElem?_eq_getElem h1) (List.getElem?_eq_getElem h2)
   rw [show p / i.size * i.size + p % i.size=p by rw [Nat.mul_comm]; exact Nat.div_add_mod p i.size,hp] at h3
   obtain rfl:=Option.some.inj h3
   exact h4.oneCell (noId1_one (hid _ (List.getElem_mem h1) _ (List.getElem_mem h2)))
  refine append_core (u := t) (e := e) (X := .slice (some ad) news.length cap) hI hzs hpos ho hn.len hn.rowLen (fun p j r c hp hj=>hn.rep p j r c hp hj) hid hb hb1 (fun h=>?_) (fun hm=>?_) (fun b cap' e0 cur hh hroom h3=>?_) (fun b cap' e0 cur hh hlt h1 h3=>?_)
  ·subst h
   simp [Builtin.append_,run_underlying ht,sizeOf,typeInfo,hi,Builtin.lenOf,Builtin.firstCells,loadCells,loadCellsFrom]
  ·exact run_append_nil (P := P) w t ty e i z ht hi hz ad news.length cap ns hn.len hnews hm (by omega) (Nat.le_trans (Nat.mul_le_mul_right _ (by omega)) (Nat.le_trans hb (by decide)))
  ·have hfit:rows.length * i.size + ns.length≤cur.size:=by rw [hn.len,h3,← Nat.add_mul]; exact Nat.mul_le_mul_right _ hroom
   have hf:=run_firstCells_some (P := P) w i.size news.length ad news.length cap ns hn.len hnews
   have hst:=run_storeCells_at P b (rows.length * i.size) e0 ns 0 cur w hh (by simpa using hfit) hone
   simp only [Nat.add_zero] at hst
   simp [Builtin.append_,run_underlying ht,sizeOf,typeInfo,hi,Builtin.lenOf,hroom,hf,Addr.add_lit,hst]
  ·have hole:rows.length * i.size≤cap' * i.size:=Nat.mul_le_mul_right _ h1
   have holds:(cur.toList.take (rows.length * i.size)).length=rows.length * i.size:=by simp; omega
   exact run_append_grow (P := P) w t ty e i z ht hi hz ⟨b,0,none⟩ rows.length cap' (cur.toList.take (rows.length * i.size)) holds (fun q y hq=>by
      have hlt:=Zc hq
      rw [holds] at hlt
      rw [List.getElem?_take,if_pos hlt,Array.getElem?_toList] at hq
      rw [add_lit,Nat.zero_add,cell_of_row w b q cur e0 (0,0) hh]
      exact hq) ad news.length cap ns hn.len hnews (by omega) (by omega) (growslice_fits (by omega) hb)
theorem append_str_run (hI:Inv E s Γ a w){t u ty e:TypeId}{i:TypeInfo}{z:Value}(ht:P.underlying t=some (.slice e))(hu:P.underlying u=some .string)(hi:P.info? e=some i)(hz:i.zero=some z)(hzs:z.cells.size=i.size)(hs1:i.size=1){rows:List (List AV)}{v:Value}
  (ho:OwnAt Γ w .res (.own 1 rows) v) (l:List UInt8) (hb:(rows.length + l.length) * i.bytes≤140737488355328) (hb1:0 < i.bytes) :
  ∃ Γ' v' w',(Builtin.append_ #[t,u] ty #[v,.string ⟨l.toArray⟩]).run P w=.ok v' w'∧Inv E s Γ' a w'∧OwnAt Γ' w' .res (.own 1 (rows ++ l.map byteRow)) v':=by
 have hsz:(⟨l.toArray⟩:ByteArray).size=l.length:=by simp [ByteArray.size]
 have hcells:Lib.strCells ⟨l.toArray⟩=l.map fun b=>Value.int .u8 b.toNat:=by simp [Lib.strCells]
 have hns:(l.map fun b=>Value.int .u8 (b.toNat:Int)).length=l.length:=by simp
 have hlen:(l.map byteRow).length=l.length:=by simp
 have:=append_core (P := P) (E := E) (s := s) (Γ := Γ) (a := a) (w := w) (t := t) (u := u) (ty := ty) (e := e) (i := i) (z := z) (rows := rows) (news := l.map byteRow) (v := v) (X := .string ⟨l.toArray⟩) (ns := l.map fun b=>Value.int .u8 b.toNat) hI hzs (by omega) (by rw [hs1]; exact ho) (by simp [hs1])
  (fun r hr=>by obtain ⟨c,_,rfl⟩:=List.mem_map.1 hr; rw [hs1]; rfl) (fun p j r c hp hj=>?_) (fun r hr c hc=>by obtain ⟨c,_,rfl⟩:=List.mem_map.1 hr; simp only [byteRow,List.mem_singleton] at hc; subst hc; rfl) (by rw [hlen]; exact hb) hb1 (fun h=>?_) (fun hm=>?_) (fun b cap' e0 cur hh hroom h3=>?_) (fun b cap' e0 cur hh hlt h1 h3=>?_)
 ·rw [hs1] at this; exact this
 ·rw [List.getElem?_map] at hp
  obtain ⟨c0,hc0,rfl⟩:=Option.map_eq_some_iff.1 hp
  have:j=0∧c=.int .u8 c0.toNat:=by
   cases j with
   | zero=>simp [byteRow] at hj; exact ⟨rfl,hj.symm⟩
   | succ j=>simp [byteRow] at hj
  obtain ⟨rfl,rfl⟩:=this
  refine ⟨.int .u8 c0.toNat,?_,.int _ _⟩
  rw [hs1,Nat.mul_one,Nat.add_zero,List.getElem?_map,hc0]; rfl
 ·have:l=[]:=by simpa using h
  subst this
  have hf:=Lib.run_firstCells_string (P := P) w 1 ⟨([]:List UInt8).toArray⟩
  have h0:(⟨([]:List UInt8).toArray⟩:ByteArray).size=0:=rfl
  rw [h0] at hf
  simp [Builtin.append_,run_underlying ht,run_underlying hu,sizeOf,typeInfo,hi,hs1,Builtin.lenOf,h0,hf,Lib.strCells]
 ·have hr:=run_append_nil_string (P := P) w t u ty e i z ht hu hi hz ⟨l.toArray⟩ (by rw [hsz]; omega) (by rw [hsz]; have:=Nat.le_mul_of_pos_right (rows.length + l.length) hb1; omega) (by rw [hsz]; exact Nat.le_trans (Nat.mul_le_mul_right _ (by omega)) (Nat.le_trans hb (by decide)))
  rw [hsz] at hr
  rw [hlen,hr]
  congr 3
  simp
 ·have hroom':rows.length + l.length≤cap':=by rw [hlen] at hroom; exact hroom
  have hf:=Lib.run_firstCells_string (P := P) w 1 ⟨l.toArray⟩
  have hst:=run_storeCells_at P b rows.length e0 (Lib.strCells ⟨l.toArray⟩) 0 cur w hh (by rw [Lib.strCells_length,hsz]; rw [h3,hs1]; omega) (Lib.strCells_oneCell _)
  simp only [Nat.add_zero,Lib.strCells_length] at hst
  rw [hlen,← hcells,Lib.strCells_length,hs1,Nat.mul_one,hsz]
  rw [hsz] at hst hf
  simp [Builtin.append_,run_underlying ht,run_underlying hu,sizeOf,typeInfo,hi,hs1,Builtin.lenOf,hroom',hf,Addr.add_lit,hst,hsz]
 ·rw [hlen] at hlt
  have h63:=Nat.le_mul_of_pos_right (rows.length + l.length) hb1
  have holds:(cur.toList.take rows.length).length=rows.length:=by simp; rw [h3,hs1]; omega
  have hr:=Lib.run_append_grow_string (P := P) w t u ty e i z ht hu hi hz ⟨b,0,none⟩ rows.length cap' (cur.toList.take rows.length) (by rw [holds,hs1]; omega) (fun q y hq=>by
   have hlt:=Zc hq
   rw [holds] at hlt
   rw [List.getElem?_take,if_pos hlt,Array.getElem?_toList] at hq
   rw [add_lit,Nat.zero_add,cell_of_row w b q cur e0 (0,0) hh]
   exact hq) ⟨l.toArray⟩ (by rw [hsz]; omega) (by rw [hsz]; omega) (by rw [hsz]; exact growslice_fits (by omega) hb)
  rw [hsz,hcells] at hr
  rw [hlen,hs1,Nat.mul_one]
  exact hr
end
end Go.Proofs.YtcfjcimhjmpkiaaGreatDoor.Abs
end
section
namespace Go.Proofs.YtcfjcimhjmpkiaaGreatDoor.Abs
open Go Go.RowKit
section
variable {P:Program}{G:Nat→Option (List AV)}{E:Entry}{s:AState}{Γ:Ghost}{a:Act}{w:World}{o:Oper}
theorem cells_of_all {news:List (List AV)}(h:news.all (·.all AV.noId1)=true):∀ r ∈ news,∀ c ∈ r,c.noId1=true:=fun r hr c hc=>List.all_eq_true.1 (List.all_eq_true.1 h r hr) c hc
theorem zeroOf_size {e:TypeId}{z:AV}{i:TypeInfo}(hz:zeroOf P e=some z)(hi:P.info? e=some i)(hs:z.cells.length=i.size):∃ zv,i.zero=some zv∧zv.cells.size=i.size:=by
 obtain ⟨i',zv,h1,h2,h3⟩:=zeroOf_spec hz
 rw [hi] at h1
 cases h1
 refine ⟨zv,h2,?_⟩
 rw [← hs]
 obtain ⟨hr,hn⟩:=h3 (fun _=>.imm) default
 cases hr with
 | agg cells cv hs' _ _ _=>exact hs'
 | undef=>rfl
 | tup=>rfl
 | own k rows v h =>
  obtain ⟨rfl,rfl⟩:=hn _ _ rfl
  rfl
 | _=>rfl
theorem ok_app (hG:GOk G E.W0)(hI:Inv E s Γ a w){t e:TypeId}{i:TypeInfo}{z:AV}{sl:Nat}{x:Operand}{x':Opnd}{rows news:List (List AV)}{u:AV}
  (ho:o.op=.call { callee := .builtin .append,args := #[.tmp sl,x],argTypes := #[t,t] }) (ht:P.underlying t=some (.slice e)) (hi:P.info? e=some i) (hz:zeroOf P e=some z) (hzs:z.cells.length=i.size) (hpos:0 < i.size) (hb1:0 < i.bytes)
  (hc:cOpnd P t x=some x') (hsl:s.sl[sl]? = some (.own i.size rows)) (hx:opnd G s.sl x'=some u) (hr:rowsOf s.hp u=some (i.size,news)) (hid:news.all (·.all AV.noId1)=true)
  (hb:(rows.length + news.length) * i.bytes≤140737488355328):OpOk P E (s.let_ sl) (.own i.size (rows ++ news)) a w o:=by
 obtain ⟨Γ1,i1,r1,w1⟩:=hI.take sl hsl
 obtain ⟨A,cap,ns,hu,_,hrd⟩:=rowsOf_spec hI (cOpnd_rep hG hI hc hx).1 hr
 obtain ⟨zv,hz1,hz2⟩:=zeroOf_size hz hi hzs
 have hx1:opnd G (s.let_ sl).sl x'=some u:=by
  cases x' with
  | tmp q =>
   obtain ⟨y,hy,rfl⟩:=Option.map_eq_some_iff.1 hx
   simp only [opnd,AState.let_,List.getElem?_modify,hy]
   split
   ·cases y <;> rfl
   ·rfl
  | const c=>exact hx
  | glob q=>exact hx
 have hrd1:Reads Γ1 w i.size news A ns:=by
  obtain ⟨A',cap',ns',hu',_,hrd'⟩:=rowsOf_spec i1 (k := i.size) (rows := news) (cOpnd_rep hG i1 hc hx1).1 (by simpa [AState.let_] using hr)
  rw [hu] at hu'
  cases hu'
  refine ⟨hrd.rowLen,hrd.len,hrd.nil,hrd.cell,fun p j r c hp hj=>?_⟩
  obtain ⟨y,hy1,hy2⟩:=hrd.rep p j r c hp hj
  obtain ⟨y',hy1',hy2'⟩:=hrd'.rep p j r c hp hj
  rcases A with _ | ad
  ·rw [hrd.nil rfl] at hp; simp at hp
  ·have e1:=hrd.cell ad rfl _ _ hy1
   have e2:=hrd'.cell ad rfl _ _ hy1'
   rw [e1] at e2
   cases e2
   exact ⟨y,hy1,hy2'⟩
 obtain ⟨Γ',v',w',hrun,hI',hown⟩:=append_run (ty := o.type) (cap := cap) i1 ht hi hz1 hz2 hpos w1 hrd1 (cells_of_all hid) hb hb1
 refine ⟨Γ',v',w',.inl ?_,hI',hown.rep,hown⟩
 simp only [execOp,ho,resolve,invoke,builtin]
 have e1:a.eval (.tmp sl)=a.tmps.getD sl Go.undef:=rfl
 simp only [Sem.run_bind,Sem.run_pure,Result.andThen_ok,List.map_toArray,List.map_cons,List.map_nil,e1,hu,hrun]
theorem isStr_of {t:TypeId}(h:isStrB P t=true):P.underlying t=some .string:=by
 unfold isStrB at h
 split at h
 ·assumption
 ·cases h
theorem ok_apps (hG:GOk G E.W0)(hI:Inv E s Γ a w){t t' e:TypeId}{i:TypeInfo}{z:AV}{sl:Nat}{x:Operand}{x':Opnd}{rows:List (List AV)}{l:List UInt8}
  (ho:o.op=.call { callee := .builtin .append,args := #[.tmp sl,x],argTypes := #[t,t'] }) (ht:P.underlying t=some (.slice e)) (hu:P.underlying t'=some .string) (hi:P.info? e=some i) (hz:zeroOf P e=some z) (hzs:z.cells.length=i.size) (hs1:i.size=1) (hb1:0 < i.bytes)
  (hc:cOpnd P t' x=some x') (hsl:s.sl[sl]? = some (.own 1 rows)) (hx:opnd G s.sl x'=some (.str l)) (hb:(rows.length + l.length) * i.bytes≤140737488355328):OpOk P E (s.let_ sl) (.own 1 (rows ++ l.map byteRow)) a w o:=by
 obtain ⟨Γ1,i1,r1,w1⟩:=hI.take sl hsl
 have hxv:=(cOpnd_rep hG hI hc hx).1
 have hxe:a.eval x=.string ⟨l.toArray⟩:=by generalize a.eval x=y at hxv; cases hxv; rfl
 obtain ⟨zv,hz1,hz2⟩:=zeroOf_size hz hi hzs
 obtain ⟨Γ',v',w',hrun,hI',hown⟩:=append_str_run (ty := o.type) i1 ht hu hi hz1 hz2 hs1 w1 l hb hb1
 refine ⟨Γ',v',w',.inl ?_,hI',hown.rep,hown⟩
 simp only [execOp,ho,resolve,invoke,builtin]
 have e1:a.eval (.tmp sl)=a.tmps.getD sl Go.undef:=rfl
 simp only [Sem.run_bind,Sem.run_pure,Result.andThen_ok,List.map_toArray,List.map_cons,List.map_nil,e1,hxe,hrun]
theorem ok_appn (hG:GOk G E.W0)(hI:Inv E s Γ a w){t e:TypeId}{i:TypeInfo}{z:AV}{x:Operand}{x':Opnd}{news:List (List AV)}{u:AV}
  (ho:o.op=.call { callee := .builtin .append,args := #[.const (.slice none 0 0),x],argTypes := #[t,t] }) (ht:P.underlying t=some (.slice e)) (hi:P.info? e=some i) (hz:zeroOf P e=some z) (hzs:z.cells.length=i.size) (hpos:0 < i.size) (hb1:0 < i.bytes)
  (hc:cOpnd P t x=some x') (hx:opnd G s.sl x'=some u) (hr:rowsOf s.hp u=some (i.size,news)) (hid:news.all (·.all AV.noId1)=true)
  (hb:news.length * i.bytes≤140737488355328):OpOk P E s (.own i.size news) a w o:=by
 obtain ⟨A,cap,ns,hu,_,hrd⟩:=rowsOf_spec hI (cOpnd_rep hG hI hc hx).1 hr
 obtain ⟨zv,hz1,hz2⟩:=zeroOf_size hz hi hzs
 obtain ⟨Γ',v',w',hrun,hI',hown⟩:=append_run (ty := o.type) (cap := cap) (v := .slice none 0 0) (rows := []) hI ht hi hz1 hz2 hpos (.nil fun k r e=>by cases e; exact ⟨rfl,rfl⟩) hrd (cells_of_all hid) (by simpa using hb) hb1
 refine ⟨Γ',v',w',.inl ?_,hI',by simpa using hown.rep,by simpa using hown⟩
 simp only [execOp,ho,resolve,invoke,builtin]
 have e1:a.eval (.const (.slice none 0 0))=.slice none 0 0:=rfl
 simp only [Sem.run_bind,Sem.run_pure,Result.andThen_ok,List.map_toArray,List.map_cons,List.map_nil,e1,hu,hrun]
theorem rep_flatten (z:List AV):∀ (n p:Nat),p < n * z.length→(List.flatten (List.replicate n z))[p]? = z[p % z.length]?
 | 0,p,h=>by simp at h
 | n + 1,p,h=>by
  rw [List.replicate_succ,List.flatten_cons]
  by_cases hp:p < z.length
  ·rw [List.getElem?_append_left hp,Nat.mod_eq_of_lt hp]
  ·rw [List.getElem?_append_right (by omega),rep_flatten z n (p - z.length) (by rw [Nat.add_mul,Nat.one_mul] at h; omega)]
   congr 1
   rw [← Nat.mod_eq_sub_mod (by omega)]
theorem ok_mksl (hI:Inv E s Γ a w){t e:TypeId}{i:TypeInfo}{z:AV}{kl kc:IntKind}{n:Int}(hrun0:∃ l c,o.op=.makeSlice t l c∧a.eval l=.int kl n∧a.eval c=.int kc n)(ht:P.underlying t=some (.slice e))(hi:P.info? e=some i)(hz:zeroOf P e=some z)(hz1:z.cells.all AV.one=true)
  (hzs:z.cells.length=i.size) (hpos:0 < i.size) (hby:i.bytes≤16384) (h0:0≤n) (hn:n≤4294967296) :
  OpOk P E { s with hp:=s.hp ++ [.cells (List.flatten (List.replicate n.toNat z.cells)) e] } (.arr s.hp.length 0 n.toNat z.cells.length) a w o:=by
 obtain ⟨l,c,ho,hl,hc⟩:=hrun0
 obtain ⟨i',zv,h1,h2,h3⟩:=zeroOf_spec hz
 rw [hi] at h1
 cases h1
 have hb:(i.bytes:Int) * n≤281474976710656:=by
  have:(i.bytes:Int)≤16384:=by omega
  calc (i.bytes:Int) * n≤16384 * n:=Int.mul_le_mul_of_nonneg_right this h0
   _≤281474976710656:=by omega
 have hr:=run_make (P := P) w t e i zv ht hi h2 kl kc n n h0 (Int.le_refl _) hb (by omega)
 obtain ⟨k1,k2⟩:=h3 Γ w
 obtain ⟨a1,a2⟩:=k1.cellsRep (laid_of_one hz1) k2
 have st:=step_alloc hI.rw.fresh (.cells (madeCells zv.cells (n.toNat * i.size)) e) (.own s.hp.length)
 have hlen:(List.flatten (List.replicate n.toNat z.cells)).length=n.toNat * z.cells.length:=by simp
 refine ⟨_,_,_,.inl ?_,hI.allocObj _ _ ⟨w.heap.size,madeCells zv.cells (n.toNat * i.size),setG_same _ _ _,heap_alloc_new w _,by rw [size_madeCells,hlen,hzs],fun p c' hp=>?_⟩,.arr _ 0 _ _ n.toNat _ (setG_same _ _ _) (Nat.le_refl _),.of_ne (by simp)⟩
 ·simp only [execOp,ho,hl,hc]
  simp only [Sem.run_bind,hr,Result.andThen_ok]
  rfl
 ·have hlt:=Zc hp
  rw [hlen] at hlt
  rw [rep_flatten _ _ _ hlt] at hp
  obtain ⟨b1,b2,b3⟩:=a2 _ c' hp
  have hmod:p % z.cells.length < z.cells.length:=Nat.mod_lt _ (by omega)
  have hg:(madeCells zv.cells (n.toNat * i.size)).getD p Go.undef=zv.cells.getD (p % z.cells.length) Go.undef:=by
   rw [Array.getD_eq_getD_getElem?,madeCells,Array.getElem?_map,Array.getElem?_range,if_pos (by rw [← hzs]; exact hlt)]
   simp only [Option.map_some,Option.getD_some]
   rw [a1,getElem!_def,getD_of_lt (C := zv.cells) (by omega)]
  rw [hg]
  exact ⟨b1,b2.mono st.fix st.own,.nil b3⟩
theorem ok_len (hG:GOk G E.W0)(hI:Inv E s Γ a w){t:TypeId}{x:Operand}{x':Opnd}{u v:AV}(ho:o.op=.call { callee := .builtin .len,args := #[x],argTypes := #[t] })
  {sh:LenSh} (hsh:match sh with | .str=>P.underlying t=some .string | .slice=>∃ e,P.underlying t=some (.slice e) | .map=>∃ k e,P.underlying t=some (.map k e))
  (hc:cOpnd P t x=some x') (hx:opnd G s.sl x'=some u) (h:lenVal s.hp sh u=some v):OpCalm P Γ w v a o:=by
 have k1:=(cOpnd_rep hG hI hc hx).1
 have hrun:∀ w' n,(Builtin.len_ #[t] o.type #[a.eval x]).run P w'=.ok (.int .i64 n) w'→(execOp a.eval o).run P w'=.ok (.value (.int .i64 n)) w':=fun w' n hn=>by
  simp only [execOp,ho,resolve,invoke,builtin]
  simp only [Sem.run_bind,Sem.run_pure,Result.andThen_ok,List.map_toArray,List.map_cons,List.map_nil,hn]
 unfold lenVal at h
 split at h <;> first | (cases h; done) | skip
 ·obtain rfl:=Option.some.inj h
  generalize hq:a.eval x=q at k1 hrun
  cases k1
  exact .mk' (fun w' _=>hrun w' _ (by simp [Builtin.len_,run_underlying hsh,goInt,bytes_size])) (.int _ _) (fun k r e=>by cases e)
 ·obtain rfl:=Option.some.inj h
  obtain ⟨e,he⟩:=hsh
  generalize hq:a.eval x=q at k1 hrun
  cases k1 with
  | lstNil=>exact .mk' (fun w' _=>hrun w' _ (by simp [Builtin.len_,run_underlying he,goInt])) (.int _ _) (fun k r e=>by cases e)
  | lstE=>exact .mk' (fun w' _=>hrun w' _ (by simp [Builtin.len_,run_underlying he,goInt])) (.int _ _) (fun k r e=>by cases e)
  | lst=>exact .mk' (fun w' _=>hrun w' _ (by simp [Builtin.len_,run_underlying he,goInt])) (.int _ _) (fun k r e=>by cases e)
 ·obtain rfl:=Option.some.inj h
  obtain ⟨e,he⟩:=hsh
  generalize hq:a.eval x=q at k1 hrun
  cases k1 with
  | arr=>exact .mk' (fun w' _=>hrun w' _ (by simp [Builtin.len_,run_underlying he,goInt])) (.int _ _) (fun k r e=>by cases e)
 ·obtain rfl:=Option.some.inj h
  obtain ⟨k,e,he⟩:=hsh
  generalize hq:a.eval x=q at k1 hrun
  cases k1
  exact .mk' (fun w' _=>hrun w' _ (by simp [Builtin.len_,run_underlying he,goInt])) (.int _ _) (fun k r e=>by cases e)
 ·rename_i g
  split at h <;> first | (cases h; done) | skip
  rename_i es hg
  obtain rfl:=Option.some.inj h
  obtain ⟨k,e,he⟩:=hsh
  generalize hq:a.eval x=q at k1 hrun
  cases k1 with
  | map _ b hb =>
   obtain ⟨b',ms,clk,h1,h2,h3,_⟩:=hI.rw.objs g _ hg
   obtain rfl:=hI.rw.inj b b' g hb h1
   exact .mk' (fun w' hw=>hrun w' _ (by simp [Builtin.len_,run_underlying he,goInt,getObj,Sem.run,(hw b (lt_of_some h2)).trans h2,h3])) (.int _ _) (fun k r e=>by cases e)
theorem ok_next (hG:GOk G E.W0)(hI:Inv E s Γ a w){x:Operand}{x':Opnd}{g pos:Nat}{b:List UInt8}(ho:o.op=.next x true)(hc:cOpnd P 0 x=some x')(hx:opnd G s.sl x'=some (.ptr g 0))(hg:s.hp[g]? = some (.iter b pos))(hlt:pos < b.length) :
  OpOk P E { s with hp:=s.hp.set g (.iter b (pos + (Utf8.decode ⟨b.toArray⟩ pos).2)),ef := s.note g 0 } (.tup [.bool true,.int .i64 pos,.int .i32 (Utf8.decode ⟨b.toArray⟩ pos).1]) a w o:=by
 have k1:=(cOpnd_rep hG hI hc hx).1
 generalize hq:a.eval x=q at k1
 cases k1 with
 | ptr _ _ bl hb =>
  obtain ⟨b',h1,h2⟩:=hI.rw.objs g _ hg
  obtain rfl:=hI.rw.inj bl b' g hb h1
  have hr:=Lib.run_next_any_at (P := P) w bl ⟨b.toArray⟩ pos o.type h2 (by rw [bytes_size]; exact hlt)
  have st:Step Γ w Γ (w.iterAt bl ⟨b.toArray⟩ (pos + (Utf8.decode ⟨b.toArray⟩ pos).2)) (· = bl):=by
   have same:∀ b',b'≠bl→(w.iterAt bl ⟨b.toArray⟩ (pos + (Utf8.decode ⟨b.toArray⟩ pos).2)).heap[b']? = w.heap[b']?:=fun b' hne=>by
    simp [World.iterAt,Ne.symm hne]
   refine ⟨rfl,rfl,rfl,by simp [World.iterAt],fun b' _ hne=>⟨rfl,same b' hne⟩,fun b' q y k1 k2=>⟨k1,?_⟩,.refl _⟩
   have:b'≠bl:=by
    rintro rfl
    unfold Fixed at k1
    rw [hb] at k1
    exact k1
   exact (cell_heap (same b' this)).trans k2
  have hI':=hI.update (ao := .iter b (pos + (Utf8.decode ⟨b.toArray⟩ pos).2)) hb st (noted_note s g 0) (by simp [World.iterAt]) ⟨bl,hb,Lib.iterAt_heap w bl _ pos _ h2⟩
  refine ⟨Γ,_,_,.inl ?_,hI',.tup _ #[.bool true,.int .i64 pos,.int .i32 (Utf8.decode ⟨b.toArray⟩ pos).1] rfl (fun j c hj=>?_),.of_ne (by simp)⟩
  ·simp only [execOp,ho,hq]
   simp only [Sem.run_bind,hr,Result.andThen_ok]
   rfl
  ·match j with
   | 0=>cases hj; exact .bool _
   | 1=>cases hj; exact .int _ _
   | 2=>cases hj; exact .int _ _
   | j + 3=>simp at hj
theorem ok_next_end (hG:GOk G E.W0)(hI:Inv E s Γ a w){x:Operand}{x':Opnd}{g pos:Nat}{b:List UInt8}(ho:o.op=.next x true)(hc:cOpnd P 0 x=some x')(hx:opnd G s.sl x'=some (.ptr g 0))(hg:s.hp[g]? = some (.iter b pos))(hlt:¬ pos < b.length) :
  OpOk P E s (.tup [.bool false]) a w o:=by
 have k1:=(cOpnd_rep hG hI hc hx).1
 generalize hq:a.eval x=q at k1
 cases k1 with
 | ptr _ _ bl hb =>
  obtain ⟨b',h1,h2⟩:=hI.rw.objs g _ hg
  obtain rfl:=hI.rw.inj bl b' g hb h1
  have hr:=Lib.run_next_end_at (P := P) w bl ⟨b.toArray⟩ pos o.type h2 (by rw [bytes_size]; exact hlt)
  refine .pure (cv := .tuple #[.bool false]) hI ?_ (.tup _ #[.bool false] rfl (fun j c hj=>?_)) (fun k r e=>by cases e)
  ·simp only [execOp,ho,hq]
   simp only [Sem.run_bind,hr,Result.andThen_ok]
   rfl
  ·match j with
   | 0=>cases hj; exact .bool _
   | j + 1=>simp at hj
end
end Go.Proofs.YtcfjcimhjmpkiaaGreatDoor.Abs
end
section
namespace Go.Proofs.YtcfjcimhjmpkiaaGreatDoor.Abs
open Go Go.RowKit
def OptRep (Γ:Ghost)(w:World)(x:Option Value):Option AV→Prop
 | none=>x=none
 | some u=>∃ cv,x=some cv∧Rep Γ w u cv
section
variable {P:Program}{G:Nat→Option (List AV)}{E:Entry}{s:AState}{Γ:Ghost}{a:Act}{w:World}{o:Oper}
theorem cOpt_rep (hG:GOk G E.W0)(hI:Inv E s Γ a w){x:Option Operand}{y:Option Opnd}{v:Option AV}(hc:cOpt P x=some y)(h:optOpnd G s.sl y=some v) :
  OptRep Γ w (x.map a.eval) v:=by
 cases x with
 | none =>
  obtain rfl:=Option.some.inj hc
  obtain rfl:=Option.some.inj h
  rfl
 | some x =>
  obtain ⟨y',hy,rfl⟩:=Option.map_eq_some_iff.1 hc
  obtain ⟨u,hu,rfl⟩:=Option.map_eq_some_iff.1 h
  exact ⟨a.eval x,rfl,(cOpnd_rep hG hI hy hu).1⟩
theorem bounds_run {lo hi:Option Operand}{vl vh:Option AV}{len cap l h:Nat}{isSlice:Bool}(hl:OptRep Γ w (lo.map a.eval) vl)(hh:OptRep Γ w (hi.map a.eval) vh)(hc:len≤cap)(h1:bound len len vh=some h)(h2:bound h 0 vl=some l)(w':World) :
  (Instr.sliceBounds isSlice len cap (lo.map a.eval) (hi.map a.eval) none).run P w'=.ok (l,h,cap) w'∧l≤h∧h≤len:=by
 have hhi:h≤len∧((match hi.map a.eval with
   | some v=>Instr.sliceBound v cap (if isSlice then .sliceAcap else .sliceAlen)
   | none=>pure len:Sem Nat)).run P w'=.ok h w':=by
  unfold bound at h1
  split at h1 <;> first | (cases h1; done) | skip
  ·obtain rfl:=Option.some.inj h1
   rw [show hi.map a.eval=none from hh]
   exact ⟨Nat.le_refl _,rfl⟩
  ·split at h1 <;> first | (cases h1; done) | skip
   rename_i hi'
   obtain rfl:=Option.some.inj h1
   obtain ⟨cv,k1,k2⟩:=hh
   cases k2
   rw [k1]
   refine ⟨by omega,?_⟩
   simp only [Instr.sliceBound,asIntOf,Sem.run_bind,Sem.run_pure,Result.andThen_ok]
   rw [if_pos (by omega)]
   rfl
 have hlo:l≤h∧((match lo.map a.eval with
   | some v=>Instr.sliceBound v h .sliceB
   | none=>pure 0:Sem Nat)).run P w'=.ok l w':=by
  unfold bound at h2
  split at h2 <;> first | (cases h2; done) | skip
  ·obtain rfl:=Option.some.inj h2
   rw [show lo.map a.eval=none from hl]
   exact ⟨Nat.zero_le _,rfl⟩
  ·split at h2 <;> first | (cases h2; done) | skip
   rename_i hi'
   obtain rfl:=Option.some.inj h2
   obtain ⟨cv,k1,k2⟩:=hl
   cases k2
   rw [k1]
   refine ⟨by omega,?_⟩
   simp only [Instr.sliceBound,asIntOf,Sem.run_bind,Sem.run_pure,Result.andThen_ok]
   rw [if_pos hi']
   rfl
 refine ⟨?_,hlo.1,hhi.1⟩
 have e1:=hhi.2
 have e2:=hlo.2
 unfold Instr.sliceBounds
 cases hq:hi.map a.eval with
 | none =>
  rw [hq] at e1
  cases e1
  cases hp:lo.map a.eval with
  | none=>rw [hp] at e2; cases e2; rfl
  | some v =>
   rw [hp] at e2
   simp only [Sem.run_bind,Sem.run_pure,Result.andThen_ok,Option.isSome_none,Bool.false_eq_true,if_false]
   simp only at e2
   rw [e2]
   rfl
 | some u =>
  rw [hq] at e1
  simp only at e1
  simp only [Sem.run_bind,Sem.run_pure,Result.andThen_ok,Option.isSome_none,Bool.false_eq_true,if_false]
  rw [e1]
  simp only [Result.andThen_ok]
  cases hp:lo.map a.eval with
  | none=>rw [hp] at e2; cases e2; rfl
  | some v =>
   rw [hp] at e2
   simp only at e2
   simp only
   rw [Sem.run_bind,e2]
   rfl
theorem bounds_all {lo hi:Option Operand}{vl vh:Option AV}{len cap l h:Nat}{isSlice:Bool}(hl:OptRep Γ w (lo.map a.eval) vl)(hh:OptRep Γ w (hi.map a.eval) vh)(hc:len≤cap)(h1:bound len len vh=some h)(h2:bound h 0 vl=some l) :
  (∀ w',(Instr.sliceBounds isSlice len cap (lo.map a.eval) (hi.map a.eval) none).run P w'=.ok (l,h,cap) w')∧l≤h∧h≤len :=
 ⟨fun w'=>(bounds_run hl hh hc h1 h2 w').1,(bounds_run (P := P) (isSlice := isSlice) hl hh hc h1 h2 w).2⟩
theorem extract_list (x:List UInt8)(l h:Nat):(ByteArray.mk x.toArray).extract l h=⟨((x.take h).drop l).toArray⟩:=by
 apply WideShapes.bytes_inj
 rw [Go.Lib.extract_data]
 simp only [List.drop_take]
theorem ok_slice (hG:GOk G E.W0)(hI:Inv E s Γ a w){t:TypeId}{sh:Shape}{x:Operand}{lo hi:Option Operand}{x':Opnd}{lo' hi':Option Opnd}{u v:AV}{vl vh:Option AV}(ho:o.op=.slice t x lo hi none)(hs:cShape P t=some sh)
  (hc:cOpnd P t x=some x') (hcl:cOpt P lo=some lo') (hch:cOpt P hi=some hi') (hx:opnd G s.sl x'=some u) (hl:optOpnd G s.sl lo'=some vl) (hh:optOpnd G s.sl hi'=some vh) (h:sliceVal sh u vl vh=some v):OpCalm P Γ w v a o:=by
 have k1:=(cOpnd_rep hG hI hc hx).1
 have b1:=cOpt_rep hG hI hcl hl
 have b2:=cOpt_rep hG hI hch hh
 have hexec:∀ w' r,(Instr.sliceAt t (a.eval x) (lo.map a.eval) (hi.map a.eval) none).run P w'=.ok r w'→(execOp a.eval o).run P w'=.ok (.value r) w':=fun w' r hr=>by
  simp only [execOp,ho]
  simp only [Option.map_none,Sem.run_bind,hr,Result.andThen_ok]
  rfl
 unfold sliceVal at h
 split at h <;> first | (cases h; done) | skip
 ·rename_i bs
  split at h <;> first | (cases h; done) | skip
  rename_i hh' e1
  split at h <;> first | (cases h; done) | skip
  rename_i l e2
  obtain rfl:=Option.some.inj h
  have hu:=cShape_str hs
  generalize hq:a.eval x=q at k1 hexec
  cases k1
  obtain ⟨c1,c2,c3⟩:=bounds_all (P := P) (isSlice := false) b1 b2 (Nat.le_refl _) e1 e2
  refine .mk' (fun w' _=>hexec w' (.string ⟨((bs.take hh').drop l).toArray⟩) ?_) (.str _) (fun k r e=>by cases e)
  simp only [Instr.sliceAt,Instr.slice,Sem.run_bind,run_underlying hu,Result.andThen_ok,Option.isSome_none,Bool.false_eq_true,if_false,bytes_size,c1,extract_list]
  rfl
 ·rename_i k k' r
  split at h <;> first | (cases h; done) | skip
  rename_i hk
  subst hk
  split at h <;> first | (cases h; done) | skip
  rename_i hh' e1
  split at h <;> first | (cases h; done) | skip
  rename_i l e2
  obtain rfl:=Option.some.inj h
  obtain ⟨e,ti,hu,hsz,hpos,hinfo⟩:=cShape_slice hs
  generalize hq:a.eval x=q at k1 hexec
  cases k1 with
  | lstNil =>
   obtain ⟨c1,c2,c3⟩:=bounds_all (P := P) (isSlice := true) b1 b2 (Nat.le_refl _) e1 e2
   simp only [List.length_nil,Nat.le_zero] at c3
   subst c3
   simp only [Nat.le_zero] at c2
   subst c2
   refine .mk' (fun w' _=>hexec w' (.slice none 0 0) ?_) (by simpa using Rep.lstNil k) (fun k r e=>by cases e)
   simp only [Instr.sliceAt,Instr.slice,Sem.run_bind,run_underlying hu,Result.andThen_ok]
   simp only [List.length_nil] at c1
   simp [c1,sizeOf_run hinfo]
  | lstE _ A cap =>
   obtain ⟨c1,c2,c3⟩:=bounds_all (P := P) (isSlice := true) (cap := cap) (len := 0) b1 b2 (Nat.zero_le _) e1 e2
   obtain rfl:hh'=0:=Nat.le_zero.1 c3
   obtain rfl:l=0:=Nat.le_zero.1 c2
   refine .mk' (fun w' _=>hexec w' (.slice (some A) 0 cap) ?_) (by simpa using Rep.lstE k A cap) (fun k r e=>by cases e)
   simp only [Instr.sliceAt,Instr.slice,Sem.run_bind,run_underlying hu,Result.andThen_ok]
   simp only [c1,sizeOf_run hinfo,hsz,Sem.run_bind,Result.andThen_ok,Sem.run_pure]
   simp [Addr.add]
  | lst _ _ b off cap cv hlen hrk hc' hr' =>
   obtain ⟨c1,c2,c3⟩:=bounds_all (P := P) (isSlice := true) b1 b2 hlen e1 e2
   have hlen2:((r.take hh').drop l).length=hh' - l:=by simp; omega
   have hget:∀ (i:Nat) (row:List AV),((r.take hh').drop l)[i]? = some row→r[l + i]? = some row:=fun i row hi=>by
    rw [List.getElem?_drop,List.getElem?_take] at hi
    split at hi
    ·exact hi
    ·cases hi
   have hbase:(if cap=l then (⟨b,off,none⟩:Addr) else (⟨b,off,none⟩:Addr).add (l * k))=⟨b,off + (if cap=l then 0 else l * k),none⟩:=by
    split
    ·simp
    ·rw [add_lit]
   have hrep:Rep Γ w (.lst k ((r.take hh').drop l)) (.slice (some ⟨b,off + (if cap=l then 0 else l * k),none⟩) (hh' - l) (cap - l)):=by
    rw [← hlen2]
    refine .lst k _ b _ (cap - l) (fun i j=>cv (l + i) j) (by rw [hlen2]; omega) (fun row hrow=>hrk row (List.mem_of_mem_take (List.mem_of_mem_drop hrow))) (fun i j row c hi hj=>?_) (fun i j row c hi hj=>hr' _ j row c (hget i row hi) hj)
    have:=hc' _ j row c (hget i row hi) hj
    have hlt:=Zc hi
    rw [hlen2] at hlt
    rw [if_neg (by omega)]
    rw [Nat.add_mul] at this
    rwa [show off + l * k + (i * k + j)=off + (l * k + i * k + j) by omega]
   refine .mk' (fun w' _=>hexec w' _ ?_) hrep (fun k r e=>by cases e)
   simp only [Instr.sliceAt,Instr.slice,Sem.run_bind,run_underlying hu,Result.andThen_ok,c1,sizeOf_run hinfo,hsz]
   simp only [Sem.run_pure]
   rw [← hbase]
   split <;> rfl
 ·rename_i k g off len k'
  split at h <;> first | (cases h; done) | skip
  rename_i hk
  subst hk
  split at h <;> first | (cases h; done) | skip
  rename_i hh' e1
  split at h <;> first | (cases h; done) | skip
  rename_i l e2
  obtain ⟨e,ti,hu,hsz,hpos,hinfo⟩:=cShape_slice hs
  generalize hq:a.eval x=q at k1 hexec
  cases k1 with
  | arr _ _ _ _ cap b hb hcap =>
   obtain ⟨c1,c2,c3⟩:=bounds_all (P := P) (isSlice := true) b1 b2 hcap e1 e2
   split at h
   ·rename_i hlh
    subst hlh
    obtain rfl:=Option.some.inj h
    refine .mk' (fun w' _=>hexec w' (.slice (some (if cap=l then ⟨b,off,none⟩ else ⟨b,off + l * k,none⟩)) 0 (cap - l)) ?_) ?_ (fun k r e=>by cases e)
    ·simp only [Instr.sliceAt,Instr.slice,Sem.run_bind,run_underlying hu,Result.andThen_ok,c1,sizeOf_run hinfo,hsz]
     simp only [Sem.run_pure,Nat.sub_self]
     split <;> simp [add_lit]
    ·split
     ·exact .lst k [] b off _ (fun _ _=>Go.undef) (Nat.zero_le _) (by simp) (fun i j r c h=>by simp at h) (fun i j r c h=>by simp at h)
     ·exact .lst k [] b _ _ (fun _ _=>Go.undef) (Nat.zero_le _) (by simp) (fun i j r c h=>by simp at h) (fun i j r c h=>by simp at h)
   ·rename_i hlh
    obtain rfl:=Option.some.inj h
    have hcl:¬ cap=l:=by omega
    refine .mk' (fun w' _=>hexec w' (.slice (some ⟨b,off + l * k,none⟩) (hh' - l) (cap - l)) ?_) (.arr g _ _ k _ b hb (by omega)) (fun k r e=>by cases e)
    simp only [Instr.sliceAt,Instr.slice,Sem.run_bind,run_underlying hu,Result.andThen_ok,c1,sizeOf_run hinfo,hsz]
    simp only [Sem.run_pure,if_neg hcl,Option.map_some,add_lit]
 ·rename_i n k g off
  split at h <;> first | (cases h; done) | skip
  rename_i hh' e1
  split at h <;> first | (cases h; done) | skip
  rename_i l e2
  obtain ⟨e,ti,hu,hsz,hpos,hn,hinfo⟩:=cShape_arr hs
  generalize hq:a.eval x=q at k1 hexec
  cases k1 with
  | ptr _ _ b hb =>
   obtain ⟨c1,c2,c3⟩:=bounds_all (P := P) (isSlice := false) b1 b2 (Nat.le_refl _) e1 e2
   split at h
   ·rename_i hlh
    subst hlh
    obtain rfl:=Option.some.inj h
    refine .mk' (fun w' _=>hexec w' (.slice (some (if n=l then ⟨b,off,none⟩ else ⟨b,off + l * k,none⟩)) 0 (n - l)) ?_) ?_ (fun k r e=>by cases e)
    ·simp only [Instr.sliceAt,Sem.run_bind,run_underlying hu,Result.andThen_ok,Instr.sureAddr,Sem.run_pure,c1,sizeOf_run hinfo,hsz,Nat.sub_self]
     split <;> simp [add_lit]
    ·split
     ·exact .lst k [] b off _ (fun _ _=>Go.undef) (Nat.zero_le _) (by simp) (fun i j r c h=>by simp at h) (fun i j r c h=>by simp at h)
     ·exact .lst k [] b _ _ (fun _ _=>Go.undef) (Nat.zero_le _) (by simp) (fun i j r c h=>by simp at h) (fun i j r c h=>by simp at h)
   ·rename_i hlh
    obtain rfl:=Option.some.inj h
    have hcl:¬ n=l:=by omega
    refine .mk' (fun w' _=>hexec w' (.slice (some ⟨b,off + l * k,none⟩) (hh' - l) (n - l)) ?_) (.arr g _ _ k _ b hb (by omega)) (fun k r e=>by cases e)
    simp only [Instr.sliceAt,Sem.run_bind,run_underlying hu,Result.andThen_ok,Instr.sureAddr,Sem.run_pure,c1,sizeOf_run hinfo,hsz,if_neg hcl,add_lit]
theorem bounds3 {isSlice:Bool}{len cap:Nat}{kh km:IntKind}{h m:Int}(h0:0≤h)(hm:h≤m)(hc:m≤cap)(w':World) :
  (Instr.sliceBounds isSlice len cap none (some (.int kh h)) (some (.int km m))).run P w'=.ok (0,h.toNat,m.toNat) w':=by
 have e1:∀ (y:Nat) (c:BoundsCode) (k:IntKind) (i:Int),0≤i→i≤y→(Instr.sliceBound (.int k i) y c).run P w'=.ok i.toNat w':=fun y c k i a b=>by
  simp only [Instr.sliceBound,asIntOf,Sem.run_bind,Sem.run_pure,Result.andThen_ok]
  rw [if_pos ⟨a,b⟩]
  rfl
 unfold Instr.sliceBounds
 simp only [Sem.run_bind]
 rw [e1 cap _ km m (by omega) hc]
 simp only [Result.andThen_ok]
 rw [e1 m.toNat _ kh h h0 (by omega)]
 rfl
theorem ok_slice3 (hG:GOk G E.W0)(hI:Inv E s Γ a w){t:TypeId}{sh:Shape}{x hi mx:Operand}{x' hi' mx':Opnd}{u v vh vm:AV}(ho:o.op=.slice t x none (some hi) (some mx))(hs:cShape P t=some sh)
  (hc:cOpnd P t x=some x') (hch:cOpnd P 0 hi=some hi') (hcm:cOpnd P 0 mx=some mx') (hx:opnd G s.sl x'=some u) (hh:opnd G s.sl hi'=some vh) (hm:opnd G s.sl mx'=some vm) (h:slice3Val sh u vh vm=some v):OpCalm P Γ w v a o:=by
 have k1:=(cOpnd_rep hG hI hc hx).1
 have k2:=(cOpnd_rep hG hI hch hh).1
 have k3:=(cOpnd_rep hG hI hcm hm).1
 have hexec:∀ w' r,(Instr.sliceAt t (a.eval x) none (some (a.eval hi)) (some (a.eval mx))).run P w'=.ok r w'→(execOp a.eval o).run P w'=.ok (.value r) w':=fun w' r hr=>by
  simp only [execOp,ho]
  simp only [Option.map_none,Option.map_some,Sem.run_bind,hr,Result.andThen_ok]
  rfl
 unfold slice3Val at h
 split at h <;> first | (cases h; done) | skip
 ·rename_i k k' r kh ih km im
  split at h <;> first | (cases h; done) | skip
  rename_i hq
  obtain ⟨rfl,q1,q2,q3⟩:=hq
  obtain rfl:=Option.some.inj h
  obtain ⟨e,ti,hu,hsz,hpos,hinfo⟩:=cShape_slice hs
  generalize a.eval hi=vhi at k2 hexec
  cases k2
  generalize a.eval mx=vmi at k3 hexec
  cases k3
  generalize hq:a.eval x=q at k1 hexec
  cases k1 with
  | lstNil =>
   obtain rfl:ih=0:=by simp at q3; omega
   refine .mk' (fun w' _=>hexec w' (.slice none 0 0) ?_) (by simpa using Rep.lstNil k) (fun k r e=>by cases e)
   simp only [Instr.sliceAt,Instr.slice,Sem.run_bind,run_underlying hu,Result.andThen_ok]
   rw [bounds3 q1 q2 (by simpa using q3)]
   obtain rfl:im=0:=by simp at q3; omega
   simp [sizeOf_run hinfo]
  | lstE _ A cap =>
   obtain rfl:ih=0:=by simp at q3; omega
   obtain rfl:im=0:=by simp at q3; omega
   refine .mk' (fun w' _=>hexec w' (.slice (some A) 0 0) ?_) (by simpa using Rep.lstE k A 0) (fun k r e=>by cases e)
   simp only [Instr.sliceAt,Instr.slice,Sem.run_bind,run_underlying hu,Result.andThen_ok]
   rw [bounds3 (by omega) (by omega) (by omega)]
   simp [sizeOf_run hinfo]
  | lst _ _ b off cap cv hlen hrk hc' hr' =>
   have hlen2:(r.take ih.toNat).length=ih.toNat:=by simp; omega
   have hget:∀ (i:Nat) (row:List AV),(r.take ih.toNat)[i]? = some row→r[i]? = some row:=fun i row hi=>by
    rw [List.getElem?_take] at hi
    split at hi
    ·exact hi
    ·cases hi
   have hrep:Rep Γ w (.lst k (r.take ih.toNat)) (.slice (some ⟨b,off,none⟩) ih.toNat im.toNat):=by
    have:=Rep.lst (Γ := Γ) (w := w) k (r.take ih.toNat) b off im.toNat cv (by rw [hlen2]; omega) (fun row hrow=>hrk row (List.mem_of_mem_take hrow)) (fun i j row c hi hj=>hc' i j row c (hget i row hi) hj) (fun i j row c hi hj=>hr' i j row c (hget i row hi) hj)
    rwa [hlen2] at this
   refine .mk' (fun w' _=>hexec w' _ ?_) hrep (fun k r e=>by cases e)
   simp only [Instr.sliceAt,Instr.slice,Sem.run_bind,run_underlying hu,Result.andThen_ok]
   rw [bounds3 q1 q2 (by omega)]
   simp [sizeOf_run hinfo,Addr.add]
 ·rename_i k g off len k' kh ih km im
  split at h <;> first | (cases h; done) | skip
  rename_i hq
  obtain ⟨rfl,q1,q2,q3⟩:=hq
  obtain ⟨e,ti,hu,hsz,hpos,hinfo⟩:=cShape_slice hs
  generalize a.eval hi=vhi at k2 hexec
  cases k2
  generalize a.eval mx=vmi at k3 hexec
  cases k3
  generalize hq:a.eval x=q at k1 hexec
  cases k1 with
  | arr _ _ _ _ cap b hb hcap =>
   obtain rfl:=Option.some.inj h
   refine .mk' (fun w' _=>hexec w' (.slice (some ⟨b,off,none⟩) ih.toNat im.toNat) ?_) ?_ (fun k r e=>by split at e <;> cases e)
   ·simp only [Instr.sliceAt,Instr.slice,Sem.run_bind,run_underlying hu,Result.andThen_ok]
    rw [bounds3 q1 q2 (by omega)]
    simp [sizeOf_run hinfo,Addr.add]
   ·split
    ·rename_i h0
     subst h0
     exact .lst k [] b off _ (fun _ _=>Go.undef) (Nat.zero_le _) (by simp) (fun i j r c h=>by simp at h) (fun i j r c h=>by simp at h)
    ·exact .arr g _ _ k _ b hb (by omega)
 ·rename_i n k g off kh ih km im
  split at h <;> first | (cases h; done) | skip
  rename_i hq
  obtain ⟨q1,q2,q3⟩:=hq
  obtain ⟨e,ti,hu,hsz,hpos,hn,hinfo⟩:=cShape_arr hs
  generalize a.eval hi=vhi at k2 hexec
  cases k2
  generalize a.eval mx=vmi at k3 hexec
  cases k3
  generalize hq:a.eval x=q at k1 hexec
  cases k1 with
  | ptr _ _ b hb =>
   obtain rfl:=Option.some.inj h
   refine .mk' (fun w' _=>hexec w' (.slice (some ⟨b,off,none⟩) ih.toNat im.toNat) ?_) ?_ (fun k r e=>by split at e <;> cases e)
   ·simp only [Instr.sliceAt,Sem.run_bind,run_underlying hu,Result.andThen_ok,Instr.sureAddr,Sem.run_pure]
    rw [bounds3 q1 q2 (by omega)]
    simp [sizeOf_run hinfo,Addr.add]
   ·split
    ·rename_i h0
     subst h0
     exact .lst k [] b off _ (fun _ _=>Go.undef) (Nat.zero_le _) (by simp) (fun i j r c h=>by simp at h) (fun i j r c h=>by simp at h)
    ·exact .arr g _ _ k _ b hb (by omega)
end
end Go.Proofs.YtcfjcimhjmpkiaaGreatDoor.Abs
end
section
namespace Go.Proofs.YtcfjcimhjmpkiaaGreatDoor.Abs
open Go Go.RowKit
theorem setAll (off:Nat):∀ (l:List Value) (k:Nat) (C:Array Value),off + k + l.length≤C.size →
  ((l.zipIdx k).foldl (fun cs p=>cs.setIfInBounds (off + p.2) p.1) C).size=C.size ∧
  ∀ q,((l.zipIdx k).foldl (fun cs p=>cs.setIfInBounds (off + p.2) p.1) C)[q]? = if off + k≤q∧q < off + k + l.length then l[q - (off + k)]? else C[q]?
 | [],k,C,_=>⟨rfl,fun q=>by rw [if_neg (by simp only [List.length_nil]; omega)]; rfl⟩
 | v :: l,k,C,h=>by
  simp only [List.length_cons] at h
  obtain ⟨a1,a2⟩:=setAll off l (k + 1) (C.setIfInBounds (off + k) v) (by simp; omega)
  simp only [List.zipIdx_cons,List.foldl_cons]
  refine ⟨by rw [a1]; simp,fun q=>?_⟩
  rw [a2 q]
  by_cases h1:off + (k + 1)≤q∧q < off + (k + 1) + l.length
  ·rw [if_pos h1,if_pos (by simp only [List.length_cons]; omega)]
   rw [show q - (off + k)=q - (off + (k + 1)) + 1 by omega,List.getElem?_cons_succ]
  ·rw [if_neg h1,Array.getElem?_setIfInBounds]
   by_cases h2:off + k=q
   ·subst h2
    rw [if_pos rfl,if_pos (by omega),if_pos (by simp)]
    simp
   ·rw [if_neg h2,if_neg (by simp only [List.length_cons]; omega)]
inductive All2 {α β:Type}(R:α→β→Prop):List α→List β→Prop
 | nil:All2 R [] []
 | cons {x:α} {y:β} {l:List α} {m:List β} (h:R x y) (t:All2 R l m):All2 R (x :: l) (y :: m)
theorem All2.of_get {α β:Type}{R:α→β→Prop}:∀ {l:List α} {m:List β},l.length=m.length→(∀ (j:Nat) x y,l[j]? = some x→m[j]? = some y→R x y)→All2 R l m
 | [],[],_,_=>.nil
 | [],_ :: _,h,_=>by simp at h
 | _ :: _,[],h,_=>by simp at h
 | x :: l,y :: m,h,hr=>.cons (hr 0 x y rfl rfl) (All2.of_get (by simpa using h) fun j a b ha hb=>hr (j + 1) a b (by simpa using ha) (by simpa using hb))
def CellsRel (R:AV→Value→Prop)(cs:List AV)(C:Array Value):Prop:=C.size=cs.length∧∀ (i:Nat) (c:AV),cs[i]? = some c→R c (C.getD i Go.undef)
theorem fill_rel {R:AV→Value→Prop}(place:Nat→Option (Nat×Nat)):∀ (ps:List (Nat×Value)) (qs:List (Nat×Nat×AV)) (cs cs':List AV) (C:Array Value),
  All2 (fun p q=>place p.1=some (q.1,q.2.1)∧CellsRel R q.2.2.cells p.2.cells) ps qs→CellsRel R cs C→fill cs qs=some cs'→∃ C',Instr.fill place C ps=some C'∧CellsRel R cs' C'
 | _,_,cs,cs',C,.nil,hr,h=>⟨C,rfl,by rw [← Option.some.inj h]; exact hr⟩
 | _,_,cs,cs',C,.cons (x := p) (y := q) (l := ps) (m := qs) hp hps,hr,h=>by
  obtain ⟨i,u⟩:=p
  obtain ⟨off,n,v⟩:=q
  obtain ⟨h1,h2,h3⟩:=hp
  simp only at h1 h2 h3
  simp only [fill] at h
  split at h
  ·rename_i hc
   obtain ⟨c1,c2,c3⟩:=hc
   have hfit:off + 0 + u.cells.toList.length≤C.size:=by rw [hr.1,Array.length_toList,h2,c1]; omega
   obtain ⟨a1,a2⟩:=setAll off u.cells.toList 0 C hfit
   have hfold:u.cells.zipIdx.foldl (fun cs (c,j)=>cs.setIfInBounds (off + j) c) C=((u.cells.toList.zipIdx 0).foldl (fun cs p=>cs.setIfInBounds (off + p.2) p.1) C):=by
    rw [← Array.foldl_toList,Array.toList_zipIdx]
   have hrel:CellsRel R (splice cs off v.cells) ((u.cells.toList.zipIdx 0).foldl (fun cs p=>cs.setIfInBounds (off + p.2) p.1) C):=by
    refine ⟨by rw [a1,hr.1,splice_len (by omega)],fun j c hc=>?_⟩
    rw [splice_get (by omega)] at hc
    rw [Array.getD_eq_getD_getElem?,a2 j]
    simp only [Nat.add_zero,Array.length_toList,h2]
    split at hc
    ·rename_i hj
     rw [if_neg (by omega)]
     have:=hr.2 j c hc
     rwa [Array.getD_eq_getD_getElem?] at this
    ·split at hc
     ·rename_i hj1 hj2
      rw [if_pos (by omega),Array.getElem?_toList]
      have:=h3 (j - off) c hc
      rwa [Array.getD_eq_getD_getElem?] at this
     ·rename_i hj1 hj2
      rw [if_neg (by omega)]
      have:=hr.2 j c hc
      rwa [Array.getD_eq_getD_getElem?] at this
   obtain ⟨C',e1,e2⟩:=fill_rel place ps qs (splice cs off v.cells) cs' ((u.cells.toList.zipIdx 0).foldl (fun cs p=>cs.setIfInBounds (off + p.2) p.1) C) hps hrel h
   refine ⟨C',?_,e2⟩
   simp only [Instr.fill,h1]
   rw [if_neg (by rw [h2,c1,hr.1]; simp; omega),hfold]
   exact e1
  ·cases h
section
variable {P:Program}
theorem mapM_run (f:Field→Nat×Nat)(g:Field→Sem (Nat×Nat))(w:World):∀ (fs:List Field),(∀ x ∈ fs,(g x).run P w=.ok (f x) w)→(fs.mapM g).run P w=.ok (fs.map f) w
 | [],_=>rfl
 | x :: fs,h=>by
  rw [List.mapM_cons]
  simp only [Sem.run_bind,h x (by simp),Result.andThen_ok,mapM_run f g w fs (fun y hy=>h y (by simp [hy]))]
  rfl
theorem places_run {fs:Array Field}(h:∀ f ∈ fs.toList,(P.info? f.type).isSome=true)(w:World) :
  (fs.mapM (fun f=>do pure (f.offset,← sizeOf f.type):Field→Sem (Nat×Nat))).run P w=.ok (fs.map fun f=>(f.offset,P.cellsOf f.type)) w:=by
 rw [Array.mapM_eq_mapM_toList]
 have key:∀ x:Sem (List (Nat×Nat)),(List.toArray <$> x).run P w=(x.run P w).andThen fun l w=>.ok l.toArray w:=fun x=>by
  show ((x >>= fun l=>pure l.toArray):Sem (Array (Nat×Nat))).run P w=_
  rw [Sem.run_bind]; rfl
 have:=mapM_run (P := P) (fun f=>(f.offset,P.cellsOf f.type)) (fun f=>do pure (f.offset,← sizeOf f.type)) w fs.toList (fun x hx=>by
  obtain ⟨i,hi⟩:=Option.isSome_iff_exists.1 (h x hx)
  simp [sizeOf_run hi])
 rw [key,this,Result.andThen_ok]
 congr 1
 apply Array.ext'
 simp
end
section
variable {P:Program}{G:Nat→Option (List AV)}{E:Entry}{s:AState}{Γ:Ghost}{a:Act}{w:World}{o:Oper}
def CellOk (Γ:Ghost)(w:World)(c:AV)(u:Value):Prop:=c.one=true∧Rep Γ w c u∧∀ k r,c=.own k r→r=[]∧u=.slice none 0 0
theorem nm_cells {v:AV}{u:Value}(hr:Rep Γ w v u)(hl:v.laid=true):CellsRel (CellOk Γ w) v.nm.cells u.cells:=by
 have hl':v.nm.laid=true:=by cases v <;> first | rfl | cases hl
 exact (hr.nm).cellsRep hl' fun k r e=>by cases v <;> cases e
theorem cParts_rel (hG:GOk G E.W0)(hI:Inv E s Γ a w){t:TypeId}(place:Nat→Option (Nat×Nat))(hplace:∀ i off n ft,cPlace P t i=some (off,n,ft)→place i=some (off,n)) :
  ∀ {parts:List (Nat×Operand)} {ps:List (Nat×Nat×Opnd)} {vs:List AV},cParts P t parts=some ps→opnds G s.sl (ps.map (·.2.2))=some vs→(∀ v ∈ vs,v.laid=true) →
  All2 (fun (p:Nat×Value) (q:Nat×Nat×AV)=>place p.1=some (q.1,q.2.1)∧CellsRel (CellOk Γ w) q.2.2.cells p.2.cells) (parts.map fun p=>(p.1,a.eval p.2)) ((ps.zip vs).map fun (p,v)=>(p.1,p.2.1,v.nm))
 | [],ps,vs,hc,h,_=>by
  obtain rfl:=Option.some.inj hc
  obtain rfl:=Option.some.inj h
  exact .nil
 | (i,x) :: l,ps,vs,hc,h,hl=>by
  simp only [cParts] at hc
  split at hc
  ·rename_i off n ft hp
   split at hc
   ·rename_i y r h1 h2
    obtain rfl:=Option.some.inj hc
    simp only [List.map_cons,opnds] at h
    split at h
    ·rename_i v hv
     obtain ⟨vs',hvs,rfl⟩:=Option.map_eq_some_iff.1 h
     exact .cons ⟨hplace i off n ft hp,nm_cells (cOpnd_rep hG hI h1 hv).1 (hl v (by simp))⟩ (cParts_rel hG hI place hplace h2 hvs fun u hu=>hl u (by simp [hu]))
    ·cases h
   ·cases hc
  ·cases hc
theorem fill_laid:∀ (qs:List (Nat×Nat×AV)) (cs cs':List AV),fill cs qs=some cs'→∀ q ∈ qs,q.2.2.laid=true
 | [],_,_,_=>by simp
 | (off,n,v) :: l,cs,cs',h=>by
  simp only [fill] at h
  split at h
  ·rename_i hc
   intro q hq
   rcases List.mem_cons.1 hq with rfl | hq
   ·exact hc.2.2
   ·exact fill_laid l _ _ h q hq
  ·cases h
theorem zip_laid {ps:List (Nat×Nat×Opnd)}{vs:List AV}(hlen:vs.length=ps.length){cs cs':List AV}(h:fill cs ((ps.zip vs).map fun (p,v)=>(p.1,p.2.1,v.nm))=some cs'):∀ v ∈ vs,v.laid=true:=by
 intro v hv
 obtain ⟨j,hj⟩:=List.mem_iff_getElem?.1 hv
 have hjl:=Zc hj
 have hp:ps[j]? = some ps[j]:=List.getElem?_eq_getElem (by omega)
 have:=fill_laid _ _ _ h (ps[j].1,ps[j].2.1,v.nm) (by
  rw [List.mem_map]
  refine ⟨(ps[j],v),?_,rfl⟩
  rw [List.mem_iff_getElem?]
  exact ⟨j,by rw [List.getElem?_zip_eq_some]; exact ⟨hp,hj⟩⟩)
 simp only at this
 cases v <;> first | rfl | cases this
theorem opnds_length {G:Nat→Option (List AV)}{sl:List AV}:∀ {ys:List Opnd} {vs:List AV},opnds G sl ys=some vs→vs.length=ys.length
 | [],vs,h=>by obtain rfl:=Option.some.inj h; rfl
 | y :: ys,vs,h=>by
  simp only [opnds] at h
  split at h
  ·obtain ⟨vs',h',rfl⟩:=Option.map_eq_some_iff.1 h
   simp [opnds_length h']
  ·cases h
theorem ok_build (hG:GOk G E.W0)(hI:Inv E s Γ a w){t:TypeId}{parts:Array (Nat×Operand)}{z cs:List AV}{ps:List (Nat×Nat×Opnd)}{vs:List AV}(ho:o.op=.build t parts)(hs:structOk P t=true)(hz:zeroMk P t=some (.agg z))(hp:cParts P t parts.toList=some ps)
  (hv:opnds G s.sl (ps.map (·.2.2))=some vs) (h:fill z ((ps.zip vs).map fun (p,v)=>(p.1,p.2.1,v.nm))=some cs):OpOk P E s (.agg cs) a w o:=by
 obtain ⟨i,zv,hi,hzv,hrep⟩:=zeroMk_spec hz
 obtain ⟨k1,k2⟩:=hrep Γ w
 have hcz:CellsRel (CellOk Γ w) z zv.cells:=k1.cellsRep rfl k2
 have hlaid:=zip_laid (by rw [opnds_length hv]; simp) h
 have fin:∀ place,(∀ i off n ft,cPlace P t i=some (off,n,ft)→place i=some (off,n))→∃ C',Instr.fill place zv.cells (parts.toList.map fun p=>(p.1,a.eval p.2))=some C'∧Rep Γ w (.agg cs) (.agg C'):=fun place hplace=>by
  obtain ⟨C',e1,e2⟩:=fill_rel place _ _ z cs zv.cells (cParts_rel hG hI place hplace hp hv hlaid) hcz h
  exact ⟨C',e1,.agg cs C' e2.1 (fun j c hc=>(e2.2 j c hc).1) (fun j k r hc=>(e2.2 j _ hc).2.2 k r rfl) (fun j c hc=>(e2.2 j c hc).2.1)⟩
 have hparts:(parts.map fun (i,x)=>(i,a.eval x)).toList=parts.toList.map fun p=>(p.1,a.eval p.2):=by simp
 unfold structOk at hs
 split at hs <;> first | (cases hs; done) | skip
 ·rename_i fs hfs
  obtain ⟨C',e1,e2⟩:=fin (fun i=>(fs.map fun f=>(f.offset,P.cellsOf f.type))[i]?) (fun i off n ft hpl=>by
   unfold cPlace at hpl
   rw [hfs] at hpl
   simp only at hpl
   split at hpl
   ·rename_i x hx
    cases hpl
    rw [Array.getElem?_map,hx]; rfl
   ·cases hpl)
  refine .pure (cv := .agg C') hI ?_ e2 (fun k r e=>by cases e)
  simp only [execOp,ho]
  simp only [Instr.build,Sem.run_bind,zeroValue,typeInfo,run_program,Result.andThen_ok,hi,hzv,Sem.run_pure,run_underlying hfs,places_run (fun f hf=>List.all_eq_true.1 hs f hf),hparts,e1]
 ·rename_i n e hfs
  obtain ⟨ie,hie⟩:=Option.isSome_iff_exists.1 hs
  obtain ⟨C',e1,e2⟩:=fin (fun i=>some (i * P.cellsOf e,P.cellsOf e)) (fun i off n ft hpl=>by
   unfold cPlace at hpl
   rw [hfs] at hpl
   cases hpl; rfl)
  refine .pure (cv := .agg C') hI ?_ e2 (fun k r e=>by cases e)
  simp only [execOp,ho]
  simp only [Instr.build,Sem.run_bind,zeroValue,typeInfo,run_program,Result.andThen_ok,hi,hzv,Sem.run_pure,run_underlying hfs,sizeOf_run hie,hparts,e1]
theorem fill_lit (k:Nat):∀ (vs:List AV) (st:Nat) (cs:List AV),cs.length=(st + vs.length) * k→(∀ v ∈ vs,v.cells.length=k∧v.laid=true) →
  fill cs ((vs.zipIdx st).map fun p=>(p.2 * k,k,p.1))=some (cs.take (st * k) ++ (vs.map AV.cells).flatten)
 | [],st,cs,hl,_=>by
  simp only [List.zipIdx_nil,List.map_nil,fill,List.flatten_nil,List.append_nil,List.length_nil,Nat.add_zero] at hl ⊢
  rw [List.take_of_length_le (by omega)]
 | v :: vs,st,cs,hl,hv=>by
  obtain ⟨h1,h2⟩:=hv v (by simp)
  simp only [List.length_cons] at hl
  have hle:st * k + k≤cs.length:=by
   rw [hl,← Nat.succ_mul]
   exact Nat.mul_le_mul_right k (by omega)
  simp only [List.zipIdx_cons,List.map_cons,fill]
  rw [if_pos ⟨h1,hle,h2⟩,fill_lit k vs (st + 1) (splice cs (st * k) v.cells) (by rw [splice_len (by rw [h1]; exact hle),hl]; congr 1; omega) (fun u hu=>hv u (by simp [hu]))]
  congr 1
  have hsl:((splice cs (st * k) v.cells).take ((st + 1) * k))=cs.take (st * k) ++ v.cells:=by
   unfold splice
   rw [Nat.add_mul,Nat.one_mul]
   have e1:(cs.take (st * k) ++ v.cells).length=st * k + k:=by simp [h1]; omega
   rw [List.take_append_of_le_length (by rw [e1]; exact Nat.le_refl _),List.take_of_length_le (by rw [e1]; exact Nat.le_refl _)]
  rw [hsl]
  simp
theorem flatten_get (k:Nat):∀ (rows:List (List AV)) (i j:Nat) (r:List AV) (c:AV),(∀ r ∈ rows,r.length=k)→rows[i]? = some r→r[j]? = some c→rows.flatten[i * k + j]? = some c
 | [],i,j,r,c,_,h,_=>by simp at h
 | x :: rows,0,j,r,c,hk,h,hj=>by
  obtain rfl:=Option.some.inj (by simpa using h:some x=some r)
  rw [List.flatten_cons,Nat.zero_mul,Nat.zero_add,List.getElem?_append_left (Zc hj)]
  exact hj
 | x :: rows,i + 1,j,r,c,hk,h,hj=>by
  rw [List.flatten_cons,List.getElem?_append_right (by rw [hk x (by simp),Nat.add_mul]; omega),hk x (by simp)]
  rw [show (i + 1) * k + j - k=i * k + j by rw [Nat.add_mul]; omega]
  exact flatten_get k rows i j r c (fun r hr=>hk r (by simp [hr])) (by simpa using h) hj
theorem lit_run (hG:GOk G E.W0)(hI:Inv E s Γ a w){t e:TypeId}{len:Nat}{parts:Array (Nat×Operand)}{ps:List Opnd}{vs:List AV}(ho:o.op=.buildSlice t len parts)(ht:P.underlying t=some (.slice e))(hidx:parts.toList.map (·.1)=List.range len)
  (hsz:len * P.cellsOf e≤16777216) (hz:(zeroOf P e).isSome=true) (hp:cOpnds P (parts.toList.map fun _=>e) (parts.toList.map (·.2))=some ps) (hv:opnds G s.sl ps=some vs)
  (hvs:∀ v ∈ vs,v.cells.length=P.cellsOf e∧v.laid=true) :
  ∃ C':Array Value,(execOp a.eval o).run P w=.ok (.value (.slice (some ⟨w.heap.size,0,none⟩) len len)) (w.alloc (.cells C' e))∧vs.length=len∧C'.size=len * P.cellsOf e∧(vs.map AV.cells).flatten.length=len * P.cellsOf e ∧
   (∀ (p:Nat) (c:AV),(vs.map AV.cells).flatten[p]? = some c→c.one=true∧Rep Γ w c (C'.getD p Go.undef)∧∀ k r,c=.own k r→r=[]∧C'.getD p Go.undef=.slice none 0 0):=by
 obtain ⟨z,hz⟩:=Option.isSome_iff_exists.1 hz
 obtain ⟨i,zv,hi,hzv,_⟩:=zeroOf_spec hz
 obtain ⟨c1,c2⟩:=cOpnds_rep hG hI hp hv
 have hlen:vs.length=len:=by
  rw [← c1,List.length_map,← List.length_map (f := (·.1)) (as := parts.toList),hidx,List.length_range]
 have hrel:All2 (fun (p:Nat×Value) (q:Nat×Nat×AV)=>(fun i=>some (i * P.cellsOf e,P.cellsOf e)) p.1=some (q.1,q.2.1)∧CellsRel (fun c u=>c=.undef∨CellOk Γ w c u) q.2.2.cells p.2.cells)
   (parts.toList.map fun p=>(p.1,a.eval p.2)) ((vs.zipIdx 0).map fun p=>(p.2 * P.cellsOf e,P.cellsOf e,p.1)):=by
  refine All2.of_get (by simp [← c1]) (fun j p q hp' hq'=>?_)
  rw [List.getElem?_map] at hp' hq'
  obtain ⟨pp,hpp,rfl⟩:=Option.map_eq_some_iff.1 hp'
  obtain ⟨qq,hqq,rfl⟩:=Option.map_eq_some_iff.1 hq'
  rw [List.getElem?_zipIdx] at hqq
  obtain ⟨v,hv',rfl⟩:=Option.map_eq_some_iff.1 hqq
  have hj1:(parts.toList.map (·.1))[j]? = some pp.1:=by rw [List.getElem?_map,hpp]; rfl
  have hjl:j < len:=by have:=Zc hv'; omega
  rw [hidx,List.getElem?_range hjl] at hj1
  obtain ⟨x,hx,hr,hn⟩:=c2 j v hv'
  rw [List.getElem?_map,hpp] at hx
  have hx':pp.2=x:=Option.some.inj hx
  have hcr:=hr.cellsRep (hvs v (List.mem_of_getElem? hv')).2 hn
  simp only [Nat.zero_add,hx']
  refine ⟨by rw [← Option.some.inj hj1],hcr.1,fun i c hc=>.inr (hcr.2 i c hc)⟩
 have hone:∀ c ∈ (vs.map AV.cells).flatten,c.one=true:=fun c hc=>by
  obtain ⟨l,hl,hcl⟩:=List.mem_flatten.1 hc
  obtain ⟨v,hv,rfl⟩:=List.mem_map.1 hl
  obtain ⟨j,hj⟩:=List.mem_iff_getElem?.1 hv
  obtain ⟨x,hx,hr,hn⟩:=c2 j v hj
  obtain ⟨q,hq⟩:=List.mem_iff_getElem?.1 hcl
  exact ((hr.cellsRep (hvs v hv).2 hn).2 q c hq).1
 have hfill:=fill_lit (P.cellsOf e) vs 0 (List.replicate (len * P.cellsOf e) .undef) (by simp [hlen]) hvs
 obtain ⟨C',e1,e2⟩:=fill_rel (R := fun c u=>c=.undef∨CellOk Γ w c u) (fun i=>some (i * P.cellsOf e,P.cellsOf e)) _ _ (List.replicate (len * P.cellsOf e) .undef) _
  ((Array.range (len * P.cellsOf e)).map ((if len * P.cellsOf e=0 then #[] else zv.cells)[· % (if len * P.cellsOf e=0 then #[] else zv.cells).size]!)) hrel ⟨by simp,fun i c hc=>by
   rw [List.getElem?_replicate] at hc
   split at hc
   ·exact .inl (Option.some.inj hc).symm
   ·cases hc⟩ hfill
 simp only [Nat.zero_mul,List.take_zero,List.nil_append] at e2
 have hrl:∀ r ∈ vs.map AV.cells,r.length=P.cellsOf e:=fun r hr=>by
  obtain ⟨v,hv,rfl⟩:=List.mem_map.1 hr
  exact (hvs v hv).1
 have hflen:(vs.map AV.cells).flatten.length=len * P.cellsOf e:=by
  rw [List.length_flatten]
  have:((vs.map AV.cells).map List.length)=List.replicate vs.length (P.cellsOf e):=by
   rw [List.eq_replicate_iff]
   refine ⟨by simp,fun n hn=>?_⟩
   obtain ⟨r,hr,rfl⟩:=List.mem_map.1 hn
   exact hrl r hr
  rw [this,hlen]
  simp
 refine ⟨C',?_,hlen,by rw [e2.1,hflen],hflen,fun p c hc=>?_⟩
 ·have hparts:(parts.map fun (i,x)=>(i,a.eval x)).toList=parts.toList.map fun p=>(p.1,a.eval p.2):=by simp
  simp only [execOp,ho]
  by_cases h0:len * P.cellsOf e=0
  ·simp only [h0,if_true] at e1
   simp only [Instr.buildSlice,Sem.run_bind,run_underlying ht,Result.andThen_ok,sizeOf_run hi,h0,hparts]
   simp only [show ¬ (0:Nat) > 2 ^ 24 by omega,if_false,if_true,Sem.run_pure,Sem.run_bind,Result.andThen_ok,e1,newRow,run_newObj]
   rfl
  ·simp only [h0,if_false] at e1
   simp only [Instr.buildSlice,Sem.run_bind,run_underlying ht,Result.andThen_ok,sizeOf_run hi,hparts,if_neg h0]
   rw [if_neg (by omega)]
   simp only [Sem.run_pure,Sem.run_bind,Result.andThen_ok,zeroValue,typeInfo,run_program,hi,hzv,e1,newRow,run_newObj]
   rfl
 ·rcases e2.2 p c hc with h | h
  ·have:=hone c (List.mem_of_getElem? hc)
   rw [h] at this; cases this
  ·exact h
theorem ok_lit (hG:GOk G E.W0)(hI:Inv E s Γ a w){t e:TypeId}{len:Nat}{parts:Array (Nat×Operand)}{ps:List Opnd}{vs:List AV}(ho:o.op=.buildSlice t len parts)(ht:P.underlying t=some (.slice e))(hidx:parts.toList.map (·.1)=List.range len)
  (hsz:len * P.cellsOf e≤16777216) (hpos:0 < P.cellsOf e) (hz:(zeroOf P e).isSome=true) (hp:cOpnds P (parts.toList.map fun _=>e) (parts.toList.map (·.2))=some ps) (hv:opnds G s.sl ps=some vs)
  (hall:vs.all (fun v=>v.cells.length == P.cellsOf e && v.cells.all AV.noId1)=true):OpOk P E s (.own (P.cellsOf e) (vs.map fun v=>v.cells.map AV.ro)) a w o:=by
 have hvs:∀ v ∈ vs,v.cells.length=P.cellsOf e∧(∀ c ∈ v.cells,c.noId1=true):=fun v hv=>by
  have:=List.all_eq_true.1 hall v hv
  simp only [Bool.and_eq_true,beq_iff_eq,List.all_eq_true] at this
  exact this
 have hlaid:∀ v ∈ vs,v.laid=true:=fun v hv=>by
  have h2:=(hvs v hv).2
  cases v <;> first | rfl | (have := h2 _ (List.mem_singleton.2 rfl); cases this)
 obtain ⟨C',hrun,hlen,hsize,hflen,hcells⟩:=lit_run hG hI ho ht hidx hsz hz hp hv fun v hv=>⟨(hvs v hv).1,hlaid v hv⟩
 have hrl:∀ r ∈ vs.map AV.cells,r.length=P.cellsOf e:=fun r hr=>by
  obtain ⟨v,hv,rfl⟩:=List.mem_map.1 hr
  exact (hvs v hv).1
 have hlrows:(vs.map fun v=>v.cells.map AV.ro).length=len:=by simp [hlen]
 obtain ⟨Γ',i1,o1⟩:=own_new (rows := vs.map fun v=>v.cells.map AV.ro) (cap := len) (k := P.cellsOf e) (e := e) (cur := C') hI (by rw [hlrows]; exact Nat.le_refl _) (by
   have:len≤len * P.cellsOf e:=Nat.le_mul_of_pos_right _ hpos
   simp only [maxLen]; omega) hsize (fun r hr=>by
   obtain ⟨v,hv,rfl⟩:=List.mem_map.1 hr
   rw [List.length_map]; exact (hvs v hv).1) (fun p j r c hp hj=>by
   rw [List.getElem?_map] at hp
   obtain ⟨v,hv,rfl⟩:=Option.map_eq_some_iff.1 hp
   rw [List.getElem?_map] at hj
   obtain ⟨c0,hc0,rfl⟩:=Option.map_eq_some_iff.1 hj
   have hn:=(hvs v (List.mem_of_getElem? hv)).2 c0 (List.mem_of_getElem? hc0)
   rw [noId1_ro]
   refine ⟨hn,?_⟩
   have hf:=flatten_get (P.cellsOf e) (vs.map AV.cells) p j v.cells c0 hrl (by rw [List.getElem?_map,hv]; rfl) hc0
   exact (hcells _ c0 hf).2.1.ro)
 rw [hlrows] at o1
 exact ⟨Γ',_,_,.inl hrun,i1,o1.rep,o1⟩
theorem ok_lita (hG:GOk G E.W0)(hI:Inv E s Γ a w){t e:TypeId}{len:Nat}{parts:Array (Nat×Operand)}{ps:List Opnd}{vs:List AV}(ho:o.op=.buildSlice t len parts)(ht:P.underlying t=some (.slice e))(hidx:parts.toList.map (·.1)=List.range len)
  (hsz:len * P.cellsOf e≤16777216) (hz:(zeroOf P e).isSome=true) (hp:cOpnds P (parts.toList.map fun _=>e) (parts.toList.map (·.2))=some ps) (hv:opnds G s.sl ps=some vs)
  (hall:vs.all (fun v=>v.cells.length == P.cellsOf e && v.laid)=true):OpOk P E { s with hp:=s.hp ++ [.cells (vs.map AV.cells).flatten e] } (.arr s.hp.length 0 vs.length (P.cellsOf e)) a w o:=by
 obtain ⟨C',hrun,hlen,hsize,hflen,hcells⟩:=lit_run hG hI ho ht hidx hsz hz hp hv fun v hv=>by
  have:=List.all_eq_true.1 hall v hv
  simpa using this
 have st:=step_alloc hI.rw.fresh (.cells C' e) (.own s.hp.length)
 have i1:=hI.allocObj (.cells C' e) (.cells (vs.map AV.cells).flatten e) ⟨w.heap.size,C',setG_same _ _ _,heap_alloc_new w _,by rw [hsize,hflen],fun i c hc=>by
  obtain ⟨b1,b2,b3⟩:=hcells i c hc
  exact ⟨b1,b2.mono st.fix st.own,.nil b3⟩⟩
 exact ⟨_,_,_,.inl hrun,i1,by rw [hlen]; exact .arr _ 0 len _ len _ (setG_same _ _ _) (Nat.le_refl _),.of_ne (by simp)⟩
end
end Go.Proofs.YtcfjcimhjmpkiaaGreatDoor.Abs
end
section
namespace Go.Proofs.YtcfjcimhjmpkiaaGreatDoor.Abs
open Go Go.RowKit
section
variable {P:Program}{G:Nat→Option (List AV)}{E:Entry}{s:AState}{Γ:Ghost}{a:Act}{w:World}{o:Oper}
theorem ok_conv_int (hG:GOk G E.W0)(hI:Inv E s Γ a w){src dst:TypeId}{x:Operand}{x':Opnd}{k k':IntKind}{kd:IntKind}{n:Int}(ho:o.op=.convert src dst x)(hs:P.underlying src=some (.int k'))(hd:P.underlying dst=some (.int k))(hc:cOpnd P src x=some x')
  (hx:opnd G s.sl x'=some (.int kd n)):OpOk P E s (.int k (k.wrap n)) a w o:=by
 have k1:=(cOpnd_rep hG hI hc hx).1
 generalize hq:a.eval x=q at k1
 cases k1
 refine .pure (cv := .int k (k.wrap n)) hI ?_ (.int _ _) (fun k r e=>by cases e)
 simp only [execOp,ho,hq]
 simp [convert,run_underlying hs,run_underlying hd,Conv.intToInt]
theorem ok_conv_str (hG:GOk G E.W0)(hI:Inv E s Γ a w){src dst:TypeId}{x:Operand}{x':Opnd}{l:List UInt8}(ho:o.op=.convert src dst x)(hs:P.underlying src=some .string)(hd:P.underlying dst=some .string)(hc:cOpnd P src x=some x')
  (hx:opnd G s.sl x'=some (.str l)):OpOk P E s (.str l) a w o:=by
 have k1:=(cOpnd_rep hG hI hc hx).1
 generalize hq:a.eval x=q at k1
 cases k1
 refine .pure (cv := .string ⟨l.toArray⟩) hI ?_ (.str _) (fun k r e=>by cases e)
 simp only [execOp,ho,hq]
 simp [convert,run_underlying hs,run_underlying hd]
theorem byteRow_get (l:List UInt8)(i j:Nat)(r:List AV)(c:AV)(hi:(l.map byteRow)[i]? = some r)(hj:r[j]? = some c):j=0∧∃ b,l[i]? = some b∧c=.int .u8 b.toNat:=by
 rw [List.getElem?_map] at hi
 obtain ⟨b,hb,rfl⟩:=Option.map_eq_some_iff.1 hi
 cases j with
 | zero=>exact ⟨rfl,b,hb,(Option.some.inj (by simpa [byteRow] using hj)).symm⟩
 | succ j=>simp [byteRow] at hj
theorem ok_conv_bytes (hG:GOk G E.W0)(hI:Inv E s Γ a w){src dst e:TypeId}{x:Operand}{x':Opnd}{l:List UInt8}(ho:o.op=.convert src dst x)(hs:P.underlying src=some .string)(hd:P.underlying dst=some (.slice e))(he:P.underlying e=some (.int .u8))(hc:cOpnd P src x=some x')
  (hx:opnd G s.sl x'=some (.str l)):OpOk P E s (.lst 1 (l.map byteRow)) a w o:=by
 have k1:=(cOpnd_rep hG hI hc hx).1
 generalize hq:a.eval x=q at k1
 cases k1
 have hr:=run_bytes_of_string (P := P) w src dst e ⟨l.toArray⟩ hs hd he
 have hsz:(ByteArray.mk l.toArray).size=l.length:=bytes_size l
 have hcap:=grownCap_ge w l.length 0 e
 rw [hsz] at hr
 have i1:=hI.drew.allocPlain (.cells (bytesRow ⟨l.toArray⟩ (grownCap w l.length 0 e)) e ((bytesRow ⟨l.toArray⟩ (grownCap w l.length 0 e)).size,(bytesRow ⟨l.toArray⟩ (grownCap w l.length 0 e)).size + 1)) .imm (by simp)
 refine ⟨_,.slice (some ⟨w.heap.size,0,none⟩) l.length (grownCap w l.length 0 e),_,.inl ?_,i1,?_,.of_ne (by simp)⟩
 ·simp only [execOp,ho,hq]
  simp only [Sem.run_bind,hr,Result.andThen_ok]
  rfl
 ·have hl:(l.map byteRow).length=l.length:=by simp
  have:=Rep.lst (Γ := setG Γ w.drew.heap.size .imm) (w := w.drew.alloc (.cells (bytesRow ⟨l.toArray⟩ (grownCap w l.length 0 e)) e ((bytesRow ⟨l.toArray⟩ (grownCap w l.length 0 e)).size,(bytesRow ⟨l.toArray⟩ (grownCap w l.length 0 e)).size + 1)))
   1 (l.map byteRow) w.heap.size 0 (grownCap w l.length 0 e) (fun i _=>.int .u8 (l.getD i 0).toNat) (by rw [hl]; exact hcap) (fun r hr=>by
    obtain ⟨b,_,rfl⟩:=List.mem_map.1 hr; rfl) (fun i j r c hi hj=>?_) (fun i j r c hi hj=>?_)
  ·rw [hl] at this; exact this
  ·obtain ⟨rfl,b,hb,rfl⟩:=byteRow_get l i j r c hi hj
   have hlt:=Zc hb
   refine ⟨?_,?_,rfl⟩
   ·simp only [Nat.zero_add,Nat.mul_one,Nat.add_zero]
    have hh:(w.drew.alloc (.cells (bytesRow ⟨l.toArray⟩ (grownCap w l.length 0 e)) e ((bytesRow ⟨l.toArray⟩ (grownCap w l.length 0 e)).size,(bytesRow ⟨l.toArray⟩ (grownCap w l.length 0 e)).size + 1))).heap[w.heap.size]? = _:=heap_alloc_new w.drew _
    rw [cell_of_row _ w.heap.size i _ e _ hh]
    unfold bytesRow
    rw [Array.getElem?_append_left (by simpa using hlt)]
    simp [hb,List.getD]
   ·unfold Fixed
    rw [show setG Γ w.drew.heap.size .imm w.heap.size=.imm from setG_same _ _ _]
    trivial
  ·obtain ⟨rfl,b,hb,rfl⟩:=byteRow_get l i j r c hi hj
   simp only [List.getD,hb,Option.getD_some]
   exact .int _ _
theorem byteOf_rows:∀ {rows:List (List AV)} {l:List UInt8},rows.mapM byteOf=some l→∃ ns:List Int,ns.length=rows.length∧l=ns.map (fun n=>UInt8.ofNat n.toNat)∧∀ (i:Nat) n,ns[i]? = some n→rows[i]? = some [.int .u8 n]
 | [],l,h=>by
  simp only [List.mapM_nil,pure,Option.some.injEq] at h
  exact ⟨[],rfl,h.symm,fun i n h=>by simp at h⟩
 | r :: rows,l,h=>by
  rw [List.mapM_cons] at h
  simp only [bind,Option.bind_eq_some_iff] at h
  obtain ⟨b,hb,l',hl',e⟩:=h
  simp only [pure,Option.some.injEq] at e
  subst e
  obtain ⟨ns,h1,h2,h3⟩:=byteOf_rows hl'
  unfold byteOf at hb
  split at hb
  ·rename_i n
   refine ⟨n :: ns,by simp [h1],by rw [List.map_cons,← h2,Option.some.inj hb],fun i m hm=>?_⟩
   cases i with
   | zero=>rw [Option.some.inj (by simpa using hm:some n=some m)]; rfl
   | succ i=>exact h3 i m (by simpa using hm)
  ·cases hb
theorem ok_conv_ofBytes (hG:GOk G E.W0)(hI:Inv E s Γ a w){src dst e:TypeId}{x:Operand}{x':Opnd}{u:AV}{rows:List (List AV)}{l:List UInt8}(ho:o.op=.convert src dst x)(hs:P.underlying src=some (.slice e))(hd:P.underlying dst=some .string)(he:P.underlying e=some (.int .u8))(hc:cOpnd P src x=some x')
  (hx:opnd G s.sl x'=some u) (hr:rowsOf s.hp u=some (1,rows)) (hl:rows.mapM byteOf=some l):OpOk P E s (.str l) a w o:=by
 obtain ⟨A,cap,news,hu,_,hrd⟩:=rowsOf_spec hI (cOpnd_rep hG hI hc hx).1 hr
 obtain ⟨ns,h1,h2,h3⟩:=byteOf_rows hl
 refine .pure (cv := .string ⟨l.toArray⟩) hI ?_ (.str _) (fun k r e=>by cases e)
 simp only [execOp,ho,hu]
 have:(convert src dst (.slice A rows.length cap)).run P w=.ok (.string ⟨l.toArray⟩) w:=by
  rcases A with _ | ⟨b,off,sp⟩
  ·obtain rfl:=hrd.nil rfl
   have:ns=[]:=List.eq_nil_of_length_eq_zero (by simpa using h1)
   subst this
   subst h2
   rw [run_convert_bytes_nil w src e hs he _ _ dst hd]
   rfl
  ·have hcell:∀ j,j < rows.length→w.cell? ((⟨b,off,sp⟩:Addr).add j)=some (.int .u8 (ns.getD j 0)):=fun j hj=>by
    have hn:ns[j]? = some (ns.getD j 0):=by rw [List.getD,List.getElem?_eq_getElem (by omega)]; rfl
    obtain ⟨y,hy1,hy2⟩:=hrd.rep j 0 _ _ (h3 j _ hn) rfl
    have:=hrd.cell _ rfl _ _ hy1
    simp only [Nat.mul_one,Nat.add_zero] at this
    rw [this]
    cases hy2
    rfl
   have hld:=run_loadCells (P := P) w ⟨b,off,sp⟩ rows.length (fun j=>.int .u8 (ns.getD j 0)) hcell
   have hm:((List.range rows.length).map fun j=>Value.int .u8 (ns.getD j 0))=ns.map (Value.int .u8):=by
    apply List.ext_getElem?
    intro j
    rw [List.getElem?_map,List.getElem?_map]
    by_cases hj:j < rows.length
    ·rw [List.getElem?_range hj,List.getElem?_eq_getElem (by omega:j < ns.length)]
     simp [List.getD,List.getElem?_eq_getElem (by omega:j < ns.length)]
    ·rw [List.getElem?_eq_none (by simpa using hj),List.getElem?_eq_none (by omega)]; rfl
   rw [hm] at hld
   rw [run_convert_bytes_string w src dst e _ _ cap hs he hd,run_bytesToString w _ _ cap ns hld,foldl_push_bytes,h2]
   have he0:ByteArray.empty.data=#[]:=rfl
   rw [he0]
   simp
 simp only [Sem.run_bind,this,Result.andThen_ok]
 rfl
theorem min_run:∀ {vs:List AV} {us:List Value} {m r:Int},us.length=vs.length→(∀ (j:Nat) v,vs[j]? = some v→∃ u,us[j]? = some u∧Rep Γ w v u)→minL m vs=some r→(us.foldlM Builtin.min2 (.int .i64 m)).run P w=.ok (.int .i64 r) w
 | [],[],m,r,_,_,h=>by obtain rfl:=Option.some.inj h; rfl
 | [],_ :: _,m,r,hl,_,h=>by simp at hl
 | _ :: _,[],m,r,hl,_,h=>by simp at hl
 | v :: vs,u :: us,m,r,hl,hr,h=>by
  unfold minL at h
  split at h <;> first | (cases h; done) | skip
  ·rename_i e; cases e
  ·rename_i n l e
   cases e
   obtain ⟨u',hu,hru⟩:=hr 0 _ rfl
   obtain rfl:=Option.some.inj (by simpa using hu:some u=some u')
   cases hru
   rw [List.foldlM_cons,Sem.run_bind]
   simp only [Builtin.min2,Sem.run_pure,Result.andThen_ok]
   exact min_run (by simpa using hl) (fun j v hv=>by simpa using hr (j + 1) v (by simpa using hv)) h
theorem max_run:∀ {vs:List AV} {us:List Value} {m r:Int},us.length=vs.length→(∀ (j:Nat) v,vs[j]? = some v→∃ u,us[j]? = some u∧Rep Γ w v u)→maxL m vs=some r→(us.foldlM Builtin.max2 (.int .i64 m)).run P w=.ok (.int .i64 r) w
 | [],[],m,r,_,_,h=>by obtain rfl:=Option.some.inj h; rfl
 | [],_ :: _,m,r,hl,_,h=>by simp at hl
 | _ :: _,[],m,r,hl,_,h=>by simp at hl
 | v :: vs,u :: us,m,r,hl,hr,h=>by
  unfold maxL at h
  split at h <;> first | (cases h; done) | skip
  ·rename_i e; cases e
  ·rename_i n l e
   cases e
   obtain ⟨u',hu,hru⟩:=hr 0 _ rfl
   obtain rfl:=Option.some.inj (by simpa using hu:some u=some u')
   cases hru
   rw [List.foldlM_cons,Sem.run_bind]
   simp only [Builtin.max2,Sem.run_pure,Result.andThen_ok]
   exact max_run (by simpa using hl) (fun j v hv=>by simpa using hr (j + 1) v (by simpa using hv)) h
theorem ok_minmax (hG:GOk G E.W0)(hI:Inv E s Γ a w){isMax:Bool}{args:Array Operand}{ts:Array TypeId}{ps:List Opnd}{n r:Int}{vs:List AV}(ho:o.op=.call { callee := .builtin (if isMax then .max else .min),args := args,argTypes := ts })
  (hc:cOpnds P ts.toList args.toList=some ps) (hv:opnds G s.sl ps=some (.int .i64 n :: vs)) (h:(if isMax then maxL n vs else minL n vs)=some r):OpOk P E s (.int .i64 r) a w o:=by
 obtain ⟨c1,c2⟩:=cOpnds_rep hG hI hc hv
 refine .pure (cv := .int .i64 r) hI ?_ (.int _ _) (fun k r e=>by cases e)
 obtain ⟨l,hl⟩:∃ l,args=⟨l⟩:=⟨args.toList,rfl⟩
 subst hl
 cases l with
 | nil=>simp at c1
 | cons x l =>
  have hx:a.eval x=.int .i64 n:=by
   obtain ⟨x',hx',hr,_⟩:=c2 0 _ rfl
   obtain rfl:=Option.some.inj (by simpa using hx':some x=some x')
   generalize a.eval x=q at hr
   cases hr; rfl
  have hlen:(l.map a.eval).length=vs.length:=by simpa using c1
  have hrs:∀ (j:Nat) v,vs[j]? = some v→∃ u,(l.map a.eval)[j]? = some u∧Rep Γ w v u:=fun j v hv=>by
   obtain ⟨x',hx',hr,_⟩:=c2 (j + 1) v (by simpa using hv)
   simp only [List.getElem?_cons_succ] at hx'
   exact ⟨a.eval x',by rw [List.getElem?_map,hx']; rfl,hr⟩
  cases isMax with
  | true =>
   simp only [if_true] at h ho
   have:=max_run (P := P) hlen hrs h
   simp only [execOp,ho,resolve,invoke,builtin]
   simp only [Sem.run_bind,Sem.run_pure,Result.andThen_ok,List.map_toArray,List.map_cons,Builtin.max_,hx,this]
  | false =>
   simp only [Bool.false_eq_true,if_false] at h ho
   have:=min_run (P := P) hlen hrs h
   simp only [execOp,ho,resolve,invoke,builtin]
   simp only [Sem.run_bind,Sem.run_pure,Result.andThen_ok,List.map_toArray,List.map_cons,Builtin.min_,hx,this]
theorem flatten_at {k:Nat}(hk:0 < k):∀ (rows:List (List AV)) (j:Nat) (c:AV),(∀ r ∈ rows,r.length=k)→rows.flatten[j]? = some c→∃ r,rows[j / k]? = some r∧r[j % k]? = some c
 | [],j,c,_,h=>by simp at h
 | x :: rows,j,c,hr,h=>by
  have hx:=hr x (by simp)
  rw [List.flatten_cons,List.getElem?_append] at h
  split at h
  ·rename_i hlt
   rw [hx] at hlt
   rw [Nat.div_eq_of_lt hlt,Nat.mod_eq_of_lt hlt]
   exact ⟨x,rfl,h⟩
  ·rename_i hge
   rw [hx] at hge h
   obtain ⟨r,h1,h2⟩:=flatten_at hk rows (j - k) c (fun r hm=>hr r (by simp [hm])) h
   have e1:j / k=(j - k) / k + 1:=by rw [Nat.div_eq_sub_div hk (by omega)]
   have e2:(j - k) % k=j % k:=by rw [Nat.mod_eq_sub_mod (by omega:j ≥ k)]
   rw [e1,← e2]
   exact ⟨r,by simpa using h1,h2⟩
theorem flatten_len {k:Nat}:∀ (rows:List (List AV)),(∀ r ∈ rows,r.length=k)→rows.flatten.length=rows.length * k
 | [],_=>by simp
 | x :: rows,h=>by
  rw [List.flatten_cons,List.length_append,h x (by simp),flatten_len rows (fun r hr=>h r (by simp [hr])),List.length_cons,Nat.add_mul]
  omega
theorem ok_copy (hG:GOk G E.W0)(hI:Inv E s Γ a w){t e:TypeId}{i:TypeInfo}{d x:Operand}{d' x':Opnd}{g off len:Nat}{r:List (List AV)}{cs:List AV}{t':TypeId}{u:AV}
  (ho:o.op=.call { callee := .builtin .copy,args := #[d,x],argTypes := #[t,t] }) (ht:P.underlying t=some (.slice e)) (hi:P.info? e=some i) (hpos:0 < i.size) (hcd:cOpnd P t d=some d') (hcx:cOpnd P t x=some x')
  (hd:opnd G s.sl d'=some (.arr g off len i.size)) (hx:opnd G s.sl x'=some u) (hr:rowsOf s.hp u=some (i.size,r)) (hg:s.hp[g]? = some (.cells cs t')) (hfit:off + Nat.min r.length len * i.size≤cs.length)
  (hone:((r.take (Nat.min r.length len)).flatten.map AV.ro).all AV.one=true) :
  OpOk P E { s with hp:=s.hp.set g (.cells (splice cs off ((r.take (Nat.min r.length len)).flatten.map AV.ro)) t'),ef := s.note g 0 } (.int .i64 (Nat.min r.length len:Nat)) a w o:=by
 have k1:=(cOpnd_rep hG hI hcd hd).1
 obtain ⟨A,cap,ns,hu,_,hrd⟩:=rowsOf_spec hI (cOpnd_rep hG hI hcx hx).1 hr
 generalize hq:a.eval d=q at k1
 cases k1 with
 | arr _ _ _ _ capd b hb hcap =>
  have hrl:∀ y ∈ r.take (Nat.min r.length len),y.length=i.size:=fun y hy=>hrd.rowLen y (List.mem_of_mem_take hy)
  have hmin:Nat.min r.length len≤r.length:=Nat.min_le_left _ _
  have hlen:(r.take (Nat.min r.length len)).flatten.length=Nat.min r.length len * i.size:=by
   rw [flatten_len _ hrl,List.length_take,Nat.min_eq_left hmin]
  have hle:Nat.min r.length len * i.size≤r.length * i.size:=Nat.mul_le_mul_right _ hmin
  have hns:(ns.take (Nat.min r.length len * i.size)).length=Nat.min r.length len * i.size:=by rw [List.length_take,hrd.len]; omega
  obtain ⟨w',hst,hI'⟩:=cells_run (P := P) (new := (r.take (Nat.min r.length len)).flatten.map AV.ro) (xs := ns.take (Nat.min r.length len * i.size)) hI hb hg (by rw [hns,List.length_map,hlen]) (fun j c hj=>by
   rw [List.getElem?_map] at hj
   obtain ⟨c0,hc0,rfl⟩:=Option.map_eq_some_iff.1 hj
   obtain ⟨row,h1,h2⟩:=flatten_at hpos _ j c0 hrl hc0
   have hjl:=Zc hc0
   rw [hlen] at hjl
   rw [List.getElem?_take] at h1
   split at h1 <;> first | (cases h1; done) | skip
   obtain ⟨y,h3,h4⟩:=hrd.rep _ _ row c0 h1 h2
   rw [show j / i.size * i.size + j % i.size=j by rw [Nat.mul_comm]; exact Nat.div_add_mod j i.size] at h3
   have hget:(ns.take (Nat.min r.length len * i.size)).getD j Go.undef=y:=by
    rw [List.getD_eq_getElem?_getD,List.getElem?_take,if_pos hjl,h3]; rfl
   rw [hget]
   exact ⟨List.all_eq_true.1 hone _ (List.mem_map.2 ⟨c0,List.mem_of_getElem? hc0,rfl⟩),h4.ro,.of_ro _ _ _ _ _⟩) (by rw [List.length_map,hlen]; exact hfit) (noted_note s g 0)
  refine ⟨Γ,.int .i64 (Nat.min r.length len:Nat),w',.inl ?_,hI',.int _ _,.of_ne (by simp)⟩
  have hf:(Builtin.firstCells i.size (Nat.min r.length len) (.slice A r.length cap)).run P w=.ok (ns.take (Nat.min r.length len * i.size)).toArray w:=by
   rcases A with _ | ad
   ·have h0:=hrd.nil rfl
    subst h0
    simp [Builtin.firstCells,Nat.min]
   ·exact run_firstCells_some (P := P) w i.size (Nat.min r.length len) ad r.length cap _ hns (fun j y hj=>by
     rw [List.getElem?_take] at hj
     split at hj
     ·exact hrd.cell ad rfl j y hj
     ·cases hj)
  simp only [execOp,ho,resolve,invoke,builtin]
  simp only [Sem.run_bind,Sem.run_pure,Result.andThen_ok,List.map_toArray,List.map_cons,List.map_nil,hq,hu]
  simp [Builtin.copy_,run_underlying ht,Builtin.lenOf,sizeOf,typeInfo,hi,hf,hst,goInt]
theorem ok_copy0 (hG:GOk G E.W0)(hI:Inv E s Γ a w){t e:TypeId}{i:TypeInfo}{d x:Operand}{d' x':Opnd}{k:Nat}{r:List (List AV)}{u:AV}
  (ho:o.op=.call { callee := .builtin .copy,args := #[d,x],argTypes := #[t,t] }) (ht:P.underlying t=some (.slice e)) (hi:P.info? e=some i) (hcd:cOpnd P t d=some d') (hcx:cOpnd P t x=some x')
  (hd:opnd G s.sl d'=some (.lst k [])) (hx:opnd G s.sl x'=some u) (hr:rowsOf s.hp u=some (i.size,r)):OpOk P E s (.int .i64 0) a w o:=by
 have k1:=(cOpnd_rep hG hI hcd hd).1
 obtain ⟨A,cap,ns,hu,_,hrd⟩:=rowsOf_spec hI (cOpnd_rep hG hI hcx hx).1 hr
 have hf:(Builtin.firstCells i.size 0 (.slice A r.length cap)).run P w=.ok #[] w:=by
  rcases A with _ | ad
  ·simp [Builtin.firstCells]
  ·exact run_firstCells_some (P := P) w i.size 0 ad r.length cap [] (by simp) (fun j y hj=>by simp at hj)
 have hd':∃ B c,a.eval d=.slice B 0 c:=by
  generalize a.eval d=q at k1
  cases k1 with
  | lstNil=>exact ⟨none,0,rfl⟩
  | lstE=>exact ⟨_,_,rfl⟩
  | lst _ _ b o cap=>exact ⟨_,_,rfl⟩
 obtain ⟨B,c,hq⟩:=hd'
 refine .pure (cv := .int .i64 0) hI ?_ (.int _ _) (fun k r e=>by cases e)
 simp only [execOp,ho,resolve,invoke,builtin]
 simp only [Sem.run_bind,Sem.run_pure,Result.andThen_ok,List.map_toArray,List.map_cons,List.map_nil,hq,hu]
 cases B with
 | none=>simp [Builtin.copy_,run_underlying ht,Builtin.lenOf,sizeOf,typeInfo,hi,hf,goInt]
 | some ad=>simp [Builtin.copy_,run_underlying ht,Builtin.lenOf,sizeOf,typeInfo,hi,hf,goInt,storeCells]
end
end Go.Proofs.YtcfjcimhjmpkiaaGreatDoor.Abs
end
end
