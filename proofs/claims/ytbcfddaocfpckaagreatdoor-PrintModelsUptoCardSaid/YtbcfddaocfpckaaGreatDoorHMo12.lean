import Derived.Lib.Join
import Derived.Lib.ItoaNum
import Derived.Lib.Repeat
import Derived.Test.YtbcfddaocfpckaaGreatDoorHMo11
set_option linter.all false
section
namespace Go.Proofs.YtbcfddaocfpckaaGreatDoor
open Go Abs
set_option maxRecDepth 100000
set_option maxHeartbeats 0
def IV:FuncId→List Nat:=fun _=>[]
noncomputable def BN:AFn:=cF (cFn Tryz.prog IV Tryz.f11)
theorem ZbP:cFn Tryz.prog IV Tryz.f11=some BN:=ZjF (by kernel_rfl)
noncomputable def Nu:AFn:=cF (cFn Tryz.prog IV Tryz.f27)
theorem Zdu:cFn Tryz.prog IV Tryz.f27=some Nu:=ZjF (by kernel_rfl)
noncomputable def MR:AFn:=cF (cFn Tryz.prog IV Tryz.f28)
theorem Zay:cFn Tryz.prog IV Tryz.f28=some MR:=ZjF (by kernel_rfl)
noncomputable def Nv:AFn:=cF (cFn Tryz.prog IV Tryz.f26)
theorem Zdv:cFn Tryz.prog IV Tryz.f26=some Nv:=ZjF (by kernel_rfl)
noncomputable def Zo8:List (Nat×AFn):=[(11,BN),(27,Nu),(28,MR),(26,Nv)]++tab
theorem Zmi:∀p∈Zo8,∃fn takes,Tryz.prog.funcs[p.1]? = some fn∧(fn.name == "runtime.NumGoroutine")=false∧cFn Tryz.prog takes fn=some p.2:=by
 intro p hp
 rcases List.mem_append.1 hp with hp|hp
 ·simp only [List.mem_cons,List.not_mem_nil,or_false] at hp
  rcases hp with rfl|rfl|rfl|rfl
  ·exact ⟨Tryz.f11,IV,Tryz.func11,by kernel_rfl,ZbP⟩
  ·exact ⟨Tryz.f27,IV,Tryz.func27,by kernel_rfl,Zdu⟩
  ·exact ⟨Tryz.f28,IV,Tryz.func28,by kernel_rfl,Zay⟩
  ·exact ⟨Tryz.f26,IV,Tryz.func26,by kernel_rfl,Zdv⟩
 ·exact ZkY p hp
open Go Abs Tl
instance noP (C:Cfg):HasP (evalCall C):=⟨fun _ _ _ _ _=>False⟩
def tG:Nat→Option (List (TV tT)):=fun _=>none
def GF:Nat→Option (List AV):=fun _=>none
theorem Zo6:GR tG GF:=fun g c h=>by cases h
noncomputable def cT (f:FuncId):Option AFn:=(tab.find? (·.1==f)).map (·.2)
structure St (C:Cfg)(L:Nat):Prop where
 L:C.L=L+64
 G:GR tG C.G
 T:∀f a,cT f=some a→C.T f=some a
 grow:∀(m:Nat) (n:Int) (hp:List AObj),0≤n→n≤100000→evalCall C (m+1) 302 [.own 2 [],.int .i64 n] hp=some (.own 2 [],hp,none)
 awake:∀(m:Nat) (hp:List AObj),evalCall C (m+1) 11 [] hp=some (.bool true,hp,none)
 text:∀(m:Nat) (n:Int) (hp:List AObj),-9223372036854775808≤n∧n≤9223372036854775807→evalCall C (m+1) 44 [.int .i64 n] hp=some (.str (Lib.itoa n),hp,none)
 rtext:∀(m:Nat) (n:Int) (hp:List AObj),-9223372036854775808≤n∧n≤9223372036854775807→evalCall C (m+1) 49 [.int .i64 n] hp=some (.str (Lib.itoa n),hp,none)
 join:∀(m:Nat) (a:AV) (l:List (List UInt8)) (s:List UInt8) (hp:List AObj),a.ro=.lst 1 (l.map fun x=>[.str x])→l.length≤140737488355328∧(Lib.join l s).length≤140737488355328→evalCall C (m+1) 95 [a,.str s] hp=some (.str (Lib.join l s),hp,none)
 rep:∀(m:Nat) (s:List UInt8) (n:Int) (hp:List AObj),0≤n→n≤9223372036854775807→s.length*n.toNat≤140737488355328→evalCall C (m+1) 94 [.str s,.int .i64 n] hp=some (.str (Lib.repeatL s n.toNat),hp,none)
 buf0:BufOk C 80 5 0 93 999998 81 999999
 buf1:BufOk C 82 5 1 93 999998 81 80
def ZjM (l:List ZX)(n:Int):Option (List ZX):=if l.length=0∧0≤n∧n≤100000 then some [] else none
def Yu (n:Int):Option (List UInt8):=if -9223372036854775808≤n∧n≤9223372036854775807 then some (Lib.itoa n) else none
def ZbM (l:List (List UInt8))(s:List UInt8):Option (List UInt8):=if l.length≤140737488355328∧(Lib.join l s).length≤140737488355328 then some (Lib.join l s) else none
def UL:Sum tT:=⟨44,[.int .i64],fun x=>.par _ (Yu x.1) (SD.tv tT .str)⟩
def Xz:Sum tT:=⟨49,[.int .i64],fun x=>.par _ (Yu x.1) (SD.tv tT .str)⟩
def TJ:Sum tT:=⟨95,[.lst 1 .str,.str],fun x=>.par _ (ZbM x.1 x.2.1) (SD.tv tT .str)⟩
theorem ZkR {C:Cfg}{f:FuncId}(h:∀(m:Nat) (n:Int) (hp:List AObj),-9223372036854775808≤n∧n≤9223372036854775807→evalCall C (m+1) f [.int .i64 n] hp=some (.str (Lib.itoa n),hp,none)):SumOk C (⟨f,[.int .i64],fun x=>.par _ (Yu x.1) (SD.tv tT .str)⟩:Sum tT):=fun x hp avs hv y hy=>by
 obtain ⟨(n:Int),u⟩:=x
 change (if -9223372036854775808≤n∧n≤9223372036854775807 then some (Lib.itoa n) else none)=some y at hy
 split at hy
 ·rename_i hc
  cases hy
  cases hv with
  |cons _ a h1 _ _ h2=>cases h2 with
   |nil =>
    have:=VR.int h1;subst this
    exact ⟨.str (Lib.itoa n),fun ad=>.av _ _ (.inl rfl),ev_at fun k=>h k n hp hc⟩
 ·cases hy
def ZnC (s:List UInt8)(n:Int):Option (List UInt8):=if 0≤n∧n≤9223372036854775807∧s.length*n.toNat≤140737488355328 then some (Lib.repeatL s n.toNat) else none
def Zn7:Sum tT:=⟨94,[.str,.int .i64],fun x=>.par _ (ZnC x.1 x.2.1) (SD.tv tT .str)⟩
theorem Zo4 {C:Cfg}{L:Nat}(h:St C L):SumOk C Zn7:=fun x hp avs hv y hy=>by
 obtain ⟨(s:List UInt8),(n:Int),u⟩:=x
 change (if 0≤n∧n≤9223372036854775807∧s.length*n.toNat≤140737488355328 then some (Lib.repeatL s n.toNat) else none)=some y at hy
 split at hy
 ·rename_i hc
  cases hy
  cases hv with
  |cons _ a h1 _ _ h2=>cases h2 with
   |cons _ b h3 _ _ h4=>cases h4 with
    |nil =>
     have:=VR.str h1;subst this
     have:=VR.int h3;subst this
     exact ⟨.str (Lib.repeatL s n.toNat),fun ad=>.av _ _ (.inl rfl),ev_at fun k=>h.rep k s n hp hc.1 hc.2.1 hc.2.2⟩
 ·cases hy
theorem IJ {C:Cfg}{L:Nat}(h:St C L):SumOk C UL:=ZkR h.text
theorem VW {C:Cfg}{L:Nat}(h:St C L):SumOk C Xz:=ZkR h.rtext
theorem Sj {C:Cfg}{L:Nat}(h:St C L):SumOk C TJ:=fun x hp avs hv y hy=>by
 obtain ⟨(l:List (List UInt8)),(s:List UInt8),u⟩:=x
 change (if l.length≤140737488355328∧(Lib.join l s).length≤140737488355328 then some (Lib.join l s) else none)=some y at hy
 split at hy
 ·rename_i hc
  cases hy
  cases hv with
  |cons _ a h1 _ _ h2=>cases h2 with
   |cons _ b h3 _ _ h4=>cases h4 with
    |nil =>
     have:=VR.str h3;subst this
     cases h1 with
     |lst _ _ _ _ h1=>exact ⟨.str (Lib.join l s),fun ad=>.av _ _ (.inl rfl),ev_at fun k=>h.join k a l s hp h1 hc⟩
 ·cases hy
def Zld:Sum tT:=⟨302,[.own 2 (.row 7),.int .i64],fun x=>.par _ (ZjM x.1 x.2.1) (SD.tv tT (.own 2 (.row 7)))⟩
def Zjs:Sum tT:=⟨11,[],fun _=>.tot (.av (.bool true))⟩
theorem Zn3 {C:Cfg}{L:Nat}(h:St C L):SumOk C Zld:=fun x hp avs hv y hy=>by
 obtain ⟨(l:List ZX),(n:Int),u⟩:=x
 change (if l.length=0∧0≤n∧n≤100000 then some [] else none)=some y at hy
 split at hy
 ·rename_i hc
  cases hy
  obtain rfl:=List.eq_nil_of_length_eq_zero hc.1
  cases hv with
  |cons _ a h1 _ _ h2=>cases h2 with
   |cons _ b h3 _ _ h4=>cases h4 with
    |nil =>
     cases h1 with|own _ _ _ =>
     have:=VR.int h3;subst this
     exact ⟨.own 2 [],fun ad=>.own 2 (.row 7) [],1,fun m hm=>by
      obtain ⟨k,rfl⟩:∃k,m=k+1:=⟨m - 1,by omega⟩
      exact h.grow k n hp hc.2.1 hc.2.2⟩
 ·cases hy
theorem Zmb {C:Cfg}{L:Nat}(h:St C L):SumOk C Zjs:=fun x hp avs hv=>by
 cases hv with
 |nil=>exact ⟨.bool true,fun ad=>.av _ _ (.inl rfl),1,fun m hm=>by
   obtain ⟨k,rfl⟩:∃k,m=k+1:=⟨m - 1,by omega⟩
   exact h.awake k hp⟩
@[reducible] noncomputable def fT (S:List (Sum tT))(L:Nat)(a:AFn)(A:List LN)(d:RD)(g:List SD)(x:RTy tT g):Option (d.Ty tT):=fnT tF tG (qOf tF S) 0 L a A d (tvL tT g x) []
@[reducible] noncomputable def fI (S:List (Sum tT))(L:Nat)(I:List (Inl tT))(a:AFn)(A:List LN)(d:RD)(g:List SD)(x:RTy tT g):Option (d.Ty tT):=fnT tF tG (stackQ tF tG (qOf tF S) L I 8) 0 L a A d (tvL tT g x) []
@[reducible] noncomputable def mU (f:FuncId)(g:List SD)(d:RD)(y:RTy tT g→Option (d.Ty tT)):Sum tT:=⟨f,g,fun x=>.par (d.Ty tT) (y x) (d.tv tT)⟩
abbrev SX (u:Nat→Sum tT):Prop:=∀{C:Cfg} {L:Nat},St C L→SumOk C (u L)
theorem sT {C:Cfg}{L:Nat}(h:St C L){S:List (Sum tT)}(hS:∀s∈S,SumOk C s){f:FuncId}{g:List SD}{d:RD}{a:AFn}{A:List LN}{y:RTy tT g→Option (d.Ty tT)}(hT:cT f=some a)(hk:a.keep=false)(hy:∀x,y x=fT S L a A d g x):SumOk C (mU f g d y) :=
 sum_par ZE h.L h.G (qOf_ok ZE hS) A (h.T _ _ hT) hk fun x=>(hy x).symm
theorem sI {C:Cfg}{L:Nat}(h:St C L){S:List (Sum tT)}(hS:∀s∈S,SumOk C s){I:List (Inl tT)}(hI:∀i∈I,C.T i.f=some i.fn∧i.fn.keep=false){f:FuncId}{g:List SD}{d:RD}{a:AFn}{A:List LN}{y:RTy tT g→Option (d.Ty tT)}(hT:cT f=some a)(hk:a.keep=false)(hy:∀x,y x=fI S L I a A d g x):SumOk C (mU f g d y) :=
 sum_par ZE h.L h.G (stackQ_ok ZE h.L h.G (qOf_ok ZE hS) hI 8) A (h.T _ _ hT) hk fun x=>(hy x).symm
end Go.Proofs.YtbcfddaocfpckaaGreatDoor
end
