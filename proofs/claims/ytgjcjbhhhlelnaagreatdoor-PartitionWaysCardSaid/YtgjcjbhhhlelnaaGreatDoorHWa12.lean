import Derived.Test.YtgjcjbhhhlelnaaGreatDoorHWa11
set_option linter.all false
section
namespace Go.Proofs.YtgjcjbhhhlelnaaGreatDoor
open Go Go.RowKit Go.Proofs.YtgjcjbhhhlelnaaGreatDoor.Abs
set_option maxRecDepth 100000
set_option maxHeartbeats 0
noncomputable def CW:Cfg:=⟨fun _=>none,fun f=>(Zvw.find? (·.1 == f)).map (·.2),fun f args hp=>((fun _ _=>none:FuncId→List AV→Option AV) f args).map fun v=>(v,hp,none),9223372036854775808⟩
theorem Zy4 (W0:World):ZgD Tryz.prog W0 CW where
 mixed:=by kernel_rfl
 globals:=fun g cells h=>by cases h
 table:=fun f af h=>by
  have h:(Zvw.find? (·.1 == f)).map (·.2)=some af:=h
  obtain ⟨p,hp,rfl⟩:=Option.map_eq_some_iff.1 h
  have hf:=List.find?_some hp
  have:p.1=f:=by simpa using hf
  subst this
  exact Zk8 p (List.mem_of_find?_eq_some hp)
 oracle:=Ha (O := fun _ _=>none) fun f args v h=>by cases h
def isT:Option (AV×List Zm×Eff)→Bool
 | some (.bool true,_,_)=>true
 | _=>false
theorem Zr0 {r:Option (AV×List Zm×Eff)}(h:isT r=true):∃ hp e,r=some (.bool true,hp,e):=by
 unfold isT at h
 split at h
 ·exact ⟨_,_,rfl⟩
 ·cases h
def p3:AV:=.agg [(.str [112]),(.lst 14 [[(.str [97]),(.lst 3 []),(.lst 17 []),(.lst 3 []),(.lst 3 []),(.lst 1 []),(.lst 1 []),(.lst 1 []),(.lst 1 []),(.lst 1 []),(.lst 4 []),(.lst 5 []),(.lst 3 []),(.lst 4 [])],[(.str [98]),(.lst 3 []),(.lst 17 []),(.lst 3 []),(.lst 3 []),(.lst 1 []),(.lst 1 []),(.lst 1 []),(.lst 1 []),(.lst 1 []),(.lst 4 []),(.lst 5 []),(.lst 3 []),(.lst 4 [])],[(.str [99]),(.lst 3 []),(.lst 17 []),(.lst 3 []),(.lst 3 []),(.lst 1 []),(.lst 1 []),(.lst 1 []),(.lst 1 []),(.lst 1 []),(.lst 4 []),(.lst 5 []),(.lst 3 []),(.lst 4 [])]]),(.lst 3 [[(.int .i64 0),(.int .i64 1),(.int .i64 4)],[(.int .i64 1),(.int .i64 2),(.int .i64 3)]])]
def isZ:Option (AV×List Zm×Eff)→Bool
 | some (.int .i64 0,_,_)=>true
 | _=>false
theorem Zr2 {r:Option (AV×List Zm×Eff)}(h:isZ r=true):∃ hp e,r=some (.int .i64 0,hp,e):=by
 unfold isZ at h
 split at h
 ·exact ⟨_,_,rfl⟩
 ·cases h
theorem ZqT:isZ (Zv CW 40 VJ [p3] [])=true:=by kernel_rfl
def orW (f:FuncId)(args:List AV):Option AV:=if f=VJ then (match args with | [a]=>if eqA 8 a p3=true then some (.int .i64 0) else none | _=>none) else none
theorem Zxz (W0:World):∀ f args v,orW f args=some v→ZaT Tryz.prog W0 f args v:=by
 intro f args v h
 unfold orW at h
 split at h
 ·rename_i e; subst e
  split at h
  ·rename_i a
   split at h <;> cases h
   rename_i he
   obtain rfl:=Zwm _ _ _ he
   obtain ⟨hp,e,hr⟩:=Zr2 ZqT
   exact ZfO Zy4 hr rfl (by kernel_rfl) (by kernel_rfl) Tryz.func25 (by kernel_rfl) rfl
  ·cases h
 ·cases h
noncomputable def CA:Cfg:=⟨fun _=>none,fun f=>if f=VJ then none else (Zvw.find? (·.1 == f)).map (·.2),fun f args hp=>(orW f args).map fun v=>(v,hp,none),9223372036854775808⟩
theorem Zy3 (W0:World):ZgD Tryz.prog W0 CA where
 mixed:=by kernel_rfl
 globals:=fun g cells h=>by cases h
 table:=fun f af h=>by
  have h:(if f=VJ then none else (Zvw.find? (·.1 == f)).map (·.2))=some af:=h
  split at h
  ·cases h
  ·obtain ⟨p,hp,rfl⟩:=Option.map_eq_some_iff.1 h
   have hf:=List.find?_some hp
   have:p.1=f:=by simpa using hf
   subst this
   exact Zk8 p (List.mem_of_find?_eq_some hp)
 oracle:=Ha (Zxz W0)
theorem Zmm:isT (Zv CA 40 Ky [] [])=true:=by kernel_rfl
theorem ZtD (w:World):Calls Tryz.prog Ky #[] w fun e w'=>e=.returned (.bool true)∧Below w.heap.size w w':=by
 obtain ⟨hp,e,h⟩:=Zr0 Zmm
 exact ZsW (Zy3 w) h rfl fun j x hx=>by simp at hx
end Go.Proofs.YtgjcjbhhhlelnaaGreatDoor
end
section
namespace Go.Proofs.YtgjcjbhhhlelnaaGreatDoor
open Go Go.Proofs.YtgjcjbhhhlelnaaGreatDoor.Abs Go.Proofs.YtgjcjbhhhlelnaaGreatDoor.Tl
set_option maxRecDepth 100000
def Ii:List IL:=[⟨[],0,0,false,false,false,false,false,false⟩,⟨[115,108,111,116],1,0,false,true,false,false,false,false⟩,⟨[118,97,114],2,0,false,true,false,false,false,false⟩,⟨[100,114,97,119],1,3,false,false,false,false,true,false⟩,⟨[106,117,109,112],4,0,false,false,false,false,false,false⟩,⟨[98,114,97,110,99,104],4,0,false,true,false,false,false,false⟩,⟨[104,111,108,100],0,0,false,true,false,false,false,false⟩,⟨[115,101,105,122,101],5,0,false,true,true,false,false,true⟩,⟨[114,101,108,101,97,115,101],5,0,false,true,false,false,false,false⟩,⟨[112,117,116],6,0,false,true,false,false,false,false⟩,⟨[103,101,116],6,1,false,false,false,false,false,false⟩,⟨[114,105,100,101],7,0,false,false,false,false,false,false⟩,⟨[119,97,105,116],8,0,false,false,false,false,false,false⟩,⟨[115,105,103,110,97,108],8,0,false,true,false,false,false,false⟩,⟨[115,101,110,100],9,10,true,true,false,true,false,false⟩,⟨[115,112,97,119,110],0,10,false,true,false,true,false,false⟩,⟨[111,98,115,101,114,118,101],11,0,false,true,false,false,false,false⟩,⟨[108,101,118,101,108],12,0,false,true,false,false,false,false⟩,⟨[99,111,117,110,116],13,0,false,true,false,false,false,false⟩,⟨[101,110,100],0,0,false,false,false,false,false,false⟩]
def tG:Nat→Option (List (TV tT)):=fun g=>match g with
 | 0=>some [.lst 9 (.row 22) Ii]
 | _=>none
def GF:Nat→Option (List AV):=fun g=>if g=0 then some [.lst 9 (Ii.map Zno)] else none
theorem ZzN:GR tG GF:=fun g c h=>by
 match g,h with
 | 0,h=>cases h; exact ⟨_,rfl,.one _ _ (VR.lst (T := tT) 9 (.row 22) Ii _ rfl) rfl [] [] .nil⟩
 | _ + 1,h=>cases h
noncomputable def cT (f:FuncId):Option AFn:=(tab.find? (·.1 == f)).map (·.2)
structure St (C:Cfg)(L:Nat):Prop where
 L:C.L=L + 64
 G:GR tG C.G
 T:∀ f a,cT f=some a→C.T f=some a
 grow:∀ (m:Nat) (n:Int) (hp:List Zm),0≤n→n≤100000→Zv C (m + 1) 171 [.own 2 [],.int .i64 n] hp=some (.own 2 [],hp,none)
 awake:∀ (m:Nat) (hp:List Zm),Zv C (m + 1) 10 [] hp=some (.bool true,hp,none)
 rep:∀ (m n:Nat) (hp:List Zm),1≤n→n≤16→Zv C (m + 1) ZC [.lst 1 [[.int .i64 (-1)]],.int .i64 n] hp=some (.arr hp.length 0 n 1,hp ++ [.cells ((List.replicate n (-1)).map (AV.int .i64)) XK],none)
def Zrl (l:List WB)(n:Int):Option (List WB):=if l.length=0∧0≤n∧n≤100000 then some [] else none
def Ztv:Sum tT:=⟨171,[.own 2 (.row 7),.int .i64],fun x=>.par _ (Zrl x.1 x.2.1) (SD.tv tT (.own 2 (.row 7)))⟩
def Zqr:Sum tT:=⟨10,[],fun _=>.tot (.av (.bool true))⟩
theorem Zyd {C:Cfg}{L:Nat}(h:St C L):J5 C Ztv:=fun x hp avs hv y hy=>by
 obtain ⟨(l:List WB),(n:Int),u⟩:=x
 change (if l.length=0∧0≤n∧n≤100000 then some [] else none)=some y at hy
 split at hy
 ·rename_i hc
  cases hy
  obtain rfl:=List.eq_nil_of_length_eq_zero hc.1
  cases hv with
  | cons _ a h1 _ _ h2=>cases h2 with
   | cons _ b h3 _ _ h4=>cases h4 with
    | nil =>
     cases h1 with | own _ _ _ =>
     have:=VR.int h3; subst this
     exact ⟨.own 2 [],fun ad=>.own 2 (.row 7) [],1,fun m hm=>by
      obtain ⟨k,rfl⟩:∃ k,m=k + 1:=⟨m - 1,by omega⟩
      exact h.grow k n hp hc.2.1 hc.2.2⟩
 ·cases hy
theorem Zvp {C:Cfg}{L:Nat}(h:St C L):J5 C Zqr:=fun x hp avs hv=>by
 cases hv with
 | nil=>exact ⟨.bool true,fun ad=>.av _ _ (.inl rfl),1,fun m hm=>by
   obtain ⟨k,rfl⟩:∃ k,m=k + 1:=⟨m - 1,by omega⟩
   exact h.awake k hp⟩
@[reducible] noncomputable def fT (S:List (Sum tT))(L:Nat)(a:AFn)(A:List LN)(d:RD)(g:List SD)(x:RTy tT g):Option (d.Ty tT):=fnT tF tG (qOf tF S) 0 L a A d (tvL tT g x) []
@[reducible] noncomputable def fI (S:List (Sum tT))(L:Nat)(I:List (Inl tT))(a:AFn)(A:List LN)(d:RD)(g:List SD)(x:RTy tT g):Option (d.Ty tT):=fnT tF tG (Zi6 tF tG (qOf tF S) L I 8) 0 L a A d (tvL tT g x) []
@[reducible] noncomputable def mU (f:FuncId)(g:List SD)(d:RD)(y:RTy tT g→Option (d.Ty tT)):Sum tT:=⟨f,g,fun x=>.par (d.Ty tT) (y x) (d.tv tT)⟩
abbrev SX (u:Nat→Sum tT):Prop:=∀ {C:Cfg} {L:Nat},St C L→J5 C (u L)
theorem sT {C:Cfg}{L:Nat}(h:St C L){S:List (Sum tT)}(hS:∀ s ∈ S,J5 C s){f:FuncId}{g:List SD}{d:RD}{a:AFn}{A:List LN}{y:RTy tT g→Option (d.Ty tT)}(hT:cT f=some a)(hk:a.keep=false)(hy:∀ x,y x=fT S L a A d g x):J5 C (mU f g d y) :=
 Xn QM h.L h.G (Jk QM hS) A (h.T _ _ hT) hk fun x=>(hy x).symm
theorem sI {C:Cfg}{L:Nat}(h:St C L){S:List (Sum tT)}(hS:∀ s ∈ S,J5 C s){I:List (Inl tT)}(hI:∀ i ∈ I,C.T i.f=some i.fn∧i.fn.keep=false){f:FuncId}{g:List SD}{d:RD}{a:AFn}{A:List LN}{y:RTy tT g→Option (d.Ty tT)}(hT:cT f=some a)(hk:a.keep=false)(hy:∀ x,y x=fI S L I a A d g x):J5 C (mU f g d y) :=
 Xn QM h.L h.G (EQ QM h.L h.G (Jk QM hS) hI 8) A (h.T _ _ hT) hk fun x=>(hy x).symm
end Go.Proofs.YtgjcjbhhhlelnaaGreatDoor
end
