import Derived.Test.YtcfjcimhjmpkiaaGreatDoorProg
import Derived.Shelf.RegionOpenPlain
import Derived.Lib.Builder
import Derived.Lib.UnsafeStr
import Derived.Lib.MakeNoZero
import Derived.Lib.Strings
import Derived.Lib.Slices
import Derived.Lib.Walk
import Derived.WalkKit
import Derived.Laws.Externs
import Derived.Laws.IdiomCopy
import Derived.Lib.AppendStr
import Derived.Laws.AppendOwn
import Derived.Shelf.Strings.Builder1
import Derived.Shelf.Strings.Builder2
import Derived.Shelf.Small.Utf8
import Derived.Shelf.Small.Bits
import Derived.Shelf.Small.Strs
import Derived.Shelf.Strings.BuilderF
import Derived.Shelf.Strconv.Itoa0
import Derived.Shelf.Strconv.Itoa1
import Derived.Shelf.LaysM
import Derived.Shelf.Strconv.Itoa2
import Derived.Shelf.Strconv.Itoa3
import Derived.Shelf.Strings.Search1
import Derived.Shelf.Strings.Prefix
import Derived.Shelf.Unicode.Decode
import Derived.Shelf.Strings.Runes
import Derived.Shelf.Strings.AsciiSet
import Derived.Shelf.Bits.Mul64
import Derived.Shelf.Strings.Repeat
import Derived.Shelf.Unicode.DecodeSlow
import Derived.Shelf.Unicode.DecodeAny
import Derived.Shelf.Unicode.DecodeLast
import Derived.Ground.Names2Prog
import Derived.Shelf.Slices.SearchI
import Derived.Test.YtcfjcimhjmpkiaaGreatDoorRows
import Derived.Handy
import Derived.Lib.Hide
import Derived.BigQuiet
import Derived.Deep.QuietTactic
import Derived.WalkSmall
import Derived.Lib.ItoaMem
import Derived.Lib.ItoaLen
import Derived.Lib.LaidTab
import Derived.Lib.ItoaNum
import Derived.Test.YtcfjcimhjmpkiaaGreatDoorHTb13
set_option linter.all false
section
namespace Go.Proofs.YtcfjcimhjmpkiaaGreatDoor
open Go.RowKit
theorem MO:(Tryz.prog.info? 85).map (·.size)=some 2:=by kernel_rfl
theorem BA:(Tryz.prog.info? 5).map (fun i=>(i.zero,i.size,i.bytes))=some (some (.int .u8 0),1,1):=by kernel_rfl
theorem Vu:Tryz.prog.follows .mixedOrders=true:=by kernel_rfl
theorem Ku:Tryz.prog.cellsOf 5=1:=by kernel_rfl
def Ko (t n:Nat):Bool:=(t == 85 && n == 2)
theorem Ro {t n:Nat}(h:Ko t n=true):1 < n∧liesAt Tryz.prog Tryz.prog.depth t (n / Tryz.prog.cellsOf t) 0 85 1=true:=by
 simp only [Ko,Bool.or_eq_true,Bool.and_eq_true,beq_iff_eq] at h
 rcases h with ⟨rfl,rfl⟩
 all_goals exact ⟨by decide,by kernel_rfl⟩
structure Xk (b:Nat)(w w':World):Prop where
 os:w'.os=w.os
 tape:w'.tape=w.tape
 output:w'.output=w.output
 size:w.heap.size≤w'.heap.size
 same:∀ k,k < w.heap.size→k≠b→w'.heap[k]? = w.heap[k]?
theorem Xk.refl (b:Nat)(w:World):Xk b w w:=⟨rfl,rfl,rfl,Nat.le_refl _,fun _ _ _=>rfl⟩
theorem Xk.drew {b:Nat}{w w':World}(h:Xk b w w'):Xk b w w'.drew:=⟨h.os,h.tape,h.output,h.size,h.same⟩
theorem Xk.fromDrew {b:Nat}{w w':World}(h:Xk b w.drew w'):Xk b w w':=⟨h.os,h.tape,h.output,h.size,h.same⟩
theorem Xk.trans {b:Nat}{w w1 w2:World}(h:Xk b w w1)(h':Xk b w1 w2):Xk b w w2 :=
 ⟨h'.os.trans h.os,h'.tape.trans h.tape,h'.output.trans h.output,Nat.le_trans h.size h'.size,fun k hk hn=>(h'.same k (Nat.lt_of_lt_of_le hk h.size) hn).trans (h.same k hk hn)⟩
theorem Xk.setCell (b:Nat)(w:World)(j:Nat)(v:Value):Xk b w (w.setCell ⟨b,j,none⟩ v) :=
 ⟨rfl,rfl,rfl,by simp [World.setCell],fun k _ hn=>Below.heap_setCell _ _ _ _ hn⟩
theorem Xk.alloc (b:Nat)(w:World)(o:Obj):Xk b w (w.alloc o):=⟨rfl,rfl,rfl,by simp,fun k hk _=>Lib.alloc_old w o k hk⟩
theorem Xk.freeze (b n:Nat)(w:World):Xk b w (w.freeze ⟨b,0,none⟩ n):=by
 unfold World.freeze
 split
 ·exact .refl b w
 ·refine ⟨rfl,rfl,rfl,by simp,fun k _ hn=>?_⟩
  simp [Array.getElem?_modify]
  intro e
  exact absurd e.symm hn
theorem KE (b n o:Nat)(w:World):(w.freeze ⟨b,0,none⟩ n).cell? ⟨b,o,none⟩=w.cell? ⟨b,o,none⟩:=by
 unfold World.freeze
 split
 ·rfl
 ·simp only [World.cell?,Array.getElem?_modify]
  cases h:w.heap[b]? with
  | none=>simp
  | some x=>cases x <;> simp
theorem H9 (w:World)(x:Obj)(g o:Nat)(h:g < w.heap.size):(w.alloc x).cell? ⟨g,o,none⟩=w.cell? ⟨g,o,none⟩:=by
 simp only [World.cell?,Lib.alloc_old w x g h]
set_option maxRecDepth 100000 in
set_option maxHeartbeats 2000000 in
theorem Kv (b:Nat)(w:World)(h0:w.cell? ⟨b,0,none⟩=some (.pointer (some ⟨b,0,none⟩))) :
  Calls Tryz.prog 67 #[.pointer (some ⟨b,0,none⟩)] w fun e w'=>e=.returned (.tuple #[])∧w'=w:=by
 obtain ⟨j,hj,_⟩:=Option.map_eq_some_iff.1 MO
 go_enter Tryz.func67,Tryz.ntmps67
 go_wp2
 rw [Lib.run_neq_ptr_same w _ Tryz.underlying82 hj]
 go_wp2
 go_end0
 exact ⟨rfl,rfl⟩
set_option maxRecDepth 100000 in
set_option maxHeartbeats 2000000 in
theorem U2 (T n b:Nat)(hn:0 < n)(b_lies:liesAt Tryz.prog Tryz.prog.depth T (n / Tryz.prog.cellsOf T) 0 85 1=true)(w:World)(h0:w.cell? ⟨b,0,none⟩=some (.pointer none))(hsh:w.shape? b=some (T,n))(hfz:w.frozen? ⟨b,0,none⟩=false) :
  Calls Tryz.prog 67 #[.pointer (some ⟨b,0,none⟩)] w fun e w'=>e=.returned (.tuple #[])∧w'=w.setCell ⟨b,0,none⟩ (.pointer (some ⟨b,0,none⟩)):=by
 obtain ⟨j,hj,hjs⟩:=Option.map_eq_some_iff.1 MO
 go_enter Tryz.func67,Tryz.ntmps67
 go_wp2
 rw [Lib.run_to_unsafe w ⟨b,0,none⟩ Tryz.underlying82 Tryz.underlying160 hj (by rw [hjs]; decide) hsh hn]
 simp only [Result.andThen]
 rw [Oper.upon_value]
 go_wp2
 rw [run_callFunc_extern Tryz.func96 (by kernel_rfl) (by kernel_rfl) (by kernel_rfl) (e := Extern.AbiNoEscape.same) (by kernel_rfl)]
 rw [Lib.run_noEscape]
 simp only [Result.andThen]
 rw [Oper.upon_value]
 go_wp2
 rw [Lib.run_from_unsafe w ⟨b,0,none⟩ Tryz.underlying160 Tryz.underlying82 hj hsh b_lies]
 simp only [Result.andThen]
 rw [Oper.upon_value]
 go_wp2
 go_end0
 exact ⟨rfl,rfl⟩
set_option maxHeartbeats 2000000 in
set_option maxRecDepth 100000 in
theorem I8 (b g:Nat)(l:List UInt8)(cap:Nat)(cur:Array Value)(e:TypeId)(w:World)(h0:l≠[])(hb:w.cell? ⟨b,1,none⟩=some (.slice (some ⟨g,0,none⟩) l.length cap))(hg:w.heap[g]? = some (.cells cur e (0,0)))(he:e=5)
  (hcap:l.length≤cap) (hm:cap≤maxLen) (hcs:cur.size=cap) (hl:∀ (j:Nat) (x:UInt8),l[j]? = some x→cur[j]? = some (.int .u8 x.toNat)) :
  Calls Tryz.prog 39 #[.pointer (some ⟨b,0,none⟩)] w fun e w'=>e=.returned (.string ⟨l.toArray⟩)∧Xk g w w'∧∀ o,w'.cell? ⟨g,o,none⟩=w.cell? ⟨g,o,none⟩:=by
 subst he
 have hl0:l.length≠0:=by simpa using h0
 have c1:w.drew.cell? ⟨b,1,none⟩=some (.slice (some ⟨g,0,none⟩) l.length cap):=hb
 have hSD:(Builtin.unsafeSliceData_ #[83] 138 #[.slice (some ⟨g,0,none⟩) l.length cap]).run Tryz.prog w.drew=.ok (.pointer (some ⟨g,0,none⟩)) w.drew :=
  Lib.run_unsafeSliceData_row _ _ _ _ _ _ (by omega)
 have hUS:(Builtin.unsafeString_ #[138,3] 9 #[.pointer (some ⟨g,0,none⟩),.int .i64 l.length]).run Tryz.prog w.drew=.ok (.string ⟨l.toArray⟩) (w.drew.freeze ⟨g,0,none⟩ l.length):=by
  refine Lib.run_unsafeString_row w.drew 138 3 9 5 Tryz.underlying138 Ku g cur.size (by have hg':w.drew.heap[g]? = some (.cells cur 5 (0,0)):=hg; simp [World.shape?,hg']) l h0 (by omega) (by unfold maxLen at hm; omega) ?_
  intro j x hx
  have hg':w.drew.heap[g]? = some (.cells cur 5 (0,0)):=hg
  have ha:(⟨g,0,none⟩:Addr).add j=⟨g,j,none⟩:=by simp [Addr.add]; intro h; exact h.symm
  rw [ha,Lib.cell_of_heap hg',hl j x hx]
 have mixed:=Vu
 go_enter Tryz.func39,Tryz.ntmps39
 go_wp2
 go_region_o
 all_goals (go_wp2; go_ret; exact ⟨rfl,(Xk.freeze g l.length w.drew).fromDrew,fun o=>KE g l.length o w.drew⟩)
set_option maxHeartbeats 2000000 in
set_option maxRecDepth 100000 in
theorem U3 (b g:Nat)(w:World)(hb:w.cell? ⟨b,1,none⟩=some (.slice none 0 0)) :
  Calls Tryz.prog 39 #[.pointer (some ⟨b,0,none⟩)] w fun e w'=>e=.returned (.string ⟨#[]⟩)∧Xk g w w'∧∀ o,w'.cell? ⟨g,o,none⟩=w.cell? ⟨g,o,none⟩:=by
 have hUS:∀ (W:World) (q:Option Addr),(Builtin.unsafeString_ #[138,3] 9 #[.pointer q,.int .i64 0]).run Tryz.prog W=.ok (.string .empty) W:=fun W q=>Lib.run_unsafeString_none W _ _ _ q
 have c1:w.drew.cell? ⟨b,1,none⟩=some (.slice none 0 0):=hb
 have hSD:(Builtin.unsafeSliceData_ #[83] 138 #[.slice none 0 0]).run Tryz.prog w.drew=.ok (.pointer none) w.drew:=rfl
 have mixed:=Vu
 go_enter Tryz.func39,Tryz.ntmps39
 go_wp2
 go_region_o
 all_goals (go_wp2; go_ret; exact ⟨rfl,(Xk.refl g w).drew,fun o=>rfl⟩)
set_option maxHeartbeats 2000000 in
set_option maxRecDepth 100000 in
theorem U4 (b g:Nat)(cur:Array Value)(e:TypeId)(w:World)(hb:w.cell? ⟨b,1,none⟩=some (.slice (some ⟨g,0,none⟩) 0 0))(hg:w.heap[g]? = some (.cells cur e (0,0)))(he:e=5) :
  Calls Tryz.prog 39 #[.pointer (some ⟨b,0,none⟩)] w fun e w'=>e=.returned (.string ⟨#[]⟩)∧Xk g w w'∧∀ o,w'.cell? ⟨g,o,none⟩=w.cell? ⟨g,o,none⟩:=by
 subst he
 have hUS:∀ (W:World) (q:Option Addr),(Builtin.unsafeString_ #[138,3] 9 #[.pointer q,.int .i64 0]).run Tryz.prog W=.ok (.string .empty) W:=fun W q=>Lib.run_unsafeString_none W _ _ _ q
 have hlt:b < w.heap.size:=World.block_lt_of_cell? w _ hb
 have hgl:g < w.heap.size:=(Array.getElem?_eq_some_iff.1 hg).1
 have c1:w.drew.cell? ⟨b,1,none⟩=some (.slice (some ⟨g,0,none⟩) 0 0):=hb
 have hSD:(Builtin.unsafeSliceData_ #[83] 138 #[.slice (some ⟨g,0,none⟩) 0 0]).run Tryz.prog w.drew=.ok (.pointer (some ⟨w.drew.heap.size,0,none⟩)) (w.drew.alloc (.view ⟨g,0,none⟩ 5)) :=
  Lib.run_unsafeSliceData_zero w.drew _ _ 5 Tryz.underlying138 ⟨g,0,none⟩ 0 (5,cur.size) (by have hg':w.drew.heap[g]? = some (.cells cur 5 (0,0)):=hg; simp [World.shape?,hg'])
 have c2:(w.drew.alloc (.view ⟨g,0,none⟩ 5)).cell? ⟨b,1,none⟩=some (.slice (some ⟨g,0,none⟩) 0 0):=by
  rw [← c1]; simp only [World.cell?]; rw [Lib.alloc_old w.drew _ b hlt]
 have c3:(w.alloc (.view ⟨g,0,none⟩ 5)).drew.cell? ⟨b,1,none⟩=some (.slice (some ⟨g,0,none⟩) 0 0):=c2
 have c0:w.cell? ⟨b,1,none⟩=some (.slice (some ⟨g,0,none⟩) 0 0):=c1
 have mixed:=Vu
 go_enter Tryz.func39,Tryz.ntmps39
 go_wp2
 go_region_o
 all_goals (go_wp2; go_ret; exact ⟨rfl,(Xk.alloc g w _).drew,fun o=>H9 w _ g o hgl⟩)
set_option maxHeartbeats 2000000 in
set_option maxRecDepth 100000 in
theorem HY (b g cap:Nat)(w:World)(hc0:cap≠0)(hb:w.cell? ⟨b,1,none⟩=some (.slice (some ⟨g,0,none⟩) 0 cap)) :
  Calls Tryz.prog 39 #[.pointer (some ⟨b,0,none⟩)] w fun e w'=>e=.returned (.string ⟨#[]⟩)∧Xk g w w'∧∀ o,w'.cell? ⟨g,o,none⟩=w.cell? ⟨g,o,none⟩:=by
 have hUS:∀ (W:World) (q:Option Addr),(Builtin.unsafeString_ #[138,3] 9 #[.pointer q,.int .i64 0]).run Tryz.prog W=.ok (.string .empty) W:=fun W q=>Lib.run_unsafeString_none W _ _ _ q
 have c1:w.drew.cell? ⟨b,1,none⟩=some (.slice (some ⟨g,0,none⟩) 0 cap):=hb
 have hSD:(Builtin.unsafeSliceData_ #[83] 138 #[.slice (some ⟨g,0,none⟩) 0 cap]).run Tryz.prog w.drew=.ok (.pointer (some ⟨g,0,none⟩)) w.drew :=
  Lib.run_unsafeSliceData_row _ _ _ _ _ _ hc0
 clear hc0
 have mixed:=Vu
 go_enter Tryz.func39,Tryz.ntmps39
 go_wp2
 go_region_o
 all_goals (go_wp2; go_ret; exact ⟨rfl,(Xk.refl g w).drew,fun o=>rfl⟩)
def Room (b:Nat)(w w':World):Prop:=Xk b w w'∧∃ v,w'.heap[b]? = some (.cells #[.pointer (some ⟨b,0,none⟩),v] 85 (0,0)) ∧
 (v=.slice none 0 0∨∃ g cs,v=.slice (some ⟨g,0,none⟩) 0 cs.size∧w.heap.size≤g∧w'.heap[g]? = some (.cells cs 5 (0,0))∧cs.size≤maxLen)
theorem Room.drew {b:Nat}{w w':World}(h:Room b w w'):Room b w w'.drew:=⟨h.1.drew,h.2⟩
theorem Room.fromDrew {b:Nat}{w w':World}(h:Room b w.drew w'):Room b w w':=⟨h.1.fromDrew,h.2⟩
end Go.Proofs.YtcfjcimhjmpkiaaGreatDoor
end
section
namespace Go.Proofs.YtcfjcimhjmpkiaaGreatDoor
open Go.RowKit
theorem Oy {w:World}{b:Nat}{v:Value}{n:Nat}{xs:List Value}(h:w.ownsRow b 5 1 v n xs):w.ownsRow 0 5 1 v n xs:=by
 refine ⟨h.1,h.2.imp id ?_⟩
 rintro ⟨g,cap,cur,h1,_,h2⟩
 exact ⟨g,cap,cur,h1,Nat.zero_le _,h2⟩
def Bo (w w':World)(v v':Value):Prop:=v'.ownBlock=v.ownBlock∨∃ g,v'.ownBlock=some g∧w.heap.size≤g∧∀ k,k < w.heap.size→w'.heap[k]? = w.heap[k]?
def Bq (b:Nat)(w w':World)(v v':Value):Prop:=v'.ownBlock=v.ownBlock∨∃ g,v'.ownBlock=some g∧w.heap.size≤g∧∀ k,k < w.heap.size→k≠b→w'.heap[k]? = w.heap[k]?
theorem Iw (w:World)(ty:TypeId)(v:Value)(l:List UInt8)(s:ByteArray)(hown:w.ownsRow 0 5 1 v l.length (Lib.byteCells l))(hb:l.length + s.size≤140737488355328) :
  ∃ v' w',(Builtin.append_ #[83,9] ty #[v,.string s]).run Tryz.prog w=.ok v' w'∧w'.ownsRow 0 5 1 v' (l.length + s.size) (Lib.byteCells l ++ Lib.strCells s)∧w.grownBy w' v.ownBlock∧Bo w w' v v':=by
 obtain ⟨i,hi,h⟩:=Option.map_eq_some_iff.1 BA
 have hz:i.zero=some (.int .u8 0):=congrArg (·.1) h
 have hs:i.size=1:=congrArg (·.2.1) h
 have hy:i.bytes=1:=congrArg (·.2.2) h
 have hl:(Lib.byteCells l).length=l.length:=Lib.byteCells_length l
 rcases hown.2 with ⟨rfl,h0⟩ | ⟨g,cap,cur,rfl,hbg,hg,hnc,hcm,hcs,htake⟩
 ·obtain ⟨v',w',h1,h2,h3,h4⟩:=Lib.run_append_own_string (P := Tryz.prog) w w.heap.size 83 9 ty 5 i Tryz.underlying83 Tryz.underlying9 hi hz hs hy (.slice none 0 0) l.length (Lib.byteCells l) ⟨hown.1,.inl ⟨rfl,h0⟩⟩ s (by unfold maxLen; omega) hb (Nat.le_refl _)
  refine ⟨v',w',h1,Oy h2,h3,?_⟩
  rcases h2.2 with ⟨rfl,_⟩ | ⟨g,_,_,rfl,hb,_⟩
  ·exact .inl rfl
  ·exact .inr ⟨g,rfl,hb,fun k hk=>h3.block k hk (by simp [Value.ownBlock])⟩
 ·obtain ⟨v',w',h1,h2,h3,h4⟩:=Lib.run_append_own_string (P := Tryz.prog) w 0 83 9 ty 5 i Tryz.underlying83 Tryz.underlying9 hi hz hs hy _ l.length (Lib.byteCells l) hown s (by unfold maxLen; omega) hb (Nat.zero_le _)
  refine ⟨v',w',h1,h2,h3,?_⟩
  by_cases hroom:l.length + s.size≤cap
  ·have hr:=Lib.run_append_room_string (P := Tryz.prog) w 83 9 ty 5 i Tryz.underlying83 Tryz.underlying9 hi hs g l.length cap cur hg s hroom (by omega)
   rw [hr] at h1; cases h1; exact .inl rfl
  ·have holds:∀ j u,(Lib.byteCells l)[j]? = some u→w.cell? ((⟨g,0,none⟩:Addr).add j)=some u:=hown.cells (g := g) rfl
   have hr:=Lib.run_append_grow_string (P := Tryz.prog) w 83 9 ty 5 i (.int .u8 0) Tryz.underlying83 Tryz.underlying9 hi hz ⟨g,0,none⟩ l.length cap (Lib.byteCells l) (by rw [hs]; omega) holds s (by omega) (by omega) (by rw [hy]; exact growslice_fits (by omega) (by omega))
   rw [hr] at h1; cases h1; exact .inr ⟨_,rfl,Nat.le_refl _,fun k hk=>heap_alloc_old w.drew _ hk⟩
theorem Dz {ops:Array Oper}{rest:List Oper}{o:Oper}{a:Act}{w:World}{Q:Exit→Act→World→Prop}(hgd:o.guard=none)(sl x:Operand)
  (ho:o.op=.call { callee := .builtin .append,args := #[sl,x],argTypes := #[83,9] }) (v:Value) (l:List UInt8) (hs:a.eval sl=v) (hown:w.ownsRow 0 5 1 v l.length (Lib.byteCells l)) (s:ByteArray) (hx:a.eval x=.string s)
  (hb:l.length + s.size≤140737488355328)
  (h:∀ v' w',w'.ownsRow 0 5 1 v' (l.length + s.size) (Lib.byteCells l ++ Lib.strCells s)→w.grownBy w' v.ownBlock→Bo w w' v v'→wpList Tryz.prog ops Q rest (a.put o.dst v') w'):wpList Tryz.prog ops Q (o :: rest) a w:=by
 refine wpList_plain hgd fun K hK=>?_
 obtain ⟨v',w',hr,h2,h3,h4⟩:=Iw w o.type v l s hown hb
 unfold Oper.wp execOp
 simp only [ho,resolve,invoke,builtin,Sem.run_bind,Sem.run_pure,Result.andThen_ok,List.map_toArray,List.map_cons,List.map_nil,hs,hx,hr]
 exact hK _ _ (h v' w' h2 h3 h4)
theorem BD (b:Nat)(p v:Value)(m:List Value)(t:Nat)(w:World)(hT:Ko t (m.length + 2)=true)(hp:p=.pointer none∨p=.pointer (some ⟨b,0,none⟩))(hb:w.heap[b]? = some (.cells (p :: v :: m).toArray t (0,0))) :
  Calls Tryz.prog 67 #[.pointer (some ⟨b,0,none⟩)] w fun e w'=>e=.returned (.tuple #[])∧Xk b w w'∧w'.heap.size=w.heap.size∧w'.heap[b]? = some (.cells (.pointer (some ⟨b,0,none⟩) :: v :: m).toArray t (0,0)):=by
 rcases hp with rfl | rfl
 ·refine (U2 t (m.length + 2) b (by omega) (Ro hT).2 w (by rw [Lib.cell_of_heap hb]; simp) (by simp [World.shape?,hb]) (Lib.frozen_of_heap hb 0)).mono ?_
  rintro e w' ⟨rfl,rfl⟩
  exact ⟨rfl,Xk.setCell b w 0 _,by simp [World.setCell],by simp [World.setCell,Array.getElem?_modify,hb]⟩
 ·refine (Kv b w (by rw [Lib.cell_of_heap hb]; simp)).mono ?_
  rintro e w' ⟨rfl,rfl⟩
  exact ⟨rfl,.refl b w',rfl,hb⟩
structure Wrote (b:Nat)(v:Value)(l:List UInt8)(m:List Value)(t:Nat)(w w':World):Prop where
 os:w'.os=w.os
 tape:w'.tape=w.tape
 output:w'.output=w.output
 size:w.heap.size≤w'.heap.size
 same:∀ k,k < w.heap.size→k≠b→some k≠v.ownBlock→w'.heap[k]? = w.heap[k]?
 row:∃ v',w'.heap[b]? = some (.cells (.pointer (some ⟨b,0,none⟩) :: v' :: m).toArray t (0,0))∧w'.ownsRow 0 5 1 v' l.length (Lib.byteCells l)∧Bq b w w' v v'
set_option maxRecDepth 1000000 in
set_option maxHeartbeats 2000000 in
theorem PV (b:Nat)(p v:Value)(l s:List UInt8)(m:List Value)(t:Nat)(w:World)(hT:Ko t (m.length + 2)=true)(hp:p=.pointer none∨p=.pointer (some ⟨b,0,none⟩))(hb:w.heap[b]? = some (.cells (p :: v :: m).toArray t (0,0)))(hown:w.ownsRow 0 5 1 v l.length (Lib.byteCells l))(hne:v.ownBlock≠some b)(hl:l.length + s.length≤140737488355328) :
  Calls Tryz.prog 37 #[.pointer (some ⟨b,0,none⟩),.string ⟨s.toArray⟩] w fun e w'=>e=.returned (.tuple #[.int .i64 s.length,.nilIface])∧Wrote b v (l ++ s) m t w w':=by
 have mixed:=Vu
 have hsz:(⟨s.toArray⟩:ByteArray).size=s.length:=by simp [ByteArray.size]
 have hsc:Lib.strCells ⟨s.toArray⟩=Lib.byteCells s:=rfl
 go_enter Tryz.func37,Tryz.ntmps37
 go_wp2_with (go_at_call 67; refine (BD b p v m t w hT hp hb).mono ?_)
 rintro e w1 ⟨rfl,h1,h2,hbk⟩
 have c0:w1.cell? ⟨b,0,none⟩=some (.pointer (some ⟨b,0,none⟩)):=by rw [Lib.cell_of_heap hbk]; simp
 have c1:w1.cell? ⟨b,1,none⟩=some v:=by rw [Lib.cell_of_heap hbk]; simp
 have hown1:w1.ownsRow 0 5 1 v l.length (Lib.byteCells l):=by
  refine ⟨hown.1,hown.2.imp id ?_⟩
  rintro ⟨g,cap,cur,rfl,h3,h4,h5⟩
  refine ⟨g,cap,cur,rfl,h3,?_,h5⟩
  rw [h1.same g (by rcases Nat.lt_or_ge g w.heap.size with h' | h'; exact h'; rw [Array.getElem?_eq_none h'] at h4; cases h4) (fun e=>hne (by rw [e]; rfl))]
  exact h4
 go_wp2_with (at_builtin; refine Dz rfl _ _ rfl _ l rfl hown1 ⟨s.toArray⟩ rfl (by rw [hsz]; exact hl) ?_)
 intro v' w2 hown' hgrow hfr
 have hlt:b < w1.heap.size:=by
  rcases Nat.lt_or_ge b w1.heap.size with h' | h'
  ·exact h'
  ·rw [Array.getElem?_eq_none h'] at hbk; cases hbk
 have hb2:w2.heap[b]? = some (.cells (.pointer (some ⟨b,0,none⟩) :: v :: m).toArray t (0,0)):=by
  rw [hgrow.block b hlt (fun e=>hne e.symm)]
  exact hbk
 have d0:w2.cell? ⟨b,0,none⟩=some (.pointer (some ⟨b,0,none⟩)):=by rw [Lib.cell_of_heap hb2]; simp
 have d1:w2.cell? ⟨b,1,none⟩=some v:=by rw [Lib.cell_of_heap hb2]; simp
 have f1:w2.frozen? ⟨b,1,none⟩=false:=Lib.frozen_of_heap hb2 1
 have hnb:v'.ownBlock≠some b:=by
  rcases hfr with e | ⟨g,e,hg,hk⟩
  ·rw [e]; exact hne
  ·rw [e]; intro h; cases h; omega
 have fin:Wrote b v (l ++ s) m t w (w2.setCell ⟨b,1,none⟩ v'):=by
  refine ⟨hgrow.os.trans h1.os,hgrow.tape.trans h1.tape,hgrow.output.trans h1.output,?_,fun k hk hkb hkv=>?_,v',?_,?_,?_⟩
  ·have:=hgrow.size; have:=h1.size; simp only [World.setCell,Array.size_modify]; omega
  ·rw [Below.heap_setCell _ _ _ _ hkb,hgrow.block k (by omega) hkv,h1.same k hk hkb]
  ·simp [World.setCell,Array.getElem?_modify,hb2]
  ·rw [List.length_append,Lib.byteCells_append,← hsz,← hsc]
   refine ⟨hown'.1,hown'.2.imp id ?_⟩
   rintro ⟨g,cap,cur,rfl,h3,h4,h5⟩
   refine ⟨g,cap,cur,rfl,h3,?_,h5⟩
   rw [Below.heap_setCell _ _ _ _ (fun e=>hnb (congrArg some e:some g=some b))]
   exact h4
  ·rcases hfr with e | ⟨g,e,hg,hk⟩
   ·exact .inl e
   ·exact .inr ⟨g,e,by omega,fun k hk1 hk2=>by rw [Below.heap_setCell _ _ _ _ hk2,hk k (by omega),h1.same k hk1 hk2]⟩
 obtain ⟨ao,n',cap,rfl⟩:∃ ao n' cap,v'=.slice ao n' cap:=by
  rcases hown'.2 with ⟨hv,_⟩ | ⟨g,cap,cur,hv,_⟩
  ·exact ⟨_,_,_,hv⟩
  ·exact ⟨_,_,_,hv⟩
 go_wp2
 go_ret2
 exact ⟨rfl,fin⟩
end Go.Proofs.YtcfjcimhjmpkiaaGreatDoor
end
section
namespace Go.Proofs.YtcfjcimhjmpkiaaGreatDoor.Abs
open Go Go.RowKit
def I5 (o:Option AObj):Option (List UInt8×TypeId×List AV):=match o with
 | some (.cells (.nilp :: .nils 1 :: m) t)=>if Ko t (m.length + 2)=true∧m.all AV.flat1=true then some ([],t,m) else none
 | some (.buf l t e m)=>if Ko t (m.length + 2)=true∧e=5 then some (l,t,m) else none
 | _=>none
def NZ (f:FuncId)(args:List AV)(hp:List AObj):Option (AV×List AObj×Eff) :=
 if f=37 then match args with
  | [.ptr p 0,.str s]=>match I5 hp[p]? with
   | some (l,t,m)=>if l.length + s.length≤140737488355328 then some (.tup [.int .i64 s.length,.nili],hp.set p (.buf (l ++ s) t 5 m),some (p,0)) else none
   | none=>none
  | _=>none
 else none
section
variable {W0 w:World}{Γ:Ghost}{hp:List AObj}
theorem inv0 (hr:RW W0 Γ w hp)(ht:Tidy Γ hp.length):Inv ⟨W0,Γ,w⟩ ⟨[],hp,none,hp.length⟩ Γ { tmps := #[],defers := [] } w :=
 ⟨rfl,⟨rfl,fun t y hy=>by simp at hy,fun t y hy=>by simp at hy⟩,hr,.refl _ _ _,fun b g hb=>hr.lt b g hb,fun b m g i hb=>ht.cell b m g i hb,Nat.le_refl _,fun _ _ hb _=>hb⟩
theorem P7 {s:AState}{Γ':Ghost}{a:Act}{w':World}{v:AV}{cv:Value}(h:Inv ⟨W0,Γ,w⟩ s Γ' a w')(hb:s.bs=hp.length)(hr:Rep Γ' w' v cv)(ho:∀ k r,v≠.own k r) :
  ∃ Γ',RW W0 Γ' w' s.hp∧Rep Γ' w' v cv∧OwnAt Γ' w' .res v cv∧Frame Γ w Γ' w' s.ef∧hp.length≤s.hp.length∧∀ b g,Γ' b=.own g→g < hp.length→Γ b=.own g :=
 ⟨Γ',h.rw,hr,.of_ne ho,h.fr,by rw [← hb]; exact h.le,fun b g h1 h2=>h.back b g h1 (by rw [hb]; exact h2)⟩
theorem P6 {sl:List AV}{h:List AObj}{p:Nat}(h0:p < hp.length):AState.note ⟨sl,h,none,hp.length⟩ p 0=some (p,0):=by
 unfold AState.note
 rw [if_pos h0]; rfl
theorem Uh {xs:Array Value}{p:Nat}(h:Rep Γ w (.ptr p 0) (xs.getD 0 Go.undef)):∃ b,Γ b=.own p∧xs.getD 0 Go.undef=.pointer (some ⟨b,0,none⟩):=by
 generalize xs.getD 0 Go.undef=u at h
 cases h with
 | ptr _ _ b hb=>exact ⟨b,hb,rfl⟩
theorem MI {xs:Array Value}{a b:Value}(hs:xs.size=2)(h0:xs.getD 0 Go.undef=a)(h1:xs.getD 1 Go.undef=b):xs=#[a,b]:=by
 refine Array.ext (by simpa using hs) fun i h2 h3=>?_
 have:i=0∨i=1:=by simp at h3; omega
 rcases this with rfl | rfl
 ·rw [Array.getD_eq_getD_getElem?,Array.getElem?_eq_getElem h2] at h0; simpa using h0
 ·rw [Array.getD_eq_getD_getElem?,Array.getElem?_eq_getElem h2] at h1; simpa using h1
theorem Ie {m:List AV}{C:Array Value}{k:Nat}(hs:C.size=k + m.length)(h:∀ (i:Nat) (c:AV),m[i]? = some c→C.getD (k + i) Go.undef=c.conc1):C.toList.drop k=m.map AV.conc1:=by
 refine List.ext_getElem? fun i=>?_
 rw [List.getElem?_drop,Array.getElem?_toList,List.getElem?_map]
 rcases Nat.lt_or_ge i m.length with hi | hi
 ·have:=h i _ (List.getElem?_eq_getElem hi)
  rw [List.getElem?_eq_getElem hi]
  rw [getD_of_lt (by omega),this]; rfl
 ·rw [Array.getElem?_eq_none (by omega),List.getElem?_eq_none hi]; rfl
theorem MJ {C:Array Value}{m:List AV}{a b:Value}(hs:C.size=m.length + 2)(h0:C.getD 0 Go.undef=a)(h1:C.getD 1 Go.undef=b)(h:∀ (i:Nat) (c:AV),m[i]? = some c→C.getD (2 + i) Go.undef=c.conc1):C=(a :: b :: m.map AV.conc1).toArray:=by
 have hd:=Ie (k := 2) (by omega) h
 apply Array.toList_inj.1
 obtain ⟨l⟩:=C
 match l,hs,h0,h1,hd with
 | x :: y :: z,_,h0,h1,hd =>
  simp at h0 h1 hd
  subst h0 h1 hd
  rfl
theorem I7 (hr:RW W0 Γ w hp){p b:Nat}{l:List UInt8}{t:TypeId}{m:List AV}(hb:Γ b=.own p)(h:I5 hp[p]? = some (l,t,m)) :
  p < hp.length∧Ko t (m.length + 2)=true∧m.all AV.flat1=true∧∃ pv v,w.heap[b]? = some (.cells (pv :: v :: m.map AV.conc1).toArray t (0,0))∧(pv=.pointer none∨pv=.pointer (some ⟨b,0,none⟩))∧w.ownsRow 0 5 1 v l.length (Lib.byteCells l)∧∀ k,v.ownBlock=some k→Γ k=.list l.length (.cell p 1):=by
 unfold I5 at h
 split at h <;> first | (cases h; done) | skip
 ·rename_i m' t' hg
  split at h <;> cases h
  rename_i ht
  obtain ⟨hT,hm⟩:=ht
  obtain ⟨b',C,h1,h2,h3,h4⟩:=hr.objs p _ hg
  obtain rfl:=hr.inj b b' p hb h1
  have c0:C.getD 0 Go.undef=.pointer none:=by
   have:=(h4 0 .nilp rfl).2.1
   generalize C.getD 0 Go.undef=u at this
   cases this; rfl
  have c1:C.getD 1 Go.undef=.slice none 0 0:=by
   have:=(h4 1 (.nils 1) rfl).2.1
   generalize C.getD 1 Go.undef=u at this
   cases this; rfl
  obtain rfl:=MJ (m := m) (by rw [h3]; rfl) c0 c1 fun i c hc=>by
   have:=(h4 (2 + i) c (by rw [Nat.add_comm]; exact hc)).2.1
   exact this.conc1 (List.all_eq_true.1 hm c (List.mem_of_getElem? hc))
  exact ⟨Zc hg,hT,hm,_,_,h2,.inl rfl,⟨rfl,.inl ⟨rfl,rfl⟩⟩,fun k hk=>by cases hk⟩
 ·rename_i l' t' e m' hg
  split at h <;> cases h
  rename_i ht
  obtain ⟨hT,rfl⟩:=ht
  obtain ⟨b',C,h1,h2,hm,h3⟩:=hr.objs p _ hg
  obtain rfl:=hr.inj b b' p hb h1
  refine ⟨Zc hg,hT,hm,?_⟩
  rcases h3 with ⟨rfl,rfl | rfl⟩ | ⟨k,cap,cur,rfl,h4,h5,h6,h7,h8,h9⟩
  ·exact ⟨_,_,h2,.inl rfl,⟨rfl,.inl ⟨rfl,rfl⟩⟩,fun k hk=>by cases hk⟩
  ·exact ⟨_,_,h2,.inr rfl,⟨rfl,.inl ⟨rfl,rfl⟩⟩,fun k hk=>by cases hk⟩
  ·refine ⟨_,_,h2,.inr rfl,⟨by rw [Lib.byteCells_length]; omega,.inr ⟨k,cap,cur,rfl,Nat.zero_le _,h5,h6,h7,by omega,?_⟩⟩,fun k hk=>by cases hk; exact h4⟩
   refine List.ext_getElem? fun j=>?_
   by_cases hj:j < l.length
   ·rw [List.getElem?_take,if_pos (by omega),Array.getElem?_toList,h9 j _ (List.getElem?_eq_getElem hj)]
    simp [Lib.byteCells,hj]
   ·rw [List.getElem?_take,if_neg (by omega),List.getElem?_eq_none (by rw [Lib.byteCells_length]; omega)]
theorem Hm {w:World}{l:List UInt8}{g n cap:Nat}(h:w.ownsRow 0 5 1 (.slice (some ⟨g,0,none⟩) n cap) l.length (Lib.byteCells l)){j:Nat}{x:UInt8}(hj:l[j]? = some x):w.cell? ⟨g,j,none⟩=some (.int .u8 x.toNat):=by
 have:=World.ownsRow.cells h (g := g) rfl (j := j) (u := .int .u8 x.toNat) (by simp [Lib.byteCells,hj])
 have ha:(⟨g,0,none⟩:Addr).add j=⟨g,j,none⟩:=by simp [Addr.add]; intro h; exact h.symm
 rw [ha] at this; exact this
theorem OX (hr:RW W0 Γ w hp){p b:Nat}{w':World}{pv v:Value}{l s:List UInt8}{t:TypeId}{m:List AV}{r:AV}{cr:Value}(hm:m.all AV.flat1=true)(hb:Γ b=.own p)(hpl:p < hp.length)(hbk:w.heap[b]? = some (.cells (pv :: v :: m.map AV.conc1).toArray t (0,0)))
  (hown:w.ownsRow 0 5 1 v l.length (Lib.byteCells l)) (hG:∀ k,v.ownBlock=some k→Γ k=.list l.length (.cell p 1)) (hw:Wrote b v (l ++ s) (m.map AV.conc1) t w w') (hrr:∀ Γ' w',Rep Γ' w' r cr) (hrn:∀ k x,r≠.own k x) :
  ∃ Γ',RW W0 Γ' w' (hp.set p (.buf (l ++ s) t 5 m))∧Rep Γ' w' r cr∧OwnAt Γ' w' .res r cr∧Frame Γ w Γ' w' (some (p,0))∧hp.length≤(hp.set p (.buf (l ++ s) t 5 m)).length∧∀ b g,Γ' b=.own g→g < hp.length→Γ b=.own g:=by
 obtain ⟨v',hb',hown',hfr⟩:=hw.row
 have hblt:b < w.heap.size:=lt_of_some hbk
 have hvlt:∀ k,v.ownBlock=some k→k < w.heap.size:=fun k hk=>(hown.lt k hk).2
 have hvlt':∀ k,v'.ownBlock=some k→k < w'.heap.size:=fun k hk=>(hown'.lt k hk).2
 have hvb:∀ k,v.ownBlock=some k→k≠b:=fun k hk e=>by subst e; have:=hG k hk; rw [hb] at this; cases this
 let Γ':Ghost:=fun k=>if v'.ownBlock=some k then .list (l ++ s).length (.cell p 1) else if v.ownBlock=some k then .imm else Γ k
 have g1:∀ k,v'.ownBlock=some k→Γ' k=.list (l ++ s).length (.cell p 1):=fun k hk=>by simp only [Γ',if_pos hk]
 have g2:∀ k,v'.ownBlock≠some k→v.ownBlock=some k→Γ' k=.imm:=fun k hk hk2=>by simp only [Γ',if_neg hk,if_pos hk2]
 have g3:∀ k,v'.ownBlock≠some k→v.ownBlock≠some k→Γ' k=Γ k:=fun k hk hk2=>by simp only [Γ',if_neg hk,if_neg hk2]
 have hold:∀ k,k < w.heap.size→v.ownBlock≠some k→v'.ownBlock≠some k:=fun k hk hk2 e=>by
  rcases hfr with h | ⟨g,h,hg,_⟩
  ·exact hk2 (by rw [← h]; exact e)
  ·rw [h] at e; cases e; omega
 have hsame:∀ k,k < w.heap.size→k≠b→(v.ownBlock=some k→v'.ownBlock≠some k)→w'.heap[k]? = w.heap[k]?:=fun k hk hkb hk2=>by
  by_cases h:v.ownBlock=some k
  ·rcases hfr with h' | ⟨g,h',hg,hf⟩
   ·exact absurd (by rw [h']; exact h) (hk2 h)
   ·exact hf k hk hkb
  ·exact hw.same k hk hkb fun e=>h e.symm
 have gb:v'.ownBlock≠some b:=by
  rcases hfr with h | ⟨g,h,hg,_⟩
  ·rw [h]; exact fun e=>hvb b e rfl
  ·rw [h]; intro e; cases e; omega
 have gb2:Γ' b=.own p:=by rw [g3 b gb (fun e=>hvb b e rfl)]; exact hb
 have own1:∀ k g,Γ' k=.own g→Γ k=.own g:=fun k g h=>by
  by_cases h1:v'.ownBlock=some k
  ·rw [g1 k h1] at h; cases h
  ·by_cases h2:v.ownBlock=some k
   ·rw [g2 k h1 h2] at h; cases h
   ·rw [g3 k h1 h2] at h; exact h
 have st:Step Γ w Γ' w' fun k=>k=b∨v.ownBlock=some k:=by
  refine ⟨hw.os,hw.tape,hw.output,hw.size,fun k hk hx=>?_,fun k o y hf hc=>?_,fun k g hk=>?_⟩
  ·have hkb:k≠b:=fun e=>hx (.inl e)
   have hkv:v.ownBlock≠some k:=fun e=>hx (.inr e)
   exact ⟨g3 k (hold k hk hkv) hkv,hsame k hk hkb fun e=>absurd e hkv⟩
  ·have hklt:=lt_of_cell hc
   by_cases hkb:k=b
   ·subst hkb; unfold Fixed at hf; rw [hb] at hf; exact hf.elim
   by_cases h1:v'.ownBlock=some k
   ·have h2:v.ownBlock=some k:=by
     rcases hfr with h | ⟨g,h,hg,_⟩
     ·rw [← h]; exact h1
     ·rw [h] at h1; cases h1; omega
    unfold Fixed at hf ⊢
    rw [hG k h2] at hf
    rw [g1 k h1]
    refine ⟨Nat.lt_of_lt_of_le hf (by simp),?_⟩
    have hol:o < l.length:=hf
    cases v with
    | slice ad n cap =>
     cases v' with
     | slice ad' n' cap' =>
      cases ad with
      | none=>cases h2
      | some a =>
       cases ad' with
       | none=>cases h1
       | some a' =>
        rcases hown.2 with ⟨e,_⟩ | ⟨q,c1,c2,e,_⟩
        ·cases e
        cases e
        rcases hown'.2 with ⟨e,_⟩ | ⟨q',c1',c2',e,_⟩
        ·cases e
        cases e
        cases h1; cases h2
        have e1:=Hm hown (List.getElem?_eq_getElem hol)
        have e2:=Hm hown' (j := o) (x := l[o]) (by rw [List.getElem?_append_left hol]; exact List.getElem?_eq_getElem hol)
        rw [e1] at hc
        rw [e2]; exact hc
     | _=>cases h1
    | _=>cases h2
   ·have hs:=hsame k hklt hkb fun _=>h1
    refine ⟨?_,(cell_heap hs).trans hc⟩
    unfold Fixed at hf ⊢
    by_cases h2:v.ownBlock=some k
    ·rw [g2 k h1 h2]; trivial
    ·rw [g3 k h1 h2]; exact hf
  ·have h2:v.ownBlock≠some k:=fun e=>by rw [hG k e] at hk; cases hk
   have h1:v'.ownBlock≠some k:=by
    rcases Nat.lt_or_ge k w.heap.size with h | h
    ·exact hold k h h2
    ·rw [hr.fresh k h] at hk; cases hk
   rw [g3 k h1 h2]; exact hk
 have nimm:∀ k,(k=b∨v.ownBlock=some k)→Γ k≠.imm:=fun k hk e=>by
  rcases hk with rfl | hk
  ·rw [hb] at e; cases e
  ·rw [hG k hk] at e; cases e
 obtain ⟨o1,o2⟩:=below_step hr.old hr.oldImm st nimm
 refine ⟨Γ',⟨fun g o hg=>?_,fun b1 b2 g e1 e2=>hr.inj b1 b2 g (own1 _ _ e1) (own1 _ _ e2),fun k hk=>?_,fun k g hk=>by rw [List.length_set]; exact hr.lt k g (own1 k g hk),o1,o2,fun g hg k hk=>?_⟩,hrr _ _,.of_ne hrn,
  ⟨st.os,st.tape,st.output,st.size,st.fix,st.own,fun k hk hkp=>?_⟩,by simp,fun k g hk _=>own1 k g hk⟩
 ·by_cases hgp:g=p
  ·subst hgp
   rw [List.getElem?_set_self hpl] at hg
   cases hg
   refine ⟨b,_,gb2,hb',hm,?_⟩
   rcases hown'.2 with ⟨rfl,h0⟩ | ⟨q,cap,cur,rfl,_,h5,h6,h7,h8,h9⟩
   ·exact .inl ⟨List.eq_nil_of_length_eq_zero h0,.inr rfl⟩
   ·refine .inr ⟨q,cap,cur,rfl,g1 q rfl,h5,h6,h7,by omega,fun j x hj=>?_⟩
    have:=congrArg (fun z:List Value=>z[j]?) h9
    have hjl:=Zc hj
    simp only [List.getElem?_take] at this
    rw [if_pos (by omega),Array.getElem?_toList] at this
    rw [this]
    simp only [Lib.byteCells,List.getElem?_map,hj]; rfl
  ·rw [List.getElem?_set_ne (fun e=>hgp e.symm)] at hg
   refine (hr.objs g o hg).step st hr.fresh (fun k hk e=>?_) fun k n i hk e=>?_
   ·rcases hk with rfl | hk
    ·rw [hb] at e; cases e; exact hgp rfl
    ·rw [hG k hk] at e; cases e
   ·rcases hk with rfl | hk
    ·rw [hb] at e; cases e
    ·rw [hG k hk] at e; cases e; exact hgp rfl
 ·have h1:v'.ownBlock≠some k:=fun e=>by have:=hvlt' k e; omega
  have h2:v.ownBlock≠some k:=fun e=>by have:=hvlt k e; have:=hw.size; omega
  rw [g3 k h1 h2]; exact hr.fresh k (Nat.le_trans hw.size hk)
 ·by_cases hgp:g=p
  ·subst hgp; rw [List.getElem?_set_self hpl] at hg; cases hg
  ·rw [List.getElem?_set_ne (fun e=>hgp e.symm)] at hg
   exact hr.dead g hg k (own1 k g hk)
 ·refine st.same k hk fun hx=>?_
  rcases hx with rfl | hx
  ·rw [hb] at hkp; exact absurd (hkp p 0 rfl) (Nat.lt_irrefl _)
  ·rw [hG k hx] at hkp; exact absurd (hkp p 0 rfl) (Nat.lt_irrefl _)
theorem Gq {f:FuncId}{fn:Func}{c:Code}{xs:Array Value}{R:Value→World→Prop}(hf:Tryz.prog.funcs[f]? = some fn)(hn:(fn.name == "runtime.NumGoroutine")=false)(hb:fn.body=some c)
  (h:Calls Tryz.prog f xs w fun e w'=>∃ v,e=.returned v∧R v w'):Went Tryz.prog f xs w R:=went_of_calls hf hn hb h
end
theorem Lt (W0:World):CallSpec Tryz.prog W0 NZ:=by
 intro g args hp v hp' e hc Γ w xs hr ht hs hx
 unfold NZ at hc
 split at hc <;> first | (cases hc; done) | skip
 rename_i hf
 subst hf
 split at hc <;> first | (cases hc; done) | skip
 rename_i p s
 split at hc <;> first | (cases hc; done) | skip
 rename_i l t m hl
 split at hc <;> first | (cases hc; done) | skip
 rename_i hle
 cases hc
 obtain ⟨b,hb,h0⟩:=Uh (hx 0 _ rfl).1
 have h1:xs.getD 1 Go.undef=.string ⟨s.toArray⟩:=by
  have:=(hx 1 _ rfl).1
  generalize xs.getD 1 Go.undef=u at this
  cases this; rfl
 obtain rfl:=MI hs h0 h1
 obtain ⟨hpl,hT,hm,pv,v,k1,k2,k3,k4⟩:=I7 hr hb hl
 have hne:v.ownBlock≠some b:=fun e=>by have:=k4 b e; rw [hb] at this; cases this
 refine Gq Tryz.func37 (by kernel_rfl) rfl ((PV b pv v l s _ t w (by rw [List.length_map]; exact hT) k2 k1 k3 hne hle).mono ?_)
 rintro e w' ⟨rfl,hw⟩
 refine ⟨_,rfl,OX hr hm hb hpl k1 k3 k4 hw (fun Γ' w'=>.tup _ _ rfl fun j c hj=>?_) (fun _ _ h=>by cases h)⟩
 match j,hj with
 | 0,hj=>cases hj; exact .int _ _
 | 1,hj=>cases hj; exact .nili
theorem MG {W0 w:World}{Γ:Ghost}{hp:List AObj}{p b:Nat}{l:List UInt8}{c:AV}{t:TypeId}{m:List AV}(hr:RW W0 Γ w hp)(ht:Tidy Γ hp.length)(hb:Γ b=.own p)(hg:hp[p]? = some (.cells (c :: .own 1 (l.map byteRow) :: m) t))
  (typ:∀ k cur e0 cap n,w.cell? ⟨b,1,none⟩=some (.slice (some ⟨k,0,none⟩) n cap)→w.heap[k]? = some (.cells cur e0 (0,0))→e0=5) :
  Went Tryz.prog 39 #[.pointer (some ⟨b,0,none⟩)] w fun cv w'=>∃ Γ',RW W0 Γ' w' (hp.set p (.cells (c :: .lst 1 (l.map byteRow) :: m) t))∧Rep Γ' w' (.str l) cv∧OwnAt Γ' w' .res (.str l) cv∧Frame Γ w Γ' w' (some (p,0))∧hp.length≤(hp.set p (.cells (c :: .lst 1 (l.map byteRow) :: m) t)).length∧∀ b g,Γ' b=.own g→g < hp.length→Γ b=.own g:=by
 have hw:∀ {R:Value→World→Prop},Calls Tryz.prog 39 #[.pointer (some ⟨b,0,none⟩)] w (fun e w'=>∃ v,e=.returned v∧R v w')→Went Tryz.prog 39 #[.pointer (some ⟨b,0,none⟩)] w R:=fun h=>Gq Tryz.func39 (by kernel_rfl) rfl h
 obtain ⟨rows,hrows⟩:∃ r,l.map byteRow=r:=⟨_,rfl⟩
 have rl:rows.length=l.length:=by rw [← hrows]; simp
 have rg:∀ (j:Nat) (x:UInt8),l[j]? = some x→rows[j]? = some [.int .u8 x.toNat]:=fun j x hj=>by rw [← hrows,List.getElem?_map,hj]; rfl
 rw [hrows] at hg ⊢
 obtain ⟨b',C,h1,h2,h3,h4⟩:=hr.objs p _ hg
 obtain rfl:=hr.inj b b' p hb h1
 have hpl:p < hp.length:=Zc hg
 have hCs:C.size=m.length + 2:=by rw [h3]; rfl
 have hc1:w.cell? ⟨b,1,none⟩=some (C.getD 1 Go.undef):=by
  rw [Lib.cell_of_heap h2]; exact getD_of_lt (by omega)
 obtain ⟨_,q1,q2⟩:=h4 1 _ rfl
 have iL:=(inv0 hr ht).loose hg (off := 1) (v := .own 1 rows) rfl
 simp only at iL
 rw [P6 hpl] at iL
 have fin:∀ {g:Nat} {w':World},Xk g w w'→(∀ o,w'.cell? ⟨g,o,none⟩=w.cell? ⟨g,o,none⟩)→(w.heap.size≤g∨(∃ n,Γ g=.list n (.cell p 1))) →
   ∃ Γ',RW W0 Γ' w' (hp.set p (.cells (c :: .lst 1 rows :: m) t))∧Rep Γ' w' (.str l) (.string ⟨l.toArray⟩)∧OwnAt Γ' w' .res (.str l) (.string ⟨l.toArray⟩)∧Frame Γ w Γ' w' (some (p,0))∧hp.length≤(hp.set p (.cells (c :: .lst 1 rows :: m) t)).length∧∀ b g,Γ' b=.own g→g < hp.length→Γ b=.own g:=by
  intro g w' hsole hcell hk
  have st:Step (relab Γ (.cell p 1) (toLoc .res)) w (setG (relab Γ (.cell p 1) (toLoc .res)) g .imm) w' (· = g):=by
   refine ⟨hsole.os,hsole.tape,hsole.output,hsole.size,fun k hk hn=>⟨setG_other _ _ hn,hsole.same k hk hn⟩,fun k o y h1 h2=>?_,fun k g' hk'=>?_⟩
   ·by_cases hkg:k=g
    ·subst hkg
     exact ⟨by unfold Fixed; rw [setG_same]; trivial,(hcell o).trans h2⟩
    ·exact ⟨by unfold Fixed; rw [setG_other _ _ hkg]; exact h1,(cell_heap (hsole.same k (lt_of_cell h2) hkg)).trans h2⟩
   ·have:k≠g:=fun e=>by
     subst e
     have:=relab_own_inv toLoc_listF hk'
     rcases hk with hk | ⟨n,hk⟩
     ·rw [hr.fresh k hk] at this; cases this
     ·rw [hk] at this; cases this
    rw [setG_other _ _ this]; exact hk'
  rcases hk with hk | ⟨n,hk⟩
  ·
   have i2:=iL.plain (X := fun _=>False) (Γ':=relab Γ (.cell p 1) (toLoc .res)) (w':=w') ⟨hsole.os,hsole.tape,hsole.output,hsole.size,fun k hk' _=>⟨rfl,hsole.same k hk' (by omega)⟩,fun k o y h1 h2=>⟨h1,(cell_heap (hsole.same k (lt_of_cell h2) (by have:=lt_of_cell h2; omega))).trans h2⟩,.refl _⟩ (fun _ hx=>hx.elim) (fun _ _ h=>h) (fun k hk'=>relab_imm (hr.fresh k (Nat.le_trans hsole.size hk')))
   exact P7 (hp := hp) i2 rfl (v := .str l) (.str l) (by simp)
  ·have i2:=iL.plain st (fun k e=>⟨n,by rw [e]; exact relab_at hk⟩) (fun k g' hk'=>by
     by_cases hkg:k=g
     ·subst hkg; rw [setG_same] at hk'; cases hk'
     ·rw [setG_other _ _ hkg] at hk'; exact hk') (fun k hk'=>by
     by_cases hkg:k=g
     ·subst hkg; exact setG_same _ _ _
     ·rw [setG_other _ _ hkg]; exact relab_imm (hr.fresh k (Nat.le_trans hsole.size hk')))
   exact P7 (hp := hp) i2 rfl (v := .str l) (.str l) (by simp)
 rcases q2 1 rows rfl with ⟨e1,h0⟩ | ⟨g,cap,e0,cur,e1,hgm,hgh,g1,g2,g3,g4,g5⟩
 ·have:l=[]:=by rw [h0] at rl; exact List.eq_nil_of_length_eq_zero (by simpa using rl.symm)
  subst this
  rw [e1] at hc1
  refine hw ((U3 b w.heap.size w hc1).mono ?_)
  rintro e w' ⟨rfl,hsole,hcell⟩
  exact ⟨_,rfl,fin hsole hcell (.inl (Nat.le_refl _))⟩
 ·rw [e1] at hc1
  have hcell:∀ (j:Nat) (x:UInt8),l[j]? = some x→cur[j]? = some (.int .u8 x.toNat):=fun j x hj=>by
   have hrow:=rg j x hj
   obtain ⟨_,k2⟩:=g5 j 0 _ _ hrow rfl
   rw [Nat.mul_one,Nat.add_zero] at k2
   have hjl:j < cur.size:=by have:=Zc hj; rw [g3]; omega
   rw [getD_of_lt hjl]
   generalize cur.getD j Go.undef=u at k2
   cases k2; rfl
  have htyp:e0=5:=typ _ _ _ _ _ hc1 hgh
  rw [rl] at hc1
  by_cases hl0:l=[]
  ·subst hl0
   by_cases hcap:cap=0
   ·subst hcap
    refine hw ((U4 b g cur e0 w hc1 hgh htyp).mono ?_)
    rintro e w' ⟨rfl,hsole,hcell⟩
    exact ⟨_,rfl,fin hsole hcell (.inr ⟨_,hgm⟩)⟩
   ·refine hw ((HY b g cap w hcap hc1).mono ?_)
    rintro e w' ⟨rfl,hsole,hcell⟩
    exact ⟨_,rfl,fin hsole hcell (.inr ⟨_,hgm⟩)⟩
  ·refine hw ((I8 b g l cap cur e0 w hl0 hc1 hgh htyp (by omega) g2 (by rw [g3]; omega) hcell).mono ?_)
   rintro e w' ⟨rfl,hsole,hcell⟩
   exact ⟨_,rfl,fin hsole hcell (.inr ⟨_,hgm⟩)⟩
theorem buf_cells {W0 w:World}{Γ:Ghost}{hp:List AObj}{p b:Nat}{l:List UInt8}{t:TypeId}{m:List AV}(hr:RW W0 Γ w hp)(hb:Γ b=.own p)(hg:hp[p]? = some (.buf l t 5 m))(h1m:m.all AV.one=true)(hl:l≠[]) :
  RW W0 Γ w (hp.set p (.cells (.ptr p 0 :: .own 1 (l.map byteRow) :: m) t))∧∀ k cur e0 cap n,w.cell? ⟨b,1,none⟩=some (.slice (some ⟨k,0,none⟩) n cap)→w.heap[k]? = some (.cells cur e0 (0,0))→e0=5:=by
 have hpl:=Zc hg
 obtain ⟨b',C,h1,h2,hm,h3⟩:=hr.objs p _ hg
 obtain rfl:=hr.inj b b' p hb h1
 rcases h3 with ⟨h,_⟩ | ⟨k,cap,cur,rfl,h4,h5,h6,h7,h8,h9⟩
 ·exact absurd h hl
 refine ⟨⟨fun g o ho=>?_,hr.inj,hr.fresh,fun b g h=>by rw [List.length_set]; exact hr.lt b g h,hr.old,hr.oldImm,fun g ho=>?_⟩,fun k' cur' e0 cap' n hc hh=>?_⟩
 ·by_cases hgp:g=p
  ·subst hgp
   rw [List.getElem?_set_self hpl] at ho
   cases ho
   refine ⟨b,_,hb,h2,by simp,fun i c hc=>?_⟩
   match i,hc with
   | 0,hc=>cases hc; exact ⟨rfl,.ptr g 0 b hb,.of_ne (by simp)⟩
   | i + 2,hc =>
    have hf:=List.all_eq_true.1 hm c (List.mem_of_getElem? (show m[i]? = some c from hc))
    have hi:(m.map AV.conc1)[i]? = some c.conc1:=by rw [List.getElem?_map,show m[i]? = some c from hc]; rfl
    have hv:(Value.pointer (some ⟨b,0,none⟩) :: .slice (some ⟨k,0,none⟩) l.length cap :: m.map AV.conc1).toArray.getD (i + 2) Go.undef=c.conc1:=by
     rw [Array.getD_eq_getD_getElem?,List.getElem?_toArray,List.getElem?_cons_succ,List.getElem?_cons_succ,hi]; rfl
    rw [hv]
    exact ⟨List.all_eq_true.1 h1m c (List.mem_of_getElem? (show m[i]? = some c from hc)),conc1_rep hf _ _,.of_ne (flat1_own hf)⟩
   | 1,hc =>
    cases hc
    have hrow:∀ (i j:Nat) (r:List AV) (c:AV),(l.map byteRow)[i]? = some r→r[j]? = some c→c.noId1=true∧Rep Γ w c (cur.getD (i * 1 + j) Go.undef):=fun i j r c hi hj=>by
     rw [List.getElem?_map] at hi
     obtain ⟨x,hx,rfl⟩:=Option.map_eq_some_iff.1 hi
     match j,hj with
     | 0,hj =>
      cases hj
      refine ⟨rfl,?_⟩
      rw [Nat.mul_one,Nat.add_zero,Array.getD_eq_getD_getElem?,h9 i x hx]
      exact .int _ _
    have ho:OwnAt Γ w (.cell g 1) (.own 1 (l.map byteRow)) (.slice (some ⟨k,0,none⟩) l.length cap):=fun k' rows' e=>by
     cases e
     exact .inr ⟨k,cap,5,cur,by simp,by simpa using h4,h5,by simpa using h6,h7,by omega,fun r hr'=>by obtain ⟨x,_,rfl⟩:=List.mem_map.1 hr'; rfl,hrow⟩
    exact ⟨rfl,ho.rep,ho⟩
  ·rw [List.getElem?_set_ne (fun e=>hgp e.symm)] at ho
   exact hr.objs g o ho
 ·by_cases hgp:g=p
  ·subst hgp; rw [List.getElem?_set_self hpl] at ho; cases ho
  ·rw [List.getElem?_set_ne (fun e=>hgp e.symm)] at ho
   exact hr.dead g ho
 ·rw [Lib.cell_of_heap h2] at hc
  simp at hc
  obtain ⟨rfl,rfl,rfl⟩:=hc
  rw [h5] at hh; cases hh; rfl
def DN (f:FuncId)(args:List AV)(hp:List AObj):Option (AV×List AObj×Eff) :=
 if f=39 then match args with
  | [.ptr p 0]=>match hp[p]? with
   | some (.buf l t e m)=>if e=5∧m.all AV.one=true∧l≠[] then some (.str l,hp.set p (.cells (.ptr p 0 :: .lst 1 (l.map byteRow) :: m) t),some (p,0)) else none
   | _=>none
  | _=>none
 else none
theorem RU (W0:World):CallSpec Tryz.prog W0 DN:=by
 intro g args hp v hp' e hc Γ w xs hr ht hs hx
 unfold DN at hc
 split at hc <;> first | (cases hc; done) | skip
 rename_i hf
 subst hf
 split at hc <;> first | (cases hc; done) | skip
 rename_i p
 split at hc <;> first | (cases hc; done) | skip
 rename_i l t e0 m hg
 split at hc <;> first | (cases hc; done) | skip
 rename_i hle
 obtain ⟨rfl,h1m,hl⟩:=hle
 cases hc
 obtain ⟨b,hb,h0⟩:=Uh (hx 0 _ rfl).1
 have hxs:xs=#[.pointer (some ⟨b,0,none⟩)]:=by
  refine Array.ext (by simpa using hs) fun i h2 h3=>?_
  have:i=0:=by simp at h3; omega
  subst this
  rw [Array.getD_eq_getD_getElem?,Array.getElem?_eq_getElem h2] at h0; simpa using h0
 subst hxs
 obtain ⟨r1,typ⟩:=buf_cells hr hb hg h1m hl
 have hpl:=Zc hg
 have:=MG (l := l) (c := .ptr p 0) r1 (by rw [List.length_set]; exact ht) hb (List.getElem?_set_self hpl) typ
 rw [List.set_set,List.length_set] at this
 exact this
end Go.Proofs.YtcfjcimhjmpkiaaGreatDoor.Abs
end
section
namespace Go.Proofs.YtcfjcimhjmpkiaaGreatDoor.Abs
open Go Go.RowKit
def Ll (f:FuncId)(args:List AV)(hp:List AObj):Option (AV×List AObj×Eff) :=
 if f=39 then match args with
  | [.ptr p 0]=>match hp[p]? with
   | some (.cells (.nilp :: .nils 1 :: _) _)=>some (.str [],hp,none)
   | _=>DN f args hp
  | _=>none
 else none
theorem OJ (W0:World):CallSpec Tryz.prog W0 Ll:=by
 intro g args hp v hp' e hc Γ w xs hr ht hs hx
 unfold Ll at hc
 split at hc <;> first | (cases hc; done) | skip
 rename_i hf
 split at hc <;> first | (cases hc; done) | skip
 rename_i p
 split at hc
 ·rename_i m t hg
  cases hc
  subst hf
  obtain ⟨b,hb,h0⟩:=Uh (hx 0 _ rfl).1
  have hxs:xs=#[.pointer (some ⟨b,0,none⟩)]:=by
   refine Array.ext (by simpa using hs) fun i h2 h3=>?_
   have:i=0:=by simp at h3; omega
   subst this
   rw [Array.getD_eq_getD_getElem?,Array.getElem?_eq_getElem h2] at h0; simpa using h0
  subst hxs
  obtain ⟨b',C,h1,h2,h3,h4⟩:=hr.objs p _ hg
  obtain rfl:=hr.inj b b' p hb h1
  have hc1:w.cell? ⟨b,1,none⟩=some (.slice none 0 0):=by
   have h5:=(h4 1 (.nils 1) rfl).2.1
   rw [Lib.cell_of_heap h2,getD_of_lt (by rw [h3]; simp)]
   generalize C.getD 1 Go.undef=u at h5 ⊢
   cases h5; rfl
  refine Gq Tryz.func39 (by kernel_rfl) rfl ((U3 b w.heap.size w hc1).mono ?_)
  rintro e w' ⟨rfl,hsole,hcell⟩
  refine ⟨_,rfl,?_⟩
  have i2:=(inv0 hr ht).plain (X := fun _=>False) (Γ':=Γ) (w':=w') ⟨hsole.os,hsole.tape,hsole.output,hsole.size,fun k hk _=>⟨rfl,hsole.same k hk (by omega)⟩,fun k o y h1 h2=>⟨h1,(cell_heap (hsole.same k (lt_of_cell h2) (by have:=lt_of_cell h2; omega))).trans h2⟩,.refl _⟩ (fun _ hx=>hx.elim) (fun _ _ h=>h) (fun k hk'=>hr.fresh k (Nat.le_trans hsole.size hk'))
  exact P7 (hp := hp) i2 rfl (v := .str []) (.str []) (by simp)
 ·exact RU W0 _ _ _ _ _ _ hc Γ w xs hr ht hs hx
end Go.Proofs.YtcfjcimhjmpkiaaGreatDoor.Abs
end
section
namespace Go.Proofs
open Go.Shelf
def Tryz.lays134_ren:Go.Shelf.Ren:=⟨fun | 134=>136 | 129=>203 | n=>n,fun | 53=>71 | 3=>3 | 4=>4 | 46=>119 | 5=>5 | 9=>9 | n=>n,fun | n=>n⟩
theorem Tryz.lays134:Go.Proofs.Lays.n134 Tryz.prog Tryz.lays134_ren:={
 mixed := by kernel_rfl
 f129:=Tryz.func203.trans (congrArg some (by kernel_rfl))
 f134:=Tryz.func136.trans (congrArg some (by kernel_rfl))
 t3:=Tryz.underlying3
 a3:=Tryz.isAgg3
 z3:=Tryz.sizeOf3
 v3:=Tryz.zeroValue3
 t4:=Tryz.underlying4
 a4:=Tryz.isAgg4
 z4:=Tryz.sizeOf4
 v4:=Tryz.zeroValue4
 t5:=Tryz.underlying5
 a5:=Tryz.isAgg5
 z5:=Tryz.sizeOf5
 v5:=Tryz.zeroValue5
 t9:=Tryz.underlying9
 a9:=Tryz.isAgg9
 z9:=Tryz.sizeOf9
 v9:=Tryz.zeroValue9
 t46:=Tryz.underlying119
 a46:=Tryz.isAgg119
 z46:=Tryz.sizeOf119
 v46:=Tryz.zeroValue119
 t53:=Tryz.underlying71
 a53:=Tryz.isAgg71
 z53:=Tryz.sizeOf71
 v53:=Tryz.zeroValue71 }
theorem Tryz.bits_LeadingZeros64 (x:Int)(w:World)(h0:0≤x)(h1:x≤18446744073709551615) :
  Calls Tryz.prog 136 #[.int .u64 x] w fun e w'=>e=.returned (.int .i64 (64 - (Lib.bitLen x.toNat:Int)))∧w'=w:=Any.bits_LeadingZeros64 Tryz.lays134 x w h0 h1
def Tryz.laysM171_ren:Go.Shelf.Ren:=⟨fun | 171=>54 | 243=>90 | 246=>137 | 283=>204 | 284=>205 | 285=>206 | 286=>207 | 129=>203 | 317=>298 | 318=>299 | 319=>300 | 320=>301 | 337=>344 | 338=>345 | n=>n,fun | 3=>3 | 9=>9 | 2=>2 | 4=>4 | 171=>282 | 0=>0 | 53=>71 | 37=>83 | 5=>5 | 173=>284 | 212=>358 | 51=>155 | 20=>20 | 213=>359 | 46=>119 | 232=>416 | 233=>417 | n=>n,fun | 17=>4 | 18=>7 | 19=>8 | n=>n⟩
theorem Tryz.laysM171:Go.Proofs.LaysM.n171 Tryz.prog Tryz.laysM171_ren:={
 mixed := by kernel_rfl
 f129:=Tryz.func203.trans (congrArg some (by kernel_rfl))
 f171:=Tryz.func54.trans (congrArg some (by kernel_rfl))
 f243:=Tryz.func90.trans (congrArg some (by kernel_rfl))
 f246:=Tryz.func137.trans (congrArg some (by kernel_rfl))
 f283:=Tryz.func204.trans (congrArg some (by kernel_rfl))
 f284:=Tryz.func205.trans (congrArg some (by kernel_rfl))
 f285:=Tryz.func206.trans (congrArg some (by kernel_rfl))
 f286:=Tryz.func207.trans (congrArg some (by kernel_rfl))
 f317:=Tryz.func298.trans (congrArg some (by kernel_rfl))
 f318:=Tryz.func299.trans (congrArg some (by kernel_rfl))
 f319:=Tryz.func300.trans (congrArg some (by kernel_rfl))
 f320:=Tryz.func301.trans (congrArg some (by kernel_rfl))
 f337:=Tryz.func344.trans (congrArg some (by kernel_rfl))
 f338:=Tryz.func345.trans (congrArg some (by kernel_rfl))
 t0:=Tryz.underlying0
 a0:=Tryz.isAgg0
 z0:=Tryz.sizeOf0
 v0:=Tryz.zeroValue0
 t2:=Tryz.underlying2
 a2:=Tryz.isAgg2
 z2:=Tryz.sizeOf2
 v2:=Tryz.zeroValue2
 t3:=Tryz.underlying3
 a3:=Tryz.isAgg3
 z3:=Tryz.sizeOf3
 v3:=Tryz.zeroValue3
 t4:=Tryz.underlying4
 a4:=Tryz.isAgg4
 z4:=Tryz.sizeOf4
 v4:=Tryz.zeroValue4
 t5:=Tryz.underlying5
 a5:=Tryz.isAgg5
 z5:=Tryz.sizeOf5
 v5:=Tryz.zeroValue5
 t9:=Tryz.underlying9
 a9:=Tryz.isAgg9
 z9:=Tryz.sizeOf9
 v9:=Tryz.zeroValue9
 t20:=Tryz.underlying20
 a20:=Tryz.isAgg20
 z20:=Tryz.sizeOf20
 v20:=Tryz.zeroValue20
 t37:=Tryz.underlying83
 a37:=Tryz.isAgg83
 z37:=Tryz.sizeOf83
 v37:=Tryz.zeroValue83
 t46:=Tryz.underlying119
 a46:=Tryz.isAgg119
 z46:=Tryz.sizeOf119
 v46:=Tryz.zeroValue119
 t51:=Tryz.underlying155
 a51:=Tryz.isAgg155
 z51:=Tryz.sizeOf155
 v51:=Tryz.zeroValue155
 t53:=Tryz.underlying71
 a53:=Tryz.isAgg71
 z53:=Tryz.sizeOf71
 v53:=Tryz.zeroValue71
 t171:=Tryz.underlying282
 a171:=Tryz.isAgg282
 z171:=Tryz.sizeOf282
 v171:=Tryz.zeroValue282
 t173:=Tryz.underlying284
 a173:=Tryz.isAgg284
 z173:=Tryz.sizeOf284
 v173:=Tryz.zeroValue284
 t212:=Tryz.underlying358
 a212:=Tryz.isAgg358
 z212:=Tryz.sizeOf358
 v212:=Tryz.zeroValue358
 t213:=Tryz.underlying359
 a213:=Tryz.isAgg359
 z213:=Tryz.sizeOf359
 t232:=Tryz.underlying416
 a232:=Tryz.isAgg416
 z232:=Tryz.sizeOf416
 v232:=Tryz.zeroValue416
 t233:=Tryz.underlying417
 a233:=Tryz.isAgg417
 z233:=Tryz.sizeOf417
 v233:=Tryz.zeroValue417
 g17:=by kernel_rfl
 g18:=by kernel_rfl
 g19:=by kernel_rfl
 i0:=by kernel_rfl
 i2:=by kernel_rfl
 i3:=by kernel_rfl
 i4:=by kernel_rfl
 i5:=by kernel_rfl
 i9:=by kernel_rfl
 i20:=by kernel_rfl
 i37:=by kernel_rfl
 i46:=by kernel_rfl
 i51:=by kernel_rfl
 i53:=by kernel_rfl
 i171:=by kernel_rfl
 i173:=by kernel_rfl
 i212:=by kernel_rfl
 i232:=by kernel_rfl
 i233:=by kernel_rfl
 m17:=by kernel_rfl
 m18:=by kernel_rfl
 m19:=by kernel_rfl }
open Go.RowKit Go.Sort Go.Lib in
theorem Tryz.strconv_Itoa (n:Int) (h0:-9223372036854775808≤n) (h1:n≤9223372036854775807) (w:World) (htab:Lib.TabIs Tryz.prog w "internal/strconv.uint64pow10" .u64 Lib.pow10Tab) :
  Calls Tryz.prog 54 #[.int .i64 n] w fun e w'=>e=.returned (.string ⟨(Lib.itoa n).toArray⟩)∧∃ k os,w'=grow (w.drewN k) os:=Any.strconv_Itoa Tryz.laysM171 n h0 h1 w htab
def Tryz.lays264_ren:Go.Shelf.Ren:=⟨fun | 264=>88 | n=>n,fun | 53=>71 | 46=>119 | n=>n,fun | n=>n⟩
theorem Tryz.lays264:Go.Proofs.Lays.n264 Tryz.prog Tryz.lays264_ren:={
 mixed := by kernel_rfl
 f264:=Tryz.func88.trans (congrArg some (by kernel_rfl))
 t46:=Tryz.underlying119
 a46:=Tryz.isAgg119
 z46:=Tryz.sizeOf119
 v46:=Tryz.zeroValue119
 t53:=Tryz.underlying71
 a53:=Tryz.isAgg71
 z53:=Tryz.sizeOf71
 v53:=Tryz.zeroValue71 }
open Go.RowKit Go.Lib in
theorem Tryz.bits_Mul64 (x y:Nat) (hx:x < 18446744073709551616) (hy:y < 18446744073709551616) (w:World) :
  Calls Tryz.prog 88 #[.int .u64 x,.int .u64 y] w fun e w'=>e=.returned (.tuple #[.int .u64 ((x * y / 18446744073709551616:Nat):Int),.int .u64 ((x * y % 18446744073709551616:Nat):Int)])∧w'=w:=Any.bits_Mul64 Tryz.lays264 x y hx hy w
def Tryz.lays105_ren:Go.Shelf.Ren:=⟨fun | 105=>27 | 212=>55 | 99=>56 | 165=>57 | 166=>37 | 170=>58 | 169=>39 | 263=>91 | 264=>88 | 206=>92 | 240=>67 | 241=>93 | 276=>96 | 277=>138 | n=>n,fun | 9=>9 | 3=>3 | 4=>4 | 20=>20 | 0=>0 | 46=>119 | 109=>120 | 5=>5 | 72=>85 | 76=>88 | 51=>155 | 146=>156 | 53=>71 | 148=>152 | 70=>82 | 37=>83 | 75=>87 | 127=>138 | 164=>160 | 80=>91 | n=>n,fun | n=>n⟩
theorem Tryz.lays105:Go.Proofs.Lays.n105 Tryz.prog Tryz.lays105_ren:={
 mixed := by kernel_rfl
 f99:=Tryz.func56.trans (congrArg some (by kernel_rfl))
 f105:=Tryz.func27.trans (congrArg some (by kernel_rfl))
 f165:=Tryz.func57.trans (congrArg some (by kernel_rfl))
 f166:=Tryz.func37.trans (congrArg some (by kernel_rfl))
 f169:=Tryz.func39.trans (congrArg some (by kernel_rfl))
 f170:=Tryz.func58.trans (congrArg some (by kernel_rfl))
 f206:=Tryz.func92.trans (congrArg some (by kernel_rfl))
 f212:=Tryz.func55.trans (congrArg some (by kernel_rfl))
 f240:=Tryz.func67.trans (congrArg some (by kernel_rfl))
 f241:=Tryz.func93.trans (congrArg some (by kernel_rfl))
 f263:=Tryz.func91.trans (congrArg some (by kernel_rfl))
 f264:=Tryz.func88.trans (congrArg some (by kernel_rfl))
 f276:=Tryz.func96.trans (congrArg some (by kernel_rfl))
 f277:=Tryz.func138.trans (congrArg some (by kernel_rfl))
 t0:=Tryz.underlying0
 a0:=Tryz.isAgg0
 z0:=Tryz.sizeOf0
 v0:=Tryz.zeroValue0
 t3:=Tryz.underlying3
 a3:=Tryz.isAgg3
 z3:=Tryz.sizeOf3
 v3:=Tryz.zeroValue3
 t4:=Tryz.underlying4
 a4:=Tryz.isAgg4
 z4:=Tryz.sizeOf4
 v4:=Tryz.zeroValue4
 t5:=Tryz.underlying5
 a5:=Tryz.isAgg5
 z5:=Tryz.sizeOf5
 v5:=Tryz.zeroValue5
 t9:=Tryz.underlying9
 a9:=Tryz.isAgg9
 z9:=Tryz.sizeOf9
 v9:=Tryz.zeroValue9
 t20:=Tryz.underlying20
 a20:=Tryz.isAgg20
 z20:=Tryz.sizeOf20
 v20:=Tryz.zeroValue20
 t37:=Tryz.underlying83
 a37:=Tryz.isAgg83
 z37:=Tryz.sizeOf83
 v37:=Tryz.zeroValue83
 t46:=Tryz.underlying119
 a46:=Tryz.isAgg119
 z46:=Tryz.sizeOf119
 v46:=Tryz.zeroValue119
 t51:=Tryz.underlying155
 a51:=Tryz.isAgg155
 z51:=Tryz.sizeOf155
 v51:=Tryz.zeroValue155
 t53:=Tryz.underlying71
 a53:=Tryz.isAgg71
 z53:=Tryz.sizeOf71
 v53:=Tryz.zeroValue71
 t70:=Tryz.underlying82
 a70:=Tryz.isAgg82
 z70:=Tryz.sizeOf82
 v70:=Tryz.zeroValue82
 t72:=Tryz.underlying85
 a72:=Tryz.isAgg85
 z72:=Tryz.sizeOf85
 v72:=Tryz.zeroValue85
 t75:=Tryz.underlying87
 a75:=Tryz.isAgg87
 z75:=Tryz.sizeOf87
 v75:=Tryz.zeroValue87
 t76:=Tryz.underlying88
 a76:=Tryz.isAgg88
 z76:=Tryz.sizeOf88
 v76:=Tryz.zeroValue88
 t109:=Tryz.underlying120
 a109:=Tryz.isAgg120
 z109:=Tryz.sizeOf120
 v109:=Tryz.zeroValue120
 t127:=Tryz.underlying138
 a127:=Tryz.isAgg138
 z127:=Tryz.sizeOf138
 v127:=Tryz.zeroValue138
 t146:=Tryz.underlying156
 a146:=Tryz.isAgg156
 z146:=Tryz.sizeOf156
 v146:=Tryz.zeroValue156
 t148:=Tryz.underlying152
 a148:=Tryz.isAgg152
 z148:=Tryz.sizeOf152
 v148:=Tryz.zeroValue152
 t164:=Tryz.underlying160
 a164:=Tryz.isAgg160
 z164:=Tryz.sizeOf160
 v164:=Tryz.zeroValue160 }
theorem Tryz.Builder_Extra_105:Builder.Extra Tryz.prog Tryz.lays105_ren:={
 sizeBuilder := by kernel_rfl
 liesBuilder:=by kernel_rfl
 t5:=Tryz.underlying5
 a5:=Tryz.isAgg5
 z5:=Tryz.sizeOf5
 v5:=Tryz.zeroValue5
 infoByte:=by kernel_rfl
 cellsByte:=by kernel_rfl
 sizeByte:=by kernel_rfl
 neB5:=by decide }
open Go.RowKit Go.Lib in
theorem Tryz.strings_Repeat (s:ByteArray) (c:Nat) (w:World) (hc:c≤9223372036854775807) (hlen:s.size * c≤140737488355328) :
  Calls Tryz.prog 27 #[.string s,.int .i64 c] w fun e w'=>e=.returned (.string ⟨(Lib.repeatL s.data.toList c).toArray⟩)∧Below w.heap.size w w':=Any.strings_Repeat Tryz.lays105 Tryz.Builder_Extra_105 s c w hc hlen
end Go.Proofs
end
section
namespace Go.Proofs.YtcfjcimhjmpkiaaGreatDoor
open Go Go.RowKit Go.Proofs.YtcfjcimhjmpkiaaGreatDoor.Abs
set_option maxRecDepth 100000
theorem bytes_eq (s:List UInt8):(⟨s.toArray⟩:ByteArray).data.toList=s:=by simp
theorem Si {xs:Array Value}(h:xs.size=1):∃ x,xs=#[x]:=by
 cases xs with | mk l=>match l,h with | [x],_=>exact ⟨x,rfl⟩
theorem Sj {xs:Array Value}(h:xs.size=2):∃ x y,xs=#[x,y]:=by
 cases xs with | mk l=>match l,h with | [x,y],_=>exact ⟨x,y,rfl⟩
theorem VD {Γ:Ghost}{w:World}{k:IntKind}{n:Int}{x:Value}(h:Rep Γ w (.int k n) x):x=.int k n:=by cases h; rfl
theorem RP {Γ:Ghost}{w:World}{s:List UInt8}{x:Value}(h:Rep Γ w (.str s) x):x=.string ⟨s.toArray⟩:=by cases h; rfl
def NL (f:FuncId)(args:List AV):Option AV:=if f=27 then (match args with
 | [.str s,.int .i64 n]=>if 0≤n∧n≤9223372036854775807∧s.length * n.toNat≤140737488355328 then some (.str (Lib.repeatL s n.toNat)) else none
 | _=>none) else none
theorem Ld (W0:World):∀ f args v,NL f args=some v→OracleOk Tryz.prog W0 f args v:=by
 intro f args v h
 unfold NL at h
 split at h
 ·rename_i e; subst e
  split at h
  ·rename_i s n
   split at h
   ·rename_i ho
    cases h
    refine ⟨fun k r h=>(by cases h),fun Γ w xs hb hΓ hsz hx=>?_⟩
    obtain ⟨x,y,rfl⟩:=Sj hsz
    obtain rfl:x=_:=RP (hx 0 _ rfl)
    obtain rfl:y=_:=VD (hx 1 _ rfl)
    obtain ⟨m,rfl⟩:∃ m:Nat,n=m:=⟨n.toNat,by omega⟩
    have hc:=Tryz.strings_Repeat ⟨s.toArray⟩ m w (by omega) (by simpa [ByteArray.size] using ho.2.2)
    rw [bytes_eq] at hc
    refine went_of_calls Tryz.func27 (by kernel_rfl) rfl (hc.mono ?_)
    rintro e w' ⟨rfl,hb'⟩
    exact ⟨_,rfl,hb',.str _⟩
   ·cases h
  ·cases h
 ·cases h
def NK (f:FuncId)(args:List AV):Option AV:=if f=88 then (match args with
 | [.int .u64 a,.int .u64 b]=>if 0≤a∧a < 18446744073709551616∧0≤b∧b < 18446744073709551616 then some (.tup [.int .u64 ((a.toNat * b.toNat / 18446744073709551616:Nat):Int),.int .u64 ((a.toNat * b.toNat % 18446744073709551616:Nat):Int)]) else none
 | _=>none) else none
theorem Dj (W0:World):∀ f args v,NK f args=some v→OracleOk Tryz.prog W0 f args v:=by
 intro f args v h
 unfold NK at h
 split at h
 ·rename_i e; subst e
  split at h
  ·rename_i a b
   split at h
   ·rename_i ho
    cases h
    refine ⟨fun k r h=>(by cases h),fun Γ w xs hb hΓ hsz hx=>?_⟩
    obtain ⟨x,y,rfl⟩:=Sj hsz
    obtain rfl:x=_:=VD (hx 0 _ rfl)
    obtain rfl:y=_:=VD (hx 1 _ rfl)
    obtain ⟨m,rfl⟩:∃ m:Nat,a=m:=⟨a.toNat,by omega⟩
    obtain ⟨n,rfl⟩:∃ n:Nat,b=n:=⟨b.toNat,by omega⟩
    rw [Int.toNat_natCast,Int.toNat_natCast]
    refine went_of_calls Tryz.func88 (by kernel_rfl) rfl ((Tryz.bits_Mul64 m n (by omega) (by omega) w).mono ?_)
    rintro e w' ⟨rfl,rfl⟩
    refine ⟨_,rfl,Below.refl _ _,.tup _ _ rfl fun j c hj=>?_⟩
    match j,hj with
    | 0,hj=>cases hj; exact .int _ _
    | 1,hj=>cases hj; exact .int _ _
    | j + 2,hj=>cases hj
   ·cases h
  ·cases h
 ·cases h
def NJ (f:FuncId)(args:List AV):Option AV:=if f=136 then (match args with
 | [.int .u64 a]=>if 0≤a∧a < 18446744073709551616 then some (.int .i64 (64 - (Lib.bitLen a.toNat:Int))) else none
 | _=>none) else none
theorem Di (W0:World):∀ f args v,NJ f args=some v→OracleOk Tryz.prog W0 f args v:=by
 intro f args v h
 unfold NJ at h
 split at h
 ·rename_i e; subst e
  split at h
  ·rename_i a
   split at h
   ·rename_i ho
    cases h
    refine ⟨fun k r h=>(by cases h),fun Γ w xs hb hΓ hsz hx=>?_⟩
    obtain ⟨x,rfl⟩:=Si hsz
    obtain rfl:x=_:=VD (hx 0 _ rfl)
    refine went_of_calls Tryz.func136 (by kernel_rfl) rfl ((Tryz.bits_LeadingZeros64 a w (by omega) (by omega)).mono ?_)
    rintro e w' ⟨rfl,rfl⟩
    exact ⟨_,rfl,Below.refl _ _,.int _ _⟩
   ·cases h
  ·cases h
 ·cases h
end Go.Proofs.YtcfjcimhjmpkiaaGreatDoor
end
section
namespace Go.Proofs.YtcfjcimhjmpkiaaGreatDoor.Num
open Go Go.RowKit
structure Laid (w:World):Prop where
 tab:Lib.TabIs Tryz.prog w "internal/strconv.uint64pow10" .u64 Lib.pow10Tab
theorem var_below {w w':World}(hb:Below w.heap.size w w'){n:String}{cs:Array Value}(h:w.var? Tryz.prog n=some cs):w'.var? Tryz.prog n=some cs:=by
 unfold World.var? at h ⊢
 cases hg:Tryz.prog.globalNamed n with
 | none=>simp [hg] at h
 | some g =>
  simp only [hg,Option.bind_some] at h ⊢
  have hlt:g < w.heap.size:=by
   by_cases hh:g < w.heap.size
   ·exact hh
   ·rw [Array.getElem?_eq_none (by omega)] at h; cases h
  rw [hb.block g hlt]; exact h
theorem below_grow (w:World)(k:Nat)(os:Array Obj):Below w.heap.size w (Sort.grow (w.drewN k) os) :=
 ⟨rfl,rfl,rfl,by simp [Sort.grow,World.drewN],fun i hi=>by show (w.heap ++ os)[i]? = _; rw [Array.getElem?_append_left hi]⟩
theorem c_text (n:Int)(h0:-9223372036854775808≤n)(h1:n≤9223372036854775807)(w:World)(hL:Laid w) :
  Calls Tryz.prog 26 #[.int .i64 n] w fun e w'=>e=.returned (.string ⟨(Lib.itoa n).toArray⟩)∧Below w.heap.size w w':=by
 have ht:=hL.tab
 clear hL
 have HT:=Lib.hid ht
 clear ht
 go_enter Tryz.func26,Tryz.ntmps26
 go_wp2_with fail
 refine (Tryz.strconv_Itoa n h0 h1 _ HT.out).mono ?_
 rintro e w' ⟨rfl,k,os,rfl⟩
 go_wp2
 go_ret
 exact ⟨rfl,below_grow w k os⟩
theorem Laid.below {w w':World}(hL:Laid w)(hb:Below w.heap.size w w'):Laid w':=⟨var_below hb hL.tab⟩
end Go.Proofs.YtcfjcimhjmpkiaaGreatDoor.Num
end
