import Derived.RangeFuncNested
import Derived.RangeFuncBound
import Derived.RangeFuncCalls
import Derived.RangeFuncLeaves
import Derived.RangeFuncBox
import Derived.Shelf.Abstract
import Derived.Shelf.RegionOpen
import Derived.WalkKit
import Derived.OwnWalkIn
import Derived.TacticsInMore
import Derived.LoopNIn
import Derived.LoopIn
import Derived.Maps.AppendAt
import Derived.Test.YtdchnngpjjcchaaDoorProg
import Derived.Deep.Slices
import Derived.ChangeArms
import Derived.DataReads
import Derived.WideKeyArgs
import Derived.SizedLaws
import Derived.Test.YtdchnngpjjcchaaDoorT3
set_option linter.all false
section
namespace Go.Proofs.YtdchnngpjjcchaaDoor
open Go Go.RowKit Go.Shelf
attribute [local go_sem] Oper.semAt_some
def U9 (l:List Nat)(W W':World):Prop:=∀ g ∈ l,W'.heap[g]? = W.heap[g]?
theorem U9.trans {l:List Nat}{A B C:World}(h:U9 l A B)(k:U9 l B C):U9 l A C:=fun g hg=>(k g hg).trans (h g hg)
theorem U9.refl (l:List Nat)(A:World):U9 l A A:=fun _ _=>rfl
theorem U9.cell {l:List Nat}{A B:World}(h:U9 l A B){b o:Nat}(hb:b ∈ l){v:Value}(hc:A.cell? ⟨b,o,none⟩=some v):B.cell? ⟨b,o,none⟩=some v:=by
  have:=h b hb
  simp only [World.cell?,this] at hc ⊢; exact hc
def PT (b off len k:Nat):Value:=.slice (some ⟨b,off + 1000 * k,none⟩) (min 1000 (len - 1000 * k)) (min 1000 (len - 1000 * k))
def parts (len:Nat):Nat:=(len + 999) / 1000
def upTo (m k:Nat):List (Fin m):=(List.finRange m).take k
theorem Rt {m k:Nat}(h:k < m):upTo m (k + 1)=upTo m k ++ [⟨k,h⟩]:=by
  unfold upTo
  rw [List.take_add_one,List.getElem?_eq_getElem (by simpa using h),List.getElem_finRange]
  rfl
theorem BU {m k:Nat}(h:k≤m):(upTo m k).length=k:=by unfold upTo; simp; omega
set_option maxRecDepth 100000 in
set_option maxHeartbeats 2000000 in
theorem NC (n:Nat)(hn:1≤n)(l Bs Bn b off len cap:Nat)(hlen:len≤400000)(hcap:len≤cap)(J Jx:List (Fin (parts len))→World→Prop)(B0:Nat)(hJ:AbidesFrom B0 J)
    (hY:∀ pre x W,J pre W→pre.length < parts len→YieldAt Fence.wide (n - 1) Tryd.prog l #[PT b off len x.1] W fun e W' =>
      (e=.returned (.bool true)∧J (pre ++ [x]) W'∧U9 [Bs,Bn] W W')∨(e=.returned (.bool false)∧Jx (pre ++ [x]) W'))
    (W:World) (hBs:W.cell? ⟨Bs,0,none⟩=some (.slice (some ⟨b,off,none⟩) len cap)) (hBn:W.cell? ⟨Bn,0,none⟩=some (.int .i64 1000)) (h0:J [] W) :
    CallsIn Fence.wide n Tryd.prog 47 #[.func (.yield l) #[] #[],.pointer (some ⟨Bs,0,none⟩),.pointer (some ⟨Bn,0,none⟩)] W fun e W'=>(∃ v,e=.returned v) ∧
      ((∃ ys,ys=List.finRange (parts len)∧J ys W')∨(∃ pre,(∃ k,pre=upTo (parts len) k)∧Jx pre W')):=by
  refine callsIn_of_wp Tryd.func47 rfl trivial ?_ rfl
  simp only [Tryd.ntmps47,List.size_toArray,List.length_cons,List.length_nil,Nat.reduceAdd,Nat.reduceSub,Array.replicate_succ,Array.replicate_zero,List.push_toArray,List.append_toArray,List.nil_append,List.cons_append]
  have hmx:Tryd.prog.follows .mixedOrders=true:=by kernel_rfl
  gi_wp2
  gi_loopw [4] (fun i wr=>∃ k:Nat,k≤parts len∧i=.int .i64 (1000 * k:Nat)∧J (upTo (parts len) k) wr∧U9 [Bs,Bn] W wr)
    (fun i _=>len + 1000 - (intOf i).toNat)
  case atStart=>exact ⟨0,Nat.zero_le _,rfl,(by rw [show upTo (parts len) 0=[] by rfl]; exact h0),.refl _ _⟩
  case round =>
    obtain ⟨k,hk,rfl,hJs,hnx⟩:=hrel
    have c1:=hnx.cell (by simp) hBs
    have c2:=hnx.cell (by simp) hBn
    by_cases hlt:1000 * k < len
    · have hkp:k < parts len:=by unfold parts; omega
      obtain ⟨fn,tmps,assign,body,hy,hR⟩:=hY _ ⟨k,hkp⟩ wr.drew (hJ _ _ _ none hJs ⟨rfl,rfl,rfl,Nat.le_refl _,fun _ _ _=>rfl⟩ (fun r e=>by cases e)) (by rw [BU hk]; exact hkp)
      have e1:(len - 1000 * k:Nat) < 1000→((1000 * (k:Int) + ((len - 1000 * k:Nat):Int)).toNat - 1000 * k)=min 1000 (len - 1000 * k):=fun h=>by omega
      have e2:¬ (len - 1000 * k:Nat) < 1000→((1000 * (k:Int) + 1000).toNat - 1000 * k)=min 1000 (len - 1000 * k):=fun h=>by omega
      have hy':=hy
      dsimp only at hy'
      unfold PT at hy'
      gi_wp2
      gi_big_region_o
      all_goals gi_wp2
      all_goals (first | rw [e1 (by omega),hy'] | rw [e2 (by omega),hy'])
      all_goals gi_wp2
      all_goals refine hR.mono ?_
      all_goals rintro e W3 (⟨rfl,hJ3,hk3⟩ | ⟨rfl,hJx3⟩)
      all_goals first
        | (have c2':=hk3.cell (b := Bn) (o := 0) (v := .int .i64 1000) (by simp) c2
           gi_wp2
           go_roundw
           case rel=>(refine ⟨k + 1,?_,?_,?_,?_⟩; (unfold parts; omega); (refine congrArg (Value.int .i64) ?_; omega); (rw [Rt hkp]; exact hJ3); exact hnx.trans ((show U9 [Bs,Bn] wr wr.drew from fun _ _=>rfl).trans hk3))
           case measure=>simp only [intOf]; omega)
        | (gi_wp2
           refine bodyPost_ret (results_none rfl _ _ _) rfl ?_
           exact ⟨⟨_,rfl⟩,.inr ⟨_,⟨k + 1,(Rt hkp).symm⟩,hJx3⟩⟩)
    · gi_wp2
      go_end0
      exact ⟨⟨_,rfl⟩,.inl ⟨_,rfl,by obtain rfl:k=parts len:=by { unfold parts at hk ⊢; omega }; rwa [show upTo (parts len) (parts len)=List.finRange _ from List.take_of_length_le (by simp)] at hJs⟩⟩
theorem RY (n:Nat)(hn:1≤n)(Bs Bn b off len cap:Nat)(hlen:len≤400000)(hcap:len≤cap)(w:World)(hBs:Bs < w.heap.size)(hBn:Bn < w.heap.size)
    (h1:w.cell? ⟨Bs,0,none⟩=some (.slice (some ⟨b,off,none⟩) len cap)) (h2:w.cell? ⟨Bn,0,none⟩=some (.int .i64 1000)) :
    SeqStopsK Fence.wide n Tryd.prog 47 #[.pointer (some ⟨Bs,0,none⟩),.pointer (some ⟨Bn,0,none⟩)] (fun k:Fin (parts len)=>#[PT b off len k.1]) (U9 [Bs,Bn]) (fun ys=>ys=List.finRange (parts len)) (fun pre=>∃ k,pre=upTo (parts len) k) (parts len) w :=
  fun l J Jx W hW hJ _ hY h0=>NC n hn l Bs Bn b off len cap hlen hcap J Jx _ hJ hY W ((hW.cell (p := ⟨Bs,0,none⟩) hBs).trans h1) ((hW.cell (p := ⟨Bn,0,none⟩) hBn).trans h2) h0
set_option maxHeartbeats 1000000 in
theorem Ac (n:Nat)(a:Option Addr)(len cap:Nat)(w:World) :
    CallsIn Fence.wide n Tryd.prog 35 #[.slice a len cap,.int .i64 1000] w fun e w'=>e=.returned (.func (.func 47) #[] #[.pointer (some ⟨w.heap.size,0,none⟩),.pointer (some ⟨w.heap.size + 1,0,none⟩)])∧w'=(w.alloc (.cells #[.slice a len cap] 56)).alloc (.cells #[.int .i64 1000] 3):=by
  refine callsIn_of_wp Tryd.func35 rfl trivial ?_ rfl
  simp only [Tryd.ntmps35,List.size_toArray,List.length_cons,List.length_nil,Nat.reduceAdd,Nat.reduceSub,Array.replicate_succ,Array.replicate_zero,List.push_toArray,List.append_toArray,List.nil_append,List.cons_append]
  gi_wp2
  go_ret
  simp
end Go.Proofs.YtdchnngpjjcchaaDoor
end
section
namespace Go.Proofs.YtdchnngpjjcchaaDoor
open Go Go.RowKit Go.Shelf
attribute [local go_sem] Oper.semAt_some
def Bytes (W:World)(v:Value)(bs:List UInt8):Prop :=
  (v=.slice none 0 0∧bs=[])∨∃ g o cap,v=.slice (some ⟨g,o,none⟩) bs.length cap∧bs.length≤cap∧g < W.heap.size∧∀ (j:Nat) (c:UInt8),bs[j]? = some c→W.cell? ⟨g,o + j,none⟩=some (.int .u8 c.toNat)
theorem Bytes.below {n:Nat}{W W':World}{v:Value}{bs:List UInt8}(h:Bytes W v bs)(hb:Below n W W')(hn:W.heap.size≤n):Bytes W' v bs:=by
  rcases h with h | ⟨g,o,cap,h1,h2,h3,h4⟩
  · exact .inl h
  · exact .inr ⟨g,o,cap,h1,h2,Nat.lt_of_lt_of_le h3 hb.size,fun j c hc=>(hb.cell (p := ⟨g,o + j,none⟩) (Nat.lt_of_lt_of_le h3 hn)).trans (h4 j c hc)⟩
noncomputable def Jw:Code:=(Tryd.f16.body).getD .skip
def QX:Code→Code
  | .seq _ b=>b
  | c=>c
def S9:Code→Code
  | .seq a _=>a
  | c=>c
noncomputable def T16:Code:=QX (QX (QX (QX (QX Jw))))
def OY (c:UInt8):Value:=.int .u8 c.toNat
def outOf (enc:Int→List UInt8)(nums:List Int)(pre:List Nat):List UInt8:=pre.flatMap fun k=>((nums.drop (1000 * k)).take 1000).flatMap enc
theorem O9 (enc:Int→List UInt8)(nums:List Int)(pre:List Nat)(k:Nat):outOf enc nums (pre ++ [k])=outOf enc nums pre ++ ((nums.drop (1000 * k)).take 1000).flatMap enc:=by simp [outOf]
theorem OA (enc:Int→List UInt8)(nums:List Int):∀ k,outOf enc nums (List.range k)=(nums.take (1000 * k)).flatMap enc
  | 0=>by simp [outOf]
  | k + 1=>by
    rw [List.range_succ,O9,OA enc nums k,show 1000 * (k + 1)=1000 * k + 1000 by omega,List.take_add,List.flatMap_append]
theorem Eh (enc:Int→List UInt8)(nums:List Int):outOf enc nums (List.range (parts nums.length))=nums.flatMap enc:=by
  rw [OA,List.take_of_length_le]
  unfold parts; omega
theorem PR (enc:Int→List UInt8)(nums:List Int):outOf enc nums ((List.finRange (parts nums.length)).map Fin.val)=nums.flatMap enc:=by
  rw [← Eh]; congr 1
  refine List.ext_getElem (by simp) fun i h1 h2=>by simp
theorem bytes_of_row {W:World}{n₀:Nat}{v:Value}{bs:List UInt8}(h:W.ownsRow n₀ 5 1 v bs.length (bs.map OY)):Bytes W v bs:=by
  rcases h.2 with ⟨rfl,h0⟩ | ⟨g,cap,cur,rfl,_,hg,hn,_,_,ht⟩
  · exact .inl ⟨rfl,List.length_eq_zero_iff.1 h0⟩
  · refine .inr ⟨g,0,cap,rfl,hn,(Array.getElem?_eq_some_iff.1 hg).1,fun j c hc=>?_⟩
    have h1:(cur.toList.take (bs.length * 1))[j]? = some (OY c):=by rw [ht,List.getElem?_map,hc]; rfl
    rw [List.getElem?_take] at h1
    split at h1
    · rw [Nat.zero_add]
      simp only [World.cell?,hg]
      simpa [OY] using h1
    · cases h1
theorem Gi {enc:Int→List UInt8}(henc:∀ n,1≤(enc n).length∧(enc n).length≤10):∀ l:List Int,l.length≤(l.flatMap enc).length∧(l.flatMap enc).length≤10 * l.length
  | []=>by simp
  | x :: l=>by
    have:=Gi henc l
    have:=henc x
    simp only [List.flatMap_cons,List.length_append,List.length_cons]
    omega
theorem Ei {enc:Int→List UInt8}(henc:∀ n,1≤(enc n).length∧(enc n).length≤10)(nums:List Int):∀ pre:List Nat,(outOf enc nums pre).length≤10000 * pre.length
  | []=>by simp [outOf]
  | y :: l=>by
    have h1:=Ei henc nums l
    have:=Gi henc ((nums.drop (1000 * y)).take 1000)
    have h2:((nums.drop (1000 * y)).take 1000).length≤1000:=by simp; omega
    unfold outOf at h1 ⊢
    rw [List.flatMap_cons,List.length_append,List.length_cons]
    omega
theorem info5:(Tryd.prog.info? 5).map (fun i=>(i.zero,i.size,i.bytes))=some (some (.int .u8 0),1,1):=by kernel_rfl
theorem BH {W:World}{base:Nat}{e:TypeId}{size:Nat}{v:Value}{k:Nat}{xs:List Value}(hk:1≤k)(h:W.ownsRow base e size v k xs):∃ g cap,v=.slice (some ⟨g,0,none⟩) k cap:=by
  rcases h.2 with ⟨_,h0⟩ | ⟨g,cap,_,rfl,_⟩
  · omega
  · exact ⟨g,cap,rfl⟩
theorem Xp {W W':World}(h:Below W.heap.size W W'):W.grownBy W' none:=⟨h.os,h.tape,h.output,h.size,fun k hk _=>h.block k hk⟩
theorem FK {W w1:World}{n₀ B:Nat}{t e:TypeId}{size:Nat}{v v':Value}{k m:Nat}{xs ys:List Value}
    (hv:Boxed W B t v) (hte:t≠e) (hrow:W.ownsRow n₀ e size v k xs) (hn₀:n₀≤W.heap.size) (hB:n₀≤B) (hown':w1.ownsRow n₀ e size v' m ys) (hgrow:W.grownBy w1 v.ownBlock) :
    Boxed w1 B t v∧Boxed (w1.setCell ⟨B,0,none⟩ v') B t v'∧(w1.setCell ⟨B,0,none⟩ v').ownsRow n₀ e size v' m ys∧KeepsOthers W (w1.setCell ⟨B,0,none⟩ v')∧Below n₀ W (w1.setCell ⟨B,0,none⟩ v') ∧
      ∀ (Bx:Nat) (tx:TypeId) (ux:Value),Boxed W Bx tx ux→tx≠e→Bx≠B→Boxed (w1.setCell ⟨B,0,none⟩ v') Bx tx ux:=by
  have hv1:Boxed w1 B t v:=hv.kept hgrow (hv.not_row hte hrow)
  refine ⟨hv1,hv1.set v',hown'.kept (grownBy_setCell' w1 B v') (.inr (hv1.not_row hte hown').symm),?_,?_,fun Bx tx ux hx h1 h2=>(hx.kept hgrow (hx.not_row h1 hrow)).kept (grownBy_setCell' w1 B v') (by simpa using h2)⟩
  · refine (KeepsOthers.of_grownBy hgrow fun j o ej hj=>?_).trans (KeepsOthers.setCell _ _ _)
    rcases hrow.2 with ⟨rfl,_⟩ | ⟨g,cap,cur,rfl,_,hgb,_⟩
    · simp [Value.ownBlock] at ej
    · obtain rfl:g=j:=by simpa [Value.ownBlock] using ej
      rw [hgb] at hj; cases hj; rfl
  · refine ((Below.refl n₀ W).grown hgrow hn₀ fun j ej=>?_).setCell (p := ⟨B,0,none⟩) hB v'
    rcases hrow.2 with ⟨rfl,_⟩ | ⟨g,cap,cur,rfl,hb,_,_⟩
    · simp [Value.ownBlock] at ej
    · obtain rfl:g=j:=by simpa [Value.ownBlock] using ej
      exact hb
set_option maxRecDepth 100000 in
set_option maxHeartbeats 4000000 in
theorem Bf (W0:World)(enc:Int→List UInt8)(henc:∀ n,1≤(enc n).length∧(enc n).length≤10)
    (hP:∀ (W:World) (bv:Value) (bs:List UInt8) (n:Int),Below W0.heap.size W0 W→Bytes W bv bs→bs.length≤100000→-9223372036854775808≤n→n≤9223372036854775807→Calls Tryd.prog 36 #[bv,.int .i64 n] W fun e W'=>∃ v,e=.returned v∧Bytes W' v (bs ++ enc n)∧Below W.heap.size W W')
    (w:World) (hw:Below W0.heap.size W0 w) (nums:List Int) (hlen:nums.length≤400000) (hne:nums≠[]) (hi:∀ n ∈ nums,-9223372036854775808≤n∧n≤9223372036854775807) (b off cap:Nat) (hcap:nums.length≤cap)
    (hc:∀ (j:Nat) (n:Int),nums[j]? = some n→w.cell? ⟨b,off + j,none⟩=some (.int .i64 n)) (t0 t1 t2 t3 t5 t6 t7 t8 t9 t10 t11 t12 t13 t14 t15 t16 t17 t18 t19 t20 t21 t22 t23 t24 t25 t26 t27 t28 t29 t30 t31 t32 t33 t34 t35 t36 t37 t38 t39 t40 t41 t42 t43 t44 t45 t46 t47 t48 t49 t50 t51 t52 t53 t54 t55 t56 t57 t58 t59:Value) (R:Ending→World→Prop) (hR:∀ v W',Bytes W' v (nums.flatMap enc)→(∀ a n c,v=.slice (some a) n c→w.heap.size≤a.block)→Below w.heap.size w W'→R (.returned (.tuple #[v,.int .i64 0])) W') :
    T16.wpIn Fence.wide 3 Tryd.prog (bodyPostM Fence.wide 3 Tryd.prog Tryd.f16 R)
      { tmps := #[t0,t1,t2,t3,.slice (some ⟨b,off,none⟩) nums.length cap,t5,t6,t7,t8,t9,t10,t11,t12,t13,t14,t15,t16,t17,t18,t19,t20,t21,t22,t23,t24,t25,t26,t27,t28,t29,t30,t31,t32,t33,t34,t35,t36,t37,t38,t39,t40,t41,t42,t43,t44,t45,t46,t47,t48,t49,t50,t51,t52,t53,t54,t55,t56,t57,t58,t59],defers := [] } w:=by
  obtain ⟨i0,hi0,hz0,hz1,hz2⟩:=info_parts info5
  have hb:b < w.heap.size:=by
    cases hn:nums with
    | nil=>exact absurd hn hne
    | cons x l=>exact World.block_lt_of_cell? w _ (hc 0 x (by rw [hn]; rfl))
  conv in (T16)=>simp only [T16,QX,Jw,Tryd.f16,Option.getD_some]
  gi_wp2_with (refine ⟨trivial,?_⟩; gi_at_call 35; refine (Ac _ _ _ _ _).mono ?_; rintro e w' ⟨rfl,rfl⟩)
  have bO:=Boxed.new w 34 (.slice none 0 0)
  have bS:=Boxed.new (w.alloc (.cells #[.slice none 0 0] 34)) 56 (.slice (some ⟨b,off,none⟩) nums.length cap)
  have bN:=Boxed.new ((w.alloc (.cells #[.slice none 0 0] 34)).alloc (.cells #[.slice (some ⟨b,off,none⟩) nums.length cap] 56)) 3 (.int .i64 1000)
  have bS2:=bS.alloc (.cells #[.int .i64 1000] 3)
  rw [World.size_alloc] at bS2 bN
  obtain ⟨w1,hw1⟩:∃ w1,((w.alloc (.cells #[.slice none 0 0] 34)).alloc (.cells #[.slice (some ⟨b,off,none⟩) nums.length cap] 56)).alloc (.cells #[.int .i64 1000] 3)=w1:=⟨_,rfl⟩
  have hB0:Below w.heap.size w w1:=by rw [← hw1]; exact (((Below.refl _ w).alloc (Nat.le_refl _) _).alloc (by simp) _).alloc (by simp; omega) _
  have hsz:w1.heap.size=w.heap.size + 3:=by rw [← hw1]; simp
  have bO1:Boxed w1 w.heap.size 34 (.slice none 0 0):=by rw [← hw1]; exact (bO.alloc _).alloc _
  have bS1:Boxed w1 (w.heap.size + 1) 56 (.slice (some ⟨b,off,none⟩) nums.length cap):=by rw [← hw1]; exact bS2
  have bN1:Boxed w1 (w.heap.size + 2) 3 (.int .i64 1000):=by rw [← hw1]; simpa using bN
  rw [hw1]
  refine wpIn_rangeFunc_ownG (F := Fence.wide) rfl (by omega) (gf := 47) (lb := #[.pointer (some ⟨w.heap.size + 1,0,none⟩),.pointer (some ⟨w.heap.size + 2,0,none⟩)]) rfl trivial (enters_of Tryd.func47 (by kernel_rfl) rfl)
    (RY (3 - 1) (by omega) (w.heap.size + 1) (w.heap.size + 2) b off nums.length cap hlen hcap w1 (by omega) (by omega) bS1.cell bN1.cell)
    U9.trans (fun W l o o' hl h _ _ g hg=>by
      have:g≠l:=by simp at hg; omega
      exact World.putObj_heap_other this) (Below.refl _ _) (fun _=>rfl)
    (fun pre W=>((∃ v,Boxed W w.heap.size 34 v∧W.ownsRow w.heap.size 5 1 v (outOf enc nums (pre.map Fin.val)).length ((outOf enc nums (pre.map Fin.val)).map OY)∧True)∧(Boxed W (w.heap.size + 1) 56 (.slice (some ⟨b,off,none⟩) nums.length cap)∧Boxed W (w.heap.size + 2) 3 (.int .i64 1000))∧True)∧Below w.heap.size w W)
    (fun _ _ _=>False)
    (OwnFrom.and (OwnFrom.and (Own.from (holdsRow_own w.heap.size w.heap.size 34 5 1 (fun (pre:List (Fin (parts nums.length)))=>(outOf enc nums (pre.map Fin.val)).length) (fun (pre:List (Fin (parts nums.length)))=>(outOf enc nums (pre.map Fin.val)).map OY) (fun _ _=>True)) _) (OwnFrom.and (OwnFrom.and (Own.from (boxed_own _ _ (fun _=>_)) _) (Own.from (boxed_own _ _ (fun _=>_)) _)) (ownFrom_pure _ _))) (ownFrom_below (Nat.le_refl _) (by omega)))
    (fun _ _ _ _ _ hs _ _=>hs)
    ⟨⟨⟨_,bO1,World.ownsRow_nil _ _ _ _,trivial⟩,⟨bS1,bN1⟩,trivial⟩,hB0⟩
    (fun x=>{ tmps := #[t0,t1,t2,t3,.slice (some ⟨b,off,none⟩) nums.length cap,t5,t6,t7,t8,.pointer (some ⟨w.heap.size,0,none⟩),PT b off nums.length x.1,t11,t12,t13,t14,t15,t16,t17,t18,t19,t20,t21,t22,t23,t24,t25,t26,t27,t28,t29,t30,t31,t32,t33,t34,t35,t36,t37,t38,t39,t40,t41,t42,.slice (some ⟨b,off,none⟩) nums.length cap,.func (.func 47) #[] #[.pointer (some ⟨w.heap.size + 1,0,none⟩),.pointer (some ⟨w.heap.size + 2,0,none⟩)],PT b off nums.length x.1,t46,t47,t48,t49,t50,t51,t52,t53,t54,t55,t56,t57,t58,t59],defers := [] }) ?assign ?body ?done ?stop
  case assign =>
    intro l x W K hK
    gi_wp2
    exact hK
  case body =>
    rintro l pre x W ⟨⟨⟨v,hv,hrow,-⟩,⟨hS,hN⟩,-⟩,hB⟩ hlt
    have hxl:1000 * x.1 < nums.length:=by have:=x.2; unfold parts at this; omega
    obtain ⟨part,hpart⟩:∃ part,(nums.drop (1000 * x.1)).take 1000=part:=⟨_,rfl⟩
    obtain ⟨m,hm⟩:∃ m,min 1000 (nums.length - 1000 * x.1)=m:=⟨_,rfl⟩
    have hpl:part.length=m:=by rw [← hpart,← hm]; simp
    have hm1:1≤m:=by omega
    have hm2:m≤1000:=by omega
    have hcell:∀ (wr:World),Below W.heap.size W wr→∀ (j:Nat) (n:Int),part[j]? = some n→wr.cell? ⟨b,off + 1000 * x.1 + j,none⟩=some (.int .i64 n)∧n ∈ nums:=by
      intro wr hb' j n hn
      have hj:j < 1000:=by have:=(List.getElem?_eq_some_iff.1 hn).1; omega
      rw [← hpart,List.getElem?_take,if_pos hj,List.getElem?_drop] at hn
      refine ⟨?_,List.mem_of_getElem? hn⟩
      have h1:=hc _ _ hn
      rw [← Nat.add_assoc] at h1
      exact (hb'.cell (p := ⟨b,off + 1000 * x.1 + j,none⟩) (Nat.lt_of_lt_of_le hb hB.size)).trans ((hB.cell (p := ⟨b,off + 1000 * x.1 + j,none⟩) hb).trans h1)
    unfold PT
    rw [hm]
    have hcO:=hv.cell
    have hfO:=hv.frozen
    gi_wp2
    gi_loopw [11,48] (fun bv iv wr=>∃ j:Nat,iv=.int .i64 j∧j≤m∧Bytes wr bv ((part.take j).flatMap enc)∧Below W.heap.size W wr) (fun _ iv _=>m - (intOf iv).toNat)
    case atStart=>exact ⟨0,rfl,Nat.zero_le _,.inl ⟨rfl,rfl⟩,Below.refl _ _⟩
    case round =>
      obtain ⟨j,rfl,hj,hbs,hbel⟩:=hrel
      by_cases hjm:j < m
      · obtain ⟨n,hn⟩:∃ n,part[j]? = some n:=⟨part[j],List.getElem?_eq_getElem (by omega)⟩
        obtain ⟨hcn,hin⟩:=hcell wr hbel j n hn
        have hin':=hi n hin
        have hfl:=Gi henc (part.take j)
        rw [List.length_take] at hfl
        have HN:Hid (part[j]? = some n):=hn
        have hcs:wr.cell? ⟨b,off + 1000 * x.1 + j,none⟩=some (.int .i64 n):=hcn
        have hP1:=hP wr _ _ n (hw.trans ((hB.trans (hbel.mono hB.size)).mono hw.size)) hbs (by omega) hin'.1 hin'.2
        clear hn hin hfl hcell hc hbs
        gi_wp2_with (refine ⟨trivial,?_⟩; gi_at_call 36; refine (CallsIn.inRound l (callsIn_wide.2 hP1)).mono ?_; rintro e w' ⟨v',rfl,hb',hbel'⟩)
        go_roundw
        case rel=>exact ⟨j + 1,(by simp),hjm,(by rw [List.take_add_one,HN.out,List.flatMap_append]; simpa using hb'),hbel.trans (hbel'.mono hbel.size)⟩
        case measure=>simp [intOf]; omega
      · obtain rfl:j=m:=by omega
        rw [← hpl,List.take_length] at hbs
        have hfl:=Gi henc part
        rcases hbs with ⟨_,h0⟩ | ⟨g,o,capb,rfl,hcb,hgs,hcs⟩
        · have h1:(part.flatMap enc).length=0:=by rw [h0]; rfl
          omega
        have hv2:=hv.kept (Xp hbel) (by simp)
        have hr2:=hrow.kept (Xp hbel) (by rcases hrow.2 with ⟨h,_⟩ | ⟨g,c,cur,h,_⟩; exact .inl (by rw [h]; rfl); exact .inr (by rw [h]; simp [Value.ownBlock]))
        have hcO2:=hv2.cell
        have hfO2:=hv2.frozen
        obtain ⟨bs,hbse⟩:∃ bs,part.flatMap enc=bs:=⟨_,rfl⟩
        rw [hbse] at hcs hcb hfl ⊢
        have HB:Hid (part.flatMap enc=bs):=hbse
        obtain ⟨ol,hole⟩:∃ ol,outOf enc nums (pre.map Fin.val)=ol:=⟨_,rfl⟩
        have hol:=Ei henc nums (pre.map Fin.val)
        rw [hole] at hr2 hol
        rw [List.length_map] at hol
        have HO:Hid (outOf enc nums (pre.map Fin.val)=ol):=hole
        have hpn:pre.length≤400:=by have h:parts nums.length≤400:=(by unfold parts; omega); omega
        have hun:∀ c ∈ bs.map OY,c.oneCell'=true:=fun c hc=>by obtain ⟨y,-,rfl⟩:=List.mem_map.1 hc; rfl
        have hcs':∀ (j:Nat) (u:Value),(bs.map OY)[j]? = some u→wr.cell? ((⟨g,o,none⟩:Addr).add j)=some u:=fun j u hu=>by
          rw [List.getElem?_map] at hu
          obtain ⟨y,hy,rfl⟩:=Option.map_eq_some_iff.1 hu
          have:=hcs j y hy; cases j <;> simpa [Addr.add,OY] using this
        have hbl:bs.length≤10000:=by omega
        have hb1:1≤bs.length:=by omega
        clear hbse hole
        have hsz1:=hB.size
        have hsz2:=hbel.size
        have hml:ol.length + bs.length≤maxLen:=by unfold maxLen; omega
        have hmb:(ol.length + bs.length) * 1≤140737488355328:=by omega
        have hwb:w.heap.size≤wr.heap.size:=by omega
        clear hcs hcell hc hfl hrow
        gi_wp2_with (gi_at_builtin; refine wpListIn_append_own _ rfl _ _ 34 rfl w.heap.size 5 i0 (.int .u8 0) 1 1 Tryd.underlying34 hi0 hz0 hz1 hz2 rfl (by decide) _ _ _ rfl hr2 ⟨g,o,none⟩ bs.length capb (bs.map OY) rfl (by simp) hcs' hun hml hmb hwb ?_; intro v' w1 hown' hgrow _; obtain ⟨g',cap',rfl⟩:=BH (by omega) hown'; obtain ⟨q1,q2,q3,q4,q5,q6⟩:=FK hv2 (by decide) hr2 hwb (Nat.le_refl _) hown' hgrow; have hc1:=q1.cell; have hf1:=q1.frozen)
        have kO:KeepsOthers W wr:=KeepsOthers.of_grownBy (Xp hbel) (fun j o e=>by cases e)
        have s2:=q6 _ _ _ (hS.kept (Xp hbel) (by simp)) (by decide) (by omega)
        have n2:=q6 _ _ _ (hN.kept (Xp hbel) (by simp)) (by decide) (by omega)
        refine ⟨(kO.trans q4).from _,fun y hy=>?_,⟨⟨⟨_,q2,?_,trivial⟩,⟨s2,n2⟩,trivial⟩,hB.trans ((hbel.mono hB.size).trans q5)⟩⟩
        · simp only [List.mem_cons,List.not_mem_nil,or_false] at hy
          rcases hy with rfl | rfl
          · exact s2.trans hS.symm
          · exact n2.trans hN.symm
        · rw [List.map_append,List.map_singleton,O9,HO.out,hpart,HB.out,List.length_append,List.map_append]
          exact q3
  case done =>
    rintro D ys W hD rfl ⟨⟨⟨v,hv,hrow,-⟩,-,-⟩,hB⟩ hK
    have hc:=hv.cell
    gi_wp2
    refine ⟨by simp,.inl ⟨_,_,rfl,run_takeDeferred hK,?_⟩⟩
    rw [PR enc nums] at hrow
    exact ⟨.tuple #[v,.int .i64 0],by simp [results,Tryd.f16,go_sem],hR v _ (bytes_of_row (ownsRow_putObj hrow _ hK rfl)) (fun a n c e=>by rcases hrow.2 with ⟨h,_⟩ | ⟨g,cp,cur,h,hg,_⟩ <;> rw [h] at e <;> cases e; exact hg) (hB.trans (belowK_b (w := w) (Nat.le_refl _) W D _ _ (by omega) hK rfl rfl))⟩
  case stop =>
    rintro D c pre W _ _ h _
    exact h.elim
end Go.Proofs.YtdchnngpjjcchaaDoor
end
section
namespace Go.Proofs.YtdchnngpjjcchaaDoor
open Go Go.RowKit Go.Proofs.YtdchnngpjjcchaaDoor.Abs
section
variable {P:Program}{G:Nat→Option (List AV)}{call:FuncId→List AV→List Zf→Option (AV×List Zf×Eff)}{E:Entry}
theorem NW (hm:P.follows .mixedOrders=true)(hG:GOk G E.W0)(hS:ZB P E.W0 call)(hB:ZB P E.W0 (ZH call)){takes:FuncId→List Nat}{res:List Nat}(L:Nat)(T:Code){Q:Exit→Act→World→Prop}{r:VI×Za}
    (hr:r.1=.normal∨r.1=.ret) (h1:∀ Γ a w,r.1=.normal→Inv E r.2 Γ a w→T.wp P Q a w) (h2:∀ Γ a w,r.1=.ret→Inv E r.2 Γ a w→Q .ret a w) :
    ∀ (l:List (Code×ZG)),(∀ p ∈ l,XC P takes res p.1=some p.2)→∀ {s:Za} {Γ:Zm} {a:Act} {w:World},Zx G call L (l.foldr (fun p c=>.seq p.2 c) .skip) s=some r→Inv E s Γ a w→(l.foldr (fun p c=>.seq p.1 c) T).wp P Q a w
  | [],_,s,Γ,a,w,h,hI=>by cases h; exact h1 Γ a w rfl hI
  | p :: l,hl,s,Γ,a,w,h,hI=>by
    simp only [List.foldr_cons,Zx] at h ⊢
    refine Go.wp_seq ?_
    have hp:=hl p (List.mem_cons_self ..)
    split at h
    · rename_i s1 hs1
      refine Go.wp_mono (RZ hm hG hS hB L hp hs1 hI) fun e a' w' he=>?_
      obtain ⟨k1,Γ',i1⟩:=he
      cases e <;> first | exact k1.elim | skip
      exact NW hm hG hS hB L T hr h1 h2 l (fun q hq=>hl q (List.mem_cons_of_mem _ hq)) h i1
    · rename_i hne
      refine Go.wp_mono (RZ hm hG hS hB L hp h hI) fun e a' w' he=>?_
      obtain ⟨k1,Γ',i1⟩:=he
      rcases hr with hr | hr
      · obtain ⟨x,s1⟩:=r
        cases hr
        exact absurd h (hne s1)
      · rw [hr] at k1
        cases e <;> first | exact k1.elim | skip
        exact h2 Γ' a' w' hr i1
end
noncomputable def q0:Code:=S9 Jw
noncomputable def q1:Code:=S9 (QX Jw)
noncomputable def q2:Code:=S9 (QX (QX Jw))
noncomputable def q3:Code:=S9 (QX (QX (QX Jw)))
noncomputable def q4:Code:=S9 (QX (QX (QX (QX Jw))))
def leftA:ZG→ZG
  | .seq a _=>a
  | c=>c
def Jj:ZG→ZG
  | .seq _ b=>b
  | c=>c
def r0:ZG:=leftA Yi
def r1:ZG:=leftA (Jj Yi)
def r2:ZG:=leftA (Jj (Jj Yi))
def r3:ZG:=leftA (Jj (Jj (Jj Yi)))
def r4:ZG:=leftA (Jj (Jj (Jj (Jj Yi))))
theorem c0:XC Tryd.prog takes [2,3] q0=some r0:=by kernel_rfl
theorem c1:XC Tryd.prog takes [2,3] q1=some r1:=by kernel_rfl
theorem c2:XC Tryd.prog takes [2,3] q2=some r2:=by kernel_rfl
theorem c3:XC Tryd.prog takes [2,3] q3=some r3:=by kernel_rfl
theorem c4:XC Tryd.prog takes [2,3] q4=some r4:=by kernel_rfl
noncomputable def pieces:List (Code×ZG):=[(q0,r0),(q1,r1),(q2,r2),(q3,r3),(q4,r4)]
theorem ZaC:pieces.foldr (fun p c=>Code.seq p.1 c) T16=Jw:=by kernel_rfl
def ZdC:ZG:=.seq r0 (.seq r1 (.seq r2 (.seq r3 (.seq r4 .skip))))
theorem FV:pieces.foldr (fun p c=>ZG.seq p.2 c) .skip=ZdC:=rfl
def Zbd (x4:AV)(hp:HP)(ef:Eff):KR:=some (x4,hp,ef)
def Bc (G:GT)(K:KT)(L:Nat)(x0:AV)(hp0:HP):KR :=
  Zj (Y3 hp0 .slice (AV.ro x0)) fun v0 =>
  Zj (Zd .gtr .prim v0 (.int .i64 50000)) fun v1 =>
  ifK v1
  (some (YV false hp0 (.tup [(AV.nm (.own 1 [])),(AV.nm (.int .i64 6))]) hp0 none))
  (Zj (Y3 hp0 .slice (AV.ro x0)) fun v2 =>
  X8 (PL Ro 1 [v2] hp0) fun v3 h4 =>
  Zj (Y3 h4 .slice (AV.ro x0)) fun v9 =>
  Z4 G K L hp0 Zbd L (AV.ro v3) v3 (.int .i64 0) (AV.ro x0) v9 (.int .i64 0) h4 none)
theorem Ae (G:GT)(K:KT)(L:Nat)(x0:AV)(hp0:HP):ZX G 60 hp0.length K Zt L ZdC (fun e hp ef=>Zbd (e 4).rd hp ef) (Ql Zt Zw hp0) [] (Df [x0]) hp0 none=Bc G K L x0 hp0:=by
  simp only [ZdC,r0,r1,r2,r3,r4,leftA,Jj,Yi,Qv,Wi,Wj,WM]
  have h:ZX G 60 hp0.length K Zt L .skip (fun e hp ef=>Zbd (e 4).rd hp ef) (Ql Zt Zw hp0) []=fun e hp ef=>Zbd (e 4).rd hp ef:=rfl
  rw [h,QO G K L hp0 Zbd _]
  refine Eq.trans ?_ rfl
  kernel_rfl
end Go.Proofs.YtdchnngpjjcchaaDoor
end
section
namespace Go.Proofs.YtdchnngpjjcchaaDoor.Abs
open Go
theorem EV :
    (∀ {α β:Type} (x:α) (f:α→β),Option.map f (some x)=some (f x)) ∧
    (∀ {α:Type} (v:α) (k:α→KR),Zj (some v) k=k v) ∧
    (∀ {α β:Type} (a:α) (b:β) (k:α→β→KR),X8 (some (a,b)) k=k a b) ∧
    (∀ {α β γ:Type} (a:α) (b:β) (c:γ) (k:α→β→γ→KR),YG (some (a,b,c)) k=k a b c) ∧
    (∀ (b:Bool) (x y:KR),ifK (.bool b) x y=if b=true then x else y) ∧
    (∀ (x:KR) (hp:List Zf) (ef:Eff) (k:AV→List Zf→Eff→KR),J9 (some true) x hp ef k=YG x k) ∧
    (∀ (x:KR) (hp:List Zf) (ef:Eff) (k:AV→List Zf→Eff→KR),J9 (some false) x hp ef k=k .undef hp ef) ∧
    (∀ (b:Bool),J8 true (.bool b)=some b) ∧
    (∀ (b:Bool),J8 false (.bool b)=some (!b)) ∧
    (∀ (a b:AV),IX (.bool true) a b=some a) ∧
    (∀ (a b:AV),IX (.bool false) a b=some b) ∧
    (∀ (v:AV),gif true v=v) ∧
    (∀ (b:Bool) (v:AV) (hp:List Zf) (ef:Eff) (k:AV→List Zf→Eff→KR),J9 (some b) (some (v,hp,ef)) hp ef k=k (gif b v) hp ef) ∧
    (∀ (b:Bool) (v:AV),AV.ro (gif b v)=gif b (AV.ro v)) ∧
    (∀ (b c:Bool),IX (.bool b) (gif b (.bool c)) (.bool false)=some (.bool (b && c))) ∧
    (∀ (b c:Bool),IX (.bool b) (.bool true) (gif (!b) (.bool c))=some (.bool (b || c))) ∧
    (∀ (b c:Bool) (hp:List Zf) (ef:Eff) (k:AV→List Zf→Eff→KR),Xi (.bool b) true (some (.bool c,hp,ef)) (some (.bool false)) hp ef k=k (.bool (b && c)) hp ef) ∧
    (∀ (b c:Bool) (hp:List Zf) (ef:Eff) (k:AV→List Zf→Eff→KR),Xi (.bool b) false (some (.bool c,hp,ef)) (some (.bool true)) hp ef k=k (.bool (b || c)) hp ef) ∧
    (∀ (x:KR) (o:Option AV) (hp:List Zf) (ef:Eff) (k:AV→List Zf→Eff→KR),Xi (.bool true) true x o hp ef k=YG x k) ∧
    (∀ (x:KR) (v:AV) (hp:List Zf) (ef:Eff) (k:AV→List Zf→Eff→KR),Xi (.bool false) true x (some v) hp ef k=k v hp ef) ∧
    (∀ (x:KR) (v:AV) (hp:List Zf) (ef:Eff) (k:AV→List Zf→Eff→KR),Xi (.bool true) false x (some v) hp ef k=k v hp ef) ∧
    (∀ (x:KR) (o:Option AV) (hp:List Zf) (ef:Eff) (k:AV→List Zf→Eff→KR),Xi (.bool false) false x o hp ef k=YG x k) ∧
    (∀ {α:Type} (x:α) (k:α→KR),Gj x k=k x) ∧
    (∀ (b:Bool),AV.ro (.bool b)=.bool b) ∧
    (∀ (k:IntKind) (n:Int),AV.ro (.int k n)=.int k n) ∧
    (∀ (s:List UInt8),AV.ro (.str s)=.str s) ∧
    (∀ (k:Nat) (r:List (List AV)),AV.ro (.lst k r)=.lst k r) ∧
    (∀ (k:Nat) (r:List (List AV)),AV.ro (.own k r)=.lst k r) ∧
    (∀ (c:List AV),AV.ro (.agg c)=.agg c) ∧
    (∀ (c:List AV),AV.ro (.tup c)=.tup c) ∧
    (∀ (g o:Nat),AV.ro (.ptr g o)=.ptr g o) ∧
    (∀ (g:Nat),AV.ro (.map g)=.map g) ∧
    (∀ (c:List AV),AV.ro (.ref c)=.ref c) ∧
    (∀ (f:FuncId) (a c:List AV),AV.ro (.fn f a c)=.fn f a c) ∧
    (AV.ro .undef=.undef) ∧
    (∀ (b:Bool),AV.nm (.bool b)=.bool b) ∧
    (∀ (k:IntKind) (n:Int),AV.nm (.int k n)=.int k n) ∧
    (∀ (s:List UInt8),AV.nm (.str s)=.str s) ∧
    (∀ (k:Nat) (r:List (List AV)),AV.nm (.lst k r)=.lst k r) ∧
    (∀ (k:Nat) (r:List (List AV)),AV.nm (.own k r)=.lst k r) ∧
    (∀ (c:List AV),AV.nm (.agg c)=.agg (c.map AV.ro)) ∧
    (∀ (g o:Nat),AV.nm (.ptr g o)=.ptr g o) ∧
    (∀ (g:Nat),AV.nm (.map g)=.map g) ∧
    (∀ (f:FuncId) (a c:List AV),AV.nm (.fn f a c)=.fn f a c) ∧
    (∀ (k:IntKind) (a b:Int),Zd .add .prim (.int k a) (.int k b)=some (.int k (k.wrap (a + b)))) ∧
    (∀ (k:IntKind) (a b:Int),Zd .sub .prim (.int k a) (.int k b)=some (.int k (k.wrap (a - b)))) ∧
    (∀ (k:IntKind) (a b:Int),Zd .mul .prim (.int k a) (.int k b)=some (.int k (k.wrap (a * b)))) ∧
    (∀ (k:IntKind) (a b:Int),Zd .eql .prim (.int k a) (.int k b)=some (.bool (decide (a=b)))) ∧
    (∀ (k:IntKind) (a b:Int),Zd .neq .prim (.int k a) (.int k b)=some (.bool (decide (a≠b)))) ∧
    (∀ (k:IntKind) (a b:Int),Zd .lss .prim (.int k a) (.int k b)=some (.bool (decide (a < b)))) ∧
    (∀ (k:IntKind) (a b:Int),Zd .leq .prim (.int k a) (.int k b)=some (.bool (decide (a≤b)))) ∧
    (∀ (k:IntKind) (a b:Int),Zd .gtr .prim (.int k a) (.int k b)=some (.bool (decide (b < a)))) ∧
    (∀ (k:IntKind) (a b:Int),Zd .geq .prim (.int k a) (.int k b)=some (.bool (decide (b≤a)))) ∧
    (∀ (a b:List UInt8),Zd .eql .prim (.str a) (.str b)=some (.bool (decide (a=b)))) ∧
    (∀ (a b:List UInt8),Zd .neq .prim (.str a) (.str b)=some (.bool (decide (a≠b)))) ∧
    (∀ (ks:List CK) (k:IntKind) (x y:Int) (l m:List AV),ZP (.int :: ks) (.int k x :: l) (.int k y :: m)=if x=y then ZP ks l m else some false) ∧
    (∀ (ks:List CK) (x y:List UInt8) (l m:List AV),ZP (.str :: ks) (.str x :: l) (.str y :: m)=if x=y then ZP ks l m else some false) ∧
    (∀ (ks:List CK) (x y:Bool) (l m:List AV),ZP (.bool :: ks) (.bool x :: l) (.bool y :: m)=if x=y then ZP ks l m else some false) ∧
    (ZP [] [] []=some true) ∧
    (∀ (p:Prop) [Decidable p] (b:Bool),(if p then some b else some false)=some (decide p && b)) ∧
    (∀ (ks:List CK) (a b:List AV),Zd .eql (.struct ks) (.agg a) (.agg b)=(ZP ks a b).map .bool) ∧
    (∀ (ks:List CK) (a b:List AV),Zd .neq (.struct ks) (.agg a) (.agg b)=(ZP ks a b).map fun b=>.bool (!b)) ∧
    (∀ (a b:Bool),Zd .eql .bool (.bool a) (.bool b)=some (.bool (a == b))) ∧
    (∀ (a b:Bool),Zd .neq .bool (.bool a) (.bool b)=some (.bool (!(a == b)))) ∧
    (∀ (b:Bool),XE .not (.bool b)=some (.bool (!b))) ∧
    (∀ (k:IntKind) (n:Int),XE .neg (.int k n)=some (.int k (k.wrap (0 - n)))) ∧
    (∀ (hp:List Zf) (s:List UInt8),Y3 hp .str (.str s)=some (.int .i64 s.length)) ∧
    (∀ (hp:List Zf) (k:Nat) (r:List (List AV)),Y3 hp .slice (.lst k r)=some (.int .i64 r.length)) ∧
    (∀ (hp:List Zf) (k k':IntKind) (n:Int),Yo hp (.int k) (.int k' n)=some (.int k (k.wrap n))) ∧
    (∀ (l:List AV) (i:Nat),Z9 (.tup l) i=(l[i]?).map AV.ro) ∧
    (∀ (bs:Nat) (ef:Eff),Zk bs ef none=ef) ∧
    (∀ (hp0:List Zf) (b:Bool) (hp:List Zf),YV false hp0 (.bool b) hp none=(.bool b,hp0,none)) ∧
    (∀ (hp0:List Zf) (k:IntKind) (n:Int) (hp:List Zf),YV false hp0 (.int k n) hp none=(.int k n,hp0,none)) ∧
    (∀ (hp0:List Zf) (s:List UInt8) (hp:List Zf),YV false hp0 (.str s) hp none=(.str s,hp0,none)) ∧
    (∀ (hp0:List Zf) (k:Nat) (r:List (List AV)) (hp:List Zf),YV false hp0 (.lst k r) hp none=(.lst k r,hp0,none)) ∧
    (∀ (hp0:List Zf) (k:Nat) (r:List (List AV)) (hp:List Zf),YV false hp0 (.own k r) hp none=(.own k r,hp0,none)) ∧
    (∀ (bs:Nat) (hp:List Zf) (k:IntKind) (n:Int),JU bs hp (.int k n)=some (.int k n)) ∧
    (∀ (bs:Nat) (hp:List Zf) (s:List UInt8),JU bs hp (.str s)=some (.str s)) ∧
    (∀ (bs:Nat) (hp:List Zf) (b:Bool),JU bs hp (.bool b)=some (.bool b)) ∧
    (∀ (bs:Nat) (hp:List Zf) (k:Nat) (r:List (List AV)),JU bs hp (.lst k r)=some (.lst k r)) ∧
    (∀ (o:Nat) (c:List AV),Ym o (.ref c)=some (.ref (c.drop o))) ∧
    (∀ (o g p:Nat),Ym o (.ptr g p)=some (.ptr g (p + o))) ∧
    (∀ (hp:List Zf) (c:AV) (l:List AV),Zu hp (.ref (c :: l))=some c.ro) :=
  ⟨fun x f=>rfl,@Zde,@Zdc,@Zdd,@Zeg,@AC,@AB,@NV,@NU,@Zb9,@Zb8,@Zef,@Bi,@Zdn,@FQ,@FT,@Zba,@Zcx,@Zcz,@Zcw,@Zcy,@Zcv,@Zc7,@ZbF,@Zdp,@Zd0,@Zdt,@Zdx,@Zdl,@Zd1,@Zdy,@Zdu,@Zdz,@Ze2,Cj,@Zbi,@ZcF,@ZcK,@ZcG,@ZcI,@ZcE,@ZcJ,@ZcH,@Zen,@ZdL,@ZdS,@ZdO,@ZeJ,@ZeO,@ZeN,@ZeM,@ZeL,@ZeK,@ZeU,@ZeV,@Zex,@Zez,@Zdi,Zey,@ZeT,@ZdN,@ZdQ,@ZdM,@ZdP,@Ze9,@Ze8,@Zej,@Zei,@ZdW,@ZeA,@Pq,@Au,@ZaT,@ZaX,@ZaU,@ZaW,@D7,@A8,@NP,@A7,@Zaj,@Zai,@Zbf⟩
section
variable {hp:List Zf}{g:Nat}{cs:List AV}{t:TypeId}
theorem D8 (h:hp[g]? = some (.cells cs t))(x:Zf):(hp ++ [x])[g]? = some (.cells cs t):=by rw [List.getElem?_append_left (List.getElem?_eq_some_iff.1 h).1]; exact h
theorem X6 (h:hp[g]? = some (.cells cs t))(n:Nat)(h1:cs.length=n)(h2:cs.map AV.ro=cs):ZJ hp n (.ptr g 0)=some (.agg cs):=by
  rw [Zbe h n 0 (by omega),List.drop_zero,List.take_of_length_le (by omega),h2]
end
theorem st_all (bs n:Nat)(h:List Zf)(cs c:List AV)(t:TypeId)(ef:Eff)(h1:c.length=n)(h2:cs.length=n)(h4:bs≤h.length):stV bs n (.ptr h.length 0) (.agg c) (h ++ [.cells cs t]) ef=some (h ++ [.cells c t],ef):=by
  rw [CE bs n h cs t 0 (.agg c) ef h1 (by omega) rfl h4]
  have:splice cs 0 c=c:=by simp [splice,h1,← h2]
  rw [GG,this]
theorem RQ (n:Nat)(c:List AV)(h:c.length=n):Py n (.agg c)=some c:=ZaD n c h
theorem LD :
    (∀ (h:List Zf) (cs:List AV) (t:TypeId) (o:Nat),Zu (h ++ [.cells cs t]) (.ptr h.length o)=(cs[o]?).map AV.ro) ∧
    (∀ (h:List Zf) (cs:List AV) (t:TypeId) (o:Nat) (x:Zf),Zu (h ++ [.cells cs t] ++ [x]) (.ptr h.length o)=(cs[o]?).map AV.ro) ∧
    (∀ (h:List Zf) (cs:List AV) (t:TypeId) (o:Nat) (x y:Zf),Zu (h ++ [.cells cs t] ++ [x] ++ [y]) (.ptr h.length o)=(cs[o]?).map AV.ro) ∧
    (∀ (h:List Zf) (cs:List AV) (t:TypeId) (o:Nat) (x y z:Zf),Zu (h ++ [.cells cs t] ++ [x] ++ [y] ++ [z]) (.ptr h.length o)=(cs[o]?).map AV.ro) ∧
    (∀ (h:List Zf) (cs:List AV) (t:TypeId) (n:Nat),cs.length=n→cs.map AV.ro=cs→ZJ (h ++ [.cells cs t]) n (.ptr h.length 0)=some (.agg cs)) ∧
    (∀ (h:List Zf) (cs:List AV) (t:TypeId) (n:Nat) (x:Zf),cs.length=n→cs.map AV.ro=cs→ZJ (h ++ [.cells cs t] ++ [x]) n (.ptr h.length 0)=some (.agg cs)) ∧
    (∀ (h:List Zf) (cs:List AV) (t:TypeId) (n:Nat) (x y:Zf),cs.length=n→cs.map AV.ro=cs→ZJ (h ++ [.cells cs t] ++ [x] ++ [y]) n (.ptr h.length 0)=some (.agg cs)) ∧
    (∀ (h:List Zf) (cs:List AV) (t:TypeId) (n:Nat) (x y z:Zf),cs.length=n→cs.map AV.ro=cs→ZJ (h ++ [.cells cs t] ++ [x] ++ [y] ++ [z]) n (.ptr h.length 0)=some (.agg cs)) ∧
    (∀ (g o:Nat),Ym o (.ptr g 0)=some (.ptr g o))∧(∀ (n:Nat) (c:List AV),c.length=n→Py n (.agg c)=some c)∧(∀ (α β:Type) (f:α→β) (l:List α),(l.map f).length=l.length) ∧
    (∀ (hp:List Zf) (n:Nat) (c:List AV),c.length=n→c.map AV.ro=c→ZJ hp n (.ref c)=some (.agg c))∧(∀ c:List AV,Ym 0 (.ref c)=some (.ref c))∧(∀ n:Nat,0 + n=n)∧(∀ (hp:List Zf) (c:List AV),Zu hp (.ref c)=(c[0]?).map AV.ro)∧(∀ (α:Type) (l:List α) (i j:Nat),(l.drop i)[j]? = l[i + j]?)∧(∀ n:Nat,n + 0=n) :=
  ⟨fun h cs t o=>DD h cs t o,fun h cs t o x=>Hr (D8 (YF h _) x) o,fun h cs t o x y=>Hr (D8 (D8 (YF h _) x) y) o,fun h cs t o x y z=>Hr (D8 (D8 (D8 (YF h _) x) y) z) o,
   fun h cs t n=>X6 (YF h _) n,fun h cs t n x=>X6 (D8 (YF h _) x) n,fun h cs t n x y=>X6 (D8 (D8 (YF h _) x) y) n,fun h cs t n x y z=>X6 (D8 (D8 (D8 (YF h _) x) y) z) n,
   fun g o=>by rw [Zai,Nat.zero_add],RQ,fun _ _ f l=>List.length_map f,fun hp n c h1 h2=>by rw [Su hp n c (by omega),List.take_of_length_le (by omega),h2],fun c=>by rw [Zaj,List.drop_zero],Nat.zero_add,fun hp c=>by cases c <;> rfl,fun _ l i j=>List.getElem?_drop,Nat.add_zero⟩
def ZdB (x:KR)(hp:List Zf):KR :=
  match x with
  | some (v,_,none)=>if v.flat then some (v,hp,none) else none
  | _=>none
theorem QC :
    (∀ (K:FuncId→List AV→List Zf→KR) (f:FuncId) (a:List AV) (hp:List Zf),ZL K f a hp=ZdB (K f a hp) hp) ∧
    (∀ (b:Bool) (h hp:List Zf),ZdB (some (.bool b,h,none)) hp=some (.bool b,hp,none)) ∧
    (∀ (k:IntKind) (x:Int) (h hp:List Zf),ZdB (some (.int k x,h,none)) hp=some (.int k x,hp,none)) ∧
    (∀ (s:List UInt8) (h hp:List Zf),ZdB (some (.str s,h,none)) hp=some (.str s,hp,none)) :=
  ⟨fun _ _ _ _=>rfl,fun _ _ _=>rfl,fun _ _ _ _=>rfl,fun _ _ _=>rfl⟩
theorem lp {α:Type}(row:α→List AV){l q r:List α}{x:α}(h:l=q ++ x :: r)(hb:l.length≤4611686018427387) :
    decide ((q.length:Int) < (l.length:Int))=true∧(l.map row)[q.length]? = some (row x)∧IntKind.i64.wrap ((q.length:Int) + 1)=((q ++ [x]).length:Int)∧l=(q ++ [x]) ++ r∧x ∈ l:=by
  subst h
  refine ⟨?_,?_,?_,by simp,by simp⟩
  · simp only [List.length_append,List.length_cons,decide_eq_true_eq]; omega
  · simp
  · have:q.length < 4611686018427387904:=by simp at hb; omega
    rw [Pm _ this]; simp
theorem lp0 {α:Type}{l q:List α}(h:l=q ++ []):decide ((q.length:Int) < (l.length:Int))=false:=by
  subst h; simp
theorem fuel {C:Cfg}{N d:Nat}(h:d + 1≤N):∃ m,N=m + 1∧d≤m:=⟨N - 1,by omega,by omega⟩
theorem EX:(∀ (a:AV) (l:List AV),Z9 (.tup (a :: l)) 0=some a.ro)∧(∀ (a b:AV) (l:List AV),Z9 (.tup (a :: b :: l)) 1=some b.ro)∧(∀ (a b c:AV) (l:List AV),Z9 (.tup (a :: b :: c :: l)) 2=some c.ro)∧(∀ (a b c d:AV) (l:List AV),Z9 (.tup (a :: b :: c :: d :: l)) 3=some d.ro)∧(∀ (a b c d e:AV) (l:List AV),Z9 (.tup (a :: b :: c :: d :: e :: l)) 4=some e.ro) :=
  ⟨fun _ _=>rfl,fun _ _ _=>rfl,fun _ _ _ _=>rfl,fun _ _ _ _ _=>rfl,fun _ _ _ _ _ _=>rfl⟩
theorem max2 (a b:Int):ZcA [.int .i64 a,.int .i64 b]=some (.int .i64 (if b > a then b else a)):=rfl
theorem min2 (a b:Int):ZcB [.int .i64 a,.int .i64 b]=some (.int .i64 (if b < a then b else a)):=rfl
theorem ZaP (cs:List AV):fill cs []=some cs:=rfl
theorem GI:(∀ (α:Type) (a:α) (l:List α),(a :: l)[0]? = some a)∧(∀ (α:Type) (a b:α) (l:List α),(a :: b :: l)[1]? = some b)∧(∀ (α:Type) (a b c:α) (l:List α),(a :: b :: c :: l)[2]? = some c)∧(∀ (α:Type) (a b c d:α) (l:List α),(a :: b :: c :: d :: l)[3]? = some d):=⟨fun _ _ _=>rfl,fun _ _ _ _=>rfl,fun _ _ _ _ _=>rfl,fun _ _ _ _ _ _=>rfl⟩
def ZaQ (hp0:List Zf)(x y:Option AV)(d:AV×List Zf×Eff):AV×List Zf×Eff :=
  match x,y with
  | some a,some b=>(.tup [a,b],hp0,none)
  | _,_=>d
def ZaR (hp0:List Zf)(x y z:Option AV)(d:AV×List Zf×Eff):AV×List Zf×Eff :=
  match x,y,z with
  | some a,some b,some c=>(.tup [a,b,c],hp0,none)
  | _,_,_=>d
theorem TUP:(∀ (hp0:List Zf) (a b:AV) (hp:List Zf),YV false hp0 (.tup [a,b]) hp none=ZaQ hp0 (JU hp0.length hp a) (JU hp0.length hp b) (.tup [a,b],hp,none)) ∧
    (∀ (hp0:List Zf) (a b c:AV) (hp:List Zf),YV false hp0 (.tup [a,b,c]) hp none=ZaR hp0 (JU hp0.length hp a) (JU hp0.length hp b) (JU hp0.length hp c) (.tup [a,b,c],hp,none)) ∧
    (∀ (hp0:List Zf) (a b:AV) (d:AV×List Zf×Eff),ZaQ hp0 (some a) (some b) d=(.tup [a,b],hp0,none)) ∧
    (∀ (hp0:List Zf) (a b c:AV) (d:AV×List Zf×Eff),ZaR hp0 (some a) (some b) (some c) d=(.tup [a,b,c],hp0,none)):=by
  refine ⟨fun hp0 a b hp=>?_,fun hp0 a b c hp=>?_,fun _ _ _ _=>rfl,fun _ _ _ _ _=>rfl⟩
  · rw [NM]
    cases h1:JU hp0.length hp a <;> cases h2:JU hp0.length hp b <;> simp [ZaQ,h1,h2]
  · rw [NM]
    cases h1:JU hp0.length hp a <;> cases h2:JU hp0.length hp b <;> cases h3:JU hp0.length hp c <;> simp [ZaR,h1,h2,h3]
end Go.Proofs.YtdchnngpjjcchaaDoor.Abs
end
section
namespace Go.Proofs.YtdchnngpjjcchaaDoor
open Go Go.RowKit Go.Proofs.YtdchnngpjjcchaaDoor.Abs
set_option maxRecDepth 100000
set_option maxHeartbeats 0
def ints (l:List Int):List (List AV):=l.map fun x=>[.int .i64 x]
def strs (l:List (List UInt8)):List (List AV):=l.map fun x=>[.str x]
structure YS where
  Time:Int
  Site:Int
  What:Int
  Proc:Int
  Index:Int
  Value:Int
  deriving DecidableEq
def Yf (x:YS):List AV:=[.int .i64 x.Time,.int .i64 x.Site,.int .i64 x.What,.int .i64 x.Proc,.int .i64 x.Index,.int .i64 x.Value]
theorem W9 (x:YS):(Yf x).length=6:=by rfl
theorem Q5 (x:YS):(Yf x).map AV.ro=Yf x:=by rfl
theorem U0 (x:YS):(Yf x)[0]? = some (.int .i64 x.Time):=by rfl
theorem OG (x:YS):(Yf x)[1]? = some (.int .i64 x.Site):=by rfl
theorem OH (x:YS):(Yf x)[2]? = some (.int .i64 x.What):=by rfl
theorem OI (x:YS):(Yf x)[3]? = some (.int .i64 x.Proc):=by rfl
theorem OJ (x:YS):(Yf x)[4]? = some (.int .i64 x.Index):=by rfl
theorem OL (x:YS):(Yf x)[5]? = some (.int .i64 x.Value):=by rfl
structure QT (x:YS):Prop where
  Time:-9223372036854775808≤x.Time∧x.Time≤9223372036854775807
  Site:-9223372036854775808≤x.Site∧x.Site≤9223372036854775807
  What:-9223372036854775808≤x.What∧x.What≤9223372036854775807
  Proc:-9223372036854775808≤x.Proc∧x.Proc≤9223372036854775807
  Index:-9223372036854775808≤x.Index∧x.Index≤9223372036854775807
  Value:-9223372036854775808≤x.Value∧x.Value≤9223372036854775807
end Go.Proofs.YtdchnngpjjcchaaDoor
end
section
namespace Go.Proofs.YtdchnngpjjcchaaDoor
open Go Go.RowKit Go.Proofs.YtdchnngpjjcchaaDoor.Abs
def zz (n:Int):Nat:=if n < 0 then 2 * (-n - 1).toNat + 1 else 2 * n.toNat
def CW (u:Nat):Int:=if u % 2=1 then -((u / 2:Nat):Int) - 1 else ((u / 2:Nat):Int)
def vb:Nat→Nat→List UInt8
  | 0,u=>[UInt8.ofNat u]
  | k + 1,u=>if u < 128 then [UInt8.ofNat u] else UInt8.ofNat (u % 128 + 128) :: vb k (u / 128)
def enc (n:Int):List UInt8:=vb 9 (zz n)
def giF:Nat→Nat→Nat→List UInt8→Int×Int×Int
  | 0,_,_,_=>(0,0,8)
  | _ + 1,_,_,[]=>(0,0,7)
  | r + 1,i,u,c :: l=>if i=9∧1 < c.toNat then (0,0,8) else
    if 128≤c.toNat then giF r (i + 1) (u + (c.toNat % 128) * 2 ^ (7 * i)) l else
    if c.toNat=0∧0 < i then (0,0,8) else (CW (u + (c.toNat % 128) * 2 ^ (7 * i)),i + 1,0)
def YC (l:List UInt8):Int×Int×Int:=giF 10 0 0 l
theorem ZeC {n:Int}(h1:-9223372036854775808≤n)(h2:n≤9223372036854775807):zz n < 2 ^ 64:=by unfold zz; split <;> omega
theorem Za0:∀ k u,1≤(vb k u).length∧(vb k u).length≤k + 1
  | 0,u=>by simp [vb]
  | k + 1,u=>by
    have:=Za0 k (u / 128)
    unfold vb; split
    · simp
    · simp only [List.length_cons]; omega
theorem Be (n:Int):1≤(enc n).length∧(enc n).length≤10:=Za0 9 _
end Go.Proofs.YtdchnngpjjcchaaDoor
end
section
namespace Go.Proofs.YtdchnngpjjcchaaDoor
open Go Go.RowKit Go.Proofs.YtdchnngpjjcchaaDoor.Abs
set_option maxRecDepth 100000
def cT (f:FuncId):Option AFn:=(tab.find? (·.1 == f)).map (·.2)
structure JD (C:Cfg):Prop where
  T:∀ f a,cT f=some a→C.T f=some a
  L:9223372036854775808≤C.L
def ZU (l:List UInt8):List (List AV):=l.map byteRow
def bcs (l:List UInt8):List AV:=l.map fun c=>.int .u8 c.toNat
theorem w8 (n:Nat):IntKind.u8.wrap (n:Int)=((UInt8.ofNat n).toNat:Int):=by
  rw [UInt8.toNat_ofNat']
  simp [IntKind.wrap,IntKind.bits,IntKind.signed]
theorem w64 {x:Int}(h1:0≤x)(h2:x < 18446744073709551616):IntKind.u64.wrap x=x:=by
  simp [IntKind.wrap,IntKind.bits,IntKind.signed]; omega
theorem ZdE (x:Int):IntKind.u64.wrap x=x % 18446744073709551616:=by
  simp [IntKind.wrap,IntKind.bits,IntKind.signed]
theorem ZdD (k l:IntKind)(a b:Int):Zd .shl .prim (.int k a) (.int l b)=if b < 0 then none else some (.int k (k.wrap (a * 2 ^ (min b.toNat k.bits)))):=by simp [Zd,Wn,VE]
theorem Ze5 (k l:IntKind)(a b:Int):Zd .shr .prim (.int k a) (.int l b)=if b < 0 then none else some (.int k (a.fdiv (2 ^ (min b.toNat k.bits)))):=by simp [Zd,Wn,VE]
def or8 (a b:Int):Int:=IntKind.u8.wrap ((BitVec.ofInt 8 a ||| BitVec.ofInt 8 b).toNat:Int)
def ZeF (a b:Int):Int:=IntKind.u8.wrap ((BitVec.ofInt 8 a &&& BitVec.ofInt 8 b).toNat:Int)
def Zcc (a b:Int):Int:=IntKind.u8.wrap ((BitVec.ofInt 8 a &&& ~~~ BitVec.ofInt 8 b).toNat:Int)
def Zew (a b:Int):Int:=IntKind.u64.wrap ((BitVec.ofInt 64 a ||| BitVec.ofInt 64 b).toNat:Int)
def Za2 (a b:Int):Int:=IntKind.u64.wrap ((BitVec.ofInt 64 a &&& BitVec.ofInt 64 b).toNat:Int)
def ZbR (a b:Int):Int:=IntKind.u64.wrap ((BitVec.ofInt 64 a ^^^ BitVec.ofInt 64 b).toNat:Int)
def ZeB (a b:Int):Int:=IntKind.i64.wrap ((BitVec.ofInt 64 a ^^^ BitVec.ofInt 64 b).toNat:Int)
theorem Zcf (k:IntKind)(a b:Int):Zd .or .prim (.int k a) (.int k b)=some (.int k (k.wrap ((BitVec.ofInt k.bits a ||| BitVec.ofInt k.bits b).toNat:Int))):=by simp [Zd,Wn,Qi]
theorem Zad (k:IntKind)(a b:Int):Zd .xor .prim (.int k a) (.int k b)=some (.int k (k.wrap ((BitVec.ofInt k.bits a ^^^ BitVec.ofInt k.bits b).toNat:Int))):=by simp [Zd,Wn,Qi]
theorem Zac (k:IntKind)(a b:Int):Zd .and .prim (.int k a) (.int k b)=some (.int k (k.wrap ((BitVec.ofInt k.bits a &&& BitVec.ofInt k.bits b).toNat:Int))):=by simp [Zd,Wn,Qi]
theorem Za8 (k:IntKind)(a b:Int):Zd .andNot .prim (.int k a) (.int k b)=some (.int k (k.wrap ((BitVec.ofInt k.bits a &&& ~~~ BitVec.ofInt k.bits b).toNat:Int))):=by simp [Zd,Wn,Qi]
theorem ZdR (a b:Int):Zd .or .prim (.int .u8 a) (.int .u8 b)=some (.int .u8 (or8 a b)):=Zcf .u8 a b
theorem Nv (a b:Int):Zd .and .prim (.int .u8 a) (.int .u8 b)=some (.int .u8 (ZeF a b)):=Zac .u8 a b
theorem RI (a b:Int):Zd .andNot .prim (.int .u8 a) (.int .u8 b)=some (.int .u8 (Zcc a b)):=Za8 .u8 a b
theorem Nw (a b:Int):Zd .or .prim (.int .u64 a) (.int .u64 b)=some (.int .u64 (Zew a b)):=Zcf .u64 a b
theorem Za7 (a b:Int):Zd .and .prim (.int .u64 a) (.int .u64 b)=some (.int .u64 (Za2 a b)):=Zac .u64 a b
theorem Za9 (a b:Int):Zd .xor .prim (.int .u64 a) (.int .u64 b)=some (.int .u64 (ZbR a b)):=Zad .u64 a b
theorem Zch (a b:Int):Zd .xor .prim (.int .i64 a) (.int .i64 b)=some (.int .i64 (ZeB a b)):=Zad .i64 a b
theorem Zev:∀ a:Fin 256,or8 (a.1:Int) 128=((a.1 % 128 + 128:Nat):Int):=by decide +kernel
theorem Zcb:∀ a:Fin 256,ZeF (a.1:Int) 128=if 128≤a.1 then 128 else 0:=by decide +kernel
theorem Za3:∀ a:Fin 256,Zcc (a.1:Int) 128=((a.1 % 128:Nat):Int):=by decide +kernel
theorem Po (x:BitVec 64):(x ^^^ BitVec.ofInt 64 (-1)).toNat=18446744073709551615 - x.toNat:=by
  have:BitVec.ofInt 64 (-1)=BitVec.allOnes 64:=by decide
  rw [this,BitVec.xor_allOnes,BitVec.toNat_not]
theorem QH {x:Int}(h1:0≤x)(h2:x < 18446744073709551616):(BitVec.ofInt 64 x).toNat=x.toNat:=by
  rw [BitVec.toNat_ofInt]
  congr 1
  omega
theorem Ap {C:Cfg}(hC:JD C)(N:Nat)(hN:1≤N)(hp:HP)(n:Int)(h1:-9223372036854775808≤n)(h2:n≤9223372036854775807):Zb C N QL [.int .i64 n] hp=some (.int .u64 (zz n),hp,none):=by
  obtain ⟨m,rfl,hm⟩:=fuel (C := C) (d := 0) hN
  refine KP (hC.T _ _ rfl) ?_
  have e1:(63:Int).toNat=63:=rfl
  simp only [Vf,EV,ZdD,Ze5,Za9,IntKind.bits,show ¬ ((1:Int) < 0) by decide,show ¬ ((63:Int) < 0) by decide,if_false,show min (Int.toNat 1) 64=1 by decide,show min (Int.toNat 63) 64=63 by decide]
  refine congrArg some (congrArg (fun x=>(AV.int .u64 x,hp,(none:Eff))) ?_)
  by_cases h0:n < 0
  · have a1:n.fdiv (2 ^ 63)=-1:=by rw [Int.fdiv_eq_ediv_of_nonneg _ (by decide)]; omega
    have a2:IntKind.u64.wrap (-1)=18446744073709551615:=by decide
    have a3:BitVec.ofInt 64 18446744073709551615=BitVec.ofInt 64 (-1):=by decide
    unfold ZbR
    rw [a1,a2,a3,Po,ZdE (IntKind.u64.wrap n * 2 ^ 1),ZdE n]
    rw [QH (by omega) (by omega),w64 (by omega) (by omega)]
    unfold zz
    rw [if_pos h0]
    omega
  · have a1:n.fdiv (2 ^ 63)=0:=by rw [Int.fdiv_eq_ediv_of_nonneg _ (by decide)]; omega
    have a2:IntKind.u64.wrap 0=0:=by decide
    unfold ZbR
    rw [a1,a2,show BitVec.ofInt 64 0=0#64 by decide,BitVec.xor_zero,ZdE (IntKind.u64.wrap n * 2 ^ 1),ZdE n]
    rw [QH (by omega) (by omega),w64 (by omega) (by omega)]
    unfold zz
    rw [if_neg h0]
    omega
theorem Zae:∀ (l:List AV),chunk 1 l.length l=l.map fun x=>[x]
  | []=>rfl
  | x :: l=>by simp only [List.length_cons,chunk,List.take_succ_cons,List.take_zero,List.drop_succ_cons,List.drop_zero,List.map_cons,Zae l]
theorem EY (l:List UInt8):(bcs l).map (fun x=>[x])=ZU l:=by simp [bcs,ZU,byteRow]
theorem D6 (bs:Nat)(hp:HP)(d:Nat):∀ l:List UInt8,(bcs l).mapM (PH bs hp d)=some (bcs l)
  | []=>rfl
  | c :: l=>by
    show List.mapM (PH bs hp d) (.int .u8 c.toNat :: bcs l)=_
    rw [List.mapM_cons,D6 bs hp d l]
    simp [PH,AV.ro,bcs]
theorem EW (l:List UInt8):(bcs l).all AV.noId1=true:=by simp [bcs,AV.noId1]
theorem NL (hp0:HP)(cs:List AV)(t:TypeId)(n:Nat)(l:List UInt8)(hl:l.length=n)(hn:n≤cs.length)(hc:cs.take n=bcs l):YV false hp0 (.arr hp0.length 0 n 1) (hp0 ++ [.cells cs t]) none=(.lst 1 (ZU l),hp0,none):=by
  refine ZaS ?_
  have h1:PH hp0.length (hp0 ++ [.cells cs t]) 4 (.arr hp0.length 0 n 1)=some (.lst 1 (ZU l)):=by
    rw [PH]
    rw [if_neg (Nat.lt_irrefl _)]
    simp only [YF,Nat.zero_add,Nat.mul_one,List.drop_zero]
    rw [if_pos hn,hc,D6]
    simp only [Option.bind_some,EW,if_true]
    rw [← hl,show l.length=(bcs l).length by simp [bcs],Zae,EY]
  exact h1
end Go.Proofs.YtdchnngpjjcchaaDoor
end
section
namespace Go.Proofs.YtdchnngpjjcchaaDoor
open Go Go.RowKit Go.Proofs.YtdchnngpjjcchaaDoor.Abs
set_option maxRecDepth 100000
theorem Zan (g i:Nat)(h:i < 10):Yn (.arr 10 1) (.ptr g 0) (.int .i64 i)=some (.ptr g i):=by
  simp only [Yn]; rw [if_pos (by omega)]; simp
theorem Iw (bs:Nat)(h:List Zf)(cs:List AV)(t:TypeId)(o:Nat)(v:AV)(ef:Eff)(h1:v.one=true)(h2:o < cs.length)(h4:bs≤h.length):Oa bs (.ptr h.length o) v (h ++ [.cells cs t]) ef=some (h ++ [.cells (cs.set o v) t],ef):=by
  have e:=YF h (.cells cs t)
  simp only [Oa,e,TF]
  have:Xc bs ef h.length 0=ef:=by simp [Xc]; omega
  simp [h1,h2,this]
theorem take_set {cs:List AV}{i:Nat}{v:AV}{w:List AV}(h:i < cs.length)(hw:cs.take i=w):(cs.set i v).take (i + 1)=w ++ [v]:=by
  rw [List.take_add_one,List.take_set_of_le (Nat.le_refl _),hw,List.getElem?_set_self h]; rfl
theorem Dh (w:List UInt8)(c:UInt8):bcs (w ++ [c])=bcs w ++ [.int .u8 c.toNat]:=by simp [bcs]
theorem wk (n:Nat)(h:n < 4611686018427387904):IntKind.i64.wrap ((n:Int) + 1)=((n + 1:Nat):Int):=Pm n h
theorem NH {G:GT}{K:KT}{L:Nat}{hp0:HP}{t:TypeId}(i u:Nat)(cs:List AV)(w:List UInt8)(hi:i < 10)(hw:w.length=i)(hl:cs.length=10)(hc:cs.take i=bcs w) :
    Y1 G K L hp0 (.ptr hp0.length 0) (.int .u64 u) (.int .i64 i) (hp0 ++ [.cells cs t]) none=some (.lst 1 (ZU (w ++ [UInt8.ofNat u])),hp0,none):=by
  have a1:Ws (.arr 10 1) (.ptr hp0.length 0) (.int .i64 ((i + 1:Nat):Int)) (.int .i64 ((i + 1:Nat):Int))=some (.arr hp0.length 0 (i + 1) 1):=by
    simp only [Ws]
    rw [if_pos (by omega),if_neg (by omega)]
    simp
  simp only [Y1,EV,w8,Zan _ _ hi,Iw _ _ _ _ _ _ _ (SX _ _) (show i < cs.length by omega) (Nat.le_refl _),wk i (by omega),a1]
  rw [NL hp0 _ t (i + 1) (w ++ [UInt8.ofNat u]) (by simp [hw]) (by simp [hl]; omega) (by rw [take_set (by omega) hc,Dh])]
theorem ZbN (u:Nat):((u:Int)).fdiv (2 ^ (min (Int.toNat 7) 64))=((u / 128:Nat):Int):=by
  rw [Int.fdiv_eq_ediv_of_nonneg _ (by decide)]
  have:(2:Int) ^ (min (Int.toNat 7) 64)=128:=by decide
  rw [this]; omega
theorem ZeS (u:Nat):or8 (((UInt8.ofNat u).toNat:Nat):Int) 128=((UInt8.ofNat (u % 128 + 128)).toNat:Int):=by
  have h:=Zev ⟨(UInt8.ofNat u).toNat,(UInt8.ofNat u).toNat_lt⟩
  rw [h]
  congr 1
  show (UInt8.ofNat u).toNat % 128 + 128=_
  rw [UInt8.toNat_ofNat',UInt8.toNat_ofNat']
  omega
theorem Dv {G:GT}{K:KT}{L:Nat}{hp0:HP}{t:TypeId}:∀ (k i u m:Nat) (cs:List AV) (w:List UInt8),k + i=9→w.length=i→cs.length=10→cs.take i=bcs w→u < 2 ^ (64 - 7 * i)→k < m →
    ZT G K L hp0 (Y1 G K L hp0) m (.ptr hp0.length 0) (.int .u64 u) (.int .i64 i) (hp0 ++ [.cells cs t]) none=some (.lst 1 (ZU (w ++ vb k u)),hp0,none)
  | _,_,_,0,_,_,_,_,_,_,_,h=>absurd h (by omega)
  | 0,i,u,m + 1,cs,w,hk,hw,hl,hc,hu,hm=>by
    obtain rfl:i=9:=by omega
    have hu2:u < 2:=by simpa using hu
    have a1:decide (((128:Int))≤(u:Int))=false:=by simp; omega
    simp only [ZT,EV,a1,Bool.false_eq_true,if_false]
    exact NH 9 u cs w (by omega) hw hl hc
  | k + 1,i,u,m + 1,cs,w,hk,hw,hl,hc,hu,hm=>by
    by_cases h:u < 128
    · have a1:decide (((128:Int))≤(u:Int))=false:=by simp; omega
      simp only [ZT,EV,a1,Bool.false_eq_true,if_false]
      rw [vb,if_pos h]
      exact NH i u cs w (by omega) hw hl hc
    · have a1:decide (((128:Int))≤(u:Int))=true:=by simp; omega
      have h2:u / 128 < 2 ^ (64 - 7 * (i + 1)):=by
        rw [Nat.div_lt_iff_lt_mul (by omega)]
        calc u < 2 ^ (64 - 7 * i):=hu
          _=2 ^ (64 - 7 * (i + 1)) * 128:=by rw [show 64 - 7 * i=64 - 7 * (i + 1) + 7 by omega,Nat.pow_add]
      simp only [ZT,EV,a1,if_true,w8,ZdR,ZeS,Zan _ _ (show i < 10 by omega),Iw _ _ _ _ _ _ _ (SX _ _) (show i < cs.length by omega) (Nat.le_refl _),Ze5,show ¬ ((7:Int) < 0) by decide,if_false,IntKind.bits,ZbN,wk i (by omega)]
      rw [Dv k (i + 1) (u / 128) m (cs.set i (.int .u8 ((UInt8.ofNat (u % 128 + 128)).toNat:Int))) (w ++ [UInt8.ofNat (u % 128 + 128)]) (by omega) (by simp [hw]) (by simpa using hl) (by rw [take_set (by omega) hc,Dh]) h2 (by omega)]
      rw [vb,if_neg h,List.append_assoc]; rfl
theorem NE {C:Cfg}(hC:JD C)(N:Nat)(hN:2≤N)(hp:HP)(n:Int)(h1:-9223372036854775808≤n)(h2:n≤9223372036854775807):Zb C N Qn [.int .i64 n] hp=some (.lst 1 (ZU (enc n)),hp,none):=by
  obtain ⟨m,rfl,hm⟩:=fuel (C := C) (d := 1) hN
  have z:=fun hp=>Ap hC m hm hp n h1 h2
  refine UD (hC.T _ _ rfl) ?_
  simp only [Xx,EV,z]
  have:=hC.L
  exact Dv 9 0 (zz n) C.L _ [] rfl rfl rfl rfl (ZeC h1 h2) (by omega)
theorem Pz (l:List UInt8):(ZU l).flatten=bcs l:=by
  induction l with
  | nil=>rfl
  | cons c l ih=>simp only [ZU,List.map_cons,byteRow,List.flatten_cons,bcs] at ih ⊢; rw [ih]; rfl
theorem Zci (l:List UInt8):(bcs l).map AV.ro=bcs l:=by simp [bcs,AV.ro]
theorem ZaA (l:List UInt8):(bcs l).all AV.one=true:=by simp [bcs,AV.one]
theorem VP (l:List UInt8):(bcs l).length=l.length:=by simp [bcs]
theorem YJ (l:List UInt8):(ZU l).length=l.length:=by simp [ZU]
theorem Ot (bs:Nat)(h:HP)(t:TypeId)(cs:List AV)(off n:Nat)(a:List UInt8)(hb:bs≤h.length)(hn:a.length≤n)(ho:off + a.length≤cs.length)(ef:Eff) :
    copyV bs 1 (.arr h.length off n 1) (.lst 1 (ZU a)) (h ++ [.cells cs t]) ef=some (.int .i64 a.length,h ++ [.cells (splice cs off (bcs a)) t],ef):=by
  simp only [copyV,rowsOf,YF,YJ,Nat.mul_one]
  have e1:Nat.min a.length n=a.length:=Nat.min_eq_left hn
  rw [e1]
  have e2:(ZU a).take a.length=ZU a:=List.take_of_length_le (by rw [YJ]; exact Nat.le_refl _)
  rw [e2,Pz,Zci]
  rw [if_pos ⟨trivial,trivial,ho,ZaA a⟩,TF]
  have:Xc bs ef h.length 0=ef:=by simp [Xc]; omega
  rw [this]
theorem BQ (a z:List AV)(h:a.length≤z.length):splice z 0 a=a ++ z.drop a.length:=by simp [splice]
theorem Ai {C:Cfg}(hC:JD C)(N:Nat)(hN:1≤N)(hp:HP)(a b:List UInt8)(h:a.length + b.length≤4294967296):Zb C N QK [.lst 1 (ZU a),.lst 1 (ZU b)] hp=some (.lst 1 (ZU (a ++ b)),hp,none):=by
  obtain ⟨m,rfl,hm⟩:=fuel (C := C) (d := 0) hN
  refine KO (hC.T _ _ rfl) ?_
  have e1:IntKind.i64.wrap ((a.length:Int) + (b.length:Int))=((a.length + b.length:Nat):Int):=by rw [i64_in (by omega) (by omega)]; omega
  obtain ⟨z,hz⟩:∃ z:List AV,List.flatten (List.replicate (a.length + b.length) [AV.int .u8 0])=z:=⟨_,rfl⟩
  have hzl:z.length=a.length + b.length:=by rw [← hz]; simp
  have e2:SI QN [.int .u8 0] (.int .i64 ((a.length + b.length:Nat):Int)) hp=some (.arr hp.length 0 (a.length + b.length) 1,hp ++ [.cells z QN]):=by
    simp only [SI]
    rw [if_pos (by omega),Int.toNat_natCast,hz]; rfl
  have e3:copyV hp.length 1 (.arr hp.length 0 (a.length + b.length) 1) (.lst 1 (ZU a)) (hp ++ [.cells z QN]) none=some (.int .i64 a.length,hp ++ [.cells (splice z 0 (bcs a)) QN],none) :=
    Ot hp.length hp QN z 0 _ a (Nat.le_refl _) (by omega) (by omega) none
  have hs1:splice z 0 (bcs a)=bcs a ++ z.drop a.length:=by rw [BQ _ _ (by rw [VP]; omega),VP]
  rw [hs1] at e3
  have e4:copyV hp.length 1 (if a.length=a.length + b.length then .lst 1 [] else .arr hp.length a.length b.length 1) (.lst 1 (ZU b)) (hp ++ [.cells (bcs a ++ z.drop a.length) QN]) none=some (.int .i64 b.length,hp ++ [.cells (bcs (a ++ b)) QN],none):=by
    have hd:z.drop a.length=[]∨b.length≠0:=by
      by_cases h0:b.length=0
      · left; rw [List.drop_eq_nil_iff]; omega
      · exact .inr h0
    split
    · rename_i h0
      have hb0:b=[]:=List.eq_nil_of_length_eq_zero (by omega)
      subst hb0
      rcases hd with hd | hd
      · rw [hd]; simp [copyV,rowsOf,ZU,bcs]
      · simp at hd
    · rw [Ot hp.length hp QN _ a.length b.length b (Nat.le_refl _) (Nat.le_refl _) (by simp [VP]; omega) none]
      have:splice (bcs a ++ z.drop a.length) a.length (bcs b)=bcs (a ++ b):=by
        unfold splice
        rw [List.take_append_of_le_length (by rw [VP]; exact Nat.le_refl _),List.take_of_length_le (by rw [VP]; exact Nat.le_refl _),List.drop_eq_nil_of_le (by simp [VP]; omega),List.append_nil]
        simp [bcs]
      rw [this]
  have e5:WZ (.slice 1) (.arr hp.length 0 (a.length + b.length) 1) (some (.int .i64 a.length)) none=some (if a.length=a.length + b.length then .lst 1 [] else .arr hp.length a.length b.length 1):=by
    have hb1:bound (a.length + b.length) (a.length + b.length) none=some (a.length + b.length):=rfl
    have hb2:bound (a.length + b.length) 0 (some (.int .i64 a.length))=some a.length:=by
      simp only [bound]
      rw [if_pos (show (0:Int)≤(a.length:Int)∧(a.length:Int)≤((a.length + b.length:Nat):Int) from ⟨by omega,by omega⟩),Int.toNat_natCast]
    simp only [WZ,hb1,hb2,if_true,Nat.zero_add,Nat.mul_one,Nat.add_sub_cancel_left]
    split <;> rfl
  have e6:Ws (.slice 1) (.arr hp.length 0 (a.length + b.length) 1) (.int .i64 ((a.length + b.length:Nat):Int)) (.int .i64 ((a.length + b.length:Nat):Int))=some (if ((a.length + b.length:Nat):Int)=0 then .lst 1 [] else .arr hp.length 0 (a.length + b.length) 1):=by
    simp only [Ws]
    rw [if_pos ⟨trivial,Int.natCast_nonneg _,Int.le_refl _,Int.le_refl _⟩,Int.toNat_natCast]
  have e7:∀ (v:AV),AV.ro (if a.length=a.length + b.length then .lst 1 [] else .arr hp.length a.length b.length 1)=(if a.length=a.length + b.length then .lst 1 [] else .arr hp.length a.length b.length 1):=fun _=>by split <;> rfl
  simp only [Ve,EV,YJ,e1,e2,e3,e5,e4,Zeh,e6]
  split
  · rename_i h0
    have ha:a=[]:=List.eq_nil_of_length_eq_zero (by omega)
    have hb:b=[]:=List.eq_nil_of_length_eq_zero (by omega)
    subst ha; subst hb
    simp only [EV]; rfl
  · rw [NL hp _ QN (a.length + b.length) (a ++ b) (by simp) (by simp [VP]) (by rw [List.take_of_length_le (by simp [VP])])]
theorem Ag {C:Cfg}(hC:JD C)(N:Nat)(hN:3≤N)(hp:HP)(a:List UInt8)(n:Int)(h1:-9223372036854775808≤n)(h2:n≤9223372036854775807)(h:a.length≤4294967200):Zb C N XQ [.lst 1 (ZU a),.int .i64 n] hp=some (.lst 1 (ZU (a ++ enc n)),hp,none):=by
  obtain ⟨m,rfl,hm⟩:=fuel (C := C) (d := 2) hN
  have:=Be n
  have z1:=NE hC m hm hp n h1 h2
  have z2:=Ai hC m (by omega) hp a (enc n) (by omega)
  refine KN (hC.T _ _ rfl) ?_
  simp only [Vd,EV,z1,z2]
end Go.Proofs.YtdchnngpjjcchaaDoor
end
section
namespace Go.Proofs.YtdchnngpjjcchaaDoor
open Go Go.RowKit Go.Proofs.YtdchnngpjjcchaaDoor.Abs
set_option maxRecDepth 100000
theorem FI {u c k:Nat}(hu:u < 2 ^ (7 * k))(hc:c < 128)(hk:k≤9)(h9:k=9→c≤1):Zew (u:Int) (IntKind.u64.wrap ((c:Int) * 2 ^ (7 * k)))=((u + c * 2 ^ (7 * k):Nat):Int)∧u + c * 2 ^ (7 * k) < 2 ^ 64:=by
  have h64:c * 2 ^ (7 * k) + 2 ^ (7 * k)≤2 ^ 64:=by
    by_cases h:k=9
    · have hc1:=h9 h
      rw [h]
      calc c * 2 ^ (7 * 9) + 2 ^ (7 * 9)≤1 * 2 ^ (7 * 9) + 2 ^ (7 * 9):=Nat.add_le_add_right (Nat.mul_le_mul_right _ hc1) _
        _=2 ^ 64:=by decide
    · have h1:(c + 1) * 2 ^ (7 * k)≤128 * 2 ^ (7 * 8):=Nat.mul_le_mul (by omega) (Nat.pow_le_pow_right (by omega) (by omega))
      have:(128:Nat) * 2 ^ (7 * 8)=2 ^ 63:=by decide
      rw [Nat.add_mul,Nat.one_mul] at h1
      omega
  have e0:((c:Int) * 2 ^ (7 * k))=((c * 2 ^ (7 * k):Nat):Int):=by rw [Int.natCast_mul,Int.natCast_pow]; rfl
  refine ⟨?_,by omega⟩
  rw [e0,w64 (by omega) (by omega)]
  unfold Zew
  have e1:∀ n:Nat,n < 2 ^ 64→(BitVec.ofInt 64 (n:Int)).toNat=n:=fun n h=>by rw [QH (by omega) (by omega)]; omega
  rw [BitVec.toNat_or,e1 u (by omega),e1 _ (by omega)]
  have e2:u ||| c * 2 ^ (7 * k)=u + c * 2 ^ (7 * k):=by
    rw [Nat.or_comm,Nat.mul_comm,← Nat.two_pow_add_eq_or_of_lt hu,Nat.add_comm]
  rw [e2,w64 (by omega) (by omega)]
theorem NF {C:Cfg}(hC:JD C)(N:Nat)(hN:1≤N)(hp:HP)(u:Nat)(h:u < 2 ^ 64):Zb C N Qo [.int .u64 u] hp=some (.int .i64 (CW u),hp,none):=by
  obtain ⟨m,rfl,hm⟩:=fuel (C := C) (d := 0) hN
  refine UE (hC.T _ _ rfl) ?_
  have a1:(u:Int).fdiv (2 ^ (min (Int.toNat 1) 64))=((u / 2:Nat):Int):=by
    rw [Int.fdiv_eq_ediv_of_nonneg _ (by decide),show (2:Int) ^ (min (Int.toNat 1) 64)=2 by decide]; omega
  have a2:Za2 (u:Int) 1=((u % 2:Nat):Int):=by
    unfold Za2
    rw [BitVec.toNat_and,QH (by omega) (by omega),show (BitVec.ofInt 64 1).toNat=1 by decide,Int.toNat_natCast,Nat.and_one_is_mod,w64 (by omega) (by omega)]
  simp only [Xy,EV,Ze5,show ¬ ((1:Int) < 0) by decide,if_false,IntKind.bits,a1,Za7,a2,Zch]
  refine congrArg some (congrArg (fun x=>(AV.int .i64 x,hp,(none:Eff))) ?_)
  rw [i64_in (x := ((u / 2:Nat):Int)) (by omega) (by omega),i64_in (x := ((u % 2:Nat):Int)) (by omega) (by omega)]
  unfold CW
  by_cases h0:u % 2=1
  · rw [if_pos h0,h0,show IntKind.i64.wrap (0 - ((1:Nat):Int))=-1 by decide]
    unfold ZeB
    rw [Po,QH (by omega) (by omega),Int.toNat_natCast]
    simp only [IntKind.wrap,IntKind.bits,IntKind.signed]
    simp
    omega
  · have h1:u % 2=0:=by omega
    rw [if_neg h0,h1,show IntKind.i64.wrap (0 - ((0:Nat):Int))=0 by decide]
    unfold ZeB
    rw [show BitVec.ofInt 64 0=0#64 by decide,BitVec.xor_zero,QH (by omega) (by omega),Int.toNat_natCast,i64_in (by omega) (by omega)]
theorem AL (l:List UInt8)(i:Nat):Yn (.slice 1) (.lst 1 (ZU l)) (.int .i64 i)=(l[i]?).map fun c=>AV.ref [.int .u8 c.toNat]:=by
  rw [NY,ZU,List.getElem?_map,Option.map_map]; rfl
def ZdK (p:Int×Int×Int):AV:=.tup [.int .i64 p.1,.int .i64 p.2.1,.int .i64 p.2.2]
theorem DC {C:Cfg}(hC:JD C){N:Nat}(hN:1≤N){L:Nat}{hp0:HP}{l:List UInt8}:∀ (r i u m:Nat) (w q:List UInt8),r + i=10→l=w ++ q→w.length=i→u < 2 ^ (7 * i)→r < m →
    ZY C.G (Zb C N) L hp0 (WR C.G (Zb C N) L hp0) m (.lst 1 (ZU l)) (.int .u64 u) (.int .i64 i) hp0 none=some (ZdK (giF r i u q),hp0,none)
  | _,_,_,0,_,_,_,_,_,_,h=>absurd h (by omega)
  | 0,i,u,m + 1,w,q,hr,hl,hw,hu,hm=>by
    obtain rfl:i=10:=by omega
    have a1:decide (((10:Nat):Int) < 10)=false:=by decide
    simp only [ZY,EV,a1,Bool.false_eq_true,if_false,WR,TUP]
    rfl
  | r + 1,i,u,m + 1,w,q,hr,hl,hw,hu,hm=>by
    have a1:decide ((i:Int) < 10)=true:=by simp; omega
    cases q with
    | nil =>
      have a2:decide ((l.length:Int)≤(i:Int))=true:=by subst hl; simp; omega
      simp only [ZY,EV,a1,if_true,YJ,a2,TUP]
      rfl
    | cons c q =>
      have a2:decide ((l.length:Int)≤(i:Int))=false:=by subst hl; simp; omega
      have a3:Yn (.slice 1) (.lst 1 (ZU l)) (.int .i64 i)=some (.ref [.int .u8 c.toNat]):=by rw [AL]; subst hl; simp [← hw]
      have hc256:c.toNat < 256:=c.toNat_lt
      have b1:=Za3 ⟨c.toNat,hc256⟩
      have b2:=Zcb ⟨c.toNat,hc256⟩
      have a4:IntKind.i64.wrap (7 * (i:Int))=((7 * i:Nat):Int):=by rw [i64_in (by omega) (by omega)]; omega
      have a5:IntKind.u64.wrap (((c.toNat % 128:Nat)):Int)=((c.toNat % 128:Nat):Int):=w64 (by omega) (by omega)
      have a6:¬ (((7 * i:Nat):Int) < 0):=by omega
      have a7:min (Int.toNat ((7 * i:Nat):Int)) 64=7 * i:=by omega
      rw [giF]
      by_cases h9:i=9∧1 < c.toNat
      · have c1:(decide ((i:Int)=9) && decide ((1:Int) < (c.toNat:Int)))=true:=by simp; omega
        simp only [ZY,EV,a1,if_true,YJ,a2,Bool.false_eq_true,if_false,a3,c1,TUP]
        rw [if_pos h9]; rfl
      · have c1:(decide ((i:Int)=9) && decide ((1:Int) < (c.toNat:Int)))=false:=by simp; omega
        obtain ⟨c2,c3⟩:=FI (c := c.toNat % 128) hu (by omega) (by omega) (fun h=>by omega)
        rw [if_neg h9]
        by_cases h128:128≤c.toNat
        · rw [if_pos h128]
          have c4:(if 128≤c.toNat then (128:Int) else 0)=128:=if_pos h128
          simp only [ZY,EV,a1,if_true,YJ,a2,Bool.false_eq_true,if_false,a3,c1,RI,Nv,b1,b2,c4,a4,a5,ZdD,a6,IntKind.bits,a7,Nw,c2,wk i (by omega)]
          have c5:decide ((128:Int)≠0)=true:=by decide
          rw [c5,if_pos rfl]
          refine DC hC hN r (i + 1) _ m (w ++ [c]) q (by omega) (by simp [hl]) (by simp [hw]) ?_ (by omega)
          rw [show 7 * (i + 1)=7 * i + 7 by omega,Nat.pow_add]
          calc u + c.toNat % 128 * 2 ^ (7 * i) < 2 ^ (7 * i) + 127 * 2 ^ (7 * i):=Nat.add_lt_add_of_lt_of_le hu (Nat.mul_le_mul_right _ (by omega))
            _=2 ^ (7 * i) * 2 ^ 7:=by omega
        · rw [if_neg h128]
          have c4:(if 128≤c.toNat then (128:Int) else 0)=0:=if_neg h128
          have c5:decide ((0:Int)≠0)=false:=by decide
          by_cases h0:c.toNat=0∧0 < i
          · have c6:(decide ((c.toNat:Int)=0) && decide ((0:Int) < (i:Int)))=true:=by simp; omega
            simp only [ZY,EV,a1,if_true,YJ,a2,Bool.false_eq_true,if_false,a3,c1,RI,Nv,b1,b2,c4,a4,a5,ZdD,a6,IntKind.bits,a7,Nw,c2,wk i (by omega),c5,c6,TUP]
            rw [if_pos h0]; rfl
          · have c6:(decide ((c.toNat:Int)=0) && decide ((0:Int) < (i:Int)))=false:=by simp; omega
            have c7:=fun hp=>NF hC N hN hp _ c3
            simp only [ZY,EV,a1,if_true,YJ,a2,Bool.false_eq_true,if_false,a3,c1,RI,Nv,b1,b2,c4,a4,a5,ZdD,a6,IntKind.bits,a7,Nw,c2,wk i (by omega),c5,c6,c7,TUP]
            rw [if_neg h0]; rfl
theorem Zeb {C:Cfg}(hC:JD C)(N:Nat)(hN:2≤N)(hp:HP)(l:List UInt8):Zb C N Vx [.lst 1 (ZU l)] hp=some (ZdK (YC l),hp,none):=by
  obtain ⟨m,rfl,hm⟩:=fuel (C := C) (d := 1) hN
  refine Tf (hC.T _ _ rfl) ?_
  have z3:=hC.L
  exact DC hC hm 10 0 0 C.L [] l rfl rfl rfl (by decide) (by omega)
end Go.Proofs.YtdchnngpjjcchaaDoor
end
section
namespace Go.Proofs.YtdchnngpjjcchaaDoor
open Go Go.RowKit Go.Proofs.YtdchnngpjjcchaaDoor.Abs
set_option maxRecDepth 100000
def inB (n most:Int):Bool:=decide (0≤n) && decide (n≤most)
def inN (n:Int):Bool:=decide (-1000000000000≤n) && decide (n≤1000000000000)
def U8 (r:YS):Int :=
  if r.What < 1∨18 < r.What then 1 else
  if inB r.Time 1000000000=true∧inB r.Site 15=true∧inB r.Proc 1000000000000=true∧inB r.Index 63=true∧inN r.Value=true then 0 else 2
theorem Am {C:Cfg}(hC:JD C)(N:Nat)(hN:1≤N)(hp:HP)(n m:Int):Zb C N YD [.int .i64 n,.int .i64 m] hp=some (.bool (inB n m),hp,none):=by
  obtain ⟨k,rfl,hm⟩:=fuel (C := C) (d := 0) hN
  refine Kw (hC.T _ _ rfl) ?_
  simp only [X3,EV]; rfl
theorem NG {C:Cfg}(hC:JD C)(N:Nat)(hN:1≤N)(hp:HP)(n m:Int):Zb C N WA [.int .i64 n,.int .i64 m] hp=some (.bool (inB n m),hp,none):=by
  obtain ⟨k,rfl,hm⟩:=fuel (C := C) (d := 0) hN
  refine IY (hC.T _ _ rfl) ?_
  simp only [VU,EV]; rfl
theorem ZeP {C:Cfg}(hC:JD C)(N:Nat)(hN:1≤N)(hp:HP)(n:Int):Zb C N Gf [.int .i64 n] hp=some (.bool (inN n),hp,none):=by
  obtain ⟨k,rfl,hm⟩:=fuel (C := C) (d := 0) hN
  refine PN (hC.T _ _ rfl) ?_
  simp only [Ti,EV]; rfl
theorem Zed {C:Cfg}(hC:JD C)(N:Nat)(hN:1≤N)(hp:HP)(n:Int):Zb C N Gg [.int .i64 n] hp=some (.bool (inN n),hp,none):=by
  obtain ⟨k,rfl,hm⟩:=fuel (C := C) (d := 0) hN
  refine PX (hC.T _ _ rfl) ?_
  simp only [Tj,EV]; rfl
theorem Gs (w:Int):(decide (w < 1) || decide ((18:Int) < w))=decide (w < 1∨18 < w):=by simp
theorem Tq {C:Cfg}(hC:JD C)(N:Nat)(hN:2≤N)(hp:HP)(r:YS):Zb C N Y9 [.agg (Yf r)] hp=some (.int .i64 (U8 r),hp,none):=by
  obtain ⟨k,rfl,hk⟩:=fuel (C := C) (d := 1) hN
  have a1:=fun hp n m=>Am hC k hk hp n m
  have a2:=fun hp n=>ZeP hC k hk hp n
  refine KX (hC.T _ _ rfl) ?_
  unfold U8
  by_cases h:r.What < 1∨18 < r.What
  · have b:(decide (r.What < 1) || decide ((18:Int) < r.What))=true:=by rw [Gs]; simpa using h
    simp only [QM,EV,LD,GI,W9,U0,OG,OH,OI,OJ,OL,b,if_true]
    rw [if_pos h]
  · have b:(decide (r.What < 1) || decide ((18:Int) < r.What))=false:=by rw [Gs]; simpa using h
    simp only [QM,EV,LD,GI,W9,U0,OG,OH,OI,OJ,OL,b,Bool.false_eq_true,if_false,a1,a2]
    rw [if_neg h]
    cases inB r.Time 1000000000 <;> cases inB r.Site 15 <;> cases inB r.Proc 1000000000000 <;> cases inB r.Index 63 <;> cases inN r.Value <;> simp
theorem Tu {C:Cfg}(hC:JD C)(N:Nat)(hN:2≤N)(hp:HP)(r:YS):Zb C N Xk [.agg (Yf r)] hp=some (.int .i64 (U8 r),hp,none):=by
  obtain ⟨k,rfl,hk⟩:=fuel (C := C) (d := 1) hN
  have a1:=fun hp n m=>NG hC k hk hp n m
  have a2:=fun hp n=>Zed hC k hk hp n
  refine TV (hC.T _ _ rfl) ?_
  unfold U8
  by_cases h:r.What < 1∨18 < r.What
  · have b:(decide (r.What < 1) || decide ((18:Int) < r.What))=true:=by rw [Gs]; simpa using h
    simp only [VA,EV,LD,GI,W9,U0,OG,OH,OI,OJ,OL,b,if_true]
    rw [if_pos h]
  · have b:(decide (r.What < 1) || decide ((18:Int) < r.What))=false:=by rw [Gs]; simpa using h
    simp only [VA,EV,LD,GI,W9,U0,OG,OH,OI,OJ,OL,b,Bool.false_eq_true,if_false,a1,a2]
    rw [if_neg h]
    cases inB r.Time 1000000000 <;> cases inB r.Site 15 <;> cases inB r.Proc 1000000000000 <;> cases inB r.Index 63 <;> cases inN r.Value <;> simp
def nums (r:YS)(before:Int):List Int:=[IntKind.i64.wrap (r.Time - before),r.Site,r.What,r.Proc,r.Index,r.Value]
theorem Ah {C:Cfg}(hC:JD C)(N:Nat)(hN:1≤N)(hp:HP)(r:YS)(b:Int):Zb C N Qq [.agg (Yf r),.int .i64 b] hp=some (.own 1 (ints (nums r b)),hp,none):=by
  obtain ⟨k,rfl,hk⟩:=fuel (C := C) (d := 0) hN
  refine Kv (hC.T _ _ rfl) ?_
  simp only [X0,EV,LD,GI,W9,U0,OG,OH,OI,OJ,OL]
  rfl
end Go.Proofs.YtdchnngpjjcchaaDoor
end
section
namespace Go.Proofs.YtdchnngpjjcchaaDoor
open Go Go.RowKit Go.Proofs.YtdchnngpjjcchaaDoor.Abs
set_option maxRecDepth 100000
def MG:Int→List YS→Int
  | _,[]=>0
  | b,r :: l=>if U8 r≠0 then U8 r else if r.Time < b then 12 else MG r.Time l
def Dq:Int→List YS→List Int
  | _,[]=>[]
  | b,r :: l=>nums r b ++ Dq r.Time l
def recs (l:List YS):List (List AV):=l.map Yf
theorem Dt:∀ (l:List YS) (b:Int),(Dq b l).length=6 * l.length
  | [],_=>rfl
  | r :: l,b=>by rw [Dq,List.length_append,Dt l]; simp [nums]; omega
theorem TD (l:List Int):(ints l).length=l.length:=by simp [ints]
theorem Dc (hp:HP)(a b:List Int)(h:a.length + b.length≤1000000):ES 1 8 (.own 1 (ints a)) (.lst 1 (ints b)) hp=some (.own 1 (ints (a ++ b))):=by
  simp only [ES,rowsOf,TD]
  rw [if_pos ⟨trivial,trivial,by simp [ints,AV.noId1],by omega⟩]
  simp [ints]
theorem TA (hp0 hp:HP)(e:Int):YV false hp0 (.tup [(.lst 1 []),.int .i64 e]) hp none=(.tup [.lst 1 [],.int .i64 e],hp0,none):=by
  simp only [TUP,EV]
theorem TU {C:Cfg}(hC:JD C){N:Nat}(hN:2≤N){L:Nat}{hp0:HP}{l:List YS}(k0:AV→HP→Eff→KR)(hl:l.length≤50000):∀ (q w:List YS) (m:Nat) (hp:HP) (b:Int) (ns:List Int),l=w ++ q→q.length < m→hp0.length≤hp.length→ns.length + 6 * q.length≤400000 →
    (MG b q=0∧∃ hp',Z4 C.G (Zb C N) L hp0 k0 m (.lst 1 (ints ns)) (.own 1 (ints ns)) (.int .i64 b) (.lst 6 (recs l)) (.int .i64 l.length) (.int .i64 w.length) hp none=k0 (.lst 1 (ints (ns ++ Dq b q))) hp' none) ∨
    (MG b q≠0∧Z4 C.G (Zb C N) L hp0 k0 m (.lst 1 (ints ns)) (.own 1 (ints ns)) (.int .i64 b) (.lst 6 (recs l)) (.int .i64 l.length) (.int .i64 w.length) hp none=some (.tup [.lst 1 [],.int .i64 (MG b q)],hp0,none))
  | _,_,0,_,_,_,_,h,_,_=>absurd h (by omega)
  | [],w,m + 1,hp,b,ns,hl',hm,hh,hn=>by
    have a:=lp0 hl'
    refine .inl ⟨rfl,hp,?_⟩
    simp only [Z4,EV,a,Bool.false_eq_true,if_false,Dq,List.append_nil]
  | r :: q,w,m + 1,hp,b,ns,hl',hm,hh,hn=>by
    obtain ⟨a1,a2,a3,a4,a5⟩:=lp Yf hl' (by omega)
    have b1:=fun hp=>Tq hC N hN hp r
    have b2:=fun hp=>Ah hC N (by omega) hp r b
    have s1:=st_all hp0.length 6 hp [(.int .i64 0),(.int .i64 0),(.int .i64 0),(.int .i64 0),(.int .i64 0),(.int .i64 0)] (Yf r) Ze none rfl rfl hh
    have i1:Yn (.slice 6) (.lst 6 (recs l)) (.int .i64 w.length)=some (.ref (Yf r)):=by rw [NY]; simp only [recs,a2,Option.map_some]
    have i2:∀ hp,ZJ hp 6 (.ref (Yf r))=some (.agg (Yf r)):=fun hp=>by rw [Su hp 6 _ (Nat.le_refl _),show (Yf r).take 6=Yf r from rfl,Q5]
    by_cases h1:U8 r=0
    · have c1:decide (U8 r≠0)=false:=by simpa using h1
      by_cases h2:r.Time < b
      · have c2:decide (r.Time < b)=true:=by simpa using h2
        refine .inr ?_
        rw [MG,if_neg (by simpa using h1),if_pos h2]
        refine ⟨by decide,?_⟩
        simp only [Z4,EV,a1,if_true,i1,i2,s1,LD,GI,W9,Q5,U0,b1,c1,c2,Bool.false_eq_true,if_false]
        rw [TA]
      · have c2:decide (r.Time < b)=false:=by simpa using h2
        have ha:=Dc
        have e1:ES 1 8 (.own 1 (ints ns)) (.lst 1 (ints (nums r b))) (hp ++ [.cells (Yf r) Ze])=some (.own 1 (ints (ns ++ nums r b))):=Dc _ _ _ (by simp [nums] at hn ⊢; omega)
        rw [MG,if_neg (by simpa using h1),if_neg h2,Dq]
        have ih:=TU hC hN (L := L) (hp0 := hp0) k0 hl q (w ++ [r]) m (hp ++ [.cells (Yf r) Ze]) r.Time (ns ++ nums r b) a4 (by simpa using hm) (by simp; omega) (by simp [nums] at hn ⊢; omega)
        rw [← List.append_assoc]
        simp only [Z4,EV,a1,if_true,i1,i2,s1,LD,GI,W9,Q5,U0,b1,c1,c2,Bool.false_eq_true,if_false,b2,e1,a3]
        exact ih
    · have c1:decide (U8 r≠0)=true:=by simpa using h1
      refine .inr ?_
      rw [MG,if_pos h1]
      refine ⟨h1,?_⟩
      simp only [Z4,EV,a1,if_true,i1,i2,s1,LD,GI,W9,Q5,U0,b1,c1]
      rw [TA]
theorem Zec {C:Cfg}(hC:JD C)(N:Nat)(hN:2≤N)(hp0:HP)(l:List YS) :
    (l.length≤50000∧MG 0 l=0∧∃ hp',Bc C.G (Zb C N) C.L (.lst 6 (recs l)) hp0=some (.lst 1 (ints ((l.length:Int) :: Dq 0 l)),hp',none)) ∨
    (l.length≤50000∧MG 0 l≠0∧Bc C.G (Zb C N) C.L (.lst 6 (recs l)) hp0=some (.tup [.lst 1 [],.int .i64 (MG 0 l)],hp0,none)) ∨
    (50000 < l.length∧Bc C.G (Zb C N) C.L (.lst 6 (recs l)) hp0=some (.tup [.lst 1 [],.int .i64 6],hp0,none)):=by
  have hr:(recs l).length=l.length:=by simp [recs]
  by_cases h:l.length≤50000
  · have a1:decide ((50000:Int) < (l.length:Int))=false:=by simp; omega
    have e1:PL Ro 1 [.int .i64 (l.length:Int)] hp0=some (.own 1 (ints [(l.length:Int)]),hp0):=rfl
    have hL:=hC.L
    have:=TU hC hN (L := C.L) (hp0 := hp0) Zbd h l [] C.L hp0 0 [(l.length:Int)] rfl (by omega) (Nat.le_refl _) (by simp; omega)
    have hz:Bc C.G (Zb C N) C.L (.lst 6 (recs l)) hp0=Z4 C.G (Zb C N) C.L hp0 Zbd C.L (.lst 1 (ints [(l.length:Int)])) (.own 1 (ints [(l.length:Int)])) (.int .i64 0) (.lst 6 (recs l)) (.int .i64 l.length) (.int .i64 (([]:List YS).length:Nat)) hp0 none:=by
      simp only [Bc,EV,hr,a1,Bool.false_eq_true,if_false,e1]
      rfl
    rw [hz]
    rcases this with ⟨h1,h2⟩ | ⟨h1,h2⟩
    · exact .inl ⟨h,h1,h2⟩
    · exact .inr (.inl ⟨h,h1,h2⟩)
  · refine .inr (.inr ⟨by omega,?_⟩)
    have a1:decide ((50000:Int) < (l.length:Int))=true:=by simp; omega
    simp only [Bc,EV,hr,a1,if_true]
    rw [TA]
theorem La {C:Cfg}(hC:JD C)(hT:C.T Zq=some Zw)(N:Nat)(hN:2≤N)(hp0:HP)(l:List YS)(h:50000 < l.length∨MG 0 l≠0) :
    Zb C (N + 1) Zq [.lst 6 (recs l)] hp0=some (.tup [.lst 1 [],.int .i64 (if 50000 < l.length then 6 else MG 0 l)],hp0,none):=by
  refine Ku hT ?_
  have hr:(recs l).length=l.length:=by simp [recs]
  by_cases h5:50000 < l.length
  · have a1:decide ((50000:Int) < (l.length:Int))=true:=by simp; omega
    rw [if_pos h5]
    simp only [Qx,EV,hr,a1,if_true]
    rw [TA]
  · have a1:decide ((50000:Int) < (l.length:Int))=false:=by simp; omega
    have e1:PL Ro 1 [.int .i64 (l.length:Int)] hp0=some (.own 1 (ints [(l.length:Int)]),hp0):=rfl
    have hL:=hC.L
    have:=TU hC hN (L := C.L) (hp0 := hp0) (Wv C.G (Zb C N) C.L hp0) (show l.length≤50000 by omega) l [] C.L hp0 0 [(l.length:Int)] rfl (by omega) (Nat.le_refl _) (by simp; omega)
    rcases this with ⟨h1,h2⟩ | ⟨h1,h2⟩
    · rcases h with h | h
      · exact absurd h h5
      · exact absurd h1 h
    · rw [if_neg h5]
      simp only [Qx,EV,hr,a1,Bool.false_eq_true,if_false,e1]
      exact h2
end Go.Proofs.YtdchnngpjjcchaaDoor
end
section
namespace Go.Proofs.YtdchnngpjjcchaaDoor.Abs
open Go Go.RowKit Go.ChangeShapes Go.WideShapes Go.Deep
def CS (P:Program):List Field→Nat→Nat→Bool
  | [],o,n=>o == n
  | f :: r,o,n=>(f.offset == o) && CS P r (o + P.cellsOf f.type) n
def Zbm (P:Program):Nat→TypeId→Bool
  | 0,_=>false
  | n + 1,t=>match P.underlying t with
    | some .bool=>true
    | some (.int _)=>true
    | some .string=>true
    | some (.slice e)=>(decide (0 < P.cellsOf e) && decide (0 < P.bytesOf e)) && Zbm P n e
    | some (.struct fs)=>CS P fs.toList 0 (P.cellsOf t) && fs.toList.all fun f=>Zbm P n f.type
    | _=>false
def RH {H:Type}(P:Program):Nat→TypeId→List AV→DataW H→Prop
  | 0,_,_,_=>False
  | n + 1,t,az,d=>match P.underlying t with
    | some .bool=>∃ b,az=[.bool b]∧d=.lit (.bool b)
    | some (.int k)=>∃ x,az=[.int k x]∧d=.lit (.int k x)∧(Lit.int k x).wf=true
    | some .string=>∃ s,az=[.str s]∧d=.lit (.string s)∧s.length≤140737488351232
    | some (.slice e)=>∃ rows,az=[.lst (P.cellsOf e) rows]∧rows.length≤140737488351232∧((rows=[]∧d=.nil)∨∃ D ds spare,d=.slice ds spare∧ds=(List.range rows.length).map D∧∀ (i:Nat) (r:List AV),rows[i]? = some r→RH P n e r (D i))
    | some (.struct fs)=>az.length=P.cellsOf t∧∃ ds,d=.agg ds∧ds.length=fs.size∧∀ (i:Nat) (f:Field),fs.toList[i]? = some f→∃ di,ds[i]? = some di∧RH P n f.type ((az.drop f.offset).take (P.cellsOf f.type)) di
    | _=>False
structure Shp {H:Type}(P:Program)(n:Nat)(t:TypeId)(az:List AV)(d:DataW H):Prop where
  ok:RH P n t az d
theorem Gn {n:Nat}(h:n≤reachBytes):n≤140737488351232:=h
theorem Shp.bool {H:Type}{P:Program}{n:Nat}{t:TypeId}{az:List AV}{d:DataW H}(h:Shp P (n + 1) t az d)(hu:P.underlying t=some .bool):∃ b,az=[.bool b]∧d=.lit (.bool b):=by
  have h:=h.ok; rw [RH,hu] at h; exact h
theorem Shp.int {H:Type}{P:Program}{n:Nat}{t:TypeId}{k:IntKind}{az:List AV}{d:DataW H}(h:Shp P (n + 1) t az d)(hu:P.underlying t=some (.int k)):∃ x,az=[.int k x]∧d=.lit (.int k x)∧k.min≤x∧x≤k.max:=by
  have h:=h.ok
  rw [RH,hu] at h
  obtain ⟨x,h1,h2,h3⟩:=h
  simp only [Lit.wf,Bool.and_eq_true,decide_eq_true_eq] at h3
  exact ⟨x,h1,h2,h3⟩
theorem Shp.i64 {H:Type}{P:Program}{n:Nat}{t:TypeId}{az:List AV}{d:DataW H}(h:Shp P (n + 1) t az d)(hu:P.underlying t=some (.int .i64)):∃ x,az=[.int .i64 x]∧d=.lit (.int .i64 x)∧-9223372036854775808≤x∧x≤9223372036854775807:=by
  obtain ⟨x,h1,h2,h3⟩:=h.int hu
  exact ⟨x,h1,h2,by simpa [IntKind.min,IntKind.max,IntKind.signed,IntKind.bits] using h3⟩
theorem Shp.str {H:Type}{P:Program}{n:Nat}{t:TypeId}{az:List AV}{d:DataW H}(h:Shp P (n + 1) t az d)(hu:P.underlying t=some .string):∃ s,az=[.str s]∧d=.lit (.string s)∧s.length≤140737488351232:=by
  have h:=h.ok; rw [RH,hu] at h; exact h
theorem Shp.slice {H:Type}{P:Program}{n:Nat}{t e:TypeId}{az:List AV}{d:DataW H}(h:Shp P (n + 1) t az d)(hu:P.underlying t=some (.slice e)):∃ rows,az=[.lst (P.cellsOf e) rows]∧rows.length≤140737488351232∧((rows=[]∧d=.nil)∨∃ D ds spare,d=.slice ds spare∧ds=(List.range rows.length).map D∧∀ (i:Nat) (r:List AV),rows[i]? = some r→Shp P n e r (D i)):=by
  have h:=h.ok
  rw [RH,hu] at h
  obtain ⟨rows,h1,h2,h3⟩:=h
  refine ⟨rows,h1,h2,h3.imp id ?_⟩
  rintro ⟨D,ds,spare,e1,e2,e3⟩
  exact ⟨D,ds,spare,e1,e2,fun i r hr=>⟨e3 i r hr⟩⟩
theorem Shp.struct {H:Type}{P:Program}{n:Nat}{t:TypeId}{fs:Array Field}{az:List AV}{d:DataW H}(h:Shp P (n + 1) t az d)(hu:P.underlying t=some (.struct fs)):az.length=P.cellsOf t∧∃ ds,d=.agg ds∧ds.length=fs.size∧∀ (i:Nat) (f:Field),fs.toList[i]? = some f→∃ di,ds[i]? = some di∧Shp P n f.type ((az.drop f.offset).take (P.cellsOf f.type)) di:=by
  have h:=h.ok
  rw [RH,hu] at h
  obtain ⟨h1,ds,h2,h3,h4⟩:=h
  exact ⟨h1,ds,h2,h3,fun i f hf=>let ⟨di,e1,e2⟩:=h4 i f hf; ⟨di,e1,⟨e2⟩⟩⟩
theorem Fa {α:Type _}{l:List α}{n:Nat}(h:l.length=n + 1):∃ a r,l=a :: r∧r.length=n:=by
  cases l with
  | nil=>simp at h
  | cons a r=>exact ⟨a,r,rfl,by simpa using h⟩
theorem len1 {α:Type _}{l:List α}(h:l.length=1):∃ a,l=[a]:=by
  obtain ⟨a,r,rfl,h0⟩:=Fa h; obtain rfl:=List.eq_nil_of_length_eq_zero h0; exact ⟨a,rfl⟩
def Qm (Γ:Zm)(w:World)(a:AV)(v:Value):Prop:=Rep Γ w a v∧a.one=true∧a.noId1=true∧∀ k r,a≠.own k r
variable {H:Type}{enc:TypeId×Value→H}{P:Program}{w:World}{base:Nat}{sp:Nat→Bool}{held:Bool}{Γ:Zm}
theorem BX {H:Type}{P:Program}{e:TypeId}{d:DataW H}{y:Nat}:∀ {ds:List (DataW H)},d ∈ ds→y ∈ d.weights P e→y ∈ DataW.weightsAll P e ds
  | [],h,_=>by simp at h
  | z :: ds,h,hy=>by
    rw [DataW.weightsAll,List.mem_append]
    rcases List.mem_cons.1 h with rfl | h
    · exact .inl hy
    · exact .inr (BX h hy)
theorem sized_arg {H:Type}{P:Program}{ts:List TypeId}{ds:List (DataW H)}(h:(DataW.weightsEach P ts ds).all (·≤reachBytes)=true){j:Nat}{t:TypeId}{d:DataW H}(ht:ts[j]? = some t)(hd:ds[j]? = some d):∀ y ∈ d.weights P t,y≤reachBytes:=fun y hy=>by
  have:=List.all_eq_true.1 h _ (DataW.weights_mem_each ht hd y hy)
  simpa using this
theorem Ox (n fuel:Nat)(cs:List Value)
    (ih:∀ (t:TypeId) (cs:List Value) (x:DataW H×List MemPlace),Zbm P n t=true→DataW.trod enc P w base sp held fuel t cs=some x→(∀ y ∈ x.1.weights P t,y≤reachBytes)→∃ az:List AV,RH P n t az x.1∧az.length=cs.length∧∀ j a,az[j]? = some a→Qm Γ w a (cs.getD j Go.undef)) :
    ∀ (fs:List Field) (xs:List (DataW H×List MemPlace)) (o m:Nat),CS P fs o m=true→m=cs.length→(fs.all fun f=>Zbm P n f.type)=true→(∀ (i:Nat) (f:Field),fs[i]? = some f→∃ x,xs[i]? = some x∧DataW.trod enc P w base sp held fuel f.type ((cs.drop f.offset).take (P.cellsOf f.type))=some x∧∀ y ∈ x.1.weights P f.type,y≤reachBytes) →
      o≤m∧∃ az:List AV,az.length=m - o∧(∀ (i:Nat) (f:Field),fs[i]? = some f→o≤f.offset∧∃ x,xs[i]? = some x∧RH P n f.type ((az.drop (f.offset - o)).take (P.cellsOf f.type)) x.1)∧∀ j a,az[j]? = some a→Qm Γ w a (cs.getD (o + j) Go.undef)
  | [],xs,o,m,ht,hm,_,_=>by
    have:o=m:=by simpa [CS] using ht
    subst this
    exact ⟨Nat.le_refl _,[],by simp,fun i f hf=>by simp at hf,fun j a h=>by simp at h⟩
  | f :: r,xs,o,m,ht,hm,hok,hx=>by
    simp only [CS,Bool.and_eq_true,beq_iff_eq] at ht
    simp only [List.all_cons,Bool.and_eq_true] at hok
    obtain ⟨x,hx0,hxf,hxw⟩:=hx 0 f rfl
    obtain ⟨xs,rfl⟩:∃ xs',xs=x :: xs':=by
      cases xs with
      | nil=>simp at hx0
      | cons y ys=>simp at hx0; exact ⟨ys,by rw [hx0]⟩
    obtain ⟨hle,az,hl,hs,hr⟩:=Ox n fuel cs ih r xs _ m ht.2 hm hok.2 (fun i g hg=>hx (i + 1) g hg)
    obtain ⟨a1,s1,l1,r1⟩:=ih _ _ _ hok.1 hxf hxw
    have hlen:((cs.drop f.offset).take (P.cellsOf f.type)).length=P.cellsOf f.type:=by
      rw [List.length_take,List.length_drop]; omega
    rw [hlen] at l1
    refine ⟨by omega,a1 ++ az,by rw [List.length_append]; omega,fun i g hg=>?_,fun j a hj=>?_⟩
    · cases i with
      | zero =>
        simp only [List.getElem?_cons_zero,Option.some.injEq] at hg
        subst hg
        refine ⟨by omega,x,rfl,?_⟩
        rw [ht.1,Nat.sub_self,List.drop_zero,List.take_append_of_le_length (by omega),List.take_of_length_le (by omega)]
        exact s1
      | succ i =>
        simp only [List.getElem?_cons_succ] at hg
        obtain ⟨q1,q2⟩:=hs i g hg
        refine ⟨by omega,?_⟩
        rw [List.drop_append,List.drop_eq_nil_of_le (by omega),List.nil_append,l1]
        rw [show g.offset - o - P.cellsOf f.type=g.offset - (o + P.cellsOf f.type) by omega]
        simpa using q2
    · by_cases hj2:j < a1.length
      · rw [List.getElem?_append_left hj2] at hj
        have:=r1 j a hj
        have e:((cs.drop f.offset).take (P.cellsOf f.type)).getD j Go.undef=cs.getD (o + j) Go.undef:=by
          rw [List.getD_eq_getElem?_getD,List.getD_eq_getElem?_getD,List.getElem?_take_of_lt (by omega),List.getElem?_drop,ht.1]
        rwa [e] at this
      · rw [List.getElem?_append_right (by omega)] at hj
        have:=hr _ a hj
        rwa [show o + P.cellsOf f.type + (j - a1.length)=o + j by omega] at this
theorem Ui (hΓ:∀ b,Γ b=.imm):∀ (n fuel:Nat) (t:TypeId) (cs:List Value) (x:DataW H×List MemPlace),Zbm P n t=true→DataW.trod enc P w base sp held fuel t cs=some x→(∀ y ∈ x.1.weights P t,y≤reachBytes) →
    ∃ az:List AV,RH P n t az x.1∧az.length=cs.length∧∀ j a,az[j]? = some a→Qm Γ w a (cs.getD j Go.undef)
  | 0,_,_,_,_,h,_,_=>by cases h
  | n + 1,0,_,_,_,_,h,_=>by cases h
  | n + 1,fuel + 1,t,cs,x,ho,h,hwt=>by
    cases hu:P.underlying t with
    | none=>simp [Zbm,hu] at ho
    | some d =>
    have hS:∀ (az:List AV) (dd:DataW H),RH P (n + 1) t az dd=_:=fun az dd=>by rw [RH,hu]
    have one:∀ (c:AV) (v:Value),Qm Γ w c v→∀ j a,[c][j]? = some a→Qm Γ w a ([v].getD j Go.undef):=fun c v hc j a hj=>by
      match j,hj with
      | 0,hj=>cases hj; exact hc
      | j + 1,hj=>simp at hj
    cases d <;> simp only [Zbm,hu,Bool.false_eq_true] at ho
    case bool =>
      obtain ⟨b,rfl,rfl⟩:=DataW.trod_bool hu h
      exact ⟨[.bool b],(hS _ _).mpr ⟨b,rfl,rfl⟩,rfl,one _ _ ⟨.bool b,rfl,rfl,fun k r e=>by cases e⟩⟩
    case int k =>
      obtain ⟨x,rfl,rfl,hw⟩:=DataW.trod_int hu h
      exact ⟨[.int k x],(hS _ _).mpr ⟨x,rfl,rfl,hw⟩,rfl,one _ _ ⟨.int k x,rfl,rfl,fun k r e=>by cases e⟩⟩
    case string =>
      obtain ⟨b,rfl,rfl,hb⟩:=DataW.trod_string hu h
      have e:b=⟨b.data.toList.toArray⟩:=by cases b; simp
      refine ⟨[.str b.data.toList],(hS _ _).mpr ⟨_,rfl,rfl,Gn (hwt _ (by simp [DataW.weights]))⟩,rfl,one _ _ ⟨?_,rfl,rfl,fun k r e=>by cases e⟩⟩
      have:Rep Γ w (.str b.data.toList) (.string ⟨b.data.toList.toArray⟩):=.str _
      rwa [← e] at this
    case slice e =>
      simp only [Bool.and_eq_true,decide_eq_true_eq] at ho
      rcases open_slice hu h with ⟨rfl,rfl⟩ | ⟨A,len,cap,m,n',D,Pl,rfl,hb,hl,hm,hmm,rfl,hi⟩
      · exact ⟨[.lst (P.cellsOf e) []],(hS _ _).mpr ⟨[],rfl,by simp,.inl ⟨rfl,rfl⟩⟩,rfl,one _ _ ⟨.lstNil _,rfl,rfl,fun k r e=>by cases e⟩⟩
      · have hlm:len≤m:=by rw [hmm]; split <;> omega
        have hwe:∀ i,i < len→∀ y ∈ (D i).weights P e,y≤reachBytes:=fun i hi y hy=>by
          refine hwt y ?_
          simp only [DataW.weights,hu]
          exact List.mem_cons_of_mem _ (List.mem_append_left _ (BX (List.mem_map.2 ⟨i,by simpa using hi,rfl⟩) hy))
        have hlr:len≤140737488351232:=by
          refine Gn (Nat.le_trans ?_ (hwt ((((List.range len).map D).length + ((List.range (m - len)).map fun j=>D (len + j)).length) * P.bytesOf e) ?_))
          · simp only [List.length_map,List.length_range]
            exact Nat.le_trans (Nat.le_add_right _ _) (Nat.le_mul_of_pos_right _ ho.1.2)
          · simp only [DataW.weights,hu]
            exact List.mem_cons_self ..
        have hrow:∀ i,∃ r:List AV,i < len→RH P n e r (D i)∧r.length=P.cellsOf e∧∀ j a,r[j]? = some a→w.cell? ((A.add (i * P.cellsOf e)).add j)=some ((w.cell? ((A.add (i * P.cellsOf e)).add j)).getD Go.undef)∧Qm Γ w a ((w.cell? ((A.add (i * P.cellsOf e)).add j)).getD Go.undef):=fun i=>by
          by_cases hil:i < len
          · obtain ⟨cs',hc,ht⟩:=hi i (by omega)
            obtain ⟨_,hlen,hcell⟩:=World.cells?_some hc
            obtain ⟨r,s1,l1,r1⟩:=Ui hΓ n n' e cs' _ ho.2 ht (hwe i hil)
            refine ⟨r,fun _=>⟨s1,by omega,fun j a hj=>?_⟩⟩
            have hjl:j < r.length:=(List.getElem?_eq_some_iff.1 hj).1
            have hc2:=hcell j (by omega)
            have hr:=r1 j a hj
            rw [List.getElem?_eq_getElem (by omega)] at hc2
            rw [List.getD_eq_getElem?_getD,List.getElem?_eq_getElem (by omega)] at hr
            rw [hc2]
            exact ⟨rfl,hr⟩
          · exact ⟨[],fun h=>absurd h hil⟩
        have hf:∃ f:Nat→List AV,∀ i,i < len→RH P n e (f i) (D i)∧(f i).length=P.cellsOf e∧∀ j a,(f i)[j]? = some a→w.cell? ((A.add (i * P.cellsOf e)).add j)=some ((w.cell? ((A.add (i * P.cellsOf e)).add j)).getD Go.undef)∧Qm Γ w a ((w.cell? ((A.add (i * P.cellsOf e)).add j)).getD Go.undef) :=
          ⟨fun i=>(hrow i).choose,fun i=>(hrow i).choose_spec⟩
        obtain ⟨f,hf⟩:=hf
        have hget:∀ (i:Nat) (r:List AV),((List.range len).map f)[i]? = some r→i < len∧r=f i:=fun i r hr=>by
          rw [List.getElem?_map] at hr
          obtain ⟨i',hi',rfl⟩:=Option.map_eq_some_iff.1 hr
          have hlt:=(List.getElem?_eq_some_iff.1 hi').1
          rw [List.length_range] at hlt
          rw [List.getElem?_range hlt] at hi'
          obtain rfl:=Option.some.inj hi'
          exact ⟨hlt,rfl⟩
        refine ⟨[.lst (P.cellsOf e) ((List.range len).map f)],(hS _ _).mpr ⟨_,rfl,by simpa using hlr,.inr ⟨D,_,_,rfl,by simp,fun i r hr=>?_⟩⟩,rfl,one _ _ ⟨?_,rfl,rfl,fun k r e=>by cases e⟩⟩
        · obtain ⟨h1,rfl⟩:=hget i r hr
          exact (hf i h1).1
        · by_cases hex:∃ (i j:Nat) (a:AV),i < len∧(f i)[j]? = some a
          · obtain ⟨i0,j0,a0,hi0,hj0⟩:=hex
            have h0:∃ v,w.cell? A=some v:=by
              have hj0l:j0 < (f i0).length:=(List.getElem?_eq_some_iff.1 hj0).1
              have hpos:0 < P.cellsOf e:=by have:=(hf i0 hi0).2.1; omega
              have hz:=(hf 0 (by omega)).2.1
              have:=((hf 0 (by omega)).2.2 0 ((f 0)[0]'(by omega)) (List.getElem?_eq_getElem _)).1
              rw [Nat.zero_mul] at this
              have e1:(A.add 0).add 0=A:=by simp [Addr.add]
              rw [e1] at this
              exact ⟨_,this⟩
            have hsp:A.spot=none:=by
              obtain ⟨v,hv⟩:=h0
              unfold World.cell? at hv
              split at hv
              · split at hv
                · cases hv
                · rename_i hs; simpa using hs
              · cases hv
            obtain ⟨b,o,q⟩:=A
            simp only at hsp
            subst hsp
            have hadd:∀ i j,((⟨b,o,none⟩:Addr).add (i * P.cellsOf e)).add j=⟨b,o + (i * P.cellsOf e + j),none⟩:=fun i j=>by
              rw [Go.Deep.add_add]
              unfold Addr.add
              split
              · rename_i h0; simp [h0]
              · rfl
            have hll:len=((List.range len).map f).length:=by simp
            generalize hrows:(List.range len).map f=rows at *
            subst hll
            refine .lst _ rows b o cap (fun i j=>(w.cell? ⟨b,o + (i * P.cellsOf e + j),none⟩).getD Go.undef) hl (fun r hr=>?_) (fun i j r c hr hc=>?_) (fun i j r c hr hc=>?_)
            · obtain ⟨i,hi⟩:=List.mem_iff_getElem?.1 hr
              obtain ⟨h1,rfl⟩:=hget i r hi
              exact (hf i h1).2.1
            · obtain ⟨h1,rfl⟩:=hget i r hr
              have:=(hf i h1).2.2 j c hc
              rw [hadd] at this
              exact ⟨this.1,by show YU _ (Γ b); rw [hΓ]; trivial,this.2.2.2.1⟩
            · obtain ⟨h1,rfl⟩:=hget i r hr
              have:=(hf i h1).2.2 j c hc
              rw [hadd] at this
              exact this.2.1
          · have h0:len=0:=by
              rcases Nat.eq_zero_or_pos len with h0 | h0
              · exact h0
              · refine absurd ⟨0,0,(f 0)[0]'(by have:=(hf 0 h0).2.1; have:=ho.1.1; omega),h0,List.getElem?_eq_getElem _⟩ hex
            subst h0
            exact .lstE _ A cap
    case struct fs =>
      simp only [Bool.and_eq_true] at ho
      obtain ⟨xs,n',hn,rfl,hlen,hxl,hf⟩:=DataW.trod_struct hu h
      obtain ⟨_,az,l1,s1,r1⟩:=Ox n n' cs (fun t cs x=>Ui hΓ n n' t cs x) fs.toList xs 0 _ ho.1 hlen.symm ho.2 fun i f hf'=>by
        have hi':fs[i]? = some f:=by simpa using hf'
        have:=hf i f hi'
        have hlt:i < xs.length:=by rw [hxl]; exact (Array.getElem?_eq_some_iff.1 hi').1
        rw [List.getElem?_eq_getElem hlt] at this
        refine ⟨_,List.getElem?_eq_getElem hlt,this,fun y hy=>hwt y ?_⟩
        simp only [DataW.weights,hu]
        exact DataW.weights_mem_each (j := i) (t := f.type) (d := (xs[i]'hlt).1) (by simp [hi']) (by simp [List.getElem?_eq_getElem hlt]) y hy
      refine ⟨az,(hS _ _).mpr ⟨by omega,_,rfl,by simpa using hxl,fun i f hf'=>?_⟩,by omega,fun j a hj=>by simpa using r1 j a hj⟩
      obtain ⟨_,x,hx,hsx⟩:=s1 i f hf'
      exact ⟨x.1,by simp [hx],by simpa using hsx⟩
theorem arg_stays {t:TypeId}{v:Value}{d:DataW H}{ps:List MemPlace}{W W':World}(hl:laidOutB P=true)(hr:P.readableRec t=true)(hrow:t < P.types.size)(h:DataW.Trod enc P W 0 (fun _=>true) true t v d ps)(hb:Below W.heap.size W W')(hlt:∀ p ∈ ps,p.block < W.heap.size) :
    DataW.Trod enc P W' 0 (fun b=>decide (b < W.heap.size)) true t v d ps :=
  WideElems.Trod_stays hl hr hrow h (fun p hp=>hb.same (hlt p hp)) (fun p hp=>by simpa using hlt p hp)
end Go.Proofs.YtdchnngpjjcchaaDoor.Abs
end
section
namespace Go.Proofs.YtdchnngpjjcchaaDoor.Abs
open Go Go.RowKit
def AV.apart:AV→Bool
  | .agg cs=>cs.all AV.noId1
  | v=>v.noId1
theorem Rep.still' {Γ:Zm}{w:World}{x:AV}{v:Value}(h:Rep Γ w x v)(hx:x.apart=true):Rep still w x v:=by
  have hf:ZI Γ w still w:=fun b o v _ h2=>⟨trivial,h2⟩
  cases h with
  | agg cells cv hs h1 hn hr =>
    simp only [AV.apart,List.all_eq_true] at hx
    exact .agg cells cv hs h1 hn fun j c hc=>(hr j c hc).noId hf (hx c (List.mem_of_getElem? hc))
  | undef=>cases hx
  | tup=>cases hx
  | arr=>cases hx
  | ptr=>cases hx
  | map=>cases hx
  | bool b=>exact .bool b
  | int k n=>exact .int k n
  | str s=>exact .str s
  | nilp=>exact .nilp
  | nilf=>exact .nilf
  | nilm=>exact .nilm
  | nili=>exact .nili
  | nils k=>exact .nils k
  | lstNil k=>exact .lstNil k
  | lstE k A cap=>exact .lstE k A cap
  | lst k rows b o cap cv hlen hk hc hr=>exact (Rep.lst k rows b o cap cv hlen hk hc hr).noId hf rfl
  | own k rows v h=>exact (Rep.own k rows v h).noId hf rfl
  | ref cells b o cv hc hr=>exact (Rep.ref cells b o cv hc hr).noId hf rfl
  | fn f fst caps fv cv hs1 hr1 hs hr=>exact (Rep.fn f fst caps fv cv hs1 hr1 hs hr).noId hf hx
end Go.Proofs.YtdchnngpjjcchaaDoor.Abs
end
section
namespace Go.Proofs.YtdchnngpjjcchaaDoor
open Go Go.RowKit Go.Shelf Go.Proofs.YtdchnngpjjcchaaDoor.Abs
set_option maxRecDepth 100000
def encS (l:List YS):List UInt8×Int:=if 50000 < l.length then ([],6) else if MG 0 l≠0 then ([],MG 0 l) else (((l.length:Int) :: Dq 0 l).flatMap enc,0)
def Rz (l:List YS):AV:=.tup [.lst 1 (ZU (encS l).1),.int .i64 (encS l).2]
theorem ZbG {W0 w:World}(h:Below W0.heap.size W0 w):RW W0 still w [] :=
  ⟨fun g o hg=>by simp at hg,fun b b' g h=>(by cases h),fun _ _=>rfl,fun b g h=>(by cases h),h,fun _ _=>rfl,fun g hg=>by simp at hg⟩
theorem Zay {W0 w:World}{C:Cfg}(hC:CfgOk Tryd.prog W0 C)(hw:Below W0.heap.size W0 w){n:Nat}{f:FuncId}{avs:List AV}{v:AV}{hp:List Zf}(hev:Zb C n f avs []=some (v,hp,none)){args:Array Value}(hs:args.size=avs.length)
    (hr:∀ (j:Nat) (x:AV),avs[j]? = some x→Rep still w x (args.getD j Go.undef)∧∀ k r,x≠.own k r) :
    Calls Tryd.prog f args w fun e w'=>∃ cv Γ',e=.returned cv∧Below w.heap.size w w'∧Rep Γ' w' v cv:=by
  obtain ⟨_,h⟩:=X4 hC n f avs [] _ _ _ hev still w args (ZbG hw) KA hs fun j x hx=>⟨(hr j x hx).1,.of_ne (hr j x hx).2⟩
  refine h.mono fun en W' ⟨cv,hv',Γ',r1,r2,_,r4,_⟩=>?_
  subst hv'
  exact ⟨cv,Γ',rfl,⟨r4.os,r4.tape,r4.output,r4.size,fun b hb=>(r4.keep b hb trivial).2⟩,r2⟩
theorem MP {Γ:Zm}{W:World}{v:Value}{bs:List UInt8}(h:Bytes W v bs)(hg:∀ g o n c,v=.slice (some ⟨g,o,none⟩) n c→Γ g=.imm):Rep Γ W (.lst 1 (ZU bs)) v:=by
  rcases h with ⟨rfl,rfl⟩ | ⟨g,o,cap,rfl,hc,hlt,hcs⟩
  · exact .lstNil 1
  · have e:bs.length=(ZU bs).length:=(YJ bs).symm
    rw [e]
    refine .lst 1 (ZU bs) g o cap (fun i _=>.int .u8 ((bs.getD i 0).toNat)) (by rw [YJ]; exact hc) (fun r hr=>by obtain ⟨c,-,rfl⟩:=List.mem_map.1 hr; rfl) (fun i j r c hi hj=>?_) (fun i j r c hi hj=>?_)
    all_goals
      rw [ZU,List.getElem?_map] at hi
      obtain ⟨y,hy,rfl⟩:=Option.map_eq_some_iff.1 hi
      obtain rfl:j=0:=by
        have:=(List.getElem?_eq_some_iff.1 hj).1
        simp [byteRow] at this; omega
      obtain rfl:c=.int .u8 y.toNat:=by simpa [byteRow] using hj.symm
      have hd:bs.getD i 0=y:=by rw [List.getD_eq_getElem?_getD,hy]; rfl
    · refine ⟨?_,by rw [XT,hg g o _ _ rfl]; trivial,rfl⟩
      rw [hd]
      have:=hcs i y hy
      simpa using this
    · rw [hd]; exact .int _ _
theorem MO {Γ:Zm}{W:World}{v:Value}{bs:List UInt8}(h:Rep Γ W (.lst 1 (ZU bs)) v)(hne:bs≠[]):Bytes W v bs:=by
  generalize hq:ZU bs=rows at h
  cases h with
  | lstNil=>cases bs with | nil=>exact absurd rfl hne | cons c l=>cases hq
  | lstE=>cases bs with | nil=>exact absurd rfl hne | cons c l=>cases hq
  | lst _ _ b o cap cv hlen hk hc hr =>
    subst hq
    rw [YJ] at hlen ⊢
    have key:∀ (j:Nat) (c:UInt8),bs[j]? = some c→W.cell? ⟨b,o + j,none⟩=some (.int .u8 c.toNat):=fun j c hj=>by
      have h1:(ZU bs)[j]? = some (byteRow c):=by rw [ZU,List.getElem?_map,hj]; rfl
      have h2:=hc j 0 _ _ h1 rfl
      have h3:=hr j 0 _ _ h1 rfl
      generalize cv j 0=u at h2 h3
      cases h3
      simpa using h2.1
    refine .inr ⟨b,o,cap,rfl,hlen,?_,key⟩
    cases bs with
    | nil=>exact absurd rfl hne
    | cons c l=>exact World.block_lt_of_cell? W _ (key 0 c rfl)
theorem len1 {xs:Array Value}(h:xs.size=1):xs=#[xs.getD 0 Go.undef]:=by
  refine Array.ext (by simpa using h) fun i h2 h3=>?_
  have:i=0:=by simp at h3; omega
  subst this
  rw [Array.getD_eq_getD_getElem?,Array.getElem?_eq_getElem h2]; rfl
theorem lits {α:Type}{l:List α}:∀ {n:Nat},l.length=n + 1→∃ a r,l=a :: r∧r.length=n:=by
  intro n h
  cases l with
  | nil=>simp at h
  | cons a r=>exact ⟨a,r,rfl,by simpa using h⟩
theorem Zd7 {xs:Array Value}(h:xs.size=60):∃ t0 t1 t2 t3 t4 t5 t6 t7 t8 t9 t10 t11 t12 t13 t14 t15 t16 t17 t18 t19 t20 t21 t22 t23 t24 t25 t26 t27 t28 t29 t30 t31 t32 t33 t34 t35 t36 t37 t38 t39 t40 t41 t42 t43 t44 t45 t46 t47 t48 t49 t50 t51 t52 t53 t54 t55 t56 t57 t58 t59,xs=#[t0,t1,t2,t3,t4,t5,t6,t7,t8,t9,t10,t11,t12,t13,t14,t15,t16,t17,t18,t19,t20,t21,t22,t23,t24,t25,t26,t27,t28,t29,t30,t31,t32,t33,t34,t35,t36,t37,t38,t39,t40,t41,t42,t43,t44,t45,t46,t47,t48,t49,t50,t51,t52,t53,t54,t55,t56,t57,t58,t59]:=by
  obtain ⟨l⟩:=xs
  have h0:l.length=60:=h
  obtain ⟨t0,r1,rfl,h1⟩:=lits h0
  obtain ⟨t1,r2,rfl,h2⟩:=lits h1
  obtain ⟨t2,r3,rfl,h3⟩:=lits h2
  obtain ⟨t3,r4,rfl,h4⟩:=lits h3
  obtain ⟨t4,r5,rfl,h5⟩:=lits h4
  obtain ⟨t5,r6,rfl,h6⟩:=lits h5
  obtain ⟨t6,r7,rfl,h7⟩:=lits h6
  obtain ⟨t7,r8,rfl,h8⟩:=lits h7
  obtain ⟨t8,r9,rfl,h9⟩:=lits h8
  obtain ⟨t9,r10,rfl,h10⟩:=lits h9
  obtain ⟨t10,r11,rfl,h11⟩:=lits h10
  obtain ⟨t11,r12,rfl,h12⟩:=lits h11
  obtain ⟨t12,r13,rfl,h13⟩:=lits h12
  obtain ⟨t13,r14,rfl,h14⟩:=lits h13
  obtain ⟨t14,r15,rfl,h15⟩:=lits h14
  obtain ⟨t15,r16,rfl,h16⟩:=lits h15
  obtain ⟨t16,r17,rfl,h17⟩:=lits h16
  obtain ⟨t17,r18,rfl,h18⟩:=lits h17
  obtain ⟨t18,r19,rfl,h19⟩:=lits h18
  obtain ⟨t19,r20,rfl,h20⟩:=lits h19
  obtain ⟨t20,r21,rfl,h21⟩:=lits h20
  obtain ⟨t21,r22,rfl,h22⟩:=lits h21
  obtain ⟨t22,r23,rfl,h23⟩:=lits h22
  obtain ⟨t23,r24,rfl,h24⟩:=lits h23
  obtain ⟨t24,r25,rfl,h25⟩:=lits h24
  obtain ⟨t25,r26,rfl,h26⟩:=lits h25
  obtain ⟨t26,r27,rfl,h27⟩:=lits h26
  obtain ⟨t27,r28,rfl,h28⟩:=lits h27
  obtain ⟨t28,r29,rfl,h29⟩:=lits h28
  obtain ⟨t29,r30,rfl,h30⟩:=lits h29
  obtain ⟨t30,r31,rfl,h31⟩:=lits h30
  obtain ⟨t31,r32,rfl,h32⟩:=lits h31
  obtain ⟨t32,r33,rfl,h33⟩:=lits h32
  obtain ⟨t33,r34,rfl,h34⟩:=lits h33
  obtain ⟨t34,r35,rfl,h35⟩:=lits h34
  obtain ⟨t35,r36,rfl,h36⟩:=lits h35
  obtain ⟨t36,r37,rfl,h37⟩:=lits h36
  obtain ⟨t37,r38,rfl,h38⟩:=lits h37
  obtain ⟨t38,r39,rfl,h39⟩:=lits h38
  obtain ⟨t39,r40,rfl,h40⟩:=lits h39
  obtain ⟨t40,r41,rfl,h41⟩:=lits h40
  obtain ⟨t41,r42,rfl,h42⟩:=lits h41
  obtain ⟨t42,r43,rfl,h43⟩:=lits h42
  obtain ⟨t43,r44,rfl,h44⟩:=lits h43
  obtain ⟨t44,r45,rfl,h45⟩:=lits h44
  obtain ⟨t45,r46,rfl,h46⟩:=lits h45
  obtain ⟨t46,r47,rfl,h47⟩:=lits h46
  obtain ⟨t47,r48,rfl,h48⟩:=lits h47
  obtain ⟨t48,r49,rfl,h49⟩:=lits h48
  obtain ⟨t49,r50,rfl,h50⟩:=lits h49
  obtain ⟨t50,r51,rfl,h51⟩:=lits h50
  obtain ⟨t51,r52,rfl,h52⟩:=lits h51
  obtain ⟨t52,r53,rfl,h53⟩:=lits h52
  obtain ⟨t53,r54,rfl,h54⟩:=lits h53
  obtain ⟨t54,r55,rfl,h55⟩:=lits h54
  obtain ⟨t55,r56,rfl,h56⟩:=lits h55
  obtain ⟨t56,r57,rfl,h57⟩:=lits h56
  obtain ⟨t57,r58,rfl,h58⟩:=lits h57
  obtain ⟨t58,r59,rfl,h59⟩:=lits h58
  obtain ⟨t59,r60,rfl,h60⟩:=lits h59
  obtain rfl:=List.eq_nil_of_length_eq_zero h60
  exact ⟨t0,t1,t2,t3,t4,t5,t6,t7,t8,t9,t10,t11,t12,t13,t14,t15,t16,t17,t18,t19,t20,t21,t22,t23,t24,t25,t26,t27,t28,t29,t30,t31,t32,t33,t34,t35,t36,t37,t38,t39,t40,t41,t42,t43,t44,t45,t46,t47,t48,t49,t50,t51,t52,t53,t54,t55,t56,t57,t58,t59,rfl⟩
theorem Zdh {W0:World}{C:Cfg}(hC:JD C)(hK:CfgOk Tryd.prog W0 C)(W:World)(bv:Value)(bs:List UInt8)(n:Int)(hw:Below W0.heap.size W0 W)(hb:Bytes W bv bs)(hl:bs.length≤100000)(h1:-9223372036854775808≤n)(h2:n≤9223372036854775807) :
    Calls Tryd.prog 36 #[bv,.int .i64 n] W fun e W'=>∃ v,e=.returned v∧Bytes W' v (bs ++ enc n)∧Below W.heap.size W W':=by
  refine (Zay hK hw (Ag hC 3 (Nat.le_refl _) [] bs n h1 h2 (by omega)) rfl fun j x hx=>?_).mono ?_
  · match j,hx with
    | 0,hx=>obtain rfl:=Option.some.inj hx; exact ⟨MP hb fun _ _ _ _ _=>rfl,fun _ _ h=>by cases h⟩
    | 1,hx=>obtain rfl:=Option.some.inj hx; exact ⟨.int _ _,fun _ _ h=>by cases h⟩
  · rintro e w' ⟨cv,Γ',rfl,hb',hr⟩
    exact ⟨cv,rfl,MO hr (by have:=(Be n).1; intro h; rw [List.append_eq_nil_iff] at h; rw [h.2] at this; simp at this),hb'⟩
def Zd8 (C:Cfg):Cfg:={ C with T:=fun f=>if f=Zq then some Zw else C.T f }
theorem ZbP {C:Cfg}(hC:JD C):JD (Zd8 C) where
  T:=fun f a h=>by
    have hf:f≠Zq:=fun e=>by subst e; cases h
    show (if f=Zq then some Zw else C.T f)=some a
    rw [if_neg hf]; exact hC.T f a h
  L:=hC.L
theorem CX {W0:World}{C:Cfg}(h:CfgOk Tryd.prog W0 C):CfgOk Tryd.prog W0 (Zd8 C) where
  mixed:=h.mixed
  globals:=h.globals
  table:=fun f af hf=>by
    by_cases e:f=Zq
    · subst e
      obtain rfl:Zw=af:=Option.some.inj hf
      exact ⟨Tryd.f16,takes,Tryd.func16,Je,Iy⟩
    · have:(if f=Zq then some Zw else C.T f)=some af:=hf
      rw [if_neg e] at this
      exact h.table f af this
  oracle:=h.oracle
theorem ZbD {Γ Γ':Zm}{W:World}{k:Nat}{v:Value}(h:Rep Γ W (.lst k []) v):Rep Γ' W (.lst k []) v:=by
  cases h with
  | lstNil=>exact .lstNil k
  | lstE _ A cap=>exact .lstE k A cap
  | lst _ _ b o cap cv hlen hk hc hr=>exact .lst k [] b o cap cv (Nat.zero_le _) (by simp) (fun i j r c h=>by simp at h) (fun i j r c h=>by simp at h)
theorem FZ {Γ:Zm}{W:World}{a:AV}{e:Int}{cv:Value}(h:Rep Γ W (.tup [a,.int .i64 e]) cv):∃ u,cv=.tuple #[u,.int .i64 e]∧Rep Γ W a u:=by
  cases h with
  | tup _ cv hs hr =>
    have h0:=hr 0 _ rfl
    have h1:=hr 1 _ rfl
    refine ⟨cv.getD 0 Go.undef,?_,h0⟩
    refine congrArg Value.tuple (Array.ext (by simpa using hs) fun i h2 h3=>?_)
    match i,h3 with
    | 0,_=>rw [Array.getD_eq_getD_getElem?,Array.getElem?_eq_getElem h2]; rfl
    | 1,_ =>
      rw [Array.getD_eq_getD_getElem?,Array.getElem?_eq_getElem h2] at h1
      cases h1':(some cv[1]).getD Go.undef with
      | int k n=>rw [h1'] at h1; cases h1; exact h1'
      | _=>rw [h1'] at h1; cases h1
theorem Pi {Γ:Zm}{W:World}{a:AV}{u:Value}{e:Int}(h:Rep Γ W a u):Rep Γ W (.tup [a,.int .i64 e]) (.tuple #[u,.int .i64 e]) :=
  .tup _ _ rfl fun j c hj=>by
    match j,hj with
    | 0,hj=>obtain rfl:=Option.some.inj hj; exact h
    | 1,hj=>obtain rfl:=Option.some.inj hj; exact .int _ _
theorem Pn (x:Int):-9223372036854775808≤IntKind.i64.wrap x∧IntKind.i64.wrap x≤9223372036854775807:=by
  have h:IntKind.i64.wrap x=if x % 18446744073709551616 ≥ 9223372036854775808 then x % 18446744073709551616 - 18446744073709551616 else x % 18446744073709551616:=by simp [IntKind.wrap,IntKind.bits,IntKind.signed]
  rw [h]
  split <;> constructor <;> omega
theorem Du:∀ (l:List YS) (b:Int),(∀ r ∈ l,QT r)→∀ n ∈ Dq b l,-9223372036854775808≤n∧n≤9223372036854775807
  | [],_,_,n,h=>by cases h
  | r :: l,b,ho,n,h=>by
    rw [Dq,List.mem_append] at h
    rcases h with h | h
    · have o:=ho r (List.mem_cons_self ..)
      simp only [nums,List.mem_cons,List.not_mem_nil,or_false] at h
      rcases h with rfl | rfl | rfl | rfl | rfl | rfl
      · exact Pn _
      · exact o.Site
      · exact o.What
      · exact o.Proc
      · exact o.Index
      · exact o.Value
    · exact Du l r.Time (fun r hr=>ho r (List.mem_cons_of_mem _ hr)) n h
theorem PE {hp0 hp:HP}{vs:List AV}{ef:Eff}{k:Nat}{r:List (List AV)}{h:HP}{e:Eff}:YV false hp0 (.tup vs) hp ef≠(.lst k r,h,e):=by
  intro hq
  have:finish (.tup vs) ⟨[],hp,ef,hp0.length⟩ hp0=(.lst k r,h,e):=hq
  unfold finish at this
  rw [NQ] at this
  cases hm:vs.mapM (JU hp0.length hp) with
  | none=>simp only [hm,Option.map_none] at this; cases this
  | some w =>
    simp only [hm,Option.map_some] at this
    split at this
    · cases this
    · split at this <;> cases this
theorem Zdk {hp0 hp:HP}{e:Env}{ef:Eff}{k:Nat}{r:List (List AV)}{h:HP}{e':Eff}:Ql Zt Zw hp0 e hp ef≠some (.lst k r,h,e'):=by
  intro hq
  have hq:(rdK (ZbZ e 60 Zt hp (.tmp 2)) fun v=>rdK (ZbZ e 60 Zt hp (.tmp 3)) fun v2=>some (YV false hp0 (.tup [v.nm,v2.nm]) hp ef))=some (.lst k r,h,e'):=hq
  obtain ⟨v1,_,hq⟩:=Zp hq
  obtain ⟨v2,_,hq⟩:=Zp hq
  exact PE (Option.some.inj hq)
set_option maxHeartbeats 1000000 in
theorem GU {W0:World}{C:Cfg}(hC:JD C)(hK:CfgOk Tryd.prog W0 C)(l:List YS)(hl:∀ r ∈ l,QT r){Γ:Zm}{w:World}{xs:Array Value}(hb:Below W0.heap.size W0 w)(hΓ:∀ b,w.heap.size≤b→Γ b=.imm)(hs:xs.size=1)(hx0:Rep still w (.lst 6 (recs l)) (xs.getD 0 Go.undef)):EQ Tryd.prog Zq xs w fun cv w'=>Below w.heap.size w w'∧Rep Γ w' (Rz l) cv:=by
  have hxs:=len1 hs
  refine Yv Tryd.func16 Je (c := Jw) (by kernel_rfl) ?_
  by_cases hbad:50000 < l.length∨MG 0 l≠0
  · refine (Zay (CX hK) hb (La (ZbP hC) rfl 2 (Nat.le_refl _) [] l hbad) hs fun j x hj=>?_).mono ?_
    · match j,hj with
      | 0,hj=>obtain rfl:=Option.some.inj hj; exact ⟨hx0,fun _ _ h=>by cases h⟩
    · rintro e w' ⟨cv,Γ',rfl,hb',hr⟩
      obtain ⟨u,rfl,hu⟩:=FZ hr
      refine ⟨_,rfl,hb',?_⟩
      have:Rz l=.tup [.lst 1 [],.int .i64 (if 50000 < l.length then 6 else MG 0 l)]:=by
        unfold Rz encS
        by_cases h5:50000 < l.length
        · rw [if_pos h5,if_pos h5]; rfl
        · rw [if_neg h5,if_neg h5,if_pos (hbad.resolve_left h5)]; rfl
      rw [this]
      exact Pi (ZbD hu)
  · have hb5:l.length≤50000:=by omega
    have hb0:MG 0 l=0:=by
      by_cases h:MG 0 l=0
      · exact h
      · exact absurd (.inr h) hbad
    have hA:Rz l=.tup [.lst 1 (ZU (((l.length:Int) :: Dq 0 l).flatMap enc)),.int .i64 0]:=by
      unfold Rz encS
      rw [if_neg (by omega),if_neg (by simpa using hb0)]
    obtain ⟨ns,hns⟩:∃ ns,(l.length:Int) :: Dq 0 l=ns:=⟨_,rfl⟩
    have hnl:ns.length≤400000:=by rw [← hns,List.length_cons,Dt]; omega
    have hnr:∀ n ∈ ns,-9223372036854775808≤n∧n≤9223372036854775807:=by
      intro n hn
      rw [← hns] at hn
      rcases List.mem_cons.1 hn with rfl | hn
      · omega
      · exact Du l 0 hl n hn
    rcases Zec hC 3 (by omega) [] l with ⟨_,_,hp',hd⟩ | ⟨_,h,_⟩ | ⟨h,_⟩
    rotate_left
    · exact absurd hb0 h
    · exact absurd h (by omega)
    rw [hns] at hd hA
    rw [← Ae C.G (Zb C 3) C.L (.lst 6 (recs l)) []] at hd
    obtain ⟨ex,e',sl',hp1,ef1,hev,henv,hm⟩:=QZ ZdC (Ns (N := 60) (by simp)) hd
    have hex:ex=.normal∧(e' 4).rd=.lst 1 (ints ns)∧ef1=none:=by
      cases ex with
      | normal =>
        have:=Option.some.inj hm
        exact ⟨rfl,congrArg Prod.fst this,congrArg (fun x=>x.2.2) this⟩
      | ret=>exact absurd hm Zdk
      | exit i=>cases hm
    obtain ⟨rfl,he4,rfl⟩:=hex
    refine (callsIn_wide (n := 3)).1 ?_
    refine callsIn_of_wp_marks (c := Jw) Tryd.func16 (by kernel_rfl) trivial ?_ rfl
    refine wpIn_wide.2 ?_
    rw [← ZaC]
    have hI:Inv ⟨W0,still,w⟩ ⟨[.lst 6 (recs l)] ++ List.replicate (60 - [AV.lst 6 (recs l)].length) .undef,[],none,([]:HP).length⟩ still { tmps := xs ++ Array.replicate (Tryd.f16.ntmps - xs.size) Go.undef,defers := [] } w:=by
      have hn60:Tryd.f16.ntmps=60:=by kernel_rfl
      rw [hn60]
      refine ⟨rfl,⟨by simp [hs],fun t y hy=>?_,fun t y hy=>?_⟩,ZbG hb,.refl _ _ _,fun b g hb=>(by cases hb),fun b m g i hb=>(by cases hb),Nat.le_refl _,fun _ _ hb _=>hb⟩
      all_goals
        rw [List.getElem?_append] at hy
        split at hy
      · rename_i hlt
        obtain rfl:t=0:=by simpa using hlt
        obtain rfl:=Option.some.inj hy
        have:(xs ++ Array.replicate (60 - xs.size) Go.undef).getD 0 Go.undef=xs.getD 0 Go.undef:=by
          rw [Array.getD_eq_getD_getElem?,Array.getD_eq_getD_getElem?,Array.getElem?_append_left (by rw [hs]; exact Nat.one_pos)]
        rw [this]; exact hx0
      · rename_i hge
        obtain rfl:=List.eq_of_mem_replicate (List.mem_of_getElem? hy)
        have:(xs ++ Array.replicate (60 - xs.size) Go.undef).getD t Go.undef=Go.undef:=by
          have hlt:=(List.getElem?_eq_some_iff.1 hy).1
          simp only [List.length_replicate,List.length_cons,List.length_nil] at hlt hge
          have hs':xs.size=1:=hs
          rw [Array.getD_eq_getD_getElem?,Array.getElem?_append_right (by omega),Array.getElem?_replicate,if_pos (by omega)]; rfl
        rw [this]; exact .undef
      · rename_i hlt
        obtain rfl:t=0:=by simpa using hlt
        obtain rfl:=Option.some.inj hy
        exact .of_ne (by simp)
      · obtain rfl:=List.eq_of_mem_replicate (List.mem_of_getElem? hy)
        exact .of_ne (by simp)
    refine NW (E := ⟨W0,still,w⟩) hK.mixed hK.globals (X4 hK 3) (Gv (X4 hK 3)) (takes := takes) (res := [2,3]) C.L T16 (r := (.normal,⟨sl',hp1,none,([]:HP).length⟩)) (.inl rfl) (fun Γ1 a w1 _ hI1=>?_) (fun _ _ _ h=>by cases h) pieces (fun p hp=>?_) (by rw [FV]; exact hev) hI
    · have hsz:a.tmps.size=60:=by rw [hI1.slots.size]; exact henv.len
      obtain ⟨t0,t1,t2,t3,t4,t5,t6,t7,t8,t9,t10,t11,t12,t13,t14,t15,t16,t17,t18,t19,t20,t21,t22,t23,t24,t25,t26,t27,t28,t29,t30,t31,t32,t33,t34,t35,t36,t37,t38,t39,t40,t41,t42,t43,t44,t45,t46,t47,t48,t49,t50,t51,t52,t53,t54,t55,t56,t57,t58,t59,ht⟩:=Zd7 hsz
      obtain ⟨atm,ad⟩:=a
      obtain rfl:atm=_:=ht
      obtain rfl:ad=[]:=hI1.defers
      have h4:sl'[4]? = some (e' 4).val:=henv.val 4 (by decide) (by simp [Zt])
      have r4:=(hI1.slots.rep 4 _ h4).ro
      have hro:(e' 4).val.ro=.lst 1 (ints ns):=(henv.ok 4).trans he4
      rw [hro] at r4
      have hb1:Below w.heap.size w w1:=⟨hI1.fr.os,hI1.fr.tape,hI1.fr.output,hI1.fr.size,fun b hb=>(hI1.fr.keep b hb trivial).2⟩
      have main:∀ (b0 o0 cap0:Nat),t4=.slice (some ⟨b0,o0,none⟩) ns.length cap0→ns.length≤cap0→(∀ (j:Nat) (n:Int),ns[j]? = some n→w1.cell? ⟨b0,o0 + j,none⟩=some (.int .i64 n))→T16.wp Tryd.prog (bodyPostM Fence.wide 3 Tryd.prog Tryd.f16 fun e w'=>∃ v,e=.returned v∧Below w.heap.size w w'∧Rep Γ w' (Rz l) v) { tmps := #[t0,t1,t2,t3,t4,t5,t6,t7,t8,t9,t10,t11,t12,t13,t14,t15,t16,t17,t18,t19,t20,t21,t22,t23,t24,t25,t26,t27,t28,t29,t30,t31,t32,t33,t34,t35,t36,t37,t38,t39,t40,t41,t42,t43,t44,t45,t46,t47,t48,t49,t50,t51,t52,t53,t54,t55,t56,t57,t58,t59],defers := [] } w1:=fun b0 o0 cap0 h4 hcap hcell=>by
        subst h4
        refine wpIn_wide.1 (Bf W0 enc Be (Zdh hC hK) w1 hI1.rw.old ns hnl (by rw [← hns]; simp) hnr b0 o0 cap0 hcap hcell t0 t1 t2 t3 t5 t6 t7 t8 t9 t10 t11 t12 t13 t14 t15 t16 t17 t18 t19 t20 t21 t22 t23 t24 t25 t26 t27 t28 t29 t30 t31 t32 t33 t34 t35 t36 t37 t38 t39 t40 t41 t42 t43 t44 t45 t46 t47 t48 t49 t50 t51 t52 t53 t54 t55 t56 t57 t58 t59 _ fun v W' hB hnew hbel=>?_)
        refine ⟨_,rfl,hb1.trans (hbel.mono hb1.size),?_⟩
        rw [hA]
        exact Pi (MP hB fun g o n c hg=>hΓ g (Nat.le_trans hb1.size (hnew _ _ _ hg)))
      have h40:(#[t0,t1,t2,t3,t4,t5,t6,t7,t8,t9,t10,t11,t12,t13,t14,t15,t16,t17,t18,t19,t20,t21,t22,t23,t24,t25,t26,t27,t28,t29,t30,t31,t32,t33,t34,t35,t36,t37,t38,t39,t40,t41,t42,t43,t44,t45,t46,t47,t48,t49,t50,t51,t52,t53,t54,t55,t56,t57,t58,t59]:Array Value).getD 4 Go.undef=t4:=rfl
      rw [h40] at r4
      generalize hq:ints ns=rows at r4
      cases r4 with
      | lstNil=>rw [← hns] at hq; cases hq
      | lstE=>rw [← hns] at hq; cases hq
      | lst _ _ b0 o0 cap0 cv hlen hk hc hr =>
        subst hq
        rw [TD] at hlen
        refine main b0 o0 cap0 (by rw [TD]) hlen fun j n hj=>?_
        have h1:(ints ns)[j]? = some [.int .i64 n]:=by rw [ints,List.getElem?_map,hj]; rfl
        have h2:=hc j 0 _ _ h1 rfl
        have h3:=hr j 0 _ _ h1 rfl
        generalize cv j 0=u at h2 h3
        cases h3
        simpa using h2.1
    · simp only [pieces,List.mem_cons,List.not_mem_nil,or_false] at hp
      rcases hp with rfl | rfl | rfl | rfl | rfl
      · exact c0
      · exact c1
      · exact c2
      · exact c3
      · exact c4
theorem NI {W0:World}{C:Cfg}(hC:JD C)(hK:CfgOk Tryd.prog W0 C)(l:List YS)(hl:∀ r ∈ l,QT r):Gh Tryd.prog W0 Zq [.lst 6 (recs l)] (Rz l) :=
  ⟨fun k r h=>(by cases h),fun Γ w xs hb hΓ hs hx=>GU hC hK l hl hb hΓ hs ((hx 0 _ rfl).still' rfl)⟩
end Go.Proofs.YtdchnngpjjcchaaDoor
end
section
namespace Go.Proofs.YtdchnngpjjcchaaDoor
open Go Go.RowKit Go.Proofs.YtdchnngpjjcchaaDoor.Abs
theorem NS:∀ (k i a:Nat) (q:List UInt8),k + i=9→giF (k + 1) i a q=(0,0,7)∨giF (k + 1) i a q=(0,0,8) ∨
    ∃ (w:Nat) (rest:List UInt8),q=vb k w ++ rest∧w < 2 ^ (64 - 7 * i)∧giF (k + 1) i a q=(CW (a + w * 2 ^ (7 * i)),(i:Int) + (vb k w).length,0)
  | k,i,a,[],_=>.inl rfl
  | 0,i,a,c :: q,hk=>by
    obtain rfl:i=9:=by omega
    rw [giF]
    split
    · exact .inr (.inl rfl)
    · rename_i h
      rw [if_neg (by omega)]
      split
      · exact .inr (.inl rfl)
      · refine .inr (.inr ⟨c.toNat,q,?_,?_,?_⟩)
        · simp [vb]
        · have:c.toNat≤1:=by omega
          calc c.toNat≤1:=this
            _ < 2 ^ (64 - 7 * 9):=by decide
        · rw [Nat.mod_eq_of_lt (by omega)]; simp [vb]
  | k + 1,i,a,c :: q,hk=>by
    rw [giF,if_neg (by omega)]
    have hc256:c.toNat < 256:=c.toNat_lt
    split
    · rename_i h
      rcases NS k (i + 1) (a + c.toNat % 128 * 2 ^ (7 * i)) q (by omega) with h1 | h1 | ⟨w,rest,h1,h2,h3⟩
      · exact .inl h1
      · exact .inr (.inl h1)
      · by_cases hw:w=0
        ·
          exfalso
          subst hw
          have e:vb k 0=[0]:=by cases k <;> rfl
          rw [e] at h1
          rw [h1,List.singleton_append] at h3
          rw [giF] at h3
          simp at h3
        · have h4:¬ (c.toNat % 128 + 128 * w) < 128:=by omega
          have hd:(c.toNat % 128 + 128 * w) / 128=w:=by omega
          have hm:(c.toNat % 128 + 128 * w) % 128 + 128=c.toNat:=by omega
          refine .inr (.inr ⟨c.toNat % 128 + 128 * w,rest,?_,?_,?_⟩)
          · rw [vb,if_neg h4,hd,hm,UInt8.ofNat_toNat,List.cons_append,h1]
          · have:w + 1≤2 ^ (64 - 7 * (i + 1)):=h2
            calc c.toNat % 128 + 128 * w < 128 * (w + 1):=by omega
              _≤128 * 2 ^ (64 - 7 * (i + 1)):=Nat.mul_le_mul_left _ this
              _=2 ^ (64 - 7 * i):=by rw [show 64 - 7 * i=64 - 7 * (i + 1) + 7 by omega,Nat.pow_add,Nat.mul_comm]
          · rw [h3,vb,if_neg h4,hd,List.length_cons]
            have e:a + c.toNat % 128 * 2 ^ (7 * i) + w * 2 ^ (7 * (i + 1))=a + (c.toNat % 128 + 128 * w) * 2 ^ (7 * i):=by
              rw [show 7 * (i + 1)=7 * i + 7 by omega,Nat.pow_add,Nat.add_mul,Nat.add_assoc]
              congr 2
              rw [Nat.mul_comm 128,Nat.mul_assoc,Nat.mul_comm (2 ^ (7 * i)) (2 ^ 7)]
            rw [e]
            simp only [Prod.mk.injEq,true_and,and_true]
            omega
    split
    · exact .inr (.inl rfl)
    · rename_i h h0
      refine .inr (.inr ⟨c.toNat,q,?_,?_,?_⟩)
      · rw [vb,if_pos (by omega)]; simp
      · calc c.toNat < 128:=by omega
          _=2 ^ 7:=by decide
          _≤2 ^ (64 - 7 * i):=Nat.pow_le_pow_right (by omega) (by omega)
      · rw [Nat.mod_eq_of_lt (by omega),vb,if_pos (by omega)]; simp
theorem ZbS (u:Nat):zz (CW u)=u:=by
  unfold zz CW
  split
  · rw [if_pos (by omega)]; omega
  · rw [if_neg (by omega)]; omega
theorem KF (l:List UInt8):YC l=(0,0,7)∨YC l=(0,0,8)∨∃ (n:Int) (rest:List UInt8),l=enc n ++ rest∧(-9223372036854775808≤n∧n≤9223372036854775807)∧YC l=(n,((enc n).length:Int),0):=by
  rcases NS 9 0 0 l rfl with h | h | ⟨w,rest,h1,h2,h3⟩
  · exact .inl h
  · exact .inr (.inl h)
  · have e:enc (CW w)=vb 9 w:=by rw [enc,ZbS]
    refine .inr (.inr ⟨CW w,rest,by rw [e]; exact h1,?_,?_⟩)
    · unfold CW; split <;> omega
    · rw [YC,h3,e]; simp
abbrev RS:=List UInt8×Int
def nxt (s:RS):Int×RS:=if s.2≠0 then (0,s) else ((YC s.1).1,(s.1.drop (YC s.1).2.1.toNat,(YC s.1).2.2))
def rdN:Nat→RS→List Int×RS
  | 0,s=>([],s)
  | k + 1,s=>((nxt s).1 :: (rdN k (nxt s).2).1,(rdN k (nxt s).2).2)
def IQ (b:Int)(v:List Int):YS:=⟨IntKind.i64.wrap (b + v.getD 0 0),v.getD 1 0,v.getD 2 0,v.getD 3 0,v.getD 4 0,v.getD 5 0⟩
def Tm:Nat→RS→Int→List YS→(List YS×List UInt8) ⊕ Int
  | 0,s,_,out=>.inl (out,s.1)
  | k + 1,s,b,out=>if (rdN 6 s).2.2≠0 then .inr (rdN 6 s).2.2 else Tm k (rdN 6 s).2 (IQ b (rdN 6 s).1).Time (out ++ [IQ b (rdN 6 s).1])
def ZdA (b:List UInt8):List YS×Int :=
  if (nxt (b,0)).2.2≠0 then ([],(nxt (b,0)).2.2) else
  if (nxt (b,0)).1 < 0 then ([],8) else
  if 50000 < (nxt (b,0)).1 then ([],6) else
  match Tm (nxt (b,0)).1.toNat (nxt (b,0)).2 0 [] with
  | .inr e=>([],e)
  | .inl (out,rest)=>if 0 < rest.length∨(encS out).2≠0∨(encS out).1≠b then ([],8) else (out,0)
def rrd:Nat→List UInt8→(List Int×List UInt8) ⊕ Int
  | 0,l=>.inl ([],l)
  | k + 1,l=>if (YC l).2.2≠0 then .inr (YC l).2.2 else match rrd k (l.drop (YC l).2.1.toNat) with
    | .inl (v,r)=>.inl ((YC l).1 :: v,r)
    | .inr e=>.inr e
theorem BL:∀ (k:Nat) (s:RS),s.2≠0→(rdN k s).2=s
  | 0,_,_=>rfl
  | k + 1,s,h=>by
    have e:nxt s=(0,s):=by unfold nxt; rw [if_pos h]
    rw [rdN,e]; exact BL k s h
theorem Ez:∀ (k:Nat) (l:List UInt8),(∃ v r,rrd k l=.inl (v,r)∧rdN k (l,0)=(v,(r,0)))∨(∃ e,e≠0∧rrd k l=.inr e∧(rdN k (l,0)).2.2=e)
  | 0,l=>.inl ⟨[],l,rfl,rfl⟩
  | k + 1,l=>by
    have e:nxt (l,0)=((YC l).1,(l.drop (YC l).2.1.toNat,(YC l).2.2)):=by unfold nxt; rw [if_neg (by simp)]
    by_cases h:(YC l).2.2=0
    · rw [h] at e
      rcases Ez k (l.drop (YC l).2.1.toNat) with ⟨v,r,h1,h2⟩ | ⟨q,h0,h1,h2⟩
      · refine .inl ⟨(YC l).1 :: v,r,?_,?_⟩
        · rw [rrd,if_neg (by simpa using h),h1]
        · rw [rdN,e,h2]
      · refine .inr ⟨q,h0,?_,?_⟩
        · rw [rrd,if_neg (by simpa using h),h1]
        · rw [rdN,e]; exact h2
    · refine .inr ⟨(YC l).2.2,h,?_,?_⟩
      · rw [rrd,if_pos h]
      · rw [rdN,e]
        show (rdN k _).2.2=_
        rw [BL k _ h]
theorem Rw (a b:Int)(hb:-9223372036854775808≤b∧b≤9223372036854775807):IntKind.i64.wrap (IntKind.i64.wrap (a + b) - a)=b:=by
  have h:∀ x,IntKind.i64.wrap x=if x % 18446744073709551616 ≥ 9223372036854775808 then x % 18446744073709551616 - 18446744073709551616 else x % 18446744073709551616:=fun x=>by simp [IntKind.wrap,IntKind.bits,IntKind.signed]
  rw [h,h]
  split <;> split <;> omega
theorem Zav:∀ (k:Nat) (l:List UInt8) (v:List Int) (r:List UInt8),rdN k (l,0)=(v,(r,0))→l=v.flatMap enc ++ r∧v.length=k∧∀ n ∈ v,-9223372036854775808≤n∧n≤9223372036854775807
  | 0,l,v,r,h=>by cases h; exact ⟨rfl,rfl,fun n h=>by cases h⟩
  | k + 1,l,v,r,h=>by
    have e:nxt (l,0)=((YC l).1,(l.drop (YC l).2.1.toNat,(YC l).2.2)):=by unfold nxt; rw [if_neg (by simp)]
    rw [rdN,e] at h
    have hbad:(YC l).2.2=0:=by
      by_cases hb:(YC l).2.2=0
      · exact hb
      · have:=BL k (l.drop (YC l).2.1.toNat,(YC l).2.2) hb
        rw [this] at h
        exact absurd (congrArg (fun x=>x.2.2) h) hb
    rw [hbad] at h
    simp only [Prod.mk.injEq] at h
    obtain ⟨h1,h2⟩:=h
    obtain ⟨w,hw⟩:∃ w,(rdN k (l.drop (YC l).2.1.toNat,0)).1=w:=⟨_,rfl⟩
    have h3:rdN k (l.drop (YC l).2.1.toNat,0)=(w,(r,0)):=by rw [← hw,← h2]
    obtain ⟨i1,i2,i3⟩:=Zav k _ _ _ h3
    rcases KF l with q | q | ⟨n,rest,q1,q2,q3⟩
    · rw [q] at hbad; cases hbad
    · rw [q] at hbad; cases hbad
    · have hd:l.drop (YC l).2.1.toNat=rest:=by rw [q3]; simp only [Int.toNat_natCast]; rw [q1,List.drop_left]
      rw [hd] at i1
      rw [← h1,hw,q3]
      refine ⟨?_,by simp [i2],fun m hm=>?_⟩
      · rw [List.flatMap_cons,List.append_assoc,← i1]; exact q1
      · rcases List.mem_cons.1 hm with rfl | hm
        · exact q2
        · exact i3 m hm
theorem six {v:List Int}(h:v.length=6):∃ a b c d e f,v=[a,b,c,d,e,f]:=by
  match v,h with
  | [a,b,c,d,e,f],_=>exact ⟨a,b,c,d,e,f,rfl⟩
theorem Zbk (b:Int)(v:List Int)(h:v.length=6)(hr:∀ n ∈ v,-9223372036854775808≤n∧n≤9223372036854775807):nums (IQ b v) b=v:=by
  obtain ⟨x,y,z,p,q,r,rfl⟩:=six h
  have:=Rw b x (hr x (by simp))
  simp only [nums,IQ,List.getD_cons_zero,List.getD_cons_succ,this]
theorem Zem (b:Int)(v:List Int)(h:v.length=6)(hr:∀ n ∈ v,-9223372036854775808≤n∧n≤9223372036854775807):QT (IQ b v):=by
  obtain ⟨x,y,z,p,q,r,rfl⟩:=six h
  exact ⟨Pn _,hr y (by simp),hr z (by simp),hr p (by simp),hr q (by simp),hr r (by simp)⟩
def lastT:Int→List YS→Int
  | b,[]=>b
  | _,r :: l=>lastT r.Time l
theorem O3:∀ (l:List YS) (b:Int) (r:YS),lastT b (l ++ [r])=r.Time
  | [],_,_=>rfl
  | x :: l,_,r=>O3 l _ r
theorem Dl:∀ (k:Nat) (l:List UInt8) (out o:List YS) (r:List UInt8),Tm k (l,0) (lastT 0 out) out=.inl (o,r)→(∀ x ∈ out,QT x)→∃ o',o=out ++ o'∧o'.length=k∧(∀ x ∈ o,QT x)∧l=(Dq (lastT 0 out) o').flatMap enc ++ r
  | 0,l,out,o,r,h,hk=>by cases h; exact ⟨[],by simp,rfl,hk,rfl⟩
  | k + 1,l,out,o,r,h,hk=>by
    rcases Ez 6 l with ⟨v,q,_,h2⟩ | ⟨e,h0,_,h2⟩
    · obtain ⟨i1,i2,i3⟩:=Zav 6 l v q h2
      rw [Tm,h2,if_neg (by simp)] at h
      have ht:=O3 out 0 (IQ (lastT 0 out) v)
      obtain ⟨o',h3,h4,h5,h6⟩:=Dl k q (out ++ [IQ (lastT 0 out) v]) o r (by rw [ht]; exact h) (fun x hx=>by
        rcases List.mem_append.1 hx with hx | hx
        · exact hk x hx
        · obtain rfl:x=_:=by simpa using hx
          exact Zem _ v i2 i3)
      refine ⟨IQ (lastT 0 out) v :: o',by rw [h3]; simp,by simp [h4],h5,?_⟩
      rw [Dq,Zbk _ v i2 i3,List.flatMap_append,List.append_assoc,i1,h6,ht]
    · rw [Tm,h2,if_pos h0] at h; cases h
end Go.Proofs.YtdchnngpjjcchaaDoor
end
section
namespace Go.Proofs.YtdchnngpjjcchaaDoor
open Go Go.RowKit Go.Proofs.YtdchnngpjjcchaaDoor.Abs
set_option maxRecDepth 100000
structure ZeE (C:Cfg):Prop extends JD C where
  enc:∀ (N:Nat) (hp:HP) (l:List YS),(∀ r ∈ l,QT r)→Zb C (N + 1) Zq [.lst 6 (recs l)] hp=some (Rz l,hp,none)
theorem P5 (c:UInt8):Abs.byteOf (byteRow c)=some c:=by
  simp [Abs.byteOf,byteRow]
theorem Oq (hp:HP)(l:List UInt8):Yo hp .ofBytes (.lst 1 (ZU l))=some (.str l):=by
  have:(ZU l).mapM Abs.byteOf=some l:=by
    induction l with
    | nil=>rfl
    | cons c l ih =>
      show List.mapM Abs.byteOf (byteRow c :: ZU l)=_
      rw [List.mapM_cons,P5,ih]; rfl
  simp only [Yo,rowsOf,this,Option.map_some]
theorem ZaH {C:Cfg}(hC:JD C)(N:Nat)(hN:1≤N)(hp:HP)(a b:List UInt8):Zb C N QY [.lst 1 (ZU a),.lst 1 (ZU b)] hp=some (.bool (decide (a=b)),hp,none):=by
  obtain ⟨m,rfl,hm⟩:=fuel (C := C) (d := 0) hN
  refine Gz (hC.T _ _ rfl) ?_
  simp only [V8,EV,Oq]
def rdO (s:RS):Zf:=.cells [.lst 1 (ZU s.1),.int .i64 s.2] YI
def HR (H T:HP)(s:RS):HP:=H ++ rdO s :: T
theorem Ue (H T:HP)(s:RS):(HR H T s).length=H.length + (T.length + 1):=by simp [HR]
theorem Np (H T:HP)(s:RS):(HR H T s)[H.length]? = some (rdO s):=by simp [HR]
theorem Zaa (H T:HP)(s s':RS):(HR H T s).set H.length (rdO s')=HR H T s':=by simp [HR]
theorem OT (H T:HP)(s:RS)(x:Zf):HR H T s ++ [x]=HR H (T ++ [x]) s:=by simp [HR]
def Zcq (g:Nat)(s:RS):Eff:=if s.2≠0 then none else some (g,0)
theorem Vk (bs:Nat)(ef:Eff)(s:RS):Zk bs ef (Zcq bs s)=ef:=by
  unfold Zcq
  split
  · rfl
  · simp [Zk]
theorem LG (H T:HP)(s:RS):Zu (HR H T s) (.ptr H.length 0)=some (.lst 1 (ZU s.1))∧Zu (HR H T s) (.ptr H.length 1)=some (.int .i64 s.2):=by
  constructor
  all_goals rw [Hr (cs := [.lst 1 (ZU s.1),.int .i64 s.2]) (t := YI) (Np H T s)]; rfl
theorem ZbL (H T:HP)(s:RS)(bs:Nat)(l:List UInt8)(ef:Eff):Oa bs (.ptr H.length 0) (.lst 1 (ZU l)) (HR H T s) ef=some (HR H T (l,s.2),Xc bs ef H.length 0):=by
  have e:(HR H T s)[H.length]? = some (.cells [.lst 1 (ZU s.1),.int .i64 s.2] YI):=Np H T s
  simp only [Oa,e]
  rw [if_pos ⟨rfl,by simp⟩]
  exact congrArg (fun x=>some (x,Xc bs ef H.length 0)) (Zaa H T s (l,s.2))
theorem ZbM (H T:HP)(s:RS)(bs:Nat)(n:Int)(ef:Eff):Oa bs (.ptr H.length 1) (.int .i64 n) (HR H T s) ef=some (HR H T (s.1,n),Xc bs ef H.length 0):=by
  have e:(HR H T s)[H.length]? = some (.cells [.lst 1 (ZU s.1),.int .i64 s.2] YI):=Np H T s
  simp only [Oa,e]
  rw [if_pos ⟨rfl,by simp⟩]
  exact congrArg (fun x=>some (x,Xc bs ef H.length 0)) (Zaa H T s (s.1,n))
theorem PD (hp0 hp:HP)(k:IntKind)(n:Int)(e:Nat×Nat)(h:hp.length=hp0.length):YV false hp0 (.int k n) hp (some e)=(.int k n,hp,some e):=by
  show finish (.int k n) ⟨[],hp,some e,hp0.length⟩ hp0=_
  unfold finish
  have:frz hp0.length hp (.int k n)=some (.int k n):=rfl
  simp only [this]
  rw [← h,List.take_length]
  split <;> rfl
theorem PI (l:List UInt8):0≤(YC l).2.1∧(YC l).2.1≤l.length:=by
  rcases KF l with h | h | ⟨n,rest,h,_,h3⟩
  · rw [h]; exact ⟨Int.le_refl _,by simp⟩
  · rw [h]; exact ⟨Int.le_refl _,by simp⟩
  · rw [h3]; refine ⟨by simp,?_⟩
    have:=congrArg List.length h
    simp only [List.length_append] at this
    simp only; omega
theorem P7 (l:List UInt8)(k:Int)(h:0≤k∧k≤l.length):WZ (.slice 1) (.lst 1 (ZU l)) (some (.int .i64 k)) none=some (.lst 1 (ZU (l.drop k.toNat))):=by
  have h1:bound (ZU l).length (ZU l).length none=some l.length:=by rw [YJ]; rfl
  have h2:bound l.length 0 (some (.int .i64 k))=some k.toNat:=by simp only [bound]; rw [if_pos h]
  simp only [WZ,h1,h2,if_true]
  rw [List.take_of_length_le (by rw [YJ]; exact Nat.le_refl _)]
  simp [ZU]
theorem Zaf {C:Cfg}(hC:JD C)(N:Nat)(hN:3≤N)(H T:HP)(s:RS):Zb C N Zv [.ptr H.length 0] (HR H T s)=some (.int .i64 (nxt s).1,HR H T (nxt s).2,Zcq H.length s):=by
  obtain ⟨m,rfl,hm⟩:=fuel (C := C) (d := 2) hN
  refine XV (hC.T _ _ rfl) ?_
  have a1:WF (.ptr H.length 0)=some (.ptr H.length 0):=rfl
  have l0:=fun s=>(LG H T s).1
  have l1:=fun s=>(LG H T s).2
  unfold nxt Zcq
  by_cases h:s.2=0
  · have b1:decide (s.2≠0)=false:=by simpa using h
    rw [if_neg (by simpa using h),if_neg (by simpa using h)]
    have c1:=fun hp=>Zeb hC m hm hp s.1
    have c2:=P7 s.1 _ (PI s.1)
    have e1:Xc (HR H T s).length none H.length 0=some (H.length,0):=by rw [Ue]; simp [Xc,Eff.or]
    have e2:Xc (HR H T s).length (some (H.length,0)) H.length 0=some (H.length,0):=by rw [Ue]; simp [Xc,Eff.or]
    have f1:=fun (hp:HP) (h:hp.length=(HR H T s).length)=>PD (HR H T s) hp .i64 (YC s.1).1 (H.length,0) h
    simp only [Y7,EV,a1,Nat.zero_add,l0,l1,b1,Bool.false_eq_true,if_false,c1,ZdK,GI,EX,c2,ZbL,ZbM,e1,e2]
    rw [f1 _ (by rw [Ue,Ue])]
  · have b1:decide (s.2≠0)=true:=by simpa using h
    rw [if_pos (by simpa using h),if_pos (by simpa using h)]
    simp only [Y7,EV,a1,Nat.zero_add,l0,l1,b1,if_true]
theorem ZaK {C:Cfg}(hC:JD C)(N:Nat)(hN:3≤N)(H T:HP)(s:RS)(x:Zf):Zb C N Zv [.ptr H.length 0] (HR H T s ++ [x])=some (.int .i64 (nxt s).1,HR H T (nxt s).2 ++ [x],Zcq H.length s):=by
  rw [OT,Zaf hC N hN,OT]
theorem Ze6 (bs:Nat)(H T:HP)(s:RS)(cs:List AV)(t:TypeId)(o:Nat)(n:Int)(ef:Eff)(h2:o < cs.length)(h4:bs≤H.length):Oa bs (.ptr (H.length + (T.length + 1)) o) (.int .i64 n) (HR H T s ++ [.cells cs t]) ef=some (HR H T s ++ [.cells (cs.set o (.int .i64 n)) t],ef):=by
  rw [← Ue H T s]
  exact Iw bs _ cs t o _ ef rfl h2 (by rw [Ue]; omega)
theorem Zc6 (H T:HP)(s:RS)(x:Zf):Zu (HR H T s ++ [x]) (.ptr H.length 0)=some (.lst 1 (ZU s.1))∧Zu (HR H T s ++ [x]) (.ptr H.length 1)=some (.int .i64 s.2):=by
  rw [OT]; exact LG H _ s
theorem Zek (H T:HP)(s:RS)(cs:List AV)(t:TypeId)(h1:cs.length=6)(h2:cs.map AV.ro=cs):ZJ (HR H T s ++ [.cells cs t]) 6 (.ptr (H.length + (T.length + 1)) 0)=some (.agg cs):=by
  rw [← Ue H T s]
  exact X6 (YF _ _) 6 h1 h2
theorem SA (e:TypeId)(r:YS)(hp:HP):PL e 6 [.agg (Yf r)] hp=some (.own 6 [Yf r],hp):=rfl
theorem DW (l:List YS):(recs l).length=l.length:=by simp [recs]
theorem Za4 (hp:HP)(l:List YS)(r:YS)(h:l.length≤1000000):ES 6 48 (.own 6 (recs l)) (.lst 6 [Yf r]) hp=some (.own 6 (recs (l ++ [r]))):=by
  simp only [ES,rowsOf,DW]
  rw [if_pos ⟨trivial,trivial,rfl,by simp; omega⟩]
  simp [recs]
theorem Us (hp0 hp:HP)(e:Int):YV false hp0 (.tup [(.lst 6 []),.int .i64 e]) hp none=(.tup [.lst 6 [],.int .i64 e],hp0,none):=by
  simp only [TUP,EV]
theorem ZaV (hp0 hp:HP)(r:List (List AV))(e:Int):YV false hp0 (.tup [(.lst 6 r),.int .i64 e]) hp none=(.tup [.lst 6 r,.int .i64 e],hp0,none):=by
  simp only [TUP,EV]
theorem ST6 (n:AV)(a b c d e f:AV):[a,b,c,d,e,f].set 0 n=[n,b,c,d,e,f]∧[a,b,c,d,e,f].set 1 n=[a,n,c,d,e,f]∧[a,b,c,d,e,f].set 2 n=[a,b,n,d,e,f]∧[a,b,c,d,e,f].set 3 n=[a,b,c,n,e,f]∧[a,b,c,d,e,f].set 4 n=[a,b,c,d,n,f]∧[a,b,c,d,e,f].set 5 n=[a,b,c,d,e,n]:=⟨rfl,rfl,rfl,rfl,rfl,rfl⟩
theorem L6 (a b c d e f:AV):[a,b,c,d,e,f].length=6:=rfl
theorem Dn {C:Cfg}(hC:JD C){N:Nat}(hN:3≤N){L:Nat}{hp0:HP}{x0:AV}(k1:AV→AV→AV→AV→HP→Eff→KR):∀ (k m i:Nat) (l:List UInt8) (b:Int) (out:List YS) (T:HP),out.length=i→k + i≤50000→k < m →
    (∃ o r T',Tm k (l,0) b out=.inl (o,r)∧ZF C.G (Zb C N) L hp0 k1 m x0 (.ptr hp0.length 0) (.lst 6 (recs out)) (.own 6 (recs out)) (.int .i64 b) (.int .i64 ((k + i:Nat):Int)) (.int .i64 i) (HR hp0 T (l,0)) none=k1 x0 (.ptr hp0.length 0) (.lst 6 (recs o)) (.own 6 (recs o)) (HR hp0 T' (r,0)) none) ∨
    (∃ e,Tm k (l,0) b out=.inr e∧ZF C.G (Zb C N) L hp0 k1 m x0 (.ptr hp0.length 0) (.lst 6 (recs out)) (.own 6 (recs out)) (.int .i64 b) (.int .i64 ((k + i:Nat):Int)) (.int .i64 i) (HR hp0 T (l,0)) none=some (.tup [.lst 6 [],.int .i64 e],hp0,none))
  | _,0,_,_,_,_,_,_,_,h=>absurd h (by omega)
  | 0,m + 1,i,l,b,out,T,ho,hk,hm=>by
    refine .inl ⟨out,l,T,rfl,?_⟩
    have a:decide ((i:Int) < ((0 + i:Nat):Int))=false:=by simp
    simp only [ZF,EV,a,Bool.false_eq_true,if_false]
  | k + 1,m + 1,i,l,b,out,T,ho,hk,hm=>by
    have a:decide ((i:Int) < ((k + 1 + i:Nat):Int))=true:=by simp; omega
    have n1:=fun s x=>ZaK hC N hN hp0 T s x
    have p1:WF (.ptr hp0.length 0)=some (.ptr hp0.length 0):=rfl
    have s1:=fun s cs t o n ef h2=>Ze6 hp0.length hp0 T s cs t o n ef h2 (Nat.le_refl _)
    have l0:=fun s x=>(Zc6 hp0 T s x).1
    have l1:=fun s x=>(Zc6 hp0 T s x).2
    have hv:rdN 6 (l,0)=((rdN 6 (l,0)).1,(rdN 6 (l,0)).2):=rfl
    obtain ⟨s,hs⟩:∃ s:RS,(l,(0:Int))=s:=⟨_,rfl⟩
    have hr:rdN 6 s=([(nxt s).1,(nxt (nxt s).2).1,(nxt (nxt (nxt s).2).2).1,(nxt (nxt (nxt (nxt s).2).2).2).1,(nxt (nxt (nxt (nxt (nxt s).2).2).2).2).1,(nxt (nxt (nxt (nxt (nxt (nxt s).2).2).2).2).2).1],(nxt (nxt (nxt (nxt (nxt (nxt s).2).2).2).2).2).2):=rfl
    obtain ⟨v1,e1⟩:∃ v,nxt s=v:=⟨_,rfl⟩
    obtain ⟨v2,e2⟩:∃ v,nxt v1.2=v:=⟨_,rfl⟩
    obtain ⟨v3,e3⟩:∃ v,nxt v2.2=v:=⟨_,rfl⟩
    obtain ⟨v4,e4⟩:∃ v,nxt v3.2=v:=⟨_,rfl⟩
    obtain ⟨v5,e5⟩:∃ v,nxt v4.2=v:=⟨_,rfl⟩
    obtain ⟨v6,e6⟩:∃ v,nxt v5.2=v:=⟨_,rfl⟩
    rw [e1,e2,e3,e4,e5,e6] at hr
    rw [hs]
    rw [Tm,hr]
    have hmk:IQ b [v1.1,v2.1,v3.1,v4.1,v5.1,v6.1]=⟨IntKind.i64.wrap (b + v1.1),v2.1,v3.1,v4.1,v5.1,v6.1⟩:=rfl
    obtain ⟨R,hR⟩:∃ R,IQ b [v1.1,v2.1,v3.1,v4.1,v5.1,v6.1]=R:=⟨_,rfl⟩
    have hRr:([.int .i64 R.Time,.int .i64 v2.1,.int .i64 v3.1,.int .i64 v4.1,.int .i64 v5.1,.int .i64 v6.1]:List AV)=Yf R:=by rw [← hR]; rfl
    have hRt:IntKind.i64.wrap (b + v1.1)=R.Time:=by rw [← hR]; rfl
    by_cases h0:v6.2.2=0
    · have b1:decide (v6.2.2≠0)=false:=by simpa using h0
      rw [if_neg (by simpa using h0)]
      have la:=Zek hp0 T v6.2 (Yf R) Ze rfl rfl
      have ap:=fun hp=>Za4 hp out R (by omega)
      have ih:=Dn hC hN (L := L) (hp0 := hp0) (x0 := x0) k1 k m (i + 1) v6.2.1 R.Time (out ++ [R]) (T ++ [.cells (Yf R) Ze]) (by simp [ho]) (by omega) (by omega)
      have h62:(v6.2.1,(0:Int))=v6.2:=by rw [← h0]
      rw [h62] at ih
      rw [hR]
      simp only [ZF,EV,a,if_true,Ue,Nat.zero_add,n1,e1,Vk,s1,L6,ST6,show (0:Nat) < 6 by decide,show (1:Nat) < 6 by decide,show (2:Nat) < 6 by decide,show (3:Nat) < 6 by decide,show (4:Nat) < 6 by decide,show (5:Nat) < 6 by decide,e2,e3,e4,e5,e6,p1,l1,b1,Bool.false_eq_true,if_false,hRr,hRt,la,SA,ap,wk i (by omega)]
      rw [OT]
      rw [show k + 1 + i=k + (i + 1) by omega]
      exact ih
    · have b1:decide (v6.2.2≠0)=true:=by simpa using h0
      rw [if_pos h0]
      refine .inr ⟨_,rfl,?_⟩
      simp only [ZF,EV,a,if_true,Ue,Nat.zero_add,n1,e1,Vk,s1,L6,ST6,show (0:Nat) < 6 by decide,show (1:Nat) < 6 by decide,show (2:Nat) < 6 by decide,show (3:Nat) < 6 by decide,show (4:Nat) < 6 by decide,show (5:Nat) < 6 by decide,e2,e3,e4,e5,e6,p1,l1,b1]
      rw [Us]
def ZdZ (b:List UInt8):AV:=.tup [.lst 6 (recs (ZdA b).1),.int .i64 (ZdA b).2]
theorem ND {k:Nat}{l:List UInt8}{o:List YS}{r:List UInt8}(h:Tm k (l,0) 0 []=.inl (o,r)):∀ x ∈ o,QT x :=
  (Dl k l [] o r h (fun x hx=>by cases hx)).choose_spec.2.2.1
theorem Af {C:Cfg}(hC:ZeE C)(N:Nat)(hN:4≤N)(hp0:HP)(l:List UInt8):Zb C N WB [.lst 1 (ZU l)] hp0=some (ZdZ l,hp0,none):=by
  obtain ⟨m,rfl,hm⟩:=fuel (C := C) (d := 3) hN
  refine Kt (hC.T _ _ rfl) ?_
  have f0:fill [(.own 1 []),(.int .i64 0)] [(0,1,.lst 1 (ZU l))]=some [.lst 1 (ZU l),.int .i64 0]:=rfl
  have f1:Py 2 (.agg [.lst 1 (ZU l),.int .i64 0])=some [.lst 1 (ZU l),.int .i64 0]:=rfl
  have f2:hp0 ++ [.cells [.lst 1 (ZU l),.int .i64 0] YI]=HR hp0 [] (l,0):=rfl
  have n1:=fun T s=>Zaf hC.toJD m hm hp0 T s
  have p1:WF (.ptr hp0.length 0)=some (.ptr hp0.length 0):=rfl
  have l0:=fun T s=>(LG hp0 T s).1
  have l1:=fun T s=>(LG hp0 T s).2
  obtain ⟨v,hv⟩:∃ v,nxt (l,0)=v:=⟨_,rfl⟩
  unfold ZdZ ZdA
  rw [hv]
  by_cases h0:v.2.2=0
  · have b1:decide (v.2.2≠0)=false:=by simpa using h0
    rw [if_neg (by simpa using h0)]
    by_cases hn:v.1 < 0
    · have b2:decide (v.1 < 0)=true:=by simpa using hn
      rw [if_pos hn]
      simp only [YE,EV,f0,f1,f2,n1,hv,Vk,p1,Nat.zero_add,l1,b1,Bool.false_eq_true,if_false,b2,if_true]
      rw [Us]; rfl
    · have b2:decide (v.1 < 0)=false:=by simpa using hn
      rw [if_neg hn]
      by_cases h5:50000 < v.1
      · have b3:decide ((50000:Int) < v.1)=true:=by simpa using h5
        rw [if_pos h5]
        simp only [YE,EV,f0,f1,f2,n1,hv,Vk,p1,Nat.zero_add,l1,b1,Bool.false_eq_true,if_false,b2,b3,if_true]
        rw [Us]; rfl
      · have b3:decide ((50000:Int) < v.1)=false:=by simpa using h5
        rw [if_neg h5]
        have hL:=hC.L
        have lo:=Dn hC.toJD hm (L := C.L) (hp0 := hp0) (x0 := .lst 1 (ZU l)) (Y2 C.G (Zb C m) C.L hp0) v.1.toNat C.L 0 v.2.1 0 [] [] rfl (by omega) (by omega)
        have h62:(v.2.1,(0:Int))=v.2:=by rw [← h0]
        rw [h62,Nat.add_zero,show ((v.1.toNat:Nat):Int)=v.1 by omega] at lo
        have st:YE C.G (Zb C m) C.L (.lst 1 (ZU l)) hp0=ZF C.G (Zb C m) C.L hp0 (Y2 C.G (Zb C m) C.L hp0) C.L (.lst 1 (ZU l)) (.ptr hp0.length 0) (.lst 6 (recs [])) (.own 6 (recs [])) (.int .i64 0) (.int .i64 v.1) (.int .i64 ((0:Nat):Int)) (HR hp0 [] v.2) none:=by
          simp only [YE,EV,f0,f1,f2,n1,hv,Vk,p1,Nat.zero_add,l1,b1,Bool.false_eq_true,if_false,b2,b3]
          rfl
        rw [st]
        rcases lo with ⟨o,r,T',g1,g2⟩ | ⟨e,g1,g2⟩
        · rw [g1,g2]
          rw [← h62] at g1
          have hok:=ND g1
          obtain ⟨q,rfl⟩:∃ q,m=q + 1:=⟨m - 1,by omega⟩
          have c1:=fun hp=>hC.enc q hp o hok
          have c2:=fun hp=>ZaH hC.toJD (q + 1) (by omega) hp (encS o).1 l
          simp only [Y2,EV,c1,Rz,GI,EX,p1,Nat.zero_add,l0,YJ,c2,Us,ZaV]
          by_cases hE:0 < r.length∨(encS o).2≠0∨(encS o).1≠l
          · rw [if_pos hE,if_pos]
            · rfl
            · simpa [or_assoc,List.length_pos_iff] using hE
          · rw [if_neg hE,if_neg]
            simpa [or_assoc,List.length_pos_iff] using hE
        · rw [g1,g2]
          rfl
  · have b1:decide (v.2.2≠0)=true:=by simpa using h0
    rw [if_pos h0]
    simp only [YE,EV,f0,f1,f2,n1,hv,Vk,p1,Nat.zero_add,l1,b1,if_true]
    rw [Us]; rfl
end Go.Proofs.YtdchnngpjjcchaaDoor
end
section
namespace Go.Proofs.YtdchnngpjjcchaaDoor
open Go Go.RowKit Go.Proofs.YtdchnngpjjcchaaDoor.Abs
set_option maxRecDepth 100000
theorem Zah (r s:YS):ZP [.int,.int,.int,.int,.int,.int] (Yf r) (Yf s)=some (decide (r=s)):=by
  cases r; cases s
  simp only [Yf,EV,YS.mk.injEq,Bool.decide_and,Bool.and_true]
end Go.Proofs.YtdchnngpjjcchaaDoor
end
section
namespace Go.Proofs.YtdchnngpjjcchaaDoor
open Go Go.RowKit Go.Proofs.YtdchnngpjjcchaaDoor.Abs
set_option maxRecDepth 100000
def ics (l:List Int):List AV:=l.map fun x=>.int .i64 x
theorem VG (g i:Nat)(h:i < 6):Yn (.arr 6 1) (.ptr g 0) (.int .i64 i)=some (.ptr g i):=by
  simp only [Yn]; rw [if_pos (by omega)]; simp
theorem set_mid (w:List Int)(q:Nat)(x:Int):(ics w ++ List.replicate (q + 1) (AV.int .i64 0)).set w.length (.int .i64 x)=ics (w ++ [x]) ++ List.replicate q (AV.int .i64 0):=by
  have:w.length=(ics w).length:=by simp [ics]
  rw [this,List.set_append_right _ _ (Nat.le_refl _),Nat.sub_self,List.replicate_succ,List.set_cons_zero]
  simp [ics]
theorem AP (a b c d e f:Int):(ics [a,b,c,d,e,f])[0]? = some (.int .i64 a)∧(ics [a,b,c,d,e,f])[1]? = some (.int .i64 b)∧(ics [a,b,c,d,e,f])[2]? = some (.int .i64 c)∧(ics [a,b,c,d,e,f])[3]? = some (.int .i64 d)∧(ics [a,b,c,d,e,f])[4]? = some (.int .i64 e)∧(ics [a,b,c,d,e,f])[5]? = some (.int .i64 f):=⟨rfl,rfl,rfl,rfl,rfl,rfl⟩
end Go.Proofs.YtdchnngpjjcchaaDoor
end
