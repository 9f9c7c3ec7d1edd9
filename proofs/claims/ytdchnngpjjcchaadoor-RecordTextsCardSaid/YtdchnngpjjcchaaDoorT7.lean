import Derived.Test.YtdchnngpjjcchaaDoorProg
import Derived.WalkKit
import Derived.Handy
import Derived.OwnWalk
import Derived.Lib.Hide
import Derived.Lib.Strings
import Derived.BigQuiet
import Derived.Deep.QuietTactic
import Derived.WalkSmall
import Derived.BigRegion
import Derived.Deep.RegionHeld
import Derived.Test.YtdchnngpjjcchaaDoorT6
set_option linter.all false
section
namespace Go.Proofs.YtdchnngpjjcchaaDoor.Num
open Go Go.RowKit
theorem info9:(Tryd.prog.info? 9).map (fun i=>(i.zero,i.size,i.bytes))=some (some (.string ByteArray.empty),1,16):=by kernel_rfl
def step32 (ps:List (List UInt8))(c:UInt8):List (List UInt8):=if c=32 then ps ++ [[]] else ps.dropLast ++ [(ps.getLast?.getD []) ++ [c]]
def strV (l:List UInt8):Value:=.string ⟨l.toArray⟩
structure PSt (s:ByteArray)(w:World)(out:Value)(k:Nat)(ps:List (List UInt8))(wr:World):Prop where
  le:k≤s.size
  own:wr.ownsRow w.heap.size 9 1 out ps.length (ps.map strV)
  below:Below w.heap.size w wr
  ne:ps≠[]
  len:ps.length≤k + 1
  short:∀ p ∈ ps,p.length≤k
  eq:(s.data.toList.take k).foldl step32 [[]]=ps
theorem Zb3 {w:World}{base e n g cap k:Nat}{xs:List Value}{u:Value}(h:w.ownsRow base e 1 (.slice (some ⟨g,0,none⟩) n cap) n xs)(hk:k < n):(w.setCell ⟨g,k,none⟩ u).ownsRow base e 1 (.slice (some ⟨g,0,none⟩) n cap) n (xs.set k u):=by
  obtain ⟨h1,h2⟩:=h
  refine ⟨by simpa using h1,?_⟩
  rcases h2 with ⟨h2,_⟩ | ⟨g',cap',cur,hv,hg,hh,hn,hm,hs,ht⟩
  · cases h2
  · cases hv
    refine .inr ⟨g,cap,cur.set! k u,rfl,hg,?_,hn,hm,by simpa using hs,?_⟩
    · show (w.heap.modify g _)[g]? = _
      rw [Array.getElem?_modify,if_pos rfl,hh]
      rfl
    · rw [← ht]
      simp [List.take_set]
theorem cellOf {w:World}{g e:Nat}{cur:Array Value}(h:w.heap[g]? = some (.cells cur e (0,0)))(j:Nat):w.cell? ⟨g,j,none⟩=cur[j]?∧w.frozen? ⟨g,j,none⟩=false:=by
  constructor
  · simp [World.cell?,h]
  · simp [World.frozen?,h]
theorem FM {w:World}{base e g cap n:Nat}{qs:List Value}{p:List UInt8}(h:w.ownsRow base e 1 (.slice (some ⟨g,0,none⟩) n cap) n (qs ++ [strV p])):w.cell? ⟨g,qs.length,none⟩=some (strV p)∧w.frozen? ⟨g,qs.length,none⟩=false:=by
  obtain ⟨h1,h2⟩:=h
  rcases h2 with ⟨h2,_⟩ | ⟨g',cap',cur,hv,hg,hh,hn,hm,hs,ht⟩
  · cases h2
  · cases hv
    obtain ⟨c1,c2⟩:=cellOf hh qs.length
    refine ⟨?_,c2⟩
    rw [c1]
    have:=congrArg (fun l:List Value=>l[qs.length]?) ht
    simp only [List.length_append,List.length_singleton,Nat.mul_one] at h1 this
    rw [List.getElem?_take,if_pos (by omega)] at this
    simpa using this
theorem ZeQ {w:World}{T:TypeId}{v0:Value}:∀ (j:Nat) (u:Value),[v0][j]? = some u→(w.alloc (.cells #[v0] T)).cell? ((⟨w.heap.size,0,none⟩:Addr).add j)=some u:=by
  intro j u hj
  have hg:(w.alloc (.cells #[v0] T)).heap[w.heap.size]? = some (.cells #[v0] T (0,0)):=by show (w.heap.push _)[w.heap.size]? = _; simp
  match j,hj with
  | 0,hj=>simp at hj; subst hj; show (match (w.alloc (.cells #[v0] T)).heap[w.heap.size]? with | some (.cells c _ _)=>c[0]? | _=>none)=_; rw [hg]; rfl
  | j + 1,hj=>simp at hj
theorem Rl (s:ByteArray)(k:Nat)(h:k < s.size):(s.data.toList.take (k + 1)).foldl step32 [[]]=step32 ((s.data.toList.take k).foldl step32 [[]]) s[k]:=by
  rw [List.take_succ_eq_append_getElem (by simpa using h),List.foldl_append]; rfl
theorem PSt.space {s:ByteArray}{w wr w1:World}{out v':Value}{k:Nat}{ps:List (List UInt8)}(h:PSt s w out k ps wr)(hk:k < s.size)(hc:s[k]=32){o:Obj}(hown:w1.ownsRow w.heap.size 9 1 v' (ps.length + 1) (ps.map strV ++ [.string ⟨#[]⟩]))(hg:(wr.alloc o).grownBy w1 out.ownBlock):PSt s w v' (k + 1) (ps ++ [[]]) w1:=by
  refine ⟨by omega,?_,?_,by simp,?_,?_,?_⟩
  · rw [List.length_append,List.map_append]; exact hown
  · have hb:Below w.heap.size w (wr.alloc o):=h.below.alloc h.below.size o
    refine hb.grown hg (by have:=h.below.size; simp; omega) (fun j hj=>?_)
    rcases h.own.2 with ⟨rfl,_⟩ | ⟨g,cap,cur,rfl,hg',_⟩
    · cases hj
    · cases hj; exact hg'
  · have:=h.len; simp; omega
  · intro p hp
    rcases List.mem_append.1 hp with hp | hp
    · have:=h.short p hp; omega
    · obtain rfl:p=[]:=by simpa using hp
      simp
  · rw [Rl s k hk,h.eq,step32,if_pos hc]
theorem ZaO (s:ByteArray)(k:Nat)(h:k < s.size)(P:ByteArray)(p:List UInt8)(hP:(⟨p.toArray⟩:ByteArray)=P):(Value.string (P ++ s.extract k (k + 1)))=strV (p ++ [s[k]]):=by
  subst hP
  unfold strV
  congr 1
  have e:(s.extract k (k + 1)).data.toList=[s[k]]:=by
    rw [Lib.extract_data]
    have h2:k < s.data.toList.length:=by simpa using h
    rw [List.drop_eq_getElem_cons h2]
    simp
    rfl
  apply ByteArray.ext
  apply Array.ext'
  rw [ByteArray.data_append,Array.toList_append,e]
theorem PSt.more {s:ByteArray}{w wr:World}{g cap k:Nat}{qs:List (List UInt8)}{p:List UInt8}{P:ByteArray}(h:PSt s w (.slice (some ⟨g,0,none⟩) (qs.length + 1) cap) k (qs ++ [p]) wr)(hk:k < s.size)(hc:s[k]≠32)(hP:(⟨p.toArray⟩:ByteArray)=P):PSt s w (.slice (some ⟨g,0,none⟩) (qs.length + 1) cap) (k + 1) (qs ++ [p ++ [s[k]]]) (wr.drew.setCell ⟨g,qs.length,none⟩ (.string (P ++ s.extract k (k + 1)))):=by
  have ho:(wr.drew).ownsRow w.heap.size 9 1 (.slice (some ⟨g,0,none⟩) (qs.length + 1) cap) (qs.length + 1) ((qs ++ [p]).map strV):=by
    have:=h.own
    rw [List.length_append,List.length_singleton] at this
    exact this
  have hg:w.heap.size≤g:=by
    rcases ho.2 with ⟨h2,_⟩ | ⟨g',cap',cur,hv,hg,_⟩
    · cases h2
    · cases hv; exact hg
  refine ⟨by omega,?_,?_,by simp,?_,?_,?_⟩
  · have:=Zb3 (k := qs.length) (u := strV (p ++ [s[k]])) ho (by omega)
    rw [ZaO s k hk P p hP]
    rw [List.length_append,List.length_singleton]
    have e:((qs ++ [p]).map strV).set qs.length (strV (p ++ [s[k]]))=(qs ++ [p ++ [s[k]]]).map strV:=by
      rw [List.map_append,List.map_append,List.set_append_right _ _ (by simp)]
      simp
    rw [e] at this
    exact this
  · have hb:Below w.heap.size w wr.drew:=h.below.trans ⟨rfl,rfl,rfl,Nat.le_refl _,fun _ _=>rfl⟩
    exact hb.setCell (p := ⟨g,qs.length,none⟩) hg _
  · have:=h.len; simp at this ⊢; omega
  · intro x hx
    rcases List.mem_append.1 hx with hx | hx
    · have:=h.short x (List.mem_append_left _ hx); omega
    · obtain rfl:x=p ++ [s[k]]:=by simpa using hx
      have:=h.short p (by simp)
      simp; omega
  · rw [Rl s k hk,h.eq,step32,if_neg hc]
    simp
theorem c_parts (s:ByteArray)(hs:s.size≤1000)(w:World) :
    Calls Tryd.prog 24 #[.string s] w fun e w'=>∃ v ps,e=.returned v∧PSt s w v s.size ps w':=by
  go_enter Tryd.func24,Tryd.ntmps24
  go_wp2
  go_loopw [3,4] (fun out i wr=>∃ (k:Nat) (ps:List (List UInt8)),i=.int .i64 k∧PSt s w out k ps wr) (fun _ i _=>s.size - (intOf i).toNat)
  case atStart =>
    refine ⟨0,[[]],rfl,⟨Nat.zero_le _,?_,?_,by simp,by simp,by simp,rfl⟩⟩
    · refine ⟨rfl,.inr ⟨w.heap.size,1,#[.string ⟨#[]⟩],rfl,Nat.le_refl _,?_,by simp,by simp [maxLen],rfl,rfl⟩⟩
      show (w.heap.push _)[w.heap.size]? = _
      simp
    · exact (Below.refl _ _).alloc (Nat.le_refl _) _
  case round =>
    obtain ⟨k,ps,rfl,hP⟩:=hrel
    have hk:=hP.le
    by_cases hlt:k < s.size
    · by_cases h32:((s[k]'hlt).toNat:Int)=32
      · obtain ⟨i0,hi,hz0,hz1,hz2⟩:=info_parts info9
        have HP:=Lib.hid hP
        have hl:=hP.len
        clear hP
        go_wp2_with (at_builtin; refine wpList_append_own _ rfl _ _ 45 rfl w.heap.size 9 i0 _ 1 16 Tryd.underlying45 hi hz0 hz1 hz2 rfl (by decide) _ _ _ rfl (HP.out.own.alloc _) ⟨wr.heap.size,0,none⟩ 1 1 [.string ⟨#[]⟩] rfl rfl ?c1 ?c2 ?c3 ?c4 ?c5 ?_)
        case c1=>exact ZeQ
        case c2 =>
          intro u hu
          obtain rfl:u=_:=by simpa using hu
          rfl
        case c3=>unfold maxLen; omega
        case c4=>omega
        case c5=>have:=HP.out.below.size; simp; omega
        intro v' w1 hown1 hg _
        have hc:s[k]=32:=UInt8.toNat_inj.1 (by rw [show (32:UInt8).toNat=32 from rfl]; omega)
        have HN:=Lib.hid (HP.out.space hlt hc hown1 hg)
        clear hown1 hg HP hi hz0 hz1 hz2
        go_wp2
        go_roundw
        case rel=>exact ⟨k + 1,_,by go_num,HN.out⟩
        case measure=>simp [intOf]; omega
      · have hP':=hP
        obtain ⟨qs,p,rfl⟩:∃ qs p,ps=qs ++ [p]:=⟨_,_,(List.dropLast_concat_getLast hP.ne).symm⟩
        have ho:=hP.own
        rw [List.length_append,List.length_singleton] at ho
        obtain ⟨g,cap,hv,hcap,hgb⟩:∃ g cap,u3=.slice (some ⟨g,0,none⟩) (qs.length + 1) cap∧qs.length + 1≤cap∧w.heap.size≤g:=by
          rcases ho.2 with ⟨_,h⟩ | ⟨g,cap,cur,hv,hg,_,hn,_⟩
          · omega
          · exact ⟨g,cap,hv,hn,hg⟩
        subst hv
        have hc:=FM (p := p) (qs := qs.map strV) (by simpa using ho)
        rw [List.length_map] at hc
        obtain ⟨hc1,hc2⟩:=hc
        obtain ⟨P,hPb⟩:∃ P:ByteArray,(⟨p.toArray⟩:ByteArray)=P:=⟨_,rfl⟩
        unfold strV at hc1
        rw [hPb] at hc1
        have hlen:p.length≤1000:=by have:=hP.short p (by simp); omega
        have hql:qs.length≤1000:=by have:=hP.len; simp at this; omega
        have hPs:P.size≤1000:=by rw [← hPb]; show p.toArray.size≤_; simpa using hlen
        have hEs:(s.extract k (k + 1)).size≤1:=by rw [ByteArray.size_extract]; omega
        have HB:=Lib.hid hPb
        have HP:=Lib.hid hP
        clear hP hP' ho hPb
        go_wp2
        have k1:k + 1≤s.size:=hlt
        have k2:(k:Int) + 1≤(s.size:Int):=by omega
        have k3:(k:Int)≤(k:Int) + 1:=by omega
        have k4:((k:Int) + 1).toNat=k + 1:=by omega
        have k5:(0:Int)≤(k:Int) + 1:=by omega
        go_big_region
        have hc32:s[k]≠32:=fun e=>h32 (by rw [e]; rfl)
        have HN:=Lib.hid (HP.out.more hlt hc32 HB.out)
        clear HP HB
        go_wp2
        go_roundw
        case rel=>exact ⟨k + 1,_,by go_num,HN.out⟩
        case measure=>simp [intOf]; omega
    · have he:k=s.size:=by omega
      subst he
      have HP:=Lib.hid hP
      clear hP
      go_wp2
      go_ret
      exact ⟨_,_,rfl,HP.out⟩
end Go.Proofs.YtdchnngpjjcchaaDoor.Num
end
section
namespace Go.Proofs.YtdchnngpjjcchaaDoor
open Go Go.RowKit Go.Proofs.YtdchnngpjjcchaaDoor.Abs
set_option maxRecDepth 100000
abbrev BZ (a:List UInt8):Prop:=∀ c ∈ a,c≠32
theorem ZbA (c:UInt8)(l:List UInt8):([32]:List UInt8).isPrefixOf (c :: l)=(32 == c):=by simp [List.isPrefixOf]
theorem Si:∀ (a rest:List UInt8),BZ a→Lib.index (a ++ 32 :: rest) [32]=a.length
  | [],rest,_=>by rw [List.nil_append,Lib.index,ZbA]; rfl
  | x :: a,rest,h=>by
    have hx:(32 == x)=false:=by rw [beq_eq_false_iff_ne]; exact fun e=>h x (List.mem_cons_self ..) e.symm
    have ih:=Si a rest fun c hc=>h c (List.mem_cons_of_mem _ hc)
    rw [List.cons_append,Lib.index,ZbA,hx,ih]
    have:((a.length:Int) == -1)=false:=by rw [beq_eq_false_iff_ne]; omega
    simp [this]
theorem ZeG {a:List UInt8}(h:BZ a):a.count 32=0:=List.count_eq_zero.2 fun hm=>h 32 hm rfl
theorem Vw (a rest:List UInt8)(h:BZ a):Yk (a ++ 32 :: rest) [32]=a :: Yk rest [32]:=by
  unfold Yk Lib.split
  rw [Lib.count_one,Lib.count_one,List.count_append,ZeG h,List.count_cons_self,Nat.zero_add,Lib.splitK,Si a rest h]
  have:((a.length:Int) == -1)=false:=by rw [beq_eq_false_iff_ne]; omega
  rw [this]
  simp only [Bool.false_eq_true,if_false,Int.toNat_natCast,Nat.add_zero,List.take_left,List.length_singleton]
  congr 2
  rw [← List.drop_drop,List.drop_left]; rfl
theorem EC (a:List UInt8)(h:BZ a):Yk a [32]=[a]:=by
  unfold Yk Lib.split
  rw [Lib.count_one,ZeG h]; rfl
def ZbB (x:List UInt8):List (List UInt8)→List (List UInt8)
  | []=>[x]
  | p :: l=>(x ++ p) :: l
theorem MB (l:List UInt8):Yk l [32]≠[]:=by
  unfold Yk Lib.split
  cases Lib.count l [32] with
  | zero=>simp [Lib.splitK]
  | succ k=>unfold Lib.splitK; split <;> simp
theorem CB (l:List UInt8):Yk (32 :: l) [32]=[] :: Yk l [32]:=Vw [] l (fun c h=>by cases h)
theorem Nj (c:UInt8)(l:List UInt8)(h:c≠32):Yk (c :: l) [32]=ZbB [c] (Yk l [32]):=by
  have hx:(32 == c)=false:=by rw [beq_eq_false_iff_ne]; exact fun e=>h e.symm
  unfold Yk Lib.split
  rw [Lib.count_cons_ne c 32 l h]
  have hix:Lib.index (c :: l) [32]=if Lib.index l [32] == -1 then -1 else Lib.index l [32] + 1:=by rw [Lib.index,ZbA,hx]; simp
  cases hc:Lib.count l [32] with
  | zero=>rfl
  | succ k =>
    have hge:=Lib.index_ge l [32]
    unfold Lib.splitK
    rw [hix]
    by_cases hm:Lib.index l [32]=-1
    · rw [hm]; rfl
    · obtain ⟨j,hj⟩:∃ j:Nat,Lib.index l [32]=j:=⟨(Lib.index l [32]).toNat,by omega⟩
      rw [hj]
      have e1:((j:Int) == -1)=false:=by rw [beq_eq_false_iff_ne]; omega
      have e2:((j:Int) + 1 == -1)=false:=by rw [beq_eq_false_iff_ne]; omega
      have e3:((j:Int) + 1).toNat=j + 1:=by omega
      simp only [e1,e2,Bool.false_eq_true,if_false,e3,Int.toNat_natCast,Nat.add_zero,List.take_succ_cons,ZbB,List.singleton_append]
      rw [show j + 1 + ([32]:List UInt8).length=(j + ([32]:List UInt8).length) + 1 by simp,List.drop_succ_cons]
theorem UZ:∀ (l:List UInt8) (A:List (List UInt8)) (x:List UInt8),l.foldl Num.step32 (A ++ [x])=A ++ ZbB x (Yk l [32])
  | [],A,x=>by
    have:Yk [] [32]=[[]]:=rfl
    rw [this]; simp [ZbB]
  | c :: l,A,x=>by
    rw [List.foldl_cons,Num.step32]
    by_cases h:c=32
    · subst h
      rw [if_pos rfl,CB,UZ l (A ++ [x]) [],List.append_assoc]
      congr 1
      cases hs:Yk l [32] with
      | nil=>exact absurd hs (MB l)
      | cons p q=>simp [ZbB]
    · rw [if_neg h,Nj c l h]
      have e:(A ++ [x]).dropLast ++ [(A ++ [x]).getLast?.getD [] ++ [c]]=A ++ [x ++ [c]]:=by simp
      rw [e,UZ l A (x ++ [c])]
      cases hs:Yk l [32] with
      | nil=>exact absurd hs (MB l)
      | cons p q=>simp [ZbB]
theorem BK (s:List UInt8):s.foldl Num.step32 [[]]=Yk s [32]:=by
  have:=UZ s [] []
  rw [List.nil_append,List.nil_append] at this
  rw [this]
  cases hs:Yk s [32] with
  | nil=>exact absurd hs (MB s)
  | cons p q=>simp [ZbB]
end Go.Proofs.YtdchnngpjjcchaaDoor
end
