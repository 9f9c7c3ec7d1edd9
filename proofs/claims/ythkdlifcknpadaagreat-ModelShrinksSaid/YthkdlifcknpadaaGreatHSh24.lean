import Derived.Test.YthkdlifcknpadaaGreatHSh23
set_option linter.all false
section
namespace Go.Proofs.YthkdlifcknpadaaGreat
open Go Go.RowKit Go.Proofs.YthkdlifcknpadaaGreat.Abs Go.Proofs.YthkdlifcknpadaaGreat.Tl
set_option maxRecDepth 100000
section
variable {P:Program}{G:Nat→Option (List AV)}{call:FuncId→List AV→List Zh→Option (AV×List Zh×Eff)}{E:Entry}
theorem ZbK (hm:P.follows .mixedOrders=true)(hG:GOk G E.W0)(hS:ZT P E.W0 call)(hB:ZT P E.W0 (Yd call)){takes:FuncId→List Nat}{res:List Nat}(L:Nat)(T:Code){Q:Exit→Act→World→Prop}{r:Za}
  (h1:∀ Γ a w,Inv E r Γ a w→T.wp P Q a w) :
  ∀ (l:List (Code×Wh)),(∀ p ∈ l,Ua P takes res p.1=some p.2)→∀ {s:Za} {Γ:Zu} {a:Act} {w:World},Zq G call L (l.foldr (fun p c=>.seq p.2 c) .skip) s=some (.normal,r)→Inv E s Γ a w→(l.foldr (fun p c=>.seq p.1 c) T).wp P Q a w
 | [],_,s,Γ,a,w,h,hI=>by cases h; exact h1 Γ a w hI
 | p :: l,hl,s,Γ,a,w,h,hI=>by
  simp only [List.foldr_cons,Zq] at h ⊢
  refine Go.wp_seq ?_
  have hp:=hl p (List.mem_cons_self ..)
  split at h
  ·rename_i s1 hs1
   refine Go.wp_mono (Zff hm hG hS hB L hp hs1 hI) fun e a' w' he=>?_
   obtain ⟨k1,Γ',i1⟩:=he
   cases e <;> first | exact k1.elim | skip
   exact ZbK hm hG hS hB L T h1 l (fun q hq=>hl q (List.mem_cons_of_mem _ hq)) h i1
  ·rename_i hne
   exact absurd h (hne r)
end
open Sh (body4 BK WY ZiC brC)
noncomputable def q0:Code:=BK body4
noncomputable def q1:Code:=BK (WY body4)
noncomputable def q2:Code:=BK (WY (WY body4))
noncomputable def q3:Code:=BK (WY (WY (WY body4)))
noncomputable def q4:Code:=BK (BK (WY (WY (WY (WY body4)))))
noncomputable def q5:Code:=BK (WY (BK (WY (WY (WY (WY body4))))))
noncomputable def J1:Code:=WY (WY (WY (WY (WY body4))))
theorem c0:Ua Tryz.prog takes [4] q0=some r0:=by kernel_rfl
theorem c1:Ua Tryz.prog takes [4] q1=some r1:=by kernel_rfl
theorem c2:Ua Tryz.prog takes [4] q2=some r2:=by kernel_rfl
theorem c3:Ua Tryz.prog takes [4] q3=some r3:=by kernel_rfl
theorem c4:Ua Tryz.prog takes [4] q4=some r4:=by kernel_rfl
theorem c5:Ua Tryz.prog takes [4] q5=some r5:=by kernel_rfl
theorem cJ:Ua Tryz.prog takes [4] J1=some YJ:=by kernel_rfl
theorem Zo6:body4=.seq q0 (.seq q1 (.seq q2 (.seq q3 (.seq (.seq q4 (.seq q5 (.cond (.tmp 58) brC .skip))) J1)))):=by kernel_rfl
theorem inv_start {W:World}{n:Nat}{args:List AV}{xs:Array Value}(hs:xs.size=args.length)(hx:∀ j x,args[j]? = some x→Rep still W x (xs.getD j Go.undef)∧∀ k r,x≠.own k r) :
  Inv ⟨W,still,W⟩ ⟨args ++ List.replicate (n - args.length) .undef,[],none,([]:HP).length⟩ still { tmps := xs ++ Array.replicate (n - xs.size) Go.undef,defers := [] } W:=by
 have get:∀ (t:Nat) (y:AV),(args ++ List.replicate (n - args.length) AV.undef)[t]? = some y→(args[t]? = some y∧(xs ++ Array.replicate (n - xs.size) Go.undef).getD t Go.undef=xs.getD t Go.undef)∨(y=.undef∧(xs ++ Array.replicate (n - xs.size) Go.undef).getD t Go.undef=Go.undef):=by
  intro t y hy
  rw [List.getElem?_append] at hy
  split at hy
  ·rename_i hlt
   refine .inl ⟨hy,?_⟩
   rw [Array.getD_eq_getD_getElem?,Array.getD_eq_getD_getElem?,Array.getElem?_append_left (by omega)]
  ·rename_i hge
   have hm:=List.mem_of_getElem? hy
   have:=List.eq_of_mem_replicate hm
   refine .inr ⟨this,?_⟩
   have hlt:=(List.getElem?_eq_some_iff.1 hy).1
   simp only [List.length_replicate] at hlt
   rw [Array.getD_eq_getD_getElem?,Array.getElem?_append_right (by omega),Array.getElem?_replicate,if_pos (by omega)]
   rfl
 refine ⟨rfl,⟨by simp [hs],fun t y hy=>?_,fun t y hy=>?_⟩,Dn W,.refl _ _ _,fun b g hb=>(by cases hb),fun b m g i hb=>(by cases hb),Nat.le_refl _,fun _ _ hb _=>hb⟩
 ·rcases get t y hy with ⟨h1,h2⟩ | ⟨rfl,h2⟩
  ·rw [h2]; exact (hx t y h1).1
  ·rw [h2]; exact .undef
 ·rcases get t y hy with ⟨h1,h2⟩ | ⟨rfl,h2⟩
  ·exact .of_ne (hx t y h1).2
  ·exact .of_ne (by simp)
theorem ZqZ {W:World}{s:Za}{Γ:Zu}{a:Act}{w:World}(hI:Inv ⟨W,still,W⟩ s Γ a w)(hbs:s.bs=0){v:AV}(hu:Qk s [.tmp 4]=some v)(hf:finish v s []=(.bool true,[],none)) :
  a.defers=[]∧∃ cv,(results Tryz.f4 a.tmps).run Tryz.prog w=.ok cv w∧(Ending.returned cv=.returned (.bool true)∧Below W.heap.size W w):=by
 obtain ⟨cv,Γ2,q1,q2,q3,q4,q5,q6⟩:=ZkY (P := Tryz.prog) hI (fn := Tryz.f4) (rs := [.tmp 4]) (by kernel_rfl) hu
 obtain ⟨Γ3,p1,p2,p3,p4,p5⟩:=BH (Dn W) hbs hI.le (fun b n g i hb=>(by cases hb)) q2 q3 q6 q4 q5 (keep := false) hf
 cases p2
 exact ⟨hI.defers,_,q1,rfl,p4.os,p4.tape,p4.output,p4.size,fun b hb=>(p4.keep b hb trivial).2⟩
theorem Zqi {hp0:HP}{e:Env}{sl:List AV}(he:WJ 140 Zf e sl){hp:HP}{ef:Eff}(h:Zdb Zf Zo [] e hp ef=some (.bool true,[],none)) :
  ∃ v,Qk ⟨sl,hp,ef,0⟩ [.tmp 4]=some v∧finish v ⟨sl,hp,ef,0⟩ []=(.bool true,[],none):=by
 obtain ⟨v,a1,a2⟩:=Zbn (bs := 0) he h
 exact ⟨v,a1,Option.some.inj a2⟩
end Go.Proofs.YthkdlifcknpadaaGreat
end
section
namespace Go.Proofs.YthkdlifcknpadaaGreat
open Go Go.RowKit Go.Proofs.YthkdlifcknpadaaGreat.Abs Go.Proofs.YthkdlifcknpadaaGreat.Tl
set_option maxRecDepth 100000
set_option maxHeartbeats 4000000
open Sh (body4 BK WY ZiC brC)
def ZdH (d:Zb):Zb:={ d with Laws:=d.Laws.take (d.Laws.length - 1) }
def BM (m:ZH)(i:Nat)(d:Zb):ZH:={ m with Sites:=m.Sites.set i (ZdH d) }
theorem ZmL {m:ZH}(h:Xc m):Xc (Px m):={ h with Links:=⟨Nat.le_trans (Nat.mul_le_mul_right _ (by simp [Px])) h.Links.1,fun y hy=>h.Links.2 y (List.mem_of_mem_take hy)⟩ }
theorem ZmN {m:ZH}(h:Xc m):Xc (Jb m):={ h with Sites:=⟨Nat.le_trans (Nat.mul_le_mul_right _ (by simp [Jb])) h.Sites.1,fun y hy=>h.Sites.2 y (List.mem_of_mem_take hy)⟩ }
theorem ZmK {d:Zb}(h:ZQ d):ZQ (ZdH d):={ h with Laws:=⟨Nat.le_trans (Nat.mul_le_mul_right _ (by simp [ZdH])) h.Laws.1,fun y hy=>h.Laws.2 y (List.mem_of_mem_take hy)⟩ }
theorem ZmM {m:ZH}(h:Xc m){i:Nat}{d:Zb}(hd:m.Sites[i]? = some d):Xc (BM m i d):={ h with Sites:=⟨by simpa [BM] using h.Sites.1,fun y hy=>by
 rcases List.mem_or_eq_of_mem_set hy with h' | rfl
 ·exact h.Sites.2 y h'
 ·exact ZmK (h.Sites.2 d (List.mem_of_getElem? hd))⟩ }
theorem ZoN {m:ZH}(h:QE m=0):QE (Px m)=0:=Zic m h _ _ (List.take_append_drop _ _).symm
theorem ZoO {m:ZH}(h:QE m=0){i:Nat}{d:Zb}(hd:m.Sites[i]? = some d):QE (BM m i d)=0:=Zke m h i d hd _ _ (List.take_append_drop _ _).symm
theorem ZoP {m:ZH}(h:QE m=0){n:Nat}{d:Zb}(hn:m.Sites.length=n + 1)(hd:m.Sites[n]? = some d):QE (Jb m)=Zlw m n d:=by
 have e:m.Sites=m.Sites.take n ++ [d]:=by
  have:=take_succ' hd
  rw [← hn,List.take_length] at this
  exact this
 have:=Zkf m h (m.Sites.take n) d e
 unfold Jb
 rw [show m.Sites.length - 1=n by omega,this,Zlw]
 have hl:(m.Sites.take n=[])↔n=0:=by
  rw [List.take_eq_nil_iff]
  constructor
  ·rintro (h | h)
   ·exact h
   ·rw [h] at hn; simp at hn
  ·exact .inl
 by_cases h0:n=0
 ·rw [if_pos (hl.2 h0)]; simp [h0]
 ·rw [if_neg (fun h=>h0 (hl.1 h))]
  have:decide (0 < n)=true:=by simp; omega
  rw [this,Bool.true_and]
  show _=if named m d.Name m.Links=true then 5 else if n=0 then 7 else 0
  rw [if_neg h0]
  rfl
theorem Zb1 {W:World}{m:ZH}{k:Nat}{v0:Value}(h0:Rep still W (.agg (Yf m)) v0):∀ (j:Nat) (x:AV),[AV.agg (Yf m),.int .u8 k][j]? = some x→Rep still W x ((#[v0,.int .u8 k]:Array Value).getD j Go.undef)∧∀ k r,x≠.own k r:=fun j x hx=>by
 match j,hx with
 | 0,hx=>cases hx; exact ⟨h0,fun _ _ h=>by cases h⟩
 | 1,hx=>cases hx; exact ⟨.int _ _,fun _ _ h=>by cases h⟩
 | _ + 2,hx=>simp at hx
theorem Zi3 {e:Env}{sl:List AV}(he:WJ 140 Zf e sl){t:Nat}(ht:t < 140)(hp:t ∉ Zf){v:AV}(h:(e t).rd=v)(hv:∀ k r,v≠.lst k r):sl[t]? = some v:=by
 have h1:=he.val t ht hp
 have h2:=(he.ok t).trans h
 rw [h1]
 generalize (e t).val=u at h2
 congr 1
 cases u <;> first | exact h2 | exact absurd h2.symm (hv _ _)
theorem Zqr {W:World}{L N:Nat}{m:ZH}{n:Nat}{d:Zb}(hn:m.Sites.length=n + 1)(hd:m.Sites[n]? = some d)(hs:m.Sites.length≤20)(hl:m.Links.length≤40)(hL:1000≤L){hp:HP}(h0:hp[0]? = some (MO m))(he:QE (Jb m)=Zlw m n d)
  (hc:Zy (C1 L) N 7 [.agg (Yf (Jb m))] (hp ++ [MO (Jb m)])=some (.int .i64 (QE (Jb m)),hp ++ [MO (Jb m)],none))
  (ha:Zy (C1 L) N 6 [] (hp ++ [MO (Jb m)])=some (.bool true,hp ++ [MO (Jb m)],none))
  {sl:List AV} (h140:sl.length=140) (h2:sl[2]? = some (.ptr 0 0)) {Γ:Zu} {a:Act} {w:World} (hI:Inv ⟨W,still,W⟩ ⟨sl,hp,none,0⟩ Γ a w) :
  J1.wp Tryz.prog (bodyPost Tryz.prog Tryz.f4 fun e W'=>e=.returned (.bool true)∧Below W.heap.size W W') a w:=by
 have hk:=ZlB W L
 have hd1:=ZuK (C1 L).G (Zy (C1 L) N) (C1 L).L m hp _ n d hn hd hs hl (by show 1000≤L + 64; omega) h0 hc ha
 rw [he,decide_eq_true rfl] at hd1
 have hj:=congrFun (congrFun (congrFun (XJ (C1 L).G (Zy (C1 L) N) (C1 L).L []) (Zl1 sl)) hp) none
 have hrd:(Zl1 sl 2).rd=.ptr 0 0:=by rw [SY,List.getD_eq_getElem?_getD,h2]; rfl
 simp only [hrd] at hj
 rw [hd1] at hj
 obtain ⟨ex,e',sl',hp',ef',hev,henv,hm⟩:=XY YJ (ZeZ (N := 140) (P := Zf) (args := sl) (by omega)) hj
 rw [show sl ++ List.replicate (140 - sl.length) AV.undef=sl by rw [h140]; simp] at hev
 have fin:∀ {a' w'},(∃ Γ,Inv ⟨W,still,W⟩ ⟨sl',hp',ef',0⟩ Γ a' w')→Zdb Zf Zo [] e' hp' ef'=some (.bool true,[],none)→a'.defers=[]∧∃ cv,(results Tryz.f4 a'.tmps).run Tryz.prog w'=.ok cv w'∧(Ending.returned cv=.returned (.bool true)∧Below W.heap.size W w'):=fun {a' w'} hI hr=>by
  obtain ⟨Γ',i1⟩:=hI
  obtain ⟨v,hu,hf⟩:=Zqi (hp0 := []) henv hr
  exact ZqZ i1 rfl hu hf
 refine Go.wp_mono (Zff hk.mixed hk.globals (WV hk N) (Gj (WV hk N)) (C1 L).L cJ hev hI) fun en a' w' hen=>?_
 obtain ⟨k1,hI'⟩:=hen
 cases ex with
 | normal=>cases en <;> first | exact k1.elim | exact fin hI' hm
 | ret=>cases en <;> first | exact k1.elim | exact fin hI' hm
 | exit i=>cases hm
theorem Zqg {Γ:Zu}{w:World}{s:List UInt8}{v:Value}(h:Rep Γ w (.str s) v):v=.string ⟨s.toArray⟩:=by cases h; rfl
theorem Dx {Γ:Zu}{w W':World}{x:AV}{v:Value}(h:Rep Γ w x v)(hx:x.noId1=true)(hB:Below w.heap.size w W'):Rep still W' x v :=
 h.noId (Γ':=still) (w':=W') (fun b o u _ hc=>⟨trivial,(J6 (hB.block b (lt_of_cell hc))).trans hc⟩) hx
theorem Zqk {Γ:Zu}{w:World}{rows:List (List AV)}{v:Value}(h:Rep Γ w (.lst 13 rows) v)(hne:rows≠[]) :
  ∃ bs os cap,∃ cv:List Value,v=.slice (some ⟨bs,os,none⟩) rows.length cap∧rows.length≤cap∧cv.length=rows.length * 13∧(∀ u ∈ cv,u.oneCell'=true)∧(∀ j u,cv[j]? = some u→w.cell? ⟨bs,os + j,none⟩=some u) ∧
   ∀ (i j:Nat) (r:List AV) (c:AV),rows[i]? = some r→r[j]? = some c→r.length=13∧c.noId1=true∧∃ u,cv[i * 13 + j]? = some u∧Rep Γ w c u:=by
 cases h with
 | lstNil=>exact absurd rfl hne
 | lstE=>exact absurd rfl hne
 | lst _ _ b o cap cf hl hk hc hr =>
  have get:∀ p,p < rows.length * 13→∃ r c,rows[p / 13]? = some r∧r[p % 13]? = some c:=fun p hp=>by
   have h1:p / 13 < rows.length:=by omega
   refine ⟨rows[p / 13],?_⟩
   have h2:p % 13 < (rows[p / 13]).length:=by rw [hk _ (List.getElem_mem h1)]; omega
   exact ⟨_,List.getElem?_eq_getElem h1,List.getElem?_eq_getElem h2⟩
  have cvg:∀ j u,((List.range (rows.length * 13)).map fun p=>cf (p / 13) (p % 13))[j]? = some u→j < rows.length * 13∧u=cf (j / 13) (j % 13):=fun j u hj=>by
   rw [List.getElem?_map] at hj
   obtain ⟨p,hp,rfl⟩:=Option.map_eq_some_iff.1 hj
   obtain ⟨h1,rfl⟩:=List.getElem?_eq_some_iff.1 hp
   simp only [List.length_range] at h1
   exact ⟨h1,by rw [List.getElem_range]⟩
  refine ⟨b,o,cap,(List.range (rows.length * 13)).map fun p=>cf (p / 13) (p % 13),rfl,hl,by simp,fun u hu=>?_,fun j u hj=>?_,fun i j r c h1 h2=>?_⟩
  ·obtain ⟨j,hj⟩:=List.mem_iff_getElem?.1 hu
   obtain ⟨h1,rfl⟩:=cvg j u hj
   obtain ⟨r,c,h2,h3⟩:=get j h1
   exact (hr _ _ r c h2 h3).oneCell (Fg (hc _ _ r c h2 h3).2.2)
  ·obtain ⟨h1,rfl⟩:=cvg j u hj
   obtain ⟨r,c,h2,h3⟩:=get j h1
   have:=(hc _ _ r c h2 h3).1
   rw [Nat.div_add_mod'] at this
   exact this
  ·have hlen:=hk r (List.mem_of_getElem? h1)
   have hj:j < 13:=by rw [← hlen]; exact Zn h2
   have hi:i < rows.length:=Zn h1
   refine ⟨hlen,(hc i j r c h1 h2).2.2,cf i j,?_,hr i j r c h1 h2⟩
   rw [List.getElem?_map,List.getElem?_range (by omega)]
   simp only [Option.map_some,Option.some.injEq]
   rw [show (i * 13 + j) / 13=i by omega,show (i * 13 + j) % 13=j by omega]
theorem Zpi {Γ:Zu}{w:World}{k:Nat}{rows:List (List AV)}{v:Value}(h:Rep Γ w (.lst k rows) v)(hne:rows≠[]):∃ b o cap,v=.slice (some ⟨b,o,none⟩) rows.length cap∧rows.length≤cap ∧
  ∀ (n:Nat),n≤rows.length→∀ {W':World},Below w.heap.size w W'→Rep still W' (.lst k (rows.take n)) (.slice (some ⟨b,o,none⟩) n cap):=by
 cases h with
 | lstNil=>exact absurd rfl hne
 | lstE=>exact absurd rfl hne
 | lst _ _ b o cap cf hl hk hc hr =>
  refine ⟨b,o,cap,rfl,hl,fun n hn W' hB=>?_⟩
  have hlen:(rows.take n).length=n:=by simp; omega
  have sub:∀ (i:Nat) r,(rows.take n)[i]? = some r→rows[i]? = some r:=fun i r hi=>by
   rw [List.getElem?_take] at hi
   split at hi
   ·exact hi
   ·cases hi
  have:=Rep.lst (Γ := still) (w := W') k (rows.take n) b o cap cf (by omega) (fun r hr'=>hk r (List.mem_of_mem_take hr')) (fun i j r c h1 h2=>by
   obtain ⟨a1,a2,a3⟩:=hc i j r c (sub i r h1) h2
   exact ⟨(J6 (hB.block b (lt_of_cell a1))).trans a1,trivial,a3⟩) (fun i j r c h1 h2=>Dx (hr i j r c (sub i r h1) h2) (hc i j r c (sub i r h1) h2).2.2 hB)
  rw [hlen] at this
  exact this
end Go.Proofs.YthkdlifcknpadaaGreat
end
section
namespace Go.Proofs.YthkdlifcknpadaaGreat
open Go Go.RowKit Go.Proofs.YthkdlifcknpadaaGreat.Abs Go.Proofs.YthkdlifcknpadaaGreat.Tl
set_option maxRecDepth 100000
set_option maxHeartbeats 4000000
open Sh (body4 BK WY ZiC brC)
theorem Zkd {d:Zb}{q:Nat}{c:AV}(hq:q≠12)(h:(Zz (ZdH d))[q]? = some c):(Zz d)[q]? = some c:=by
 match q,hq,h with
 | 0,_,h=>exact h
 | 1,_,h=>exact h
 | 2,_,h=>exact h
 | 3,_,h=>exact h
 | 4,_,h=>exact h
 | 5,_,h=>exact h
 | 6,_,h=>exact h
 | 7,_,h=>exact h
 | 8,_,h=>exact h
 | 9,_,h=>exact h
 | 10,_,h=>exact h
 | 11,_,h=>exact h
 | 12,h,_=>exact absurd rfl h
 | _ + 13,_,h=>simp [Zz] at h
theorem ZhL {Γ:Zu}{w Wx:World}{m:ZH}{i k:Nat}{d:Zb}{nb:ByteArray}{v1 v3:Value}{g c' bl ol capl:Nat}{cv:List Value}(hnb:nb=⟨m.Name.toArray⟩)(p1:Rep Γ w (.lst 3 (m.Params.map Xh)) v1)(p3:Rep Γ w (.lst 3 (m.Links.map Vk)) v3)
  (hrow:∀ (i j:Nat) (r:List AV) (c:AV),(m.Sites.map Zz)[i]? = some r→r[j]? = some c→r.length=13∧c.noId1=true∧∃ u,cv[i * 13 + j]? = some u∧Rep Γ w c u) (hdi:(m.Sites.map Zz)[i]? = some (Zz d)) (hi:i < m.Sites.length) (hcl:cv.length=m.Sites.length * 13)
  (hk:d.Laws.length=k + 1) (hlaw:Rep still Wx (.lst 3 ((d.Laws.map Zi1).take k)) (.slice (some ⟨bl,ol,none⟩) k capl)) (hB:Below w.heap.size w Wx) (hnc:m.Sites.length≤c')
  (hcx:∀ (j:Nat) (v:Value),(cv.set (i * 13 + 12) (.slice (some ⟨bl,ol,none⟩) k capl))[j]? = some v→Wx.cell? ⟨g,j,none⟩=some v) :
  Rep still Wx (.agg (Yf (BM m i d))) (.agg #[.string nb,v1,.slice (some ⟨g,0,none⟩) m.Sites.length c',v3]):=by
 subst hnb
 have rs:Rep still Wx (.lst 13 ((BM m i d).Sites.map Zz)) (.slice (some ⟨g,0,none⟩) m.Sites.length c'):=by
  have hll:((BM m i d).Sites.map Zz).length=m.Sites.length:=by simp [BM]
  have cells:∀ (p q:Nat) (r:List AV) (c:AV),((BM m i d).Sites.map Zz)[p]? = some r→r[q]? = some c→∃ u,(cv.set (i * 13 + 12) (.slice (some ⟨bl,ol,none⟩) k capl))[p * 13 + q]? = some u∧c.noId1=true∧Rep still Wx c u:=fun p q r c h1 h2=>by
   have h1':(m.Sites.set i (ZdH d)).map Zz=(BM m i d).Sites.map Zz:=rfl
   rw [← h1',List.map_set,List.getElem?_set] at h1
   split at h1
   ·rename_i e
    subst e
    split at h1 <;> cases h1
    by_cases hq:q=12
    ·subst hq
     refine ⟨.slice (some ⟨bl,ol,none⟩) k capl,?_,?_⟩
     ·rw [List.getElem?_set,if_pos rfl,if_pos (by omega)]
     ·have hc2:c=.lst 3 ((d.Laws.map Zi1).take k):=by
       have:(Zz (ZdH d))[12]? = some (.lst 3 ((ZdH d).Laws.map Zi1)):=rfl
       rw [this] at h2
       cases h2
       simp only [ZdH,hk,Nat.add_sub_cancel,List.map_take]
      subst hc2
      exact ⟨rfl,hlaw⟩
    ·obtain ⟨_,b2,u,b3,b4⟩:=hrow i q _ c hdi (Zkd hq h2)
     refine ⟨u,?_,b2,Dx b4 b2 hB⟩
     rw [List.getElem?_set,if_neg (by omega)]; exact b3
   ·rename_i hne
    obtain ⟨b1,b2,u,b3,b4⟩:=hrow p q r c h1 h2
    have hq13:q < 13:=by rw [← b1]; exact Zn h2
    refine ⟨u,?_,b2,Dx b4 b2 hB⟩
    rw [List.getElem?_set,if_neg (by omega)]; exact b3
  have hlen:∀ r ∈ (BM m i d).Sites.map Zz,r.length=13:=fun r hr=>by
   obtain ⟨x,_,rfl⟩:=List.mem_map.1 hr
   rfl
  have key:=Rep.lst (Γ := still) (w := Wx) 13 ((BM m i d).Sites.map Zz) g 0 c' (fun p q=>(cv.set (i * 13 + 12) (.slice (some ⟨bl,ol,none⟩) k capl)).getD (p * 13 + q) Go.undef) (by rw [hll]; exact hnc) hlen (fun p q r c h1 h2=>by
   obtain ⟨u,a1,a2,a3⟩:=cells p q r c h1 h2
   refine ⟨?_,trivial,a2⟩
   rw [Nat.zero_add,hcx _ _ a1,List.getD_eq_getElem?_getD,a1]; rfl) (fun p q r c h1 h2=>by
   obtain ⟨u,a1,a2,a3⟩:=cells p q r c h1 h2
   rw [List.getD_eq_getElem?_getD,a1]; exact a3)
  rw [hll] at key
  exact key
 refine .agg _ _ rfl (fun j c hj=>?_) (fun j kk r hj=>?_) (fun j c hj=>?_)
 ·match j,hj with
  | 0,hj=>cases hj; rfl
  | 1,hj=>cases hj; rfl
  | 2,hj=>cases hj; rfl
  | 3,hj=>cases hj; rfl
  | _ + 4,hj=>simp [Yf] at hj
 ·match j,hj with
  | 0,hj=>cases hj
  | 1,hj=>cases hj
  | 2,hj=>cases hj
  | 3,hj=>cases hj
  | _ + 4,hj=>simp [Yf] at hj
 ·match j,hj with
  | 0,hj=>cases hj; exact .str _
  | 1,hj=>cases hj; exact Dx p1 rfl hB
  | 2,hj=>cases hj; exact rs
  | 3,hj=>cases hj; exact Dx p3 rfl hB
  | _ + 4,hj=>simp [Yf] at hj
theorem ZiY {W:World}{L N:Nat}{m:ZH}{i:Nat}{d:Zb}(ok:Xc m)(hd:m.Sites[i]? = some d)(hs:m.Sites.length≤20)(hla:0 < d.Laws.length){hp:HP}(h0:hp[0]? = some (MO m))
  (hc:Zy (C1 L) N 7 [.agg (Yf (BM m i d))] []=some (.int .i64 0,[],none))
  {sl:List AV} (h140:sl.length=140) (h2:sl[2]? = some (.ptr 0 0)) (h6:sl[6]? = some (.int .i64 i)) (h7:sl[7]? = some (.int .i64 d.Laws.length)) {Γ:Zu} {a:Act} {w:World} (hI:Inv ⟨W,still,W⟩ ⟨sl,hp,none,0⟩ Γ a w) {Q:Exit→Act→World→Prop}
  (hQ:∀ (sl':List AV) (a':Act) (w':World),sl'.length=140→sl'[2]? = some (.ptr 0 0)→Inv ⟨W,still,W⟩ ⟨sl',hp,none,0⟩ Γ a' w'→Q .normal a' w'):brC.wp Tryz.prog Q a w:=by
 obtain ⟨atm,ad⟩:=a
 obtain rfl:ad=[]:=hI.defers
 have hsz:atm.size=140:=by rw [hI.slots.size]; exact h140
 revert hI
 refine Zqu (M := fun A=>Inv ⟨W,still,W⟩ ⟨sl,hp,none,0⟩ Γ { tmps := A,defers := [] } w→brC.wp Tryz.prog Q { tmps := A,defers := [] } w) ?_ hsz
 intro t0 t1 t2 t3 t4 t5 t6 t7 t8 t9 t10 t11 t12 t13 t14 t15 t16 t17 t18 t19 t20 t21 t22 t23 t24 t25 t26 t27 t28 t29 t30 t31 t32 t33 t34 t35 t36 t37 t38 t39 t40 t41 t42 t43 t44 t45 t46 t47 t48 t49 t50 t51 t52 t53 t54 t55 t56 t57 t58 t59 t60 t61 t62 t63 t64 t65 t66 t67 t68 t69 t70 t71 t72 t73 t74 t75 t76 t77 t78 t79 t80 t81 t82 t83 t84 t85 t86 t87 t88 t89 t90 t91 t92 t93 t94 t95 t96 t97 t98 t99 t100 t101 t102 t103 t104 t105 t106 t107 t108 t109 t110 t111 t112 t113 t114 t115 t116 t117 t118 t119 t120 t121 t122 t123 t124 t125 t126 t127 t128 t129 t130 t131 t132 t133 t134 t135 t136 t137 t138 t139 hI
 have r2:Rep Γ w (.ptr 0 0) t2:=hI.slots.rep 2 _ h2
 have r6:Rep Γ w (.int .i64 i) t6:=hI.slots.rep 6 _ h6
 have r7:Rep Γ w (.int .i64 d.Laws.length) t7:=hI.slots.rep 7 _ h7
 obtain ⟨bm,C,e2,hb,hh,hC,hcs⟩:=hI.cells r2 h0
 subst e2
 obtain rfl:t6=_:=by cases r6; rfl
 obtain rfl:t7=_:=by cases r7; rfl
 obtain ⟨k,hk⟩:∃ k,d.Laws.length=k + 1:=⟨d.Laws.length - 1,by omega⟩
 obtain ⟨l⟩:=C
 match l,hC with
 | [c0,c1,c2,c3],_ =>
 have p0:Rep Γ w (.str m.Name) c0:=(hcs 0 _ rfl).2.1
 have p1:Rep Γ w (.lst 3 (m.Params.map Xh)) c1:=(hcs 1 _ rfl).2.1
 have p2:Rep Γ w (.lst 13 (m.Sites.map Zz)) c2:=(hcs 2 _ rfl).2.1
 have p3:Rep Γ w (.lst 3 (m.Links.map Vk)) c3:=(hcs 3 _ rfl).2.1
 obtain rfl:=Zqg p0
 obtain ⟨⟨pA,pn,pc,rfl⟩,xp,hxp⟩:=Zll p1
 obtain ⟨⟨lA,ln,lc,rfl⟩,xl,hxl⟩:=Zll p3
 have hi:i < m.Sites.length:=(List.getElem?_eq_some_iff.1 hd).1
 have hne:m.Sites.map Zz≠[]:=by
  intro e
  have:=congrArg List.length e
  simp at this; rw [this] at hi; simp at hi
 obtain ⟨bs,os,cap,cv,rfl,hcap,hcl,hone,hcell,hrow⟩:=Zqk p2 hne
 rw [List.length_map] at hcap hcl
 have hdi:(m.Sites.map Zz)[i]? = some (Zz d):=by rw [List.getElem?_map,hd]; rfl
 obtain ⟨_,_,u,hu,ru⟩:=hrow i 12 _ _ hdi rfl
 have hln:d.Laws.map Zi1≠[]:=by
  intro e
  have:=congrArg List.length e
  simp at this; rw [this] at hla; simp at hla
 obtain ⟨bl,ol,capl,rfl,hcpl,hlaw⟩:=Zpi ru hln
 rw [List.length_map,hk] at hcpl hu
 have hkk:k + 1≤9223372036854775807:=by
  have:=(ok.Sites.2 d (List.mem_of_getElem? hd)).Laws.1
  omega
 rw [hk] at hI ⊢
 rw [List.length_map] at hh
 have hI':Inv ⟨W,still,W⟩ ⟨sl,hp,none,0⟩ Γ { tmps := #[t0,t1,.pointer (some ⟨bm,0,none⟩),t3,t4,t5,.int .i64 i,.int .i64 ((k:Int) + 1),t8,t9,t10,t11,t12,t13,t14,t15,t16,t17,t18,t19,t20,t21,t22,t23,t24,t25,t26,t27,t28,t29,t30,t31,t32,t33,t34,t35,t36,t37,t38,t39,t40,t41,t42,t43,t44,t45,t46,t47,t48,t49,t50,t51,t52,t53,t54,t55,t56,t57,t58,t59,t60,t61,t62,t63,t64,t65,t66,t67,t68,t69,t70,t71,t72,t73,t74,t75,t76,t77,t78,t79,t80,t81,t82,t83,t84,t85,t86,t87,t88,t89,t90,t91,t92,t93,t94,t95,t96,t97,t98,t99,t100,t101,t102,t103,t104,t105,t106,t107,t108,t109,t110,t111,t112,t113,t114,t115,t116,t117,t118,t119,t120,t121,t122,t123,t124,t125,t126,t127,t128,t129,t130,t131,t132,t133,t134,t135,t136,t137,t138,t139],defers := [] } w:=hI
 refine Sh.branch w ⟨m.Name.toArray⟩ pA lA pn pc ln lc bm bs os m.Sites.length cap i bl ol k capl cv t0 t1 t3 t4 t5 t8 t9 t10 t11 t12 t13 t14 t15 t16 t17 t18 t19 t20 t21 t22 t23 t24 t25 t26 t27 t28 t29 t30 t31 t32 t33 t34 t35 t36 t37 t38 t39 t40 t41 t42 t43 t44 t45 t46 t47 t48 t49 t50 t51 t52 t53 t54 t55 t56 t57 t58 t59 t60 t61 t62 t63 t64 t65 t66 t67 t68 t69 t70 t71 t72 t73 t74 t75 t76 t77 t78 t79 t80 t81 t82 t83 t84 t85 t86 t87 t88 t89 t90 t91 t92 t93 t94 t95 t96 t97 t98 t99 t100 t101 t102 t103 t104 t105 t106 t107 t108 t109 t110 t111 t112 t113 t114 t115 t116 t117 t118 t119 t120 t121 t122 t123 t124 t125 t126 t127 t128 t129 t130 t131 t132 t133 t134 t135 t136 t137 t138 t139 hh hcap hi hs hcl hone hcell hu hcpl hkk (fun Wx g c' hB hg hnc hcx=>?_) (fun g c' W' hnc hB=>?_)
 ·have hrep:=ZhL (g := g) (c':=c') rfl p1 p3 hrow hdi hi hcl hk (hlaw k (by simp; omega) hB) hB hnc hcx
  refine (ZgF (ZlB Wx L) hc rfl rfl fun j x hx=>?_).mono ?_
  ·match j,hx with
   | 0,hx=>cases hx; exact ⟨hrep,fun _ _ h=>by cases h⟩
  ·rintro e w' ⟨cv',rfl,hb',hr⟩
   cases hr
   exact ⟨rfl,hb'⟩
 ·obtain ⟨sl',s1,s2,s3⟩:=ZhK ⟨m.Name.toArray⟩ pA lA pn pc ln lc bm bs os m.Sites.length cap i bl ol k capl g c' t0 t1 (.pointer (some ⟨bm,0,none⟩)) t3 t4 t5 (.int .i64 i) (.int .i64 ((k:Int) + 1)) t8 t9 t10 t11 t12 t13 t14 t15 t16 t17 t18 t19 t20 t21 t22 t23 t24 t25 t26 t27 t28 t29 t30 t31 t32 t33 t34 t35 t36 t37 t38 t39 t40 t41 t42 t43 t44 t45 t46 t47 t48 t49 t50 t51 t52 t53 t54 t55 t56 t57 t58 t59 t60 t61 t62 t63 t64 t65 t66 t67 t68 t69 t70 t71 t72 t73 t74 t75 t76 t77 t78 t79 t80 t81 t82 t83 t84 t85 t86 t87 t88 t89 t90 t91 t92 t93 t94 t95 t96 t97 t98 t99 t100 t101 t102 t103 t104 t105 t106 t107 t108 t109 t110 t111 t112 t113 t114 t115 t116 t117 t118 t119 t120 t121 t122 t123 t124 t125 t126 t127 t128 t129 t130 t131 t132 t133 t134 t135 t136 t137 t138 t139 hxp hxl hcap hnc hcpl hB hI'
  exact hQ sl' _ _ (s2.trans h140) ((s1 2 rfl).trans h2) s3
end Go.Proofs.YthkdlifcknpadaaGreat
end
section
namespace Go.Proofs.YthkdlifcknpadaaGreat
open Go Go.RowKit Go.Proofs.YthkdlifcknpadaaGreat.Abs Go.Proofs.YthkdlifcknpadaaGreat.Tl
set_option maxRecDepth 100000
open Sh (body4 BK WY ZiC brC)
theorem ZuB {a b c d:AV}(h:AV.tup [a,b]=.tup [c,d]):a=c∧b=d:=by cases h; exact ⟨rfl,rfl⟩
theorem Zdw (W:World)(m:ZH)(ok:Xc m)(k:Nat)(hk:k < 256)(v0:Value)(hR:Rep still W (.agg (Yf m)) v0):Calls Tryz.prog 4 #[v0,.int .u8 k] W fun e W'=>e=.returned (.bool true)∧Below W.heap.size W W':=by
 let i:=k % m.Sites.length
 let di:=m.Sites.getD i ⟨[],[],[],[],[],[],[],[],[],[],[],[],[]⟩
 obtain ⟨L,hLe⟩:∃ L,1000 + SizeOf.sizeOf m + SizeOf.sizeOf (Px m) + SizeOf.sizeOf (Jb m) + SizeOf.sizeOf (BM m i di)=L:=⟨_,rfl⟩
 obtain ⟨b,hb,hlight⟩:=Zm2 L (by omega) m ok (by omega)
 have hchk:=ZgH L (by omega) m ok (by omega) [MO m]
 by_cases hpass:b=false∨QE m≠0∨m.Sites=[]
 ·obtain ⟨n0,hn⟩:=(hlight [MO m]).and hchk
  have hr:=IE (C := C1 L) rfl (n := n0 + 1) (ZqV (C1 L).G (Zy (C1 L) (n0 + 1)) (C1 L).L m k b (QE m) hpass (hn (n0 + 1) (by omega)).1 (hn (n0 + 1) (by omega)).2 (Zg9 L n0 [MO m]))
  exact Zrz (ZlB W L) hr rfl (Zb1 hR)
 ·have hbt:b=true:=by cases b with
   | true=>rfl
   | false=>exact absurd (.inl rfl) hpass
  have he:QE m=0:=Classical.byContradiction fun h=>hpass (.inr (.inl h))
  have hs:m.Sites≠[]:=fun h=>hpass (.inr (.inr h))
  subst hbt
  obtain ⟨hs20,hl40⟩:=hb rfl
  obtain ⟨n,hn⟩:∃ n,m.Sites.length=n + 1:=⟨m.Sites.length - 1,by have:=List.length_pos_iff.2 hs; omega⟩
  have hil:i < m.Sites.length:=Nat.mod_lt _ (by omega)
  have hdi:m.Sites[i]? = some di:=by
   show _=some (m.Sites.getD i _)
   rw [List.getD_eq_getElem?_getD,List.getElem?_eq_getElem hil]; rfl
  obtain ⟨d,hd⟩:∃ d,m.Sites[n]? = some d:=⟨_,List.getElem?_eq_getElem (by omega)⟩
  generalize hhp:(if m.Links=[] then [MO m] else [MO m,MO (Px m)])=hp
  have h0:hp[0]? = some (MO m):=by rw [← hhp]; split <;> rfl
  have k1:=ZgH L (by omega) (Px m) (ZmL ok) (by omega) [MO m,MO (Px m)]
  have k2:=ZgH L (by omega) (Jb m) (ZmN ok) (by omega) (hp ++ [MO (Jb m)])
  have k3:=ZgH L (by omega) (BM m i di) (ZmM ok hdi) (by omega) []
  rw [he] at hchk
  rw [ZoN he] at k1
  rw [ZoO he hdi] at k3
  obtain ⟨n0,hN⟩:=((hlight [MO m]).and hchk).and (k1.and (k2.and k3))
  obtain ⟨⟨f1,f2⟩,f3,f4,f5⟩:=hN (n0 + 1) (by omega)
  have fa:=Zg9 L n0 (hp ++ [MO (Jb m)])
  generalize n0 + 1=N at f1 f2 f3 f4 f5 fa
  have hkk:=ZlB W L
  have tail:∀ {sl:List AV} {Γ:Zu} {a:Act} {w:World},sl.length=140→sl[2]? = some (.ptr 0 0)→Inv ⟨W,still,W⟩ ⟨sl,hp,none,0⟩ Γ a w→J1.wp Tryz.prog (bodyPost Tryz.prog Tryz.f4 fun e W'=>e=.returned (.bool true)∧Below W.heap.size W W') a w :=
   fun h140 h2 hI=>Zqr hn hd hs20 hl40 (by omega) h0 (ZoP he hn hd) f4 fa h140 h2 hI
  refine calls_of_wp Tryz.func4 (c := body4) (by kernel_rfl) ?_
  rw [show Tryz.f4.ntmps=140 from by kernel_rfl,Zo6]
  have hI0:=inv_start (W := W) (n := 140) (args := [AV.agg (Yf m),.int .u8 k]) (xs := #[v0,.int .u8 k]) rfl (Zb1 hR)
  have g1:=ZqW (C1 L).G (Zy (C1 L) N) (C1 L).L m k hs hl40 f1 f2 f3
  rw [hhp,← Zjv (C1 L).G (Zy (C1 L) N) (C1 L).L (.agg (Yf m)) (.int .u8 k) []] at g1
  obtain ⟨ex,e1,sl1,hp1,ef1,hev1,en1,hm1⟩:=XY A1 (ZeZ (N := 140) (by simp)) g1
  have hx1:ex=.normal∧(e1 1).rd=.int .u8 k∧(e1 2).rd=.ptr 0 0∧hp1=hp∧ef1=none:=by
   cases ex with
   | normal =>
    have:=Option.some.inj hm1
    obtain ⟨a,b⟩:=ZuB (congrArg (fun x=>x.1) this)
    exact ⟨rfl,a,b,congrArg (fun x=>x.2.1) this,congrArg (fun x=>x.2.2) this⟩
   | ret=>cases hm1
   | exit i=>cases hm1
  obtain ⟨rfl,x1,x2,rfl,rfl⟩:=hx1
  refine ZbK (E := ⟨W,still,W⟩) hkk.mixed hkk.globals (WV hkk N) (Gj (WV hkk N)) (takes := takes) (res := [4]) (C1 L).L (.seq q3 (.seq (.seq q4 (.seq q5 (.cond (.tmp 58) brC .skip))) J1)) (r := ⟨sl1,hp1,none,([]:HP).length⟩) (fun Γ a w hI1=>?_) [(q0,r0),(q1,r1),(q2,r2)] (fun p hp=>?_) hev1 hI0
  rotate_left
  ·simp only [List.mem_cons,List.not_mem_nil,or_false] at hp
   rcases hp with rfl | rfl | rfl
   ·exact c0
   ·exact c1
   ·exact c2
  have s12:=Zi3 en1 (t := 2) (by decide) (by decide) x2 (fun _ _ h=>by cases h)
  have s11:=Zi3 en1 (t := 1) (by decide) (by decide) x1 (fun _ _ h=>by cases h)
  have g2:=ZqX (C1 L).G (Zy (C1 L) N) (C1 L).L m k hk hp1 hs hs20 h0
  have q2e:=congrFun (congrFun (congrFun (Zjx (C1 L).G (Zy (C1 L) N) (C1 L).L []) e1) hp1) none
  simp only [x1,x2] at q2e
  rw [← q2e] at g2
  obtain ⟨ex,e2,sl2,hp2,ef2,hev2,en2,hm2⟩:=XY A2 en1 g2
  have hx2:ex=.normal∧(e2 2).rd=.ptr 0 0∧(e2 6).rd=.int .i64 i∧hp2=hp1∧ef2=none:=by
   cases ex with
   | normal =>
    have:=Option.some.inj hm2
    obtain ⟨a,b⟩:=ZuB (congrArg (fun x=>x.1) this)
    exact ⟨rfl,a,b,congrArg (fun x=>x.2.1) this,congrArg (fun x=>x.2.2) this⟩
   | ret=>cases hm2
   | exit i=>cases hm2
  obtain ⟨rfl,y2,y6,rfl,rfl⟩:=hx2
  refine ZbK (E := ⟨W,still,W⟩) hkk.mixed hkk.globals (WV hkk N) (Gj (WV hkk N)) (takes := takes) (res := [4]) (C1 L).L (.seq (.seq q4 (.seq q5 (.cond (.tmp 58) brC .skip))) J1) (r := ⟨sl2,hp2,none,([]:HP).length⟩) (fun Γ a w hI2=>?_) [(q3,r3)] (fun p hp=>?_) hev2 hI1
  rotate_left
  ·simp only [List.mem_cons,List.not_mem_nil,or_false] at hp
   subst hp; exact c3
  have g3:=ZqY (C1 L).G (Zy (C1 L) N) (C1 L).L m i di hdi hp2 h0
  have q3e:=congrFun (congrFun (congrFun (Zjz (C1 L).G (Zy (C1 L) N) (C1 L).L []) e2) hp2) none
  simp only [y2,y6] at q3e
  rw [← q3e] at g3
  obtain ⟨ex,e3,sl3,hp3,ef3,hev3,en3,hm3⟩:=XY A3 en2 g3
  have hx3:ex=.normal∧(e3 2).rd=.ptr 0 0∧(e3 6).rd=.int .i64 i∧(e3 7).rd=.int .i64 di.Laws.length∧(e3 58).rd=.bool (decide (0 < di.Laws.length))∧hp3=hp2∧ef3=none:=by
   cases ex with
   | normal =>
    have:=Option.some.inj hm3
    have h4:=congrArg (fun x=>x.1) this
    simp only [AV.tup.injEq,List.cons.injEq,and_true] at h4
    exact ⟨rfl,h4.1,h4.2.1,h4.2.2.1,h4.2.2.2,congrArg (fun x=>x.2.1) this,congrArg (fun x=>x.2.2) this⟩
   | ret=>cases hm3
   | exit i=>cases hm3
  obtain ⟨rfl,z2,z6,z7,z58,rfl,rfl⟩:=hx3
  refine Go.wp_seq ?_
  refine ZbK (E := ⟨W,still,W⟩) hkk.mixed hkk.globals (WV hkk N) (Gj (WV hkk N)) (takes := takes) (res := [4]) (C1 L).L (.cond (.tmp 58) brC .skip) (r := ⟨sl3,hp3,none,([]:HP).length⟩) (fun Γ a w hI3=>?_) [(q4,r4),(q5,r5)] (fun p hp=>?_) hev3 hI2
  rotate_left
  ·simp only [List.mem_cons,List.not_mem_nil,or_false] at hp
   rcases hp with rfl | rfl
   ·exact c4
   ·exact c5
  have w2:=Zi3 en3 (t := 2) (by decide) (by decide) z2 (fun _ _ h=>by cases h)
  have w6:=Zi3 en3 (t := 6) (by decide) (by decide) z6 (fun _ _ h=>by cases h)
  have w7:=Zi3 en3 (t := 7) (by decide) (by decide) z7 (fun _ _ h=>by cases h)
  have w58:=Zi3 en3 (t := 58) (by decide) (by decide) z58 (fun _ _ h=>by cases h)
  have hq:a.eval (.tmp 58)=.bool (decide (0 < di.Laws.length)):=by
   have r:=hI3.slots.rep 58 _ w58
   show a.tmps.getD 58 Go.undef=_
   generalize a.tmps.getD 58 Go.undef=u at r
   cases r; rfl
  by_cases hl:0 < di.Laws.length
  ·rw [decide_eq_true hl] at hq
   refine Go.wp_cond_true hq ?_
   exact ZiY ok hdi hs20 hl h0 f5 en3.len w2 w6 w7 hI3 fun sl' a' w' p1 p2 p3=>tail p1 p2 p3
  ·rw [decide_eq_false hl] at hq
   refine Go.wp_cond_false hq ?_
   exact Go.wp_skip (tail en3.len w2 hI3)
end Go.Proofs.YthkdlifcknpadaaGreat
end
section
namespace Go.Proofs.YthkdlifcknpadaaGreat
open Go Go.RowKit Go.Proofs.YthkdlifcknpadaaGreat.Abs Go.Proofs.YthkdlifcknpadaaGreat.Tl
theorem Zjc {H:Type}{c0:List AV}{d0:DataW H}(S0:Td Tryz.prog 26 c0 d0)(x1:Int)(b1:0≤x1∧x1≤255)(v0:Value)(W:World)(R0:Rep still W (.agg c0) v0) :
  Calls Tryz.prog 4 #[v0,.int .u8 x1] W fun e W'=>e=.returned (.bool true)∧Below W.heap.size W W':=by
 obtain ⟨m,rfl,ok⟩:=ZmG S0.of
 obtain ⟨k,rfl⟩:∃ k:Nat,x1=k:=⟨x1.toNat,by omega⟩
 exact Zdw W m ok k (by omega) v0 R0
end Go.Proofs.YthkdlifcknpadaaGreat
end
