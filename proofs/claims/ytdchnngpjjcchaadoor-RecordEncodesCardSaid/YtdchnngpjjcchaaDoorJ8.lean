import Derived.Test.YtdchnngpjjcchaaDoorJ7
set_option linter.all false
section
namespace Go.Proofs.YtdchnngpjjcchaaDoor
open Go Go.RowKit Go.Proofs.YtdchnngpjjcchaaDoor.Abs
set_option maxRecDepth 100000
def okT:List TypeId:=[33,34,24,3,22,5]
theorem Zeo:ZbB Tryd.prog okT=true:=by kernel_rfl
theorem SS {H:Type}{r0:List (List AV)}{d:DataW H}(S:JC Tryd.prog 33 [.lst 6 r0] d):∃ l,r0=recs l∧(∀ r ∈ l,Qb r)∧l.length≤4611686018427387:=by
  obtain ⟨rows,h1,h2,h3⟩:=S.of.toSlice Tryd.underlying33
  rw [show Tryd.prog.cellsOf 24=6 by kernel_rfl] at h1
  rw [show Tryd.prog.bytesOf 24=48 by kernel_rfl] at h2
  obtain rfl:r0=rows:=by simpa using h1
  obtain ⟨l,h4,h5⟩:=NS (Q := Of Tryd.prog 24) (row := Yz) (ok := Qb) (fun r _ hr=>Zak hr) h3
  subst h4
  exact ⟨l,rfl,h5,by simp at h2; omega⟩
theorem Zd7 {r:List AV}(h:Of Tryd.prog 5 r):∃ c:UInt8,r=byteRow c∧True:=by
  obtain ⟨x,rfl,h1,h2⟩:=h.toInt Tryd.underlying5
  have a1:IntKind.u8.min=0:=rfl
  have a2:IntKind.u8.max=255:=rfl
  rw [a1] at h1
  rw [a2] at h2
  refine ⟨UInt8.ofNat x.toNat,?_,trivial⟩
  rw [byteRow,u8n _ (by omega)]
  congr 2
  omega
theorem Dw {H:Type}{r0:List (List AV)}{d:DataW H}(S:JC Tryd.prog 34 [.lst 1 r0] d):∃ l,r0=Zr l:=by
  obtain ⟨rows,h1,h2,h3⟩:=S.of.toSlice Tryd.underlying34
  rw [show Tryd.prog.cellsOf 5=1 by kernel_rfl] at h1
  obtain rfl:r0=rows:=by simpa using h1
  obtain ⟨l,h4,-⟩:=NS (Q := Of Tryd.prog 5) (row := byteRow) (ok := fun _=>True) (fun r _ hr=>Zd7 hr) h3
  exact ⟨l,h4⟩
theorem F7 {H:Type}{r0:List (List AV)}{d0:DataW H}(S0:JC Tryd.prog 33 [.lst 6 r0] d0)(v0:Value)(w:World)(hK:CfgOk Tryd.prog w CR)(hR0:Rep still w (.lst 6 r0) v0) :
    Calls Tryd.prog Wq #[v0] w fun e w'=>e=.returned (.bool true)∧Below w.heap.size w w':=by
  obtain ⟨l,rfl,ho,hl⟩:=SS S0
  refine P6 hK (OU 6 (Nat.le_refl _) [] l ho hl) rfl fun j x hx=>?_
  match j,hx with
  | 0,hx=>cases hx; exact ⟨hR0,fun k r e=>by cases e⟩
theorem F6 {H:Type}{r0:List (List AV)}{d0:DataW H}(S0:JC Tryd.prog 34 [.lst 1 r0] d0)(v0:Value)(w:World)(hK:CfgOk Tryd.prog w CR)(hR0:Rep still w (.lst 1 r0) v0) :
    Calls Tryd.prog Wp #[v0] w fun e w'=>e=.returned (.bool true)∧Below w.heap.size w w':=by
  obtain ⟨l,rfl⟩:=Dw S0
  refine P6 hK (OT 6 (Nat.le_refl _) [] l) rfl fun j x hx=>?_
  match j,hx with
  | 0,hx=>cases hx; exact ⟨hR0,fun k r e=>by cases e⟩
theorem Ze7 {H:Type}{r0 r2:List (List AV)}{d0 d2:DataW H}(S0:JC Tryd.prog 33 [.lst 6 r0] d0)(S2:JC Tryd.prog 34 [.lst 1 r2] d2)(x1:Int)(b1:0≤x1∧x1≤65535)(v0 v2:Value)(w:World)(hK:CfgOk Tryd.prog w CR)(hR0:Rep still w (.lst 6 r0) v0)(hR2:Rep still w (.lst 1 r2) v2) :
    Calls Tryd.prog Qg #[v0,.int .u16 x1,v2] w fun e w'=>e=.returned (.bool true)∧Below w.heap.size w w':=by
  obtain ⟨l,rfl,ho,hl⟩:=SS S0
  obtain ⟨more,rfl⟩:=Dw S2
  refine P6 hK (DT 6 (Nat.le_refl _) [] l ho x1 b1.1 b1.2 more) rfl fun j x hx=>?_
  match j,hx with
  | 0,hx=>cases hx; exact ⟨hR0,fun k r e=>by cases e⟩
  | 1,hx=>cases hx; exact ⟨.int _ _,fun k r e=>by cases e⟩
  | 2,hx=>cases hx; exact ⟨hR2,fun k r e=>by cases e⟩
end Go.Proofs.YtdchnngpjjcchaaDoor
end
section
namespace Go.Proofs.YtdchnngpjjcchaaDoor
open Go Go.RowKit Go.Proofs.YtdchnngpjjcchaaDoor.Abs
set_option maxRecDepth 100000
def Ls (i:Nat):Yx:=⟨i,0,16,0,0,i⟩
def Jg (k:Nat):List Yx:=(List.range k).map Ls
theorem Jh (k:Nat):(Jg k).length=k:=by simp [Jg]
theorem Ak (k:Nat):Jg (k + 1)=Jg k ++ [Ls k]:=by simp [Jg,List.range_succ]
theorem Zb4 (k:Nat)(hk:k≤1000000):∀ r ∈ Jg k,Qb r:=by
  intro r hr
  obtain ⟨i,hi,rfl⟩:=List.mem_map.1 hr
  have:=List.mem_range.1 hi
  constructor <;> simp only [Ls] <;> omega
theorem Za4 (i:Nat)(hi:i≤1000000):UU (Ls i)=0:=by
  unfold UU
  have h:¬ ((Ls i).What < 1∨18 < (Ls i).What):=by show ¬ ((16:Int) < 1∨(18:Int) < 16); omega
  rw [if_neg h]
  have a1:inB (i:Int) 1000000000=true:=by simp [inB]; omega
  have a2:inN (i:Int)=true:=by simp [inN]; omega
  rw [if_pos ⟨a1,rfl,rfl,rfl,a2⟩]
theorem DX:∀ (k i:Nat) (b:Int),b≤i→i + k≤1000000→GV b ((List.range' i k).map Ls)=0
  | 0,_,_,_,_=>rfl
  | k + 1,i,b,hb,hk=>by
    rw [List.range'_succ,List.map_cons,GV,Za4 i (by omega),if_neg (by simp),if_neg (by show ¬ ((i:Int) < b); omega)]
    exact DX k (i + 1) _ (by show (i:Int)≤_; omega) (by omega)
theorem FT (k:Nat)(hk:k≤50000):(encS (Jg k)).2=0:=by
  have h:=DX k 0 0 (by simp) (by omega)
  rw [← List.range_eq_range'] at h
  unfold encS
  rw [Jh,if_neg (by omega),if_neg (by unfold Jg; rw [h]; simp)]
def flat (l:List Yx):List AV:=(recs l).flatten
theorem Ti (l:List Yx):(flat l).length=6 * l.length:=by
  induction l with
  | nil=>rfl
  | cons r l ih=>show (Yz r ++ flat l).length=_; rw [List.length_append,ih,Y7,List.length_cons]; omega
theorem Ej (l m:List Yx):flat (l ++ m)=flat l ++ flat m:=by simp [flat,recs]
theorem LP:∀ l:List Yx,chunk 6 l.length (flat l)=recs l
  | []=>rfl
  | r :: l=>by
    show (Yz r ++ flat l).take 6 :: chunk 6 l.length ((Yz r ++ flat l).drop 6)=Yz r :: recs l
    rw [List.take_append_of_le_length (by rw [Y7]; exact Nat.le_refl _),List.drop_append_of_le_length (by rw [Y7]; exact Nat.le_refl _),List.take_of_length_le (by rw [Y7]; exact Nat.le_refl _),List.drop_of_length_le (by rw [Y7]; exact Nat.le_refl _),List.nil_append,LP l]
theorem AX (A Z R new:List AV)(off:Nat)(h1:A.length=off)(h2:Z.length=new.length):splice (A ++ (Z ++ R)) off new=A ++ (new ++ R):=by
  subst h1
  unfold splice
  rw [List.take_left,List.append_assoc]
  congr 2
  rw [← h2,← List.append_assoc,← List.length_append,List.drop_left]
theorem ZfQ (bs:Nat)(h:HP)(A Z R:List AV)(r:Yx)(t:TypeId)(off:Nat)(h1:A.length=off)(h2:Z.length=6)(h4:bs≤h.length):stV bs 6 (.ptr h.length off) (.agg (Yz r)) (h ++ [.cells (A ++ (Z ++ R)) t]) none=some (h ++ [.cells (A ++ (Yz r ++ R)) t],none):=by
  have e:(h ++ [Zi.cells (A ++ (Z ++ R)) t])[h.length]? = some (.cells (A ++ (Z ++ R)) t):=by simp
  simp only [stV,e]
  have hn:XQ bs none h.length 0=none:=by simp [XQ]; omega
  rw [if_pos ⟨rfl,by simp only [List.length_append]; omega,rfl⟩,hn,OB,AX A Z R (Yz r) off h1 (by rw [h2,Y7])]
  simp
theorem Fa (k:Nat):List.flatten (List.replicate k (Yz Qd))=flat (List.replicate k Qd):=by simp [flat,recs]
theorem ZcC (g n i:Nat)(h:i < n):ZZ (.slice 6) (.arr g 0 n 6) (.int .i64 i)=some (.ptr g (i * 6)):=by
  simp [ZZ]; omega
theorem FX (i:Nat):fill [(.int .i64 0),(.int .i64 0),(.int .i64 0),(.int .i64 0),(.int .i64 0),(.int .i64 0)] [(0,1,.int .i64 i),(2,1,.int .i64 16),(5,1,.int .i64 i)]=some (Yz (Ls i)):=rfl
theorem P8 {G:GT}{K:KT}{L:Nat}{hp0:HP}{t:TypeId}(k0:AV→AV→HP→Eff→KR)(n:Nat)(hn:n≤1000000):∀ (k i m:Nat),k + i=n→k < m →
    ZT G K L hp0 k0 m (.int .i64 n) (.arr hp0.length 0 n 6) (.int .i64 i) (hp0 ++ [.cells (flat (Jg i) ++ flat (List.replicate k Qd)) t]) none=k0 (.int .i64 n) (.arr hp0.length 0 n 6) (hp0 ++ [.cells (flat (Jg n)) t]) none
  | _,_,0,_,h=>absurd h (by omega)
  | 0,i,m + 1,hk,hm=>by
    obtain rfl:i=n:=by omega
    have a1:decide ((i:Int) < (i:Int))=false:=by simp
    have e:flat (List.replicate 0 Qd)=[]:=rfl
    simp only [ZT,EV,a1,Bool.false_eq_true,if_false,e,List.append_nil]
  | k + 1,i,m + 1,hk,hm=>by
    have a1:decide ((i:Int) < (n:Int))=true:=by simp; omega
    have i1:=ZcC hp0.length n i (by omega)
    have s1:=ZfQ hp0.length hp0 (flat (Jg i)) (Yz Qd) (flat (List.replicate k Qd)) (Ls i) t (i * 6) (by rw [Ti,Jh]; omega) rfl (Nat.le_refl _)
    have e1:flat (List.replicate (k + 1) Qd)=Yz Qd ++ flat (List.replicate k Qd):=rfl
    have e2:flat (Jg i) ++ (Yz (Ls i) ++ flat (List.replicate k Qd))=flat (Jg (i + 1)) ++ flat (List.replicate k Qd):=by
      rw [Ak,Ej,List.append_assoc]; rfl
    have ih:=P8 (G := G) (K := K) (L := L) (hp0 := hp0) (t := t) k0 n hn k (i + 1) m (by omega) (by omega)
    simp only [ZT,EV,a1,if_true,FX,i1,e1,s1,e2,wk i (by omega)]
    exact ih
theorem Zdy (hp0:HP)(l:List Yx)(t:TypeId)(w q:List Yx)(r:Yx)(h:l=w ++ r :: q):ZV (hp0 ++ [.cells (flat l) t]) 6 (.ptr hp0.length (w.length * 6))=some (.agg (Yz r)):=by
  have hf:flat l=flat w ++ (Yz r ++ flat q):=by rw [h,Ej]; rfl
  have hw:=Ti w
  rw [CY (WA hp0 _) 6 (w.length * 6) (by rw [hf]; simp only [List.length_append,Y7]; omega)]
  have:(flat l).drop (w.length * 6)=Yz r ++ flat q:=by rw [hf,show w.length * 6=(flat w).length by omega,List.drop_left]
  rw [this,List.take_append_of_le_length (by rw [Y7]; exact Nat.le_refl _),List.take_of_length_le (by rw [Y7]; exact Nat.le_refl _),Q9]
theorem EJ {G:GT}{K:KT}{L:Nat}{H:HP}{t:TypeId}{a:List Yx}(hb:a.length≤4611686018427387):∀ (q w:List Yx) (m:Nat),a=w ++ q→q.length < m →
    Y3 G K L (H ++ [.cells (flat a) t]) (WS G K L (H ++ [.cells (flat a) t])) m (.arr H.length 0 a.length 6) (.lst 6 (recs a)) (.int .i64 w.length) (H ++ [.cells (flat a) t]) none=some (.bool true,H ++ [.cells (flat a) t],none)
  | _,_,0,_,h=>absurd h (by omega)
  | [],w,m + 1,ha,hm=>by
    have a1:=lp0 ha
    have l1:∀ hp,ZR hp .slice (.arr H.length 0 a.length 6)=some (.int .i64 a.length):=fun _=>rfl
    simp only [Y3,WS,EV,l1,a1,Bool.false_eq_true,if_false]
  | x :: q,w,m + 1,ha,hm=>by
    obtain ⟨a1,a2,a3,a4,a5⟩:=lp Yz ha hb
    have l1:∀ hp,ZR hp .slice (.arr H.length 0 a.length 6)=some (.int .i64 a.length):=fun _=>rfl
    have i1:=ZcC H.length a.length w.length (by have:=congrArg List.length ha; simp at this; omega)
    have i2:ZZ (.slice 6) (.lst 6 (recs a)) (.int .i64 w.length)=some (.ref (Yz x)):=by rw [IA]; simp only [recs,a2,Option.map_some]
    have i3:∀ hp r,ZV hp 6 (.ref (Yz r))=some (.agg (Yz r)):=fun hp r=>by rw [Tv hp 6 _ (Nat.le_refl _),show (Yz r).take 6=Yz r from rfl,Q9]
    have i4:=Zdy H a t w q x ha
    have ih:=EJ (G := G) (K := K) (L := L) (H := H) (t := t) hb q (w ++ [x]) m a4 (by simpa using hm)
    have c1:decide (x=x)=true:=by simp
    simp only [Y3,EV,l1,a1,if_true,i1,i2,i3,i4,Ph,c1,Bool.not_true,Bool.false_eq_true,if_false,a3]
    exact ih
theorem FI {C:Cfg}(hC:VD C)(N:Nat)(hN:1≤N)(H:HP)(t:TypeId)(a:List Yx)(hb:a.length≤4611686018427387):Za C N Xp [.arr H.length 0 a.length 6,.lst 6 (recs a)] (H ++ [.cells (flat a) t])=some (.bool true,H ++ [.cells (flat a) t],none):=by
  obtain ⟨m,rfl,hm⟩:=fuel (C := C) (d := 0) hN
  refine IG (hC.T _ _ rfl) ?_
  have hL:=hC.L
  have l1:∀ hp,ZR hp .slice (.arr H.length 0 a.length 6)=some (.int .i64 a.length):=fun _=>rfl
  have l2:AV.ro (.arr H.length 0 a.length 6)=.arr H.length 0 a.length 6:=rfl
  have c:decide ((a.length:Int)≠(a.length:Int))=false:=by simp
  simp only [Jd,EV,YD,l1,l2,c,Bool.false_eq_true,if_false]
  exact EJ hb a [] C.L rfl (by omega)
theorem Zci (H:HP)(t:TypeId)(a:List Yx):rowsOf (H ++ [.cells (flat a) t]) (.arr H.length 0 a.length 6)=some (6,recs a):=by
  have e:(H ++ [Zi.cells (flat a) t])[H.length]? = some (.cells (flat a) t):=by simp
  simp only [rowsOf,e]
  rw [if_pos (by rw [Ti]; omega),List.drop_zero,LP]
theorem Zbi (N:Nat)(H:HP)(t:TypeId)(a:List Yx)(ho:∀ r ∈ a,Qb r):Za CR (N + 1) Zg [.arr H.length 0 a.length 6] (H ++ [.cells (flat a) t])=some (Oi a,H ++ [.cells (flat a) t],none):=by
  refine Zfh rfl ?_ N
  show (if Zg=Zg then (match rowsOf (H ++ [Zi.cells (flat a) t]) (.arr H.length 0 a.length 6) with | some (6,rows)=>orR Zg [.lst 6 rows] | _=>none) else orR Zg [.arr H.length 0 a.length 6])=_
  rw [if_pos rfl,Zci]
  exact (Zd6 a ho).1
theorem Zai (hp0:HP)(n:Nat)(hn:n≤1000000):PD Zl [(.int .i64 0),(.int .i64 0),(.int .i64 0),(.int .i64 0),(.int .i64 0),(.int .i64 0)] (.int .i64 n) hp0=some (.arr hp0.length 0 n 6,hp0 ++ [.cells (flat (List.replicate n Qd)) Zl]):=by
  simp only [PD]
  rw [if_pos ⟨by omega,by omega⟩,Int.toNat_natCast,JB,Fa]; rfl
theorem DU (N:Nat)(hN:6≤N)(hp0:HP)(n:Int):Za CR N Qh [.int .i64 n] hp0=some (.bool true,hp0,none):=by
  obtain ⟨k,rfl,hk⟩:=fuel (C := CR) (d := 5) hN
  obtain ⟨q,rfl⟩:∃ q,k=q + 1:=⟨k - 1,by omega⟩
  refine UT (Ky.T _ _ rfl) ?_
  have aw:=fun hp=>OV (q + 1) (by omega) hp
  by_cases hs:n < 0∨(100 < n∧n < 49998)∨50002 < n
  · have a1:((decide (n < 0) || (decide ((100:Int) < n) && decide (n < 49998))) || decide ((50002:Int) < n))=true:=by
      simp only [Bool.or_eq_true,Bool.and_eq_true,decide_eq_true_eq]; omega
    simp only [Wy,EV,a1,if_true,aw]
  · have a1:((decide (n < 0) || (decide ((100:Int) < n) && decide (n < 49998))) || decide ((50002:Int) < n))=false:=by
      simp only [Bool.or_eq_false_iff,Bool.and_eq_false_iff,decide_eq_false_iff_not]; omega
    obtain ⟨j,rfl⟩:∃ j:Nat,n=j:=⟨n.toNat,by omega⟩
    have hj:j≤50002:=by omega
    have hL:=Ky.L
    have lo:=P8 (G := CR.G) (K := Za CR (q + 1)) (L := CR.L) (hp0 := hp0) (t := Zl) (Yg CR.G (Za CR (q + 1)) CR.L hp0) j (by omega) j 0 CR.L (by omega) (by omega)
    have l0:flat (Jg 0) ++ flat (List.replicate j Qd)=flat (List.replicate j Qd):=rfl
    rw [l0] at lo
    have ms:=Zai hp0 j (by omega)
    have st:Wy CR.G (Za CR (q + 1)) CR.L (.int .i64 j) hp0=ZT CR.G (Za CR (q + 1)) CR.L hp0 (Yg CR.G (Za CR (q + 1)) CR.L hp0) CR.L (.int .i64 j) (.arr hp0.length 0 j 6) (.int .i64 ((0:Nat):Int)) (hp0 ++ [.cells (flat (List.replicate j Qd)) Zl]) none:=by
      simp only [Wy,EV,a1,Bool.false_eq_true,if_false,ms]
      rfl
    rw [st,lo]
    have ho:=Zb4 j (by omega)
    have c1:=Zbi q hp0 Zl (Jg j) ho
    rw [Jh] at c1
    unfold Oi at c1
    by_cases h5:50000 < j
    · have hS:encS (Jg j)=([],6):=by unfold encS; rw [Jh,if_pos h5]
      rw [hS] at c1
      have b1:decide ((50000:Int) < (j:Int))=true:=by simp; omega
      simp only [Yg,EV,c1,GI,b1,if_true,ZJ,aw]
      rfl
    · have b1:decide ((50000:Int) < (j:Int))=false:=by simp; omega
      have h0:=FT j (by omega)
      have hd:=Bv (Jg j) ho h0 []
      rw [List.append_nil] at hd
      obtain ⟨b,hB⟩:∃ b,(encS (Jg j)).1=b:=⟨_,rfl⟩
      rw [hB,h0] at c1
      rw [hB] at hd
      have c3:∀ hp,Za CR (q + 1) ZI [.lst 1 (Zr b)] hp=some (.tup [.lst 6 (recs (Jg j)),.int .i64 0],hp,none):=fun hp=>by
        have:=UD Ky (q + 1) (by omega) hp b
        unfold ZaP at this
        rw [hd] at this
        exact this
      have c4:=FI Ky.toVD (q + 1) (by omega) hp0 Zl (Jg j) (by rw [Jh]; omega)
      rw [Jh] at c4
      simp only [Yg,EV,c1,GI,b1,Bool.false_eq_true,if_false,c3,c4,aw]
      rfl
end Go.Proofs.YtdchnngpjjcchaaDoor
end
section
namespace Go.Proofs.YtdchnngpjjcchaaDoor
open Go Go.RowKit Go.Proofs.YtdchnngpjjcchaaDoor.Abs
theorem Ze8 (x0:Int)(w:World)(hK:CfgOk Tryd.prog w CR) :
    Calls Tryd.prog Qh #[.int .i64 x0] w fun e w'=>e=.returned (.bool true)∧Below w.heap.size w w':=by
  refine P6 hK (DU 6 (Nat.le_refl _) [] x0) rfl fun j x hx=>?_
  match j,hx with
  | 0,hx=>cases hx; exact ⟨.int _ _,fun k r e=>by cases e⟩
end Go.Proofs.YtdchnngpjjcchaaDoor
end
section
namespace Go.Proofs.YtdchnngpjjcchaaDoor
open Go Go.RowKit Go.Proofs.YtdchnngpjjcchaaDoor.Abs
set_option maxRecDepth 100000
abbrev SN (a:List UInt8):Prop:=∀ c ∈ a,c≠32
theorem Zf2 (c:UInt8)(l:List UInt8):([32]:List UInt8).isPrefixOf (c :: l)=(32 == c):=by simp [List.isPrefixOf]
theorem CQ:∀ (a rest:List UInt8),SN a→Lib.index (a ++ 32 :: rest) [32]=a.length
  | [],rest,_=>by rw [List.nil_append,Lib.index,Zf2]; rfl
  | x :: a,rest,h=>by
    have hx:(32 == x)=false:=by rw [beq_eq_false_iff_ne]; exact fun e=>h x (List.mem_cons_self ..) e.symm
    have ih:=CQ a rest fun c hc=>h c (List.mem_cons_of_mem _ hc)
    rw [List.cons_append,Lib.index,Zf2,hx,ih]
    have:((a.length:Int) == -1)=false:=by rw [beq_eq_false_iff_ne]; omega
    simp [this]
theorem ZgS {a:List UInt8}(h:SN a):a.count 32=0:=List.count_eq_zero.2 fun hm=>h 32 hm rfl
theorem U9 (a rest:List UInt8)(h:SN a):XB (a ++ 32 :: rest) [32]=a :: XB rest [32]:=by
  unfold XB Lib.split
  rw [Lib.count_one,Lib.count_one,List.count_append,ZgS h,List.count_cons_self,Nat.zero_add,Lib.splitK,CQ a rest h]
  have:((a.length:Int) == -1)=false:=by rw [beq_eq_false_iff_ne]; omega
  rw [this]
  simp only [Bool.false_eq_true,if_false,Int.toNat_natCast,Nat.add_zero,List.take_left,List.length_singleton]
  congr 2
  rw [← List.drop_drop,List.drop_left]; rfl
theorem ZaF (a:List UInt8)(h:SN a):XB a [32]=[a]:=by
  unfold XB Lib.split
  rw [Lib.count_one,ZgS h]; rfl
theorem SH (a b c d e f:List UInt8)(ha:SN a)(hb:SN b)(hc:SN c)(hd:SN d)(he:SN e)(hf:SN f):XB (Lib.join [a,b,c,d,e,f] [32]) [32]=[a,b,c,d,e,f]:=by
  rw [Zdw]
  simp only [List.singleton_append,List.cons_append,List.nil_append]
  rw [U9 a _ ha,U9 b _ hb,U9 c _ hc,U9 d _ hd,U9 e _ he,ZaF f hf]
theorem DL (k:Nat):∀ u:Nat,u≤k→SN (Lib.decDigits u):=by
  induction k with
  | zero =>
    intro u hu c hc e
    obtain rfl:u=0:=by omega
    rw [Num.decDigits_small 0 (by omega),e] at hc
    revert hc
    decide
  | succ k ih =>
    intro u hu c hc e
    subst e
    by_cases h:u < 10
    · rw [Num.decDigits_small u h,List.mem_singleton] at hc
      have:=congrArg UInt8.toNat hc
      rw [Num.digit_toNat u h] at this
      have e32:(32:UInt8).toNat=32:=rfl
      omega
    · rw [Num.decDigits_big u h,List.mem_append] at hc
      rcases hc with hc | hc
      · exact ih (u / 10) (by omega) 32 hc rfl
      · rw [List.mem_singleton] at hc
        have:=congrArg UInt8.toNat hc
        rw [Num.digit_toNat _ (by omega)] at this
        have e32:(32:UInt8).toNat=32:=rfl
        omega
theorem Tt (n:Int):SN (Lib.itoa n):=by
  by_cases h:0≤n
  · rw [Num.itoa_pos n h]; exact DL _ _ (Nat.le_refl _)
  · rw [Num.itoa_minus n (by omega)]
    intro c hc e
    subst e
    rcases List.mem_cons.1 hc with hc | hc
    · revert hc; decide
    · exact DL _ _ (Nat.le_refl _) 32 hc rfl
theorem Zcw:∀ w ∈ Q8,SN w:=by decide
theorem Zei (n:Int):SN (Jl n):=by
  unfold Jl
  by_cases h:(n - 1).toNat < Q8.length
  · rw [List.getD_eq_getElem?_getD,List.getElem?_eq_getElem h]
    exact Zcw _ (List.getElem_mem h)
  · rw [List.getD_eq_getElem?_getD,List.getElem?_eq_none (by omega)]
    intro c hc; simp at hc
theorem ZaK:∀ k:Fin 18,JE (Q8.getD k.1 [])=(k.1:Int) + 1:=by decide
theorem SK {n:Int}(h1:1≤n)(h2:n≤18):JE (Jl n)=n:=by
  have:=ZaK ⟨(n - 1).toNat,by omega⟩
  unfold Jl
  rw [this]
  show (((n - 1).toNat:Nat):Int) + 1=n
  omega
theorem U3 {n:Int}(h1:-1000000000000≤n)(h2:n≤1000000000000):Xm (Lib.itoa n)=n:=by
  unfold Xm
  rw [Num.parseI_itoa n (by omega) (by omega),if_pos ((Num.inB_iff n).2 ⟨h1,h2⟩)]
structure Zgc (r:Yx):Prop where
  T:0≤r.Time∧r.Time≤1000000000
  S:0≤r.Site∧r.Site≤15
  W:1≤r.What∧r.What≤18
  P:0≤r.Proc∧r.Proc≤1000000000000
  I:0≤r.Index∧r.Index≤63
  V:-1000000000000≤r.Value∧r.Value≤1000000000000
theorem Zds {r:Yx}(h:UU r=0):Zgc r:=by
  have w:=PR h
  unfold UU at h
  rw [if_neg (by omega)] at h
  split at h
  · rename_i g
    obtain ⟨g1,g2,g3,g4,g5⟩:=g
    simp only [inB,inN,Bool.and_eq_true,decide_eq_true_eq] at g1 g2 g3 g4 g5
    exact ⟨g1,g2,w,g3,g4,g5⟩
  · cases h
theorem RJ {r:Yx}(h:UU r=0):XB (textS r) [32]=[Lib.itoa r.Time,Lib.itoa r.Site,Jl r.What,Lib.itoa r.Proc,Lib.itoa r.Index,Lib.itoa r.Value]:=by
  unfold textS
  rw [if_neg (by simpa using h)]
  exact SH _ _ _ _ _ _ (Tt _) (Tt _) (Zei _) (Tt _) (Tt _) (Tt _)
theorem Za1 {r:Yx}(h:UU r=0):Zf1 (XB (textS r) [32])=r:=by
  have g:=Zds h
  rw [RJ h]
  have t:=g.T; have s:=g.S; have w:=g.W; have p:=g.P; have i:=g.I; have v:=g.V
  show (⟨Xm (Lib.itoa r.Time),Xm (Lib.itoa r.Site),JE (Jl r.What),Xm (Lib.itoa r.Proc),Xm (Lib.itoa r.Index),Xm (Lib.itoa r.Value)⟩:Yx)=r
  rw [U3 (by omega) (by omega),U3 (by omega) (by omega),SK w.1 w.2,U3 (by omega) (by omega),U3 (by omega) (by omega),U3 (by omega) (by omega)]
theorem Iq {r:Yx}(h:UU r=0):IE (textS r)=(r,0):=by
  unfold IE
  rw [Za1 h,RJ h]
  simp
theorem Zcp {r:Yx}(h:UU r≠0):textS r=[]:=by unfold textS; rw [if_pos h]
theorem parse_nil:IE []=(Qd,8):=by decide +kernel
theorem Zcq {r q:Yx}(hr:UU r=0)(hq:UU q=0):textS q=textS r↔q=r:=by
  constructor
  · intro h
    have:=congrArg IE h
    rw [Iq hr,Iq hq] at this
    exact congrArg Prod.fst this
  · rintro rfl; rfl
theorem Zcr (r:Yx)(ho:Qb r):(textS r).length≤200:=by
  unfold textS
  split
  · simp
  · have l1:=Lib.itoa_length_le r.Time ho.Time.1 ho.Time.2
    have l2:=Lib.itoa_length_le r.Site ho.Site.1 ho.Site.2
    have l3:=Lib.itoa_length_le r.Proc ho.Proc.1 ho.Proc.2
    have l4:=Lib.itoa_length_le r.Index ho.Index.1 ho.Index.2
    have l5:=Lib.itoa_length_le r.Value ho.Value.1 ho.Value.2
    have l6:=EO r.What
    rw [Zdw]
    simp only [List.length_append,List.length_cons,List.length_nil]
    omega
end Go.Proofs.YtdchnngpjjcchaaDoor
end
section
namespace Go.Proofs.YtdchnngpjjcchaaDoor
open Go Go.RowKit Go.Proofs.YtdchnngpjjcchaaDoor.Abs
set_option maxRecDepth 100000
theorem DR (N:Nat)(hN:6≤N)(hp0:HP)(r q:Yx)(hr:Qb r)(hq:Qb q):Za CR N Qe [.agg (Yz r),.agg (Yz q)] hp0=some (.bool true,hp0,none):=by
  obtain ⟨k,rfl,hk⟩:=fuel (C := CR) (d := 5) hN
  obtain ⟨m,rfl⟩:∃ m,k=m + 1:=⟨k - 1,by omega⟩
  refine UQ (Ky.T _ _ rfl) ?_
  have aw:=fun hp=>OV (m + 1) (by omega) hp
  have bx:=fun x=>Nz 6 (Yz x) rfl
  have tx:=fun hp x hx=>OW (m + 1) (by omega) hp x hx
  have t1:=fun hp=>tx hp r hr
  have t2:=fun hp=>tx hp q hq
  have k1:=fun hp=>OQ Ky.toVD (m + 1) (by omega) hp r
  have k2:=fun hp=>OQ Ky.toVD (m + 1) (by omega) hp q
  have p1:=fun hp=>Ig (m + 1) (by omega) hp (textS r) (by have:=Zcr r hr; omega)
  unfold ZgR at p1
  have sA:=fun (x:Yx)=>st_all hp0.length 6 (hp0 ++ [.cells (Yz r) Zl] ++ [.cells (Yz q) Zl]) (Yz Qd) (Yz x) Zl none rfl rfl (by simp)
  by_cases h:UU r=0
  · have b1:decide (UU r≠0)=false:=by simpa using h
    rw [Iq h] at p1
    have sB:=sA r
    have d1:(!(decide (r=r)) || decide ((0:Int)≠0))=false:=by simp
    have d2:(decide (UU q≠0) || (decide (textS q=textS r) == decide (q=r)))=true:=by
      by_cases hq0:UU q=0
      · have:=Zcq h hq0
        simp [this]
      · simp [hq0]
    simp only [Qi,EV,bx,LD,Y7,Q9,t1,p1,GI,JB,sB,k1,b1,Bool.false_eq_true,if_false,Ph,d1,QC,k2,t2,d2,aw]
    rfl
  · have b1:decide (UU r≠0)=true:=by simpa using h
    have e0:=Zcp h
    rw [e0] at p1 t1
    rw [parse_nil] at p1
    have sB:=sA Qd
    simp only [Qi,EV,bx,LD,Y7,Q9,t1,p1,GI,JB,sB,k1,b1,if_true,aw]
    rfl
theorem Ze6 {H:Type}{c0 c1:List AV}{d0 d1:DataW H}(S0:JC Tryd.prog 24 c0 d0)(S1:JC Tryd.prog 24 c1 d1)(v0 v1:Value)(w:World)(hK:CfgOk Tryd.prog w CR)(hR0:Rep still w (.agg c0) v0)(hR1:Rep still w (.agg c1) v1) :
    Calls Tryd.prog Qe #[v0,v1] w fun e w'=>e=.returned (.bool true)∧Below w.heap.size w w':=by
  obtain ⟨r,rfl,hr⟩:=Zak S0.of
  obtain ⟨q,rfl,hq⟩:=Zak S1.of
  refine P6 hK (DR 6 (Nat.le_refl _) [] r q hr hq) rfl fun j x hx=>?_
  match j,hx with
  | 0,hx=>cases hx; exact ⟨hR0,fun k r e=>by cases e⟩
  | 1,hx=>cases hx; exact ⟨hR1,fun k r e=>by cases e⟩
end Go.Proofs.YtdchnngpjjcchaaDoor
end
