import Derived.Test.YtlmfmmclnboglaaGreatRows
import Derived.WalkKit
import Derived.ProofKit
import Derived.OpenShut
import Derived.Deep.DeepHandedRow
import Derived.LaidSub
import Derived.LaidOnce
import Derived.SizedLaws
import Derived.Test.YtlmfmmclnboglaaGreatN6
set_option linter.all false
section
namespace Go.Proofs.YtlmfmmclnboglaaGreat
open Go Go.RowKit Go.Proofs.YtlmfmmclnboglaaGreat.Abs
set_option linter.all false
set_option maxRecDepth 100000
def orA (f:FuncId)(args:List AV):Option AV:=if f=Hu then (match args with | []=>some (.bool true) | _=>none) else none
theorem Zuh (W0:World):∀ f args v,orA f args=some v→Znd Tryz.prog W0 f args v:=by
 intro f args v h
 unfold orA at h
 split at h
 ·rename_i e; subst e
  split at h <;> cases h
  refine ⟨fun _ _ h=>(by cases h),fun Γ w xs hb hΓ hs hx=>?_⟩
  have hxs:xs=#[]:=Array.eq_empty_of_size_eq_zero hs
  subst hxs
  refine Zk6 Tryz.func9 (by kernel_rfl) rfl ((Zsl w).mono ?_)
  rintro e w' ⟨rfl,hb'⟩
  exact ⟨_,rfl,hb',.bool true⟩
 ·cases h
def O1 (f:FuncId)(args:List AV)(hp:List Zk):Option (AV×List Zk×Eff):=if f=Hu then (orA f args).map fun v=>(v,hp,none) else ZnU 153 2 24 f args hp
theorem ZuB (W0:World):Uc Tryz.prog W0 O1:=by
 intro f args hp v hp' e ho Γ w xs hr ht hs hx
 unfold O1 at ho
 split at ho
 ·exact Zh3 (Zuh W0) f args hp v hp' e ho Γ w xs hr ht hs hx
 ·exact ZrU W0 f args hp v hp' e ho Γ w xs hr ht hs hx
def C1:Cfg:=⟨fun _=>none,cT,O1,9223372036854775808⟩
theorem Zvc:Ud C1:=⟨rfl,Nat.le_refl _,fun n hp h1 h2=>⟨rfl,by
 show ZnU 153 2 24 153 [.own 2 [],.int .i64 n] hp=_
 have a:(2:Nat)=2∧0≤n∧n.toNat * 24≤140737488355328∧n.toNat≤140737488355328:=⟨rfl,h1,by omega,by omega⟩
 show (if (2:Nat)=2∧0≤n∧n.toNat * 24≤140737488355328∧n.toNat≤140737488355328 then some (AV.own 2 [],hp,none) else none)=(some (AV.own 2 [],hp,none):KR)
 rw [if_pos a]⟩⟩
theorem Zu8 (W0:World):ZnL Tryz.prog W0 C1 where
 mixed:=by kernel_rfl
 globals:=fun g cells h=>by cases h
 table:=fun f af h=>by
  have h:(tab.find? (·.1 == f)).map (·.2)=some af:=h
  obtain ⟨p,hp,rfl⟩:=Option.map_eq_some_iff.1 h
  have hf:=List.find?_some hp
  have:p.1=f:=by simpa using hf
  subst this
  exact Zse p (List.mem_of_find?_eq_some hp)
 oracle:=ZuB W0
theorem Zs9 (n:Nat)(h:1≤n)(hp:List Zk):Za C1 n Hu [] hp=some (.bool true,hp,none):=by
 obtain ⟨m,rfl⟩:∃ m,n=m + 1:=⟨n - 1,by omega⟩
 rfl
end Go.Proofs.YtlmfmmclnboglaaGreat
end
section
namespace Go.Proofs.YtlmfmmclnboglaaGreat
open Go Go.RowKit Go.Proofs.YtlmfmmclnboglaaGreat.Abs
set_option linter.all false
set_option maxRecDepth 100000
def Zs3 (s:List UInt8):List (List UInt8)→Nat→Int
 | [],_=>-1
 | x :: r,i=>if decide (x=s)=true then (i:Int) else Zs3 s r (i + 1)
theorem ZcP {α:Type}{row:α→List AV}{nm:α→List UInt8}(hn:∀ x,nameOf (row x)=nm x)(s:List UInt8):∀ (l:List α) (i:Nat),Xb (isN s) (l.map row) i=Zs3 s (l.map nm) i
 | [],_=>rfl
 | x :: r,i=>by
  have ih:=ZcP hn s r (i + 1)
  simp only [List.map_cons,Xb,Zs3,isN,hn,ih]
theorem Zfv (s:List UInt8):∀ (l:List (List UInt8)) (j i:Nat),l.Nodup→l[j]? = some s→Zs3 s l i=((i + j:Nat):Int)
 | [],j,i,_,h=>by simp at h
 | x :: r,0,i,_,h=>by
  have:x=s:=by simpa using h
  simp [Zs3,this]
 | x :: r,j + 1,i,hn,h=>by
  rw [List.nodup_cons] at hn
  have h':r[j]? = some s:=by simpa using h
  have hne:x≠s:=fun e=>hn.1 (e ▸ List.mem_of_getElem? h')
  have ih:=Zfv s r j (i + 1) hn.2 h'
  simp only [Zs3,hne,decide_false,Bool.false_eq_true,if_false,ih]
  congr 1; omega
def CQ (s:List UInt8):List (List UInt8×List (List UInt8))→List UInt8×Int
 | []=>([],-1)
 | (w,ns) :: r=>if ns.contains s=true then (w,Zs3 s ns 0) else CQ s r
theorem ZgB (s:List UInt8):∀ l:List (List UInt8×List (List UInt8)),l.Pairwise (fun a b=>∀ x ∈ a.2,x ∉ b.2)→(∀ p ∈ l,p.2.Nodup)→∀ (k j:Nat) (w:List UInt8) (ns:List (List UInt8)),l[k]? = some (w,ns)→ns[j]? = some s→CQ s l=(w,(j:Int))
 | [],_,_,k,j,w,ns,h,_=>by simp at h
 | (w0,n0) :: r,hp,hn,0,j,w,ns,h,hj=>by
  have e:(w0,n0)=(w,ns):=by simpa using h
  cases e
  have hm:n0.contains s=true:=by rw [List.contains_iff_mem]; exact List.mem_of_getElem? hj
  rw [CQ,if_pos hm,Zfv s n0 j 0 (hn _ (List.mem_cons_self ..)) hj]
  simp
 | (w0,n0) :: r,hp,hn,k + 1,j,w,ns,h,hj=>by
  rw [List.pairwise_cons] at hp
  have h':r[k]? = some (w,ns):=by simpa using h
  have hm:¬ n0.contains s=true:=fun hc=>hp.1 (w,ns) (List.mem_of_getElem? h') s (by simpa using hc) (List.mem_of_getElem? hj)
  rw [CQ,if_neg hm]
  exact ZgB s r hp.2 (fun p hp=>hn p (List.mem_cons_of_mem _ hp)) k j w ns h' hj
theorem OP {α:Type}{row:α→List AV}{nm:α→List UInt8}(hn:∀ x,nameOf (row x)=nm x)(s w:List UInt8)(l:List α)(r:List (List UInt8×List (List AV)))(r':List (List UInt8×List (List UInt8)))(h:O8 s r=CQ s r'):O8 s ((w,l.map row) :: r)=CQ s ((w,l.map nm) :: r'):=by
 rw [O8,CQ,← Zan hn s l 0,← ZcP hn s l 0]
 by_cases c:0≤Xb (isN s) (l.map row) 0
 ·simp [c]
 ·simp [c,h]
theorem ZnT (s:List UInt8)(d:Zl):O8 s (kinds (Zkz d))=CQ s (Bl d):=by
 have z:∀ l:List (List UInt8),l.map (fun x:List UInt8=>x)=l:=fun l=>by simp
 have c2:=fun (w:List UInt8) (l:List (List UInt8))=>OP (row := fun x:List UInt8=>[.str x]) (nm := fun x=>x) (fun _=>rfl) s w l
 simp only [z] at c2
 exact OP (row := Vw) (nm := fun x:He=>x.Name) (fun _=>rfl) _ _ _ _ _ <| OP (row := Z0) (nm := fun x:Y1=>x.Name) (fun _=>rfl) _ _ _ _ _ <| OP (row := Yz) (nm := fun x:QR=>x.Name) (fun _=>rfl) _ _ _ _ _ <| OP (row := WJ) (nm := fun x:Vo=>x.Name) (fun _=>rfl) _ _ _ _ _ <| c2 _ _ _ _ <| c2 _ _ _ _ <| c2 _ _ _ _ <| c2 _ _ _ _ <| c2 _ _ _ _ <| OP (row := Y6) (nm := fun x:X0=>x.Name) (fun _=>rfl) _ _ _ _ _ rfl
theorem Zsd {d:Zl}(h:Zad d=0):(Zfs ((Sr d).map Pj) []).1=0:=by
 rw [Ztq] at h
 unfold Zuw at h
 by_cases c:(Zfs ((Sr d).map Pj) []).1=0
 ·exact c
 ·rw [if_pos (by simp [c])] at h; exact h
theorem ZqG {d:Zl}(h:Zad d=0){k j:Nat}{w:List UInt8}{ns:List (List UInt8)}{s:List UInt8}(hk:(Bl d)[k]? = some (w,ns))(hj:ns[j]? = some s):O8 s (kinds (Zkz d))=(w,(j:Int)):=by
 have h0:=Zsd h
 rw [ZnT]
 refine ZgB s (Bl d) ?_ ?_ k j w ns hk hj
 ·have:=(ZnH _ _ h0).1
  have h2:((Sr d).map Zo8).Pairwise (fun a b=>∀ x ∈ a,x ∉ b):=List.pairwise_map.2 this
  rw [← Zfw] at h2
  exact List.pairwise_map.1 h2
 ·intro p hp
  have:p.2 ∈ (Sr d).map Zo8:=by rw [← Zfw]; exact List.mem_map_of_mem (f := (·.2)) hp
  obtain ⟨q,hq,e⟩:=List.mem_map.1 this
  rw [← e]
  exact ((ZnH _ _ h0).2 q hq).1
theorem ZmX {d:Zl}(h:Zad d=0){j:Nat}{s:List UInt8}(hj:(d.Routines.map (·.Name))[j]? = some s):Xb (isN s) (d.Routines.map Y6) 0=(j:Int):=by
 rw [ZcP (row := Y6) (nm := fun x:X0=>x.Name) (fun _=>rfl)]
 have hn:(d.Routines.map (·.Name)).Nodup:=by
  have:=((ZnH _ _ (Zsd h)).2 (16,d.Routines.map fun v=>(v.Name,IW v)) (by simp [Sr])).1
  simpa [Zo8,Function.comp_def] using this
 rw [Zfv s _ j 0 hn hj]; simp
theorem Zpw {m:Jm}(h:ZcT m=0):R9 m.Name=0∧ZhB m.Params=0∧m.Sites.length≠0∧Zh2 m=0∧Zjj m=0:=by
 unfold ZcT at h
 split at h
 ·rename_i c; simp [h] at c
 rename_i c1
 split at h
 ·rename_i c; simp [h] at c
 rename_i c2
 split at h
 ·omega
 rename_i c3
 split at h
 ·rename_i c; simp [h] at c
 rename_i c4
 refine ⟨by simpa using c1,by simpa using c2,fun e=>c3 (by simp [e]),by simpa using c4,h⟩
theorem Zqc {m:Jm}(h:Zh2 m=0):(m.Sites.map (·.Name)).Nodup∧(∀ d ∈ m.Sites,Zad d=0)∧m.Sites.length≤16:=by
 unfold Zh2 Q0 at h
 split at h
 ·cases h
 rename_i c
 have h':(Qu Zft (m.Sites.map fun d=>(d.Name,Zad d)) []).1=0:=by rw [Zhz]; exact h
 obtain ⟨_,_,h3,h4⟩:=ZmZ _ _ h'
 rw [List.map_map] at h3
 refine ⟨h3,fun d hd=>h4 (d.Name,Zad d) (List.mem_map_of_mem (f := fun d:Zl=>(d.Name,Zad d)) hd),by simp only [decide_eq_true_eq] at c; omega⟩
theorem ZrA {m:Jm}(h:Zh2 m=0){i:Nat}{d:Zl}(hi:m.Sites[i]? = some d):Xb (isN d.Name) (m.Sites.map Zh) 0=(i:Int):=by
 rw [ZcP (row := Zh) (nm := fun x:Zl=>x.Name) (fun _=>rfl)]
 rw [Zfv d.Name _ i 0 (Zqc h).1 (by rw [List.getElem?_map,hi]; rfl)]; simp
theorem Zs6 {m:Jm}{l:BN}{s:Zjz}(h:(ZdZ m l s).1=0):(ZdZ m l s).2=s ++ [Zko l]∧Zko l ∉ s∧l.From ∈ m.Sites.map (·.Name)∧l.To ∈ m.Sites.map (·.Name)∧l.From≠l.To∧btw l.Delay 1 1000000000=true:=by
 rw [ZqI] at h ⊢
 split at h
 ·cases h
 rename_i c1
 rw [if_neg c1]
 split at h
 ·cases h
 rename_i c2
 rw [if_neg c2]
 split at h
 ·cases h
 rename_i c3
 rw [if_neg c3]
 split at h
 ·cases h
 rename_i c4
 rw [if_neg c4]
 refine ⟨rfl,by simpa [Zko] using c4,?_,?_,by simpa using c2,by simpa using c3⟩
 ·by_cases hc:l.From ∈ m.Sites.map (·.Name)
  ·exact hc
  ·have:(m.Sites.map (·.Name)).contains l.From=false:=by rw [← Bool.not_eq_true,List.contains_iff_mem]; exact hc
   rw [this] at c1; simp at c1
 ·by_cases hc:l.To ∈ m.Sites.map (·.Name)
  ·exact hc
  ·have:(m.Sites.map (·.Name)).contains l.To=false:=by rw [← Bool.not_eq_true,List.contains_iff_mem]; exact hc
   rw [this] at c1; simp at c1
theorem ZpX (m:Jm):∀ (r:List BN) (s:Zjz),(Qu (ZdZ m) r s).1=0→(∀ l ∈ r,l.From ∈ m.Sites.map (·.Name)∧l.To ∈ m.Sites.map (·.Name)∧l.From≠l.To∧btw l.Delay 1 1000000000=true)∧(∀ p ∈ r.map Zko,p ∉ s)∧(r.map Zko).Nodup
 | [],s,_=>by simp
 | x :: r,s,h=>by
  by_cases hz:(ZdZ m x s).1=0
  ·obtain ⟨w1,w2,w3⟩:=Zs6 hz
   have e:Qu (ZdZ m) (x :: r) s=Qu (ZdZ m) r (s ++ [Zko x]):=by simp [Qu,hz,w1]
   rw [e] at h
   obtain ⟨i1,i2,i3⟩:=ZpX m r _ h
   refine ⟨fun l hl=>?_,fun p hp=>?_,?_⟩
   ·rcases List.mem_cons.1 hl with rfl | hl
    ·exact w3
    ·exact i1 l hl
   ·rw [List.map_cons] at hp
    rcases List.mem_cons.1 hp with rfl | hp
    ·exact w2
    ·exact fun hm=>i2 p hp (by simp [hm])
   ·rw [List.map_cons,List.nodup_cons]
    exact ⟨fun hm=>i2 _ hm (by simp),i3⟩
  ·have e:Qu (ZdZ m) (x :: r) s=ZdZ m x s:=by simp [Qu,hz]
   rw [e] at h; exact absurd h hz
theorem Zs7 {m:Jm}(h:Zjj m=0):(∀ l ∈ m.Links,l.From ∈ m.Sites.map (·.Name)∧l.To ∈ m.Sites.map (·.Name)∧l.From≠l.To∧btw l.Delay 1 1000000000=true)∧(m.Links.map Zko).Nodup∧m.Links.length≤32:=by
 unfold Zjj Q0 at h
 split at h
 ·cases h
 rename_i c
 obtain ⟨h1,_,h3⟩:=ZpX m _ _ h
 exact ⟨h1,h3,by simp only [decide_eq_true_eq] at c; omega⟩
theorem Zlv:∀ (ls:List BN) (i:Nat) (l:BN),(ls.map Zko).Nodup→ls[i]? = some l→Zea (isL l.From l.To) (ls.map Ko)=(l.Delay,true)
 | [],i,l,_,h=>by simp at h
 | x :: r,0,l,_,h=>by
  have:x=l:=by simpa using h
  subst this
  have e:isL x.From x.To (Ko x)=true:=by simp [isL,Ko]
  rw [List.map_cons,Zea,if_pos e]; rfl
 | x :: r,i + 1,l,hn,h=>by
  rw [List.map_cons,List.nodup_cons] at hn
  have h':r[i]? = some l:=by simpa using h
  have e:¬ isL l.From l.To (Ko x)=true:=by
   intro e
   have:x.From=l.From∧x.To=l.To:=by simpa [isL,Ko] using e
   exact hn.1 (List.mem_map.2 ⟨l,List.mem_of_getElem? h',by simp [Zko,this.1,this.2]⟩)
  rw [List.map_cons,Zea,if_neg e]
  exact Zlv r i l hn.2 h'
def ZaQ:List (List UInt8):=[[118,97,114],[114,101,115,111,117,114,99,101],[115,116,111,114,101],[98,101,108,116],[113,117,101,117,101],[115,116,114,101,97,109],[116,97,108,108,121],[108,101,118,101,108],[99,111,117,110,116],[114,111,117,116,105,110,101]]
theorem Zo3 {d:Zl}{k:Nat}{w:List UInt8}{ns:List (List UInt8)}(hk:(Bl d)[k]? = some (w,ns)):(strs ZaQ)[k]? = some [.str w]:=by
 have e:ZaQ=(Bl d).map (·.1):=rfl
 rw [e,strs,List.map_map,List.getElem?_map,hk]; rfl
theorem Zui (k:IntKind)(x:Int)(b:Bool)(h hp:HP):Zug (some (.tup [.int k x,.bool b],h,none)) hp=some (.tup [.int k x,.bool b],hp,none):=rfl
section
variable {C:Cfg}(K:KT)(hp0 hp:HP)(mo:Jm)(hm:RL mo)(h0:ZcT mo=0)(g:Nat)(tg:TypeId)(hg:hp[g]? = some (.cells (VM mo) tg))(hL:9223372036854775808≤C.L)
include hm hg
theorem Zny (k4:AV→AV→AV→AV→AV→HP→Eff→KR)(i:Nat)(d:Zl)(hi:mo.Sites[i]? = some d)(hE:Zad d=0)(rows:List (List AV))(k:Nat)(w:List UInt8)(ns:List (List UInt8))(hk:(Bl d)[k]? = some (w,ns))(hr:rows[k]? = some [.lst 1 (strs ns)])(hl:ns.length≤4611686018427387)
 (hK:∀ hp s,K Mm [.agg (Zh d),.str s] hp=some (.str (O8 s (kinds (Zkz d))).1,hp,none)) (hI:∀ hp s,K OE [.agg (Zh d),.str s] hp=some (.int .i64 (O8 s (kinds (Zkz d))).2,hp,none)) (hR:∀ hp s,K V7 [.agg (Zh d),.str s] hp=some (.int .i64 (Xb (isN s) (d.Routines.map Y6) 0),hp,none)):∀ (r q:List (List UInt8)) (m:Nat),ns=q ++ r→r.length < m →
  XA C.G K C.L hp0 k4 m (.ptr g 0) (.lst 1 (strs ZaQ)) (.int .i64 (i:Int)) (.lst 1 rows) (.int .i64 (k:Int)) (.int .i64 (q.length:Int)) hp none=k4 (.ptr g 0) (.lst 1 (strs ZaQ)) (.int .i64 (i:Int)) (.lst 1 rows) (.int .i64 (k:Int)) hp none
 | _,_,0,_,h=>by omega
 | [],q,m + 1,h,_=>by
  have ln:(strs ns).length=ns.length:=by simp [strs]
  have l0:=lp0 h
  simp only [XA,CO,Nat.reduceAdd,Nat.reduceLeDiff,Nat.reduceBEq,List.length_cons,List.length_nil,Qd,hr,ln,l0]
 | x :: r,q,m + 1,h,hm'=>by
  have ln:(strs ns).length=ns.length:=by simp [strs]
  obtain ⟨a1,a2,a3,a4,a5⟩:=lp (fun x:List UInt8=>[AV.str x]) h hl
  have g1:(strs ns)[q.length]? = some [.str x]:=a2
  have gn:ns[q.length]? = some x:=by rw [h]; simp
  have gs:(mo.Sites.map Zh)[i]? = some (Zh d):=by rw [List.getElem?_map,hi]; rfl
  have kg:=ZqG hE hk gn
  have wg:=Zo3 hk
  have ih:=Zny k4 i d hi hE rows k w ns hk hr hl hK hI hR r (q ++ [x]) m a4 (by simpa using hm')
  by_cases c9:k=9
  ·have c9':decide ((k:Int)=9)=true:=by simp only [decide_eq_true_eq]; omega
   have rg:Xb (isN x) (d.Routines.map Y6) 0=(q.length:Int):=by
    subst c9
    have e:ns=d.Routines.map (·.Name):=by have:=Option.some.inj hk; exact (congrArg Prod.snd this).symm
    exact ZmX hE (by rw [← e]; exact gn)
   simp only [XA,CO,Nat.reduceAdd,Nat.reduceLeDiff,Nat.reduceBEq,List.length_cons,List.length_nil,LG hg,U4,WK,Qd,hr,ln,a1,g1,a3,gs,hK,hI,hR,kg,wg,c9',rg,ne_eq,not_true_eq_false]
   exact ih
  ·have c9':decide ((k:Int)=9)=false:=by simp only [decide_eq_false_iff_not]; omega
   simp only [XA,CO,Nat.reduceAdd,Nat.reduceLeDiff,Nat.reduceBEq,List.length_cons,List.length_nil,LG hg,U4,WK,Qd,hr,ln,a1,g1,a3,gs,hK,hI,hR,kg,wg,c9',ne_eq,not_true_eq_false]
   exact ih
include hL
theorem Znx (k2:AV→AV→AV→HP→Eff→KR)(i:Nat)(d:Zl)(hi:mo.Sites[i]? = some d)(hd:YA d)(hE:Zad d=0)(rows:List (List AV))(hrows:rows=(Bl d).map fun p=>[AV.lst 1 (strs p.2)])
 (hK:∀ hp s,K Mm [.agg (Zh d),.str s] hp=some (.str (O8 s (kinds (Zkz d))).1,hp,none)) (hI:∀ hp s,K OE [.agg (Zh d),.str s] hp=some (.int .i64 (O8 s (kinds (Zkz d))).2,hp,none)) (hR:∀ hp s,K V7 [.agg (Zh d),.str s] hp=some (.int .i64 (Xb (isN s) (d.Routines.map Y6) 0),hp,none)):∀ (r q:List (List UInt8×List (List UInt8))) (m:Nat),Bl d=q ++ r→r.length < m →
  Qx C.G K C.L hp0 k2 m (.ptr g 0) (.lst 1 (strs ZaQ)) (.int .i64 (i:Int)) (.lst 1 rows) (.int .i64 (q.length:Int)) hp none=k2 (.ptr g 0) (.lst 1 (strs ZaQ)) (.int .i64 (i:Int)) hp none
 | _,_,0,_,h=>by omega
 | [],q,m + 1,h,_=>by
  have l0:decide ((q.length:Int) < (rows.length:Int))=false:=by rw [hrows,h]; simp
  simp only [Qx,CO,Nat.reduceAdd,Nat.reduceLeDiff,Nat.reduceBEq,List.length_cons,List.length_nil,l0]
 | p :: r,q,m + 1,h,hm'=>by
  have l10:(Bl d).length=10:=rfl
  have hq:q.length < 10:=by have:=congrArg List.length h; rw [l10] at this; simp at this; omega
  have hk:(Bl d)[q.length]? = some (p.1,p.2):=by rw [h]; simp
  have l0:decide ((q.length:Int) < (rows.length:Int))=true:=by rw [hrows,List.length_map,l10]; simp only [decide_eq_true_eq]; omega
  have hr:rows[q.length]? = some [.lst 1 (strs p.2)]:=by rw [hrows,List.getElem?_map,hk]; rfl
  have wr:IntKind.i64.wrap ((q.length:Int) + 1)=((q ++ [p]).length:Int):=by rw [U6 _ (by omega)]; simp
  have hl:p.2.length≤4611686018427387:=by
   have:p.2 ∈ (Sr d).map Zo8:=by rw [← Zfw]; exact List.mem_map_of_mem (f := (·.2)) (List.mem_of_getElem? hk)
   obtain ⟨z,hz,e⟩:=List.mem_map.1 this
   rw [← e,Zo8,List.length_map]; exact (Zq3 hd z hz).1
  have ih:=Znx k2 i d hi hd hE rows hrows hK hI hR r (q ++ [p]) m (by rw [h]; simp) (by simpa using hm')
  have l2:=Zny (C := C) K hp0 hp mo hm g tg hg (JL C.G K C.L hp0 (Qx C.G K C.L hp0 k2 m)) i d hi hE rows q.length p.1 p.2 hk hr hl hK hI hR p.2 [] C.L rfl (by omega)
  simp only [List.length_nil,Int.natCast_zero] at l2
  simp only [Qx,CO,Nat.reduceAdd,Nat.reduceLeDiff,Nat.reduceBEq,List.length_cons,List.length_nil,l0,l2,JL,wr,ih]
include h0
theorem Znw (k0:AV→HP→Eff→KR)(hS:∀ hp s,K Od [.agg (VM mo),.str s] hp=some (.int .i64 (Xb (isN s) (mo.Sites.map Zh) 0),hp,none))(hN:∀ hp,∀ d ∈ mo.Sites,K LA [.agg (Zh d)] hp=some (.lst 1 ((Bl d).map fun p=>[AV.lst 1 (strs p.2)]),hp,none))
 (hK:∀ d ∈ mo.Sites,∀ hp s,K Mm [.agg (Zh d),.str s] hp=some (.str (O8 s (kinds (Zkz d))).1,hp,none)) (hI:∀ d ∈ mo.Sites,∀ hp s,K OE [.agg (Zh d),.str s] hp=some (.int .i64 (O8 s (kinds (Zkz d))).2,hp,none)) (hR:∀ d ∈ mo.Sites,∀ hp s,K V7 [.agg (Zh d),.str s] hp=some (.int .i64 (Xb (isN s) (d.Routines.map Y6) 0),hp,none)):∀ (r q:List Zl) (m:Nat),mo.Sites=q ++ r→r.length < m →
  Qw C.G K C.L hp0 k0 m (.ptr g 0) (.lst 1 (strs ZaQ)) (.int .i64 (q.length:Int)) hp none=k0 (.ptr g 0) hp none
 | _,_,0,_,h=>by omega
 | [],q,m + 1,h,_=>by
  have l0:=lp0 h
  simp only [Qw,CO,Nat.reduceAdd,Nat.reduceLeDiff,Nat.reduceBEq,List.length_cons,List.length_nil,LG hg,U4,l0]
 | d :: r,q,m + 1,h,hm'=>by
  obtain ⟨a1,a2,a3,a4,a5⟩:=lp Zh h hm.l.2.1
  have hs0:=(Zpw h0).2.2.2.1
  have hi:mo.Sites[q.length]? = some d:=by rw [h]; simp
  have sg:=ZrA hs0 hi
  have ih:=Znw k0 hS hN hK hI hR r (q ++ [d]) m a4 (by simpa using hm')
  have l1:=Znx (C := C) K hp0 hp mo hm g tg hg hL (JM C.G K C.L hp0 (Qw C.G K C.L hp0 k0 m)) q.length d hi (hm.Sites.2 d a5) ((Zqc hs0).2.1 d a5) _ rfl (hK d a5) (hI d a5) (hR d a5) (Bl d) [] C.L rfl (by have:(Bl d).length=10:=rfl; omega)
  simp only [List.length_nil,Int.natCast_zero] at l1
  have hn:=fun hp=>hN hp d a5
  simp only [Qw,CO,Nat.reduceAdd,Nat.reduceLeDiff,Nat.reduceBEq,List.length_cons,List.length_nil,LG hg,U4,WK,a1,a2,a3,Qd,hS,sg,hn,l1,JM,ih,ne_eq,not_true_eq_false]
omit hL
theorem Znz (k6:HP→Eff→KR)(hV:∀ hp a b,K Pm [.agg (VM mo),.str a,.str b] hp=some (.tup [.int .i64 (Zea (isL a b) (mo.Links.map Ko)).1,.bool (Zea (isL a b) (mo.Links.map Ko)).2],hp,none)):∀ (r q:List BN) (m:Nat),mo.Links=q ++ r→r.length < m →
  Va C.G K C.L hp0 k6 m (.ptr g 0) (.int .i64 (q.length:Int)) hp none=k6 hp none
 | _,_,0,_,h=>by omega
 | [],q,m + 1,h,_=>by
  have l0:=lp0 h
  simp only [Va,CO,Nat.reduceAdd,Nat.reduceLeDiff,Nat.reduceBEq,List.length_cons,List.length_nil,LG hg,U4,l0]
 | l :: r,q,m + 1,h,hm'=>by
  obtain ⟨a1,a2,a3,a4,a5⟩:=lp Ko h hm.l.2.2
  have hl0:=Zs7 (Zpw h0).2.2.2.2
  have hi:mo.Links[q.length]? = some l:=by rw [h]; simp
  have vg:=Zlv mo.Links q.length l hl0.2.1 hi
  have dl:decide (l.Delay < 1)=false:=by
   have:=(hl0.1 l a5).2.2.2
   simp only [btw,Bool.and_eq_true,decide_eq_true_eq] at this
   simp only [decide_eq_false_iff_not]; omega
  have ih:=Znz k6 hV r (q ++ [l]) m a4 (by simpa using hm')
  simp only [Va,CO,Nat.reduceAdd,Nat.reduceLeDiff,Nat.reduceBEq,List.length_cons,List.length_nil,Zui,TUP,EX,LG hg,U4,Zaa,a1,a2,a3,Qd,hV,vg,dl,ih,ne_eq,not_true_eq_false]
end
theorem Zqj (hp:HP):Zeb Y9 1 [(.str [118,97,114]),(.str [114,101,115,111,117,114,99,101]),(.str [115,116,111,114,101]),(.str [98,101,108,116]),(.str [113,117,101,117,101]),(.str [115,116,114,101,97,109]),(.str [116,97,108,108,121]),(.str [108,101,118,101,108]),(.str [99,111,117,110,116]),(.str [114,111,117,116,105,110,101])] hp=some (.own 1 (strs ZaQ),hp):=rfl
theorem Zoa {C:Cfg}(hC:Ud C)(N:Nat)(hp:HP)(m0:Jm)(hN:SizeOf.sizeOf m0 + 26≤N)(hm:RL m0)(haw:∀ hp,Za C N Hu [] hp=some (.bool true,hp,none)):Za C (N + 1) M8 [.agg (VM m0)] hp=some (.bool true,hp,none):=by
 refine Zaz (by rw [hC.T]; rfl) ?_
 obtain ⟨lb,hl⟩:=Zq5 hC N (by omega) (hp ++ [Zk.cells (VM m0) Yd]) m0 hm
 have q1:=fun hp=>ZjI hC N hp m0 hN hm
 cases lb with
 | false=>simp only [KO,CO,Nat.reduceAdd,Nat.reduceLeDiff,Nat.reduceBEq,List.length_cons,List.length_nil,U4,hl,haw]
 | true =>
  by_cases h0:ZcT m0=0
  case neg=>simp only [KO,CO,Nat.reduceAdd,Nat.reduceLeDiff,Nat.reduceBEq,List.length_cons,List.length_nil,U4,hl,haw,q1,h0,ne_eq,not_false_eq_true]
  have gd:=ZY hp (.cells (VM m0) Yd)
  have l6:=Znz (C := C) (Za C N) hp _ m0 hm h0 hp.length Yd gd (JO C.G (Za C N) C.L hp) (fun hp a b=>by
   obtain ⟨n,rfl⟩:∃ n,N=n + 3:=⟨N - 3,by omega⟩
   have h:=Zsv hC n hp (Zpx m0) a b (Zmz hm)
   rw [ZjX] at h; exact h) m0.Links [] C.L rfl (by have:=hm.l; have:=hC.L; omega)
  have l0:=Znw (C := C) (Za C N) hp _ m0 hm h0 hp.length Yd gd hC.L (JN C.G (Za C N) C.L hp) (fun hp s=>Zez hC N (by omega) hp m0 s hm) (fun hp d hd=>by
   have h:=Zmq hC N (by omega) hp d (hm.Sites.2 d hd)
   have e:((Sr d).map fun p=>[AV.lst 1 (strs (p.2.map (·.1)))])=(Bl d).map fun p=>[AV.lst 1 (strs p.2)]:=by
    have:=congrArg (List.map fun ns=>[AV.lst 1 (strs ns)]) (Zfw d)
    rw [List.map_map,List.map_map] at this
    exact this.symm
   rw [e] at h; exact h) (fun d hd hp s=>by
   obtain ⟨n,rfl⟩:∃ n,N=n + 5:=⟨N - 5,by omega⟩
   exact Zsu hC n hp (Zkz d) s (Zh5 (hm.Sites.2 d hd))) (fun d hd hp s=>by
   obtain ⟨n,rfl⟩:∃ n,N=n + 5:=⟨N - 5,by omega⟩
   exact Zq6 hC n hp (Zkz d) s (Zh5 (hm.Sites.2 d hd))) (fun d hd hp s=>DL hC N (by omega) hp d s (hm.Sites.2 d hd)) m0.Sites [] C.L rfl (by have:=hm.l; have:=hC.L; omega)
  simp only [List.length_nil,Int.natCast_zero] at l6 l0
  have ra:AV.ro (.own 1 (strs ZaQ))=.lst 1 (strs ZaQ):=rfl
  simp only [KO,CO,Nat.reduceAdd,Nat.reduceLeDiff,Nat.reduceBEq,List.length_cons,List.length_nil,U4,hl,haw,q1,h0,ne_eq,not_true_eq_false,Zqj,ra,l0,JN,l6,JO]
end Go.Proofs.YtlmfmmclnboglaaGreat
end
section
namespace Go.Proofs.YtlmfmmclnboglaaGreat
open Go Go.RowKit Go.Proofs.YtlmfmmclnboglaaGreat.Abs
set_option linter.all false
set_option maxRecDepth 100000
theorem Zsm {H:Type}{c0:List AV}{d0:DataW H}(S0:Zak Tryz.prog 26 c0 d0)(v0:Value)(w:World)(hR:Rep still w (.agg c0) v0) :
  Calls Tryz.prog M8 #[v0] w fun e w'=>e=.returned (.bool true)∧Below w.heap.size w w':=by
 obtain ⟨m,rfl,hm⟩:=ZqP S0.of
 refine ZtN (Zu8 w) (Zoa Zvc _ [] m (Nat.le_refl _) hm (fun hp=>Zs9 _ (by omega) hp)) rfl fun j x hx=>?_
 match j,hx with
 | 0,hx=>cases hx; exact ⟨hR,fun k r e=>by cases e⟩
 | j + 1,hx=>simp at hx
end Go.Proofs.YtlmfmmclnboglaaGreat
end
section
namespace Go.Proofs.YtlmfmmclnboglaaGreat
open Go.ChangeShapes Go.WideShapes Go.ChangeAt Go.RowKit
set_option linter.all false
theorem own : ownKnob Tryz.prog.godebug = none := by kernel_rfl
noncomputable def laidWorld (os : Os) : World := World.holding Tryz.prog os ⟨#[], #[], []⟩
theorem laid_met (os : Os) (args : Array Value) : laidMet Tryz.prog [] ((laidWorld os).forCall (fun _ _ => 0) ⟨#[], args, []⟩).memory :=
 laidMet_of_run' 8 (by kernel_rfl) (by kernel_rfl)
end Go.Proofs.YtlmfmmclnboglaaGreat
end
section
namespace Go.Proofs.YtlmfmmclnboglaaGreat
namespace clModelNames
open Go.ChangeShapes Go.WideShapes Go.ChangeAt Go.RowKit
open Go.ChangeMaps (open_string shut_string)
set_option linter.all false
set_option maxRecDepth 100000 in
theorem contract (H : Type) (enc : TypeId × Value → H) (W : World) (base : Nat) (args : Array Value) (ds gs : List (DataW H)) (before : List MemPlace)
  (hval : ∀ (j : Nat) t v, Tryz.f5.params[j]? = some t → args[j]? = some v → Value.okWide Tryz.prog W .any base t v)
  (hW : DataW.Whole enc Tryz.prog Tryz.f5.params.toList Rows.modelNamesSpec.vars false W args.toList ds gs before)
  (hsz : (DataW.weightsEach Tryz.prog (Tryz.f5.params.toList ++ (OpenSpec.ofChange Rows.modelNamesSpec).bare.plain.varTypes Tryz.prog) (ds ++ gs)).all (· ≤ reachBytes) = true) (hL : laidMetH Tryz.prog Rows.modelNamesRow.laid W) :
  Calls Tryz.prog 5 args W fun e W' => ∃ v, e = .returned v ∧ Rows.modelNamesSpec.post enc Tryz.prog Tryz.f5 false true false false W args v W' := by
 have hW' := hW
 obtain ⟨p, q, hA0, hV, rfl, hfz, hnd⟩ := hW
 have hA : DataW.TrodAll enc Tryz.prog W 0 (fun _ => true) true Tryz.f5.params.toList args.toList ds p := hA0
 rw [Tryz.params5] at hA hval hsz
 obtain ⟨v0, vs0, d0, ds0, p0, q0, hargs, rfl, rfl, h0, r0⟩ := trodAll_cons hA
 obtain ⟨rfl, rfl, rfl⟩ := trodAll_nil r0
 obtain rfl : args = #[v0] := by cases args; simp_all
 obtain ⟨rfl, rfl⟩ := trodVars_none hV
 have g0 := Abs.sized_arg hsz (j := 0) (t := 26) rfl rfl
 obtain ⟨c0, R0, S0⟩ := Abs.argS_struct (Γ := Abs.still) (fun _ => rfl) ZqW (by kernel_rfl) Tryz.underlying26 (hval 0 26 v0 rfl rfl) h0 g0
 have F0 := fun (W' : World) (hb : Below W.heap.size W W') => Abs.arg_stays (by kernel_rfl) (by kernel_rfl) (of_decide_eq_true (by kernel_rfl)) h0 hb (fun p hp => hW'.lt p (by simp [hp]))
 clear hA0
 simp only [List.append_nil] at hW'
 refine (Zsm S0 v0 W R0).mono fun e W' ⟨he, hg⟩ => ?_
 subst he
 exact ⟨_, rfl, _, _, _, [], _, [], hW', trodAll_cons_mk (shut_bool Tryz.underlying4 _) trodAll_mk0, (trodAll_cons_mk (F0 W' hg) trodAll_mk0), rfl, hg.frame _, fun h => by cases h⟩
theorem reads (os : Os) {H : Type} (enc : TypeId × Value → H) : ∃ places, DataW.whole enc Tryz.prog ((laidWorld os).forCall (fun _ _ => 0) ⟨#[], #[.agg #[.string ⟨#[]⟩, .slice none 0 0, .slice none 0 0, .slice none 0 0]], []⟩).memory Tryz.f5.params.toList Rows.modelNamesSpec.vars false #[(Value.agg #[.string ⟨#[]⟩, .slice none 0 0, .slice none 0 0, .slice none 0 0])].toList 8 = some ([.agg [.lit (.string []), .nil, .nil, .nil]], [], places) :=
 ⟨[], by kernel_rfl⟩
set_option maxRecDepth 100000 in
theorem lifted (os : Os) (started : os.Started) (H : Type) (enc : TypeId × Value → H) (F : Stop.Interp) :
  ReturnsInHanded {} Tryz.checked os 5 .any ((OpenSpec.ofChange Rows.modelNamesSpec).preRow enc Tryz.prog Tryz.f5 Rows.modelNamesRow.domain false Rows.modelNamesRow.laid) (((OpenSpec.ofChange Rows.modelNamesSpec).at F).post enc Tryz.prog Tryz.f5 false true false false) := by
 obtain ⟨places, hx⟩ := reads os enc
 refine returnsInHanded_of_row (C := Tryz.checked) (s := OpenSpec.ofChange Rows.modelNamesSpec) own started (by kernel_rfl) Tryz.func5
  (witness_row_at (enc := enc) (C := Tryz.checked) false (laidWorld os) #[.agg #[.string ⟨#[]⟩, .slice none 0 0, .slice none 0 0, .slice none 0 0]] rfl (by kernel_rfl) (by kernel_rfl) (by kernel_rfl)
   (OpenSpec.preRow_of_cond 8 hx (by kernel_rfl) (fun k hk => by cases hk) (by kernel_rfl) (laid_met os _))) ?_
 intro W base args ds gs before hval hW _ _ hsz hL _ _
 exact contract H enc W base args ds gs before hval hW hsz hL
theorem said : Rows.ModelNamesSaid :=
 OpenClaim.holds_of_cond 5 Tryz.f5 rfl rfl rfl rfl rfl rfl rfl ⟨rfl, rfl, rfl, rfl, rfl⟩ rfl rfl rfl rfl rfl (by kernel_rfl) Tryz.func5 (by kernel_rfl)
  (of_decide_eq_true (by kernel_rfl)) (by unfold Func.isWrapper; first | (rw [if_pos (by decide +kernel)]; kernel_rfl) | (rw [if_neg (by decide +kernel)]; exact ⟨rfl, rfl⟩))
  (fun os started H enc _ F => by rw [OpenClaim.pre_eq_preRow]; exact lifted os started H enc F)
end clModelNames
end Go.Proofs.YtlmfmmclnboglaaGreat
end
