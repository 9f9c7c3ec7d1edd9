import Derived.Deep.Slices
import Derived.ChangeArms
import Derived.DataReads
import Derived.WideKeyArgs
import Derived.SizedLaws
import Derived.Test.YtlmfmmclnboglaaGreatProg
import Derived.ProofKit
import Derived.LoopN
import Derived.Scope
import Derived.Orders
import Derived.Shelf.Spec.SlicesGrow
import Derived.Test.YtlmfmmclnboglaaGreatP4
set_option linter.all false
section
namespace Go.Proofs.YtlmfmmclnboglaaGreat
open Go Go.RowKit Go.Proofs.YtlmfmmclnboglaaGreat.Abs
set_option linter.all false
set_option maxRecDepth 100000
abbrev Seen:=List (List UInt8)
def Qd (s:List UInt8)(seen:Seen):Int×Seen:=if decide (Gv s≠0)=true then (Gv s,seen) else if seen.contains s=true then (4,seen) else (0,seen ++ [s])
def Xy (s:List UInt8)(rest:Int)(seen:Seen):Int×Seen:=if decide ((Qd s seen).1≠0)=true then Qd s seen else (rest,(Qd s seen).2)
def Kg (v:Jn):Int:=if (!(btw v.Ty 1 3))=true then 1 else if (!(ZkB v.Ty v.N))=true then 2 else 0
def Am (x:Q6):Int:=if (!(btw x.Room 1 1000))=true then 2 else if (decide (x.Policy < 1) || decide (3 < x.Policy))=true then 1 else 0
def Zhn (x:XK):Int:=if (!(btw x.Length 1 1000) || !(btw x.Step 1 1000))=true then 2 else 0
def WV {α σ:Type}(most:Int)(step:α→σ→Int×σ)(l:List α)(s:σ):Int×σ:=if decide (most < (l.length:Int))=true then (6,s) else Yz step l s
def CR {α:Type}(most:Int)(f:α→Int)(l:List α):Int:=if decide (most < (l.length:Int))=true then 6 else IL f l
def Does {σ:Type}(g:Nat)(es:σ→List (AV×AV))(s:σ)(hp:HP)(p:Int×σ)(r:KR):Prop:=Sc g (es s) (es p.2) hp p.1 r
theorem FB {C:Cfg}(hC:Xz C)(N:Nat)(hN:3≤N)(hp:HP)(g:Nat)(seen:Seen)(s:List UInt8)(hg:hp[g]? = some (.map (Oo seen)))(hs:s.length≤140737488351232):Does g Oo seen hp (Qd s seen) (Zc C N Yt [.map g,.str s] hp):=by
 obtain ⟨m,rfl⟩:∃ m,N=m + 1:=⟨N - 1,by omega⟩
 have q:=fun hp=>Pi hC m (by omega) hp s hs
 have hlt:g < hp.length:=(List.getElem?_eq_some_iff.1 hg).1
 by_cases h1:Gv s=0
 ·by_cases h2:seen.contains s=true
  ·have e:Qd s seen=(4,seen):=by simp only [Qd,h1,h2]; rfl
   have k:Zc C (m + 1) Yt [.map g,.str s] hp=some (.int .i64 4,hp,none):=by
    refine H8 (by rw [hC.T]; rfl) ?_
    simp only [J8,EV,q,h1,ZsM hg,h2,ne_eq,not_true_eq_false,decide_false,IFJ]
   rw [e,k]
   exact ⟨hp,none,rfl,Upd.refl hg,Efs.refl _ _⟩
  ·have h2':seen.contains s=false:=by simpa using h2
   have e:Qd s seen=(0,seen ++ [s]):=by simp only [Qd,h1,h2']; rfl
   have k:Zc C (m + 1) Yt [.map g,.str s] hp=some (Zq false hp (.int .i64 0) (hp.set g (.map (Oo (seen ++ [s])))) (some (g,0))):=by
    refine H8 (by rw [hC.T]; rfl) ?_
    have nt:Ak hp.length none g 0=some (g,0):=by simp [Ak,hlt,Eff.or]
    simp only [J8,EV,q,h1,ZsM hg,h2',ZxU hg s h2',nt,ne_eq,not_true_eq_false,decide_false,IFJ]
   rw [e,k]
   exact Sc.fin 0 hg (Upd.set hg) (.inr rfl)
 ·have e:Qd s seen=(Gv s,seen):=by simp [Qd,h1]
  have k:Zc C (m + 1) Yt [.map g,.str s] hp=some (.int .i64 (Gv s),hp,none):=by
   refine H8 (by rw [hC.T]; rfl) ?_
   simp only [J8,EV,q,h1,ne_eq,not_false_eq_true,decide_true,IFJ]
  rw [e,k]
  exact ⟨hp,none,rfl,Upd.refl hg,Efs.refl _ _⟩
theorem Zb8 {C:Cfg}{σ:Type}(K:KT)(hp0:HP)(fv:AV)(l:List Jn)(hl:l.length≤4611686018427387)(step:Jn→σ→Int×σ)(es:σ→List (AV×AV))(g:Nat)(Good:σ→HP→Prop)(hG:∀ s hp x,Good s hp→Good s (hp ++ [x]))
  (hS:∀ x ∈ l,∀ s hp,Good s hp→Does g es s hp (step x s) (Vz K fv [.agg (X9 x)] hp)∧∀ hp',Upd g (es (step x s).2) hp hp'→Good (step x s).2 hp') (s0:σ) (h0:hp0[g]? = some (.map (es s0))):∀ (r q:List Jn) (m:Nat) (hp:HP) (s:σ) (ef:Eff),l=q ++ r→r.length < m→Upd g (es s) hp0 hp→Efs g (es s0) (es s) ef→Good s hp →
  Sc g (es s0) (es (Yz step r s).2) hp0 (Yz step r s).1 (WK C.G K C.L hp0 (Xr C.G K C.L hp0) m fv (.lst 3 (l.map X9)) (.int .i64 (l.length:Int)) (.int .i64 (q.length:Int)) hp ef)
 | _,_,0,_,_,_,_,h,_,_,_=>by omega
 | [],q,m + 1,hp,s,ef,h,_,hu,he,_=>by
  have l0:=lp0 h
  have k:WK C.G K C.L hp0 (Xr C.G K C.L hp0) (m + 1) fv (.lst 3 (l.map X9)) (.int .i64 (l.length:Int)) (.int .i64 (q.length:Int)) hp ef=some (Zq false hp0 (.int .i64 0) hp ef):=by
   simp only [WK,Xr,EV,l0,IFJ]
  rw [k]
  exact Sc.fin 0 h0 hu he
 | x :: r,q,m + 1,hp,s,ef,h,hm,hu,he,hgd=>by
  obtain ⟨a1,a2,a3,a4,a5⟩:=lp X9 h hl
  have hlt:g < hp0.length:=(List.getElem?_eq_some_iff.1 h0).1
  obtain ⟨hS1,hS2⟩:=hS x a5 s (hp ++ [.cells (X9 x) LH]) (hG s hp _ hgd)
  obtain ⟨hp',ef',hc,hu',he'⟩:=hS1
  have hgd':=hS2 hp' hu'
  have hu2:=hu.trans hu'.off
  have he2:=he.after hlt he'
  by_cases hz:(step x s).1=0
  ·have ih:=Zb8 (C := C) K hp0 fv l hl step es g Good hG hS s0 h0 r (q ++ [x]) m hp' (step x s).2 (Zd hp0.length ef ef') a4 (by simpa using hm) hu2 he2 hgd'
   have e:Yz step (x :: r) s=Yz step r (step x s).2:=by simp [Yz,hz]
   rw [e]
   simp only [WK,CO,Nat.reduceAdd,Nat.reduceLeDiff,Nat.reduceBEq,List.length_cons,List.length_nil,Sb,STA hu.1,a1,a2,a3,Yp,hc,hz,ne_eq,not_true_eq_false]
   exact ih
  ·have e:Yz step (x :: r) s=step x s:=by simp [Yz,hz]
   rw [e]
   simp only [WK,CO,Nat.reduceAdd,Nat.reduceLeDiff,Nat.reduceBEq,List.length_cons,List.length_nil,Sb,STA hu.1,a1,a2,a3,Yp,hc,hz,ne_eq,not_false_eq_true]
   exact Sc.fin _ h0 hu2 he2
theorem Zst {C:Cfg}(hC:Xz C){σ:Type}(m:Nat)(hp:HP)(most:Int)(fv:AV)(hro:AV.ro fv=fv)(l:List Jn)(hl:l.length≤4611686018427387)(step:Jn→σ→Int×σ)(es:σ→List (AV×AV))(g:Nat)(Good:σ→HP→Prop)(hG:∀ s hp x,Good s hp→Good s (hp ++ [x]))
  (hS:∀ x ∈ l,∀ s hp,Good s hp→Does g es s hp (step x s) (Vz (Zc C m) fv [.agg (X9 x)] hp)∧∀ hp',Upd g (es (step x s).2) hp hp'→Good (step x s).2 hp') (s:σ) (hg:hp[g]? = some (.map (es s))) (h0:Good s hp) :
  Does g es s hp (WV most step l s) (Zc C (m + 1) Ud [.lst 3 (l.map X9),.int .i64 most,fv] hp):=by
 have h:=Zb8 (C := C) (Zc C m) hp fv l hl step es g Good hG hS s hg l [] C.L hp s none rfl (by have:=hC.L; omega) (Upd.refl hg) (Efs.refl _ _) h0
 simp only [List.length_nil,Int.natCast_zero] at h
 by_cases hz:most < (l.length:Int)
 ·have k:Zc C (m + 1) Ud [.lst 3 (l.map X9),.int .i64 most,fv] hp=some (.int .i64 6,hp,none):=by
   refine MH (by rw [hC.T]; rfl) ?_
   simp only [Uk,CO,Nat.reduceAdd,Nat.reduceLeDiff,Nat.reduceBEq,List.length_cons,List.length_nil,hz]
  have e:WV most step l s=(6,s):=by simp [WV,hz]
  rw [k,e]
  exact ⟨hp,none,rfl,Upd.refl hg,Efs.refl _ _⟩
 ·have e:WV most step l s=Yz step l s:=by simp [WV,hz]
  rw [e]
  obtain ⟨hp',ef,h1,h2,h3⟩:=h
  refine ⟨hp',ef,?_,h2,h3⟩
  refine MH (by rw [hC.T]; rfl) ?_
  simp only [Uk,CO,Nat.reduceAdd,Nat.reduceLeDiff,Nat.reduceBEq,List.length_cons,List.length_nil,hz,hro]
  exact h1
theorem RZ {C:Cfg}{σ:Type}(K:KT)(hp0:HP)(fv:AV)(l:List ZY)(hl:l.length≤4611686018427387)(step:ZY→σ→Int×σ)(es:σ→List (AV×AV))(g:Nat)(Good:σ→HP→Prop)(hG:∀ s hp x,Good s hp→Good s (hp ++ [x]))
  (hS:∀ x ∈ l,∀ s hp,Good s hp→Does g es s hp (step x s) (Vz K fv [.agg (Zu x)] hp)∧∀ hp',Upd g (es (step x s).2) hp hp'→Good (step x s).2 hp') (s0:σ) (h0:hp0[g]? = some (.map (es s0))):∀ (r q:List ZY) (m:Nat) (hp:HP) (s:σ) (ef:Eff),l=q ++ r→r.length < m→Upd g (es s) hp0 hp→Efs g (es s0) (es s) ef→Good s hp →
  Sc g (es s0) (es (Yz step r s).2) hp0 (Yz step r s).1 (Yv C.G K C.L hp0 (WZ C.G K C.L hp0) m fv (.lst 17 (l.map Zu)) (.int .i64 (l.length:Int)) (.int .i64 (q.length:Int)) hp ef)
 | _,_,0,_,_,_,_,h,_,_,_=>by omega
 | [],q,m + 1,hp,s,ef,h,_,hu,he,_=>by
  have l0:=lp0 h
  have k:Yv C.G K C.L hp0 (WZ C.G K C.L hp0) (m + 1) fv (.lst 17 (l.map Zu)) (.int .i64 (l.length:Int)) (.int .i64 (q.length:Int)) hp ef=some (Zq false hp0 (.int .i64 0) hp ef):=by
   simp only [Yv,WZ,EV,l0,IFJ]
  rw [k]
  exact Sc.fin 0 h0 hu he
 | x :: r,q,m + 1,hp,s,ef,h,hm,hu,he,hgd=>by
  obtain ⟨a1,a2,a3,a4,a5⟩:=lp Zu h hl
  have hlt:g < hp0.length:=(List.getElem?_eq_some_iff.1 h0).1
  obtain ⟨hS1,hS2⟩:=hS x a5 s (hp ++ [.cells (Zu x) WA]) (hG s hp _ hgd)
  obtain ⟨hp',ef',hc,hu',he'⟩:=hS1
  have hgd':=hS2 hp' hu'
  have hu2:=hu.trans hu'.off
  have he2:=he.after hlt he'
  by_cases hz:(step x s).1=0
  ·have ih:=RZ (C := C) K hp0 fv l hl step es g Good hG hS s0 h0 r (q ++ [x]) m hp' (step x s).2 (Zd hp0.length ef ef') a4 (by simpa using hm) hu2 he2 hgd'
   have e:Yz step (x :: r) s=Yz step r (step x s).2:=by simp [Yz,hz]
   rw [e]
   simp only [Yv,CO,Nat.reduceAdd,Nat.reduceLeDiff,Nat.reduceBEq,List.length_cons,List.length_nil,Qg,STA hu.1,a1,a2,a3,Yp,hc,hz,ne_eq,not_true_eq_false]
   exact ih
  ·have e:Yz step (x :: r) s=step x s:=by simp [Yz,hz]
   rw [e]
   simp only [Yv,CO,Nat.reduceAdd,Nat.reduceLeDiff,Nat.reduceBEq,List.length_cons,List.length_nil,Qg,STA hu.1,a1,a2,a3,Yp,hc,hz,ne_eq,not_false_eq_true]
   exact Sc.fin _ h0 hu2 he2
theorem Zfg {C:Cfg}(hC:Xz C){σ:Type}(m:Nat)(hp:HP)(most:Int)(fv:AV)(hro:AV.ro fv=fv)(l:List ZY)(hl:l.length≤4611686018427387)(step:ZY→σ→Int×σ)(es:σ→List (AV×AV))(g:Nat)(Good:σ→HP→Prop)(hG:∀ s hp x,Good s hp→Good s (hp ++ [x]))
  (hS:∀ x ∈ l,∀ s hp,Good s hp→Does g es s hp (step x s) (Vz (Zc C m) fv [.agg (Zu x)] hp)∧∀ hp',Upd g (es (step x s).2) hp hp'→Good (step x s).2 hp') (s:σ) (hg:hp[g]? = some (.map (es s))) (h0:Good s hp) :
  Does g es s hp (WV most step l s) (Zc C (m + 1) Vd [.lst 17 (l.map Zu),.int .i64 most,fv] hp):=by
 have h:=RZ (C := C) (Zc C m) hp fv l hl step es g Good hG hS s hg l [] C.L hp s none rfl (by have:=hC.L; omega) (Upd.refl hg) (Efs.refl _ _) h0
 simp only [List.length_nil,Int.natCast_zero] at h
 by_cases hz:most < (l.length:Int)
 ·have k:Zc C (m + 1) Vd [.lst 17 (l.map Zu),.int .i64 most,fv] hp=some (.int .i64 6,hp,none):=by
   refine Gu (by rw [hC.T]; rfl) ?_
   simp only [Vf,CO,Nat.reduceAdd,Nat.reduceLeDiff,Nat.reduceBEq,List.length_cons,List.length_nil,hz]
  have e:WV most step l s=(6,s):=by simp [WV,hz]
  rw [k,e]
  exact ⟨hp,none,rfl,Upd.refl hg,Efs.refl _ _⟩
 ·have e:WV most step l s=Yz step l s:=by simp [WV,hz]
  rw [e]
  obtain ⟨hp',ef,h1,h2,h3⟩:=h
  refine ⟨hp',ef,?_,h2,h3⟩
  refine Gu (by rw [hC.T]; rfl) ?_
  simp only [Vf,CO,Nat.reduceAdd,Nat.reduceLeDiff,Nat.reduceBEq,List.length_cons,List.length_nil,hz,hro]
  exact h1
theorem Nj {C:Cfg}{σ:Type}(K:KT)(hp0:HP)(fv:AV)(l:List Q6)(hl:l.length≤4611686018427387)(step:Q6→σ→Int×σ)(es:σ→List (AV×AV))(g:Nat)(Good:σ→HP→Prop)(hG:∀ s hp x,Good s hp→Good s (hp ++ [x]))
  (hS:∀ x ∈ l,∀ s hp,Good s hp→Does g es s hp (step x s) (Vz K fv [.agg (Yo x)] hp)∧∀ hp',Upd g (es (step x s).2) hp hp'→Good (step x s).2 hp') (s0:σ) (h0:hp0[g]? = some (.map (es s0))):∀ (r q:List Q6) (m:Nat) (hp:HP) (s:σ) (ef:Eff),l=q ++ r→r.length < m→Upd g (es s) hp0 hp→Efs g (es s0) (es s) ef→Good s hp →
  Sc g (es s0) (es (Yz step r s).2) hp0 (Yz step r s).1 (Y7 C.G K C.L hp0 (Qx C.G K C.L hp0) m fv (.lst 3 (l.map Yo)) (.int .i64 (l.length:Int)) (.int .i64 (q.length:Int)) hp ef)
 | _,_,0,_,_,_,_,h,_,_,_=>by omega
 | [],q,m + 1,hp,s,ef,h,_,hu,he,_=>by
  have l0:=lp0 h
  have k:Y7 C.G K C.L hp0 (Qx C.G K C.L hp0) (m + 1) fv (.lst 3 (l.map Yo)) (.int .i64 (l.length:Int)) (.int .i64 (q.length:Int)) hp ef=some (Zq false hp0 (.int .i64 0) hp ef):=by
   simp only [Y7,Qx,EV,l0,IFJ]
  rw [k]
  exact Sc.fin 0 h0 hu he
 | x :: r,q,m + 1,hp,s,ef,h,hm,hu,he,hgd=>by
  obtain ⟨a1,a2,a3,a4,a5⟩:=lp Yo h hl
  have hlt:g < hp0.length:=(List.getElem?_eq_some_iff.1 h0).1
  obtain ⟨hS1,hS2⟩:=hS x a5 s (hp ++ [.cells (Yo x) VQ]) (hG s hp _ hgd)
  obtain ⟨hp',ef',hc,hu',he'⟩:=hS1
  have hgd':=hS2 hp' hu'
  have hu2:=hu.trans hu'.off
  have he2:=he.after hlt he'
  by_cases hz:(step x s).1=0
  ·have ih:=Nj (C := C) K hp0 fv l hl step es g Good hG hS s0 h0 r (q ++ [x]) m hp' (step x s).2 (Zd hp0.length ef ef') a4 (by simpa using hm) hu2 he2 hgd'
   have e:Yz step (x :: r) s=Yz step r (step x s).2:=by simp [Yz,hz]
   rw [e]
   simp only [Y7,CO,Nat.reduceAdd,Nat.reduceLeDiff,Nat.reduceBEq,List.length_cons,List.length_nil,LC,STA hu.1,a1,a2,a3,Yp,hc,hz,ne_eq,not_true_eq_false]
   exact ih
  ·have e:Yz step (x :: r) s=step x s:=by simp [Yz,hz]
   rw [e]
   simp only [Y7,CO,Nat.reduceAdd,Nat.reduceLeDiff,Nat.reduceBEq,List.length_cons,List.length_nil,LC,STA hu.1,a1,a2,a3,Yp,hc,hz,ne_eq,not_false_eq_true]
   exact Sc.fin _ h0 hu2 he2
theorem Zk3 {C:Cfg}(hC:Xz C){σ:Type}(m:Nat)(hp:HP)(most:Int)(fv:AV)(hro:AV.ro fv=fv)(l:List Q6)(hl:l.length≤4611686018427387)(step:Q6→σ→Int×σ)(es:σ→List (AV×AV))(g:Nat)(Good:σ→HP→Prop)(hG:∀ s hp x,Good s hp→Good s (hp ++ [x]))
  (hS:∀ x ∈ l,∀ s hp,Good s hp→Does g es s hp (step x s) (Vz (Zc C m) fv [.agg (Yo x)] hp)∧∀ hp',Upd g (es (step x s).2) hp hp'→Good (step x s).2 hp') (s:σ) (hg:hp[g]? = some (.map (es s))) (h0:Good s hp) :
  Does g es s hp (WV most step l s) (Zc C (m + 1) VA [.lst 3 (l.map Yo),.int .i64 most,fv] hp):=by
 have h:=Nj (C := C) (Zc C m) hp fv l hl step es g Good hG hS s hg l [] C.L hp s none rfl (by have:=hC.L; omega) (Upd.refl hg) (Efs.refl _ _) h0
 simp only [List.length_nil,Int.natCast_zero] at h
 by_cases hz:most < (l.length:Int)
 ·have k:Zc C (m + 1) VA [.lst 3 (l.map Yo),.int .i64 most,fv] hp=some (.int .i64 6,hp,none):=by
   refine IM (by rw [hC.T]; rfl) ?_
   simp only [VE,CO,Nat.reduceAdd,Nat.reduceLeDiff,Nat.reduceBEq,List.length_cons,List.length_nil,hz]
  have e:WV most step l s=(6,s):=by simp [WV,hz]
  rw [k,e]
  exact ⟨hp,none,rfl,Upd.refl hg,Efs.refl _ _⟩
 ·have e:WV most step l s=Yz step l s:=by simp [WV,hz]
  rw [e]
  obtain ⟨hp',ef,h1,h2,h3⟩:=h
  refine ⟨hp',ef,?_,h2,h3⟩
  refine IM (by rw [hC.T]; rfl) ?_
  simp only [VE,CO,Nat.reduceAdd,Nat.reduceLeDiff,Nat.reduceBEq,List.length_cons,List.length_nil,hz,hro]
  exact h1
theorem NS {C:Cfg}{σ:Type}(K:KT)(hp0:HP)(fv:AV)(l:List XK)(hl:l.length≤4611686018427387)(step:XK→σ→Int×σ)(es:σ→List (AV×AV))(g:Nat)(Good:σ→HP→Prop)(hG:∀ s hp x,Good s hp→Good s (hp ++ [x]))
  (hS:∀ x ∈ l,∀ s hp,Good s hp→Does g es s hp (step x s) (Vz K fv [.agg (YL x)] hp)∧∀ hp',Upd g (es (step x s).2) hp hp'→Good (step x s).2 hp') (s0:σ) (h0:hp0[g]? = some (.map (es s0))):∀ (r q:List XK) (m:Nat) (hp:HP) (s:σ) (ef:Eff),l=q ++ r→r.length < m→Upd g (es s) hp0 hp→Efs g (es s0) (es s) ef→Good s hp →
  Sc g (es s0) (es (Yz step r s).2) hp0 (Yz step r s).1 (YC C.G K C.L hp0 (Q7 C.G K C.L hp0) m fv (.lst 3 (l.map YL)) (.int .i64 (l.length:Int)) (.int .i64 (q.length:Int)) hp ef)
 | _,_,0,_,_,_,_,h,_,_,_=>by omega
 | [],q,m + 1,hp,s,ef,h,_,hu,he,_=>by
  have l0:=lp0 h
  have k:YC C.G K C.L hp0 (Q7 C.G K C.L hp0) (m + 1) fv (.lst 3 (l.map YL)) (.int .i64 (l.length:Int)) (.int .i64 (q.length:Int)) hp ef=some (Zq false hp0 (.int .i64 0) hp ef):=by
   simp only [YC,Q7,EV,l0,IFJ]
  rw [k]
  exact Sc.fin 0 h0 hu he
 | x :: r,q,m + 1,hp,s,ef,h,hm,hu,he,hgd=>by
  obtain ⟨a1,a2,a3,a4,a5⟩:=lp YL h hl
  have hlt:g < hp0.length:=(List.getElem?_eq_some_iff.1 h0).1
  obtain ⟨hS1,hS2⟩:=hS x a5 s (hp ++ [.cells (YL x) UT]) (hG s hp _ hgd)
  obtain ⟨hp',ef',hc,hu',he'⟩:=hS1
  have hgd':=hS2 hp' hu'
  have hu2:=hu.trans hu'.off
  have he2:=he.after hlt he'
  by_cases hz:(step x s).1=0
  ·have ih:=NS (C := C) K hp0 fv l hl step es g Good hG hS s0 h0 r (q ++ [x]) m hp' (step x s).2 (Zd hp0.length ef ef') a4 (by simpa using hm) hu2 he2 hgd'
   have e:Yz step (x :: r) s=Yz step r (step x s).2:=by simp [Yz,hz]
   rw [e]
   simp only [YC,CO,Nat.reduceAdd,Nat.reduceLeDiff,Nat.reduceBEq,List.length_cons,List.length_nil,Ny,STA hu.1,a1,a2,a3,Yp,hc,hz,ne_eq,not_true_eq_false]
   exact ih
  ·have e:Yz step (x :: r) s=step x s:=by simp [Yz,hz]
   rw [e]
   simp only [YC,CO,Nat.reduceAdd,Nat.reduceLeDiff,Nat.reduceBEq,List.length_cons,List.length_nil,Ny,STA hu.1,a1,a2,a3,Yp,hc,hz,ne_eq,not_false_eq_true]
   exact Sc.fin _ h0 hu2 he2
theorem ZlY {C:Cfg}(hC:Xz C){σ:Type}(m:Nat)(hp:HP)(most:Int)(fv:AV)(hro:AV.ro fv=fv)(l:List XK)(hl:l.length≤4611686018427387)(step:XK→σ→Int×σ)(es:σ→List (AV×AV))(g:Nat)(Good:σ→HP→Prop)(hG:∀ s hp x,Good s hp→Good s (hp ++ [x]))
  (hS:∀ x ∈ l,∀ s hp,Good s hp→Does g es s hp (step x s) (Vz (Zc C m) fv [.agg (YL x)] hp)∧∀ hp',Upd g (es (step x s).2) hp hp'→Good (step x s).2 hp') (s:σ) (hg:hp[g]? = some (.map (es s))) (h0:Good s hp) :
  Does g es s hp (WV most step l s) (Zc C (m + 1) VT [.lst 3 (l.map YL),.int .i64 most,fv] hp):=by
 have h:=NS (C := C) (Zc C m) hp fv l hl step es g Good hG hS s hg l [] C.L hp s none rfl (by have:=hC.L; omega) (Upd.refl hg) (Efs.refl _ _) h0
 simp only [List.length_nil,Int.natCast_zero] at h
 by_cases hz:most < (l.length:Int)
 ·have k:Zc C (m + 1) VT [.lst 3 (l.map YL),.int .i64 most,fv] hp=some (.int .i64 6,hp,none):=by
   refine Oz (by rw [hC.T]; rfl) ?_
   simp only [VU,CO,Nat.reduceAdd,Nat.reduceLeDiff,Nat.reduceBEq,List.length_cons,List.length_nil,hz]
  have e:WV most step l s=(6,s):=by simp [WV,hz]
  rw [k,e]
  exact ⟨hp,none,rfl,Upd.refl hg,Efs.refl _ _⟩
 ·have e:WV most step l s=Yz step l s:=by simp [WV,hz]
  rw [e]
  obtain ⟨hp',ef,h1,h2,h3⟩:=h
  refine ⟨hp',ef,?_,h2,h3⟩
  refine Oz (by rw [hC.T]; rfl) ?_
  simp only [VU,CO,Nat.reduceAdd,Nat.reduceLeDiff,Nat.reduceBEq,List.length_cons,List.length_nil,hz,hro]
  exact h1
theorem Aa {C:Cfg}{σ:Type}(K:KT)(hp0:HP)(fv:AV)(l:List QI)(hl:l.length≤4611686018427387)(step:QI→σ→Int×σ)(es:σ→List (AV×AV))(g:Nat)(Good:σ→HP→Prop)(hG:∀ s hp x,Good s hp→Good s (hp ++ [x]))
  (hS:∀ x ∈ l,∀ s hp,Good s hp→Does g es s hp (step x s) (Vz K fv [.agg (Yr x)] hp)∧∀ hp',Upd g (es (step x s).2) hp hp'→Good (step x s).2 hp') (s0:σ) (h0:hp0[g]? = some (.map (es s0))):∀ (r q:List QI) (m:Nat) (hp:HP) (s:σ) (ef:Eff),l=q ++ r→r.length < m→Upd g (es s) hp0 hp→Efs g (es s0) (es s) ef→Good s hp →
  Sc g (es s0) (es (Yz step r s).2) hp0 (Yz step r s).1 (YN C.G K C.L hp0 (QJ C.G K C.L hp0) m fv (.lst 4 (l.map Yr)) (.int .i64 (l.length:Int)) (.int .i64 (q.length:Int)) hp ef)
 | _,_,0,_,_,_,_,h,_,_,_=>by omega
 | [],q,m + 1,hp,s,ef,h,_,hu,he,_=>by
  have l0:=lp0 h
  have k:YN C.G K C.L hp0 (QJ C.G K C.L hp0) (m + 1) fv (.lst 4 (l.map Yr)) (.int .i64 (l.length:Int)) (.int .i64 (q.length:Int)) hp ef=some (Zq false hp0 (.int .i64 0) hp ef):=by
   simp only [YN,QJ,EV,l0,IFJ]
  rw [k]
  exact Sc.fin 0 h0 hu he
 | x :: r,q,m + 1,hp,s,ef,h,hm,hu,he,hgd=>by
  obtain ⟨a1,a2,a3,a4,a5⟩:=lp Yr h hl
  have hlt:g < hp0.length:=(List.getElem?_eq_some_iff.1 h0).1
  obtain ⟨hS1,hS2⟩:=hS x a5 s (hp ++ [.cells (Yr x) WH]) (hG s hp _ hgd)
  obtain ⟨hp',ef',hc,hu',he'⟩:=hS1
  have hgd':=hS2 hp' hu'
  have hu2:=hu.trans hu'.off
  have he2:=he.after hlt he'
  by_cases hz:(step x s).1=0
  ·have ih:=Aa (C := C) K hp0 fv l hl step es g Good hG hS s0 h0 r (q ++ [x]) m hp' (step x s).2 (Zd hp0.length ef ef') a4 (by simpa using hm) hu2 he2 hgd'
   have e:Yz step (x :: r) s=Yz step r (step x s).2:=by simp [Yz,hz]
   rw [e]
   simp only [YN,CO,Nat.reduceAdd,Nat.reduceLeDiff,Nat.reduceBEq,List.length_cons,List.length_nil,Jk,STA hu.1,a1,a2,a3,Yp,hc,hz,ne_eq,not_true_eq_false]
   exact ih
  ·have e:Yz step (x :: r) s=step x s:=by simp [Yz,hz]
   rw [e]
   simp only [YN,CO,Nat.reduceAdd,Nat.reduceLeDiff,Nat.reduceBEq,List.length_cons,List.length_nil,Jk,STA hu.1,a1,a2,a3,Yp,hc,hz,ne_eq,not_false_eq_true]
   exact Sc.fin _ h0 hu2 he2
theorem Zok {C:Cfg}(hC:Xz C){σ:Type}(m:Nat)(hp:HP)(most:Int)(fv:AV)(hro:AV.ro fv=fv)(l:List QI)(hl:l.length≤4611686018427387)(step:QI→σ→Int×σ)(es:σ→List (AV×AV))(g:Nat)(Good:σ→HP→Prop)(hG:∀ s hp x,Good s hp→Good s (hp ++ [x]))
  (hS:∀ x ∈ l,∀ s hp,Good s hp→Does g es s hp (step x s) (Vz (Zc C m) fv [.agg (Yr x)] hp)∧∀ hp',Upd g (es (step x s).2) hp hp'→Good (step x s).2 hp') (s:σ) (hg:hp[g]? = some (.map (es s))) (h0:Good s hp) :
  Does g es s hp (WV most step l s) (Zc C (m + 1) Jt [.lst 4 (l.map Yr),.int .i64 most,fv] hp):=by
 have h:=Aa (C := C) (Zc C m) hp fv l hl step es g Good hG hS s hg l [] C.L hp s none rfl (by have:=hC.L; omega) (Upd.refl hg) (Efs.refl _ _) h0
 simp only [List.length_nil,Int.natCast_zero] at h
 by_cases hz:most < (l.length:Int)
 ·have k:Zc C (m + 1) Jt [.lst 4 (l.map Yr),.int .i64 most,fv] hp=some (.int .i64 6,hp,none):=by
   refine Tm (by rw [hC.T]; rfl) ?_
   simp only [Jw,CO,Nat.reduceAdd,Nat.reduceLeDiff,Nat.reduceBEq,List.length_cons,List.length_nil,hz]
  have e:WV most step l s=(6,s):=by simp [WV,hz]
  rw [k,e]
  exact ⟨hp,none,rfl,Upd.refl hg,Efs.refl _ _⟩
 ·have e:WV most step l s=Yz step l s:=by simp [WV,hz]
  rw [e]
  obtain ⟨hp',ef,h1,h2,h3⟩:=h
  refine ⟨hp',ef,?_,h2,h3⟩
  refine Tm (by rw [hC.T]; rfl) ?_
  simp only [Jw,CO,Nat.reduceAdd,Nat.reduceLeDiff,Nat.reduceBEq,List.length_cons,List.length_nil,hz,hro]
  exact h1
theorem Zg9 {C:Cfg}{σ:Type}(K:KT)(hp0:HP)(fv:AV)(l:List Zfy)(hl:l.length≤4611686018427387)(step:Zfy→σ→Int×σ)(es:σ→List (AV×AV))(g:Nat)(Good:σ→HP→Prop)(hG:∀ s hp x,Good s hp→Good s (hp ++ [x]))
  (hS:∀ x ∈ l,∀ s hp,Good s hp→Does g es s hp (step x s) (Vz K fv [.agg (EF x)] hp)∧∀ hp',Upd g (es (step x s).2) hp hp'→Good (step x s).2 hp') (s0:σ) (h0:hp0[g]? = some (.map (es s0))):∀ (r q:List Zfy) (m:Nat) (hp:HP) (s:σ) (ef:Eff),l=q ++ r→r.length < m→Upd g (es s) hp0 hp→Efs g (es s0) (es s) ef→Good s hp →
  Sc g (es s0) (es (Yz step r s).2) hp0 (Yz step r s).1 (WY C.G K C.L hp0 (XJ C.G K C.L hp0) m fv (.lst 3 (l.map EF)) (.int .i64 (l.length:Int)) (.int .i64 (q.length:Int)) hp ef)
 | _,_,0,_,_,_,_,h,_,_,_=>by omega
 | [],q,m + 1,hp,s,ef,h,_,hu,he,_=>by
  have l0:=lp0 h
  have k:WY C.G K C.L hp0 (XJ C.G K C.L hp0) (m + 1) fv (.lst 3 (l.map EF)) (.int .i64 (l.length:Int)) (.int .i64 (q.length:Int)) hp ef=some (Zq false hp0 (.int .i64 0) hp ef):=by
   simp only [WY,XJ,EV,l0,IFJ]
  rw [k]
  exact Sc.fin 0 h0 hu he
 | x :: r,q,m + 1,hp,s,ef,h,hm,hu,he,hgd=>by
  obtain ⟨a1,a2,a3,a4,a5⟩:=lp EF h hl
  have hlt:g < hp0.length:=(List.getElem?_eq_some_iff.1 h0).1
  obtain ⟨hS1,hS2⟩:=hS x a5 s (hp ++ [.cells (EF x) Oe]) (hG s hp _ hgd)
  obtain ⟨hp',ef',hc,hu',he'⟩:=hS1
  have hgd':=hS2 hp' hu'
  have hu2:=hu.trans hu'.off
  have he2:=he.after hlt he'
  by_cases hz:(step x s).1=0
  ·have ih:=Zg9 (C := C) K hp0 fv l hl step es g Good hG hS s0 h0 r (q ++ [x]) m hp' (step x s).2 (Zd hp0.length ef ef') a4 (by simpa using hm) hu2 he2 hgd'
   have e:Yz step (x :: r) s=Yz step r (step x s).2:=by simp [Yz,hz]
   rw [e]
   simp only [WY,CO,Nat.reduceAdd,Nat.reduceLeDiff,Nat.reduceBEq,List.length_cons,List.length_nil,ZgY,STA hu.1,a1,a2,a3,Yp,hc,hz,ne_eq,not_true_eq_false]
   exact ih
  ·have e:Yz step (x :: r) s=step x s:=by simp [Yz,hz]
   rw [e]
   simp only [WY,CO,Nat.reduceAdd,Nat.reduceLeDiff,Nat.reduceBEq,List.length_cons,List.length_nil,ZgY,STA hu.1,a1,a2,a3,Yp,hc,hz,ne_eq,not_false_eq_true]
   exact Sc.fin _ h0 hu2 he2
theorem Zwo {C:Cfg}(hC:Xz C){σ:Type}(m:Nat)(hp:HP)(most:Int)(fv:AV)(hro:AV.ro fv=fv)(l:List Zfy)(hl:l.length≤4611686018427387)(step:Zfy→σ→Int×σ)(es:σ→List (AV×AV))(g:Nat)(Good:σ→HP→Prop)(hG:∀ s hp x,Good s hp→Good s (hp ++ [x]))
  (hS:∀ x ∈ l,∀ s hp,Good s hp→Does g es s hp (step x s) (Vz (Zc C m) fv [.agg (EF x)] hp)∧∀ hp',Upd g (es (step x s).2) hp hp'→Good (step x s).2 hp') (s:σ) (hg:hp[g]? = some (.map (es s))) (h0:Good s hp) :
  Does g es s hp (WV most step l s) (Zc C (m + 1) Ku [.lst 3 (l.map EF),.int .i64 most,fv] hp):=by
 have h:=Zg9 (C := C) (Zc C m) hp fv l hl step es g Good hG hS s hg l [] C.L hp s none rfl (by have:=hC.L; omega) (Upd.refl hg) (Efs.refl _ _) h0
 simp only [List.length_nil,Int.natCast_zero] at h
 by_cases hz:most < (l.length:Int)
 ·have k:Zc C (m + 1) Ku [.lst 3 (l.map EF),.int .i64 most,fv] hp=some (.int .i64 6,hp,none):=by
   refine R8 (by rw [hC.T]; rfl) ?_
   simp only [KD,CO,Nat.reduceAdd,Nat.reduceLeDiff,Nat.reduceBEq,List.length_cons,List.length_nil,hz]
  have e:WV most step l s=(6,s):=by simp [WV,hz]
  rw [k,e]
  exact ⟨hp,none,rfl,Upd.refl hg,Efs.refl _ _⟩
 ·have e:WV most step l s=Yz step l s:=by simp [WV,hz]
  rw [e]
  obtain ⟨hp',ef,h1,h2,h3⟩:=h
  refine ⟨hp',ef,?_,h2,h3⟩
  refine R8 (by rw [hC.T]; rfl) ?_
  simp only [KD,CO,Nat.reduceAdd,Nat.reduceLeDiff,Nat.reduceBEq,List.length_cons,List.length_nil,hz,hro]
  exact h1
theorem NT {C:Cfg}{σ:Type}(K:KT)(hp0:HP)(fv:AV)(l:List Zi)(hl:l.length≤4611686018427387)(step:Zi→σ→Int×σ)(es:σ→List (AV×AV))(g:Nat)(Good:σ→HP→Prop)(hG:∀ s hp x,Good s hp→Good s (hp ++ [x]))
  (hS:∀ x ∈ l,∀ s hp,Good s hp→Does g es s hp (step x s) (Vz K fv [.agg (Zj x)] hp)∧∀ hp',Upd g (es (step x s).2) hp hp'→Good (step x s).2 hp') (s0:σ) (h0:hp0[g]? = some (.map (es s0))):∀ (r q:List Zi) (m:Nat) (hp:HP) (s:σ) (ef:Eff),l=q ++ r→r.length < m→Upd g (es s) hp0 hp→Efs g (es s0) (es s) ef→Good s hp →
  Sc g (es s0) (es (Yz step r s).2) hp0 (Yz step r s).1 (YD C.G K C.L hp0 (Q8 C.G K C.L hp0) m fv (.lst 13 (l.map Zj)) (.int .i64 (l.length:Int)) (.int .i64 (q.length:Int)) hp ef)
 | _,_,0,_,_,_,_,h,_,_,_=>by omega
 | [],q,m + 1,hp,s,ef,h,_,hu,he,_=>by
  have l0:=lp0 h
  have k:YD C.G K C.L hp0 (Q8 C.G K C.L hp0) (m + 1) fv (.lst 13 (l.map Zj)) (.int .i64 (l.length:Int)) (.int .i64 (q.length:Int)) hp ef=some (Zq false hp0 (.int .i64 0) hp ef):=by
   simp only [YD,Q8,EV,l0,IFJ]
  rw [k]
  exact Sc.fin 0 h0 hu he
 | x :: r,q,m + 1,hp,s,ef,h,hm,hu,he,hgd=>by
  obtain ⟨a1,a2,a3,a4,a5⟩:=lp Zj h hl
  have hlt:g < hp0.length:=(List.getElem?_eq_some_iff.1 h0).1
  obtain ⟨hS1,hS2⟩:=hS x a5 s (hp ++ [.cells (Zj x) Zf]) (hG s hp _ hgd)
  obtain ⟨hp',ef',hc,hu',he'⟩:=hS1
  have hgd':=hS2 hp' hu'
  have hu2:=hu.trans hu'.off
  have he2:=he.after hlt he'
  by_cases hz:(step x s).1=0
  ·have ih:=NT (C := C) K hp0 fv l hl step es g Good hG hS s0 h0 r (q ++ [x]) m hp' (step x s).2 (Zd hp0.length ef ef') a4 (by simpa using hm) hu2 he2 hgd'
   have e:Yz step (x :: r) s=Yz step r (step x s).2:=by simp [Yz,hz]
   rw [e]
   simp only [YD,CO,Nat.reduceAdd,Nat.reduceLeDiff,Nat.reduceBEq,List.length_cons,List.length_nil,ZB,STA hu.1,a1,a2,a3,Yp,hc,hz,ne_eq,not_true_eq_false]
   exact ih
  ·have e:Yz step (x :: r) s=step x s:=by simp [Yz,hz]
   rw [e]
   simp only [YD,CO,Nat.reduceAdd,Nat.reduceLeDiff,Nat.reduceBEq,List.length_cons,List.length_nil,ZB,STA hu.1,a1,a2,a3,Yp,hc,hz,ne_eq,not_false_eq_true]
   exact Sc.fin _ h0 hu2 he2
theorem ZlZ {C:Cfg}(hC:Xz C){σ:Type}(m:Nat)(hp:HP)(most:Int)(fv:AV)(hro:AV.ro fv=fv)(l:List Zi)(hl:l.length≤4611686018427387)(step:Zi→σ→Int×σ)(es:σ→List (AV×AV))(g:Nat)(Good:σ→HP→Prop)(hG:∀ s hp x,Good s hp→Good s (hp ++ [x]))
  (hS:∀ x ∈ l,∀ s hp,Good s hp→Does g es s hp (step x s) (Vz (Zc C m) fv [.agg (Zj x)] hp)∧∀ hp',Upd g (es (step x s).2) hp hp'→Good (step x s).2 hp') (s:σ) (hg:hp[g]? = some (.map (es s))) (h0:Good s hp) :
  Does g es s hp (WV most step l s) (Zc C (m + 1) XU [.lst 13 (l.map Zj),.int .i64 most,fv] hp):=by
 have h:=NT (C := C) (Zc C m) hp fv l hl step es g Good hG hS s hg l [] C.L hp s none rfl (by have:=hC.L; omega) (Upd.refl hg) (Efs.refl _ _) h0
 simp only [List.length_nil,Int.natCast_zero] at h
 by_cases hz:most < (l.length:Int)
 ·have k:Zc C (m + 1) XU [.lst 13 (l.map Zj),.int .i64 most,fv] hp=some (.int .i64 6,hp,none):=by
   refine O0 (by rw [hC.T]; rfl) ?_
   simp only [VV,CO,Nat.reduceAdd,Nat.reduceLeDiff,Nat.reduceBEq,List.length_cons,List.length_nil,hz]
  have e:WV most step l s=(6,s):=by simp [WV,hz]
  rw [k,e]
  exact ⟨hp,none,rfl,Upd.refl hg,Efs.refl _ _⟩
 ·have e:WV most step l s=Yz step l s:=by simp [WV,hz]
  rw [e]
  obtain ⟨hp',ef,h1,h2,h3⟩:=h
  refine ⟨hp',ef,?_,h2,h3⟩
  refine O0 (by rw [hC.T]; rfl) ?_
  simp only [VV,CO,Nat.reduceAdd,Nat.reduceLeDiff,Nat.reduceBEq,List.length_cons,List.length_nil,hz,hro]
  exact h1
theorem Zdl {C:Cfg}{σ:Type}(K:KT)(hp0:HP)(fv:AV)(l:List DV)(hl:l.length≤4611686018427387)(step:DV→σ→Int×σ)(es:σ→List (AV×AV))(g:Nat)(Good:σ→HP→Prop)(hG:∀ s hp x,Good s hp→Good s (hp ++ [x]))
  (hS:∀ x ∈ l,∀ s hp,Good s hp→Does g es s hp (step x s) (Vz K fv [.agg (KM x)] hp)∧∀ hp',Upd g (es (step x s).2) hp hp'→Good (step x s).2 hp') (s0:σ) (h0:hp0[g]? = some (.map (es s0))):∀ (r q:List DV) (m:Nat) (hp:HP) (s:σ) (ef:Eff),l=q ++ r→r.length < m→Upd g (es s) hp0 hp→Efs g (es s0) (es s) ef→Good s hp →
  Sc g (es s0) (es (Yz step r s).2) hp0 (Yz step r s).1 (WR C.G K C.L hp0 (X6 C.G K C.L hp0) m fv (.lst 3 (l.map KM)) (.int .i64 (l.length:Int)) (.int .i64 (q.length:Int)) hp ef)
 | _,_,0,_,_,_,_,h,_,_,_=>by omega
 | [],q,m + 1,hp,s,ef,h,_,hu,he,_=>by
  have l0:=lp0 h
  have k:WR C.G K C.L hp0 (X6 C.G K C.L hp0) (m + 1) fv (.lst 3 (l.map KM)) (.int .i64 (l.length:Int)) (.int .i64 (q.length:Int)) hp ef=some (Zq false hp0 (.int .i64 0) hp ef):=by
   simp only [WR,X6,EV,l0,IFJ]
  rw [k]
  exact Sc.fin 0 h0 hu he
 | x :: r,q,m + 1,hp,s,ef,h,hm,hu,he,hgd=>by
  obtain ⟨a1,a2,a3,a4,a5⟩:=lp KM h hl
  have hlt:g < hp0.length:=(List.getElem?_eq_some_iff.1 h0).1
  obtain ⟨hS1,hS2⟩:=hS x a5 s (hp ++ [.cells (KM x) Jl]) (hG s hp _ hgd)
  obtain ⟨hp',ef',hc,hu',he'⟩:=hS1
  have hgd':=hS2 hp' hu'
  have hu2:=hu.trans hu'.off
  have he2:=he.after hlt he'
  by_cases hz:(step x s).1=0
  ·have ih:=Zdl (C := C) K hp0 fv l hl step es g Good hG hS s0 h0 r (q ++ [x]) m hp' (step x s).2 (Zd hp0.length ef ef') a4 (by simpa using hm) hu2 he2 hgd'
   have e:Yz step (x :: r) s=Yz step r (step x s).2:=by simp [Yz,hz]
   rw [e]
   simp only [WR,CO,Nat.reduceAdd,Nat.reduceLeDiff,Nat.reduceBEq,List.length_cons,List.length_nil,Lp,STA hu.1,a1,a2,a3,Yp,hc,hz,ne_eq,not_true_eq_false]
   exact ih
  ·have e:Yz step (x :: r) s=step x s:=by simp [Yz,hz]
   rw [e]
   simp only [WR,CO,Nat.reduceAdd,Nat.reduceLeDiff,Nat.reduceBEq,List.length_cons,List.length_nil,Lp,STA hu.1,a1,a2,a3,Yp,hc,hz,ne_eq,not_false_eq_true]
   exact Sc.fin _ h0 hu2 he2
theorem Zuk {C:Cfg}(hC:Xz C){σ:Type}(m:Nat)(hp:HP)(most:Int)(fv:AV)(hro:AV.ro fv=fv)(l:List DV)(hl:l.length≤4611686018427387)(step:DV→σ→Int×σ)(es:σ→List (AV×AV))(g:Nat)(Good:σ→HP→Prop)(hG:∀ s hp x,Good s hp→Good s (hp ++ [x]))
  (hS:∀ x ∈ l,∀ s hp,Good s hp→Does g es s hp (step x s) (Vz (Zc C m) fv [.agg (KM x)] hp)∧∀ hp',Upd g (es (step x s).2) hp hp'→Good (step x s).2 hp') (s:σ) (hg:hp[g]? = some (.map (es s))) (h0:Good s hp) :
  Does g es s hp (WV most step l s) (Zc C (m + 1) UV [.lst 3 (l.map KM),.int .i64 most,fv] hp):=by
 have h:=Zdl (C := C) (Zc C m) hp fv l hl step es g Good hG hS s hg l [] C.L hp s none rfl (by have:=hC.L; omega) (Upd.refl hg) (Efs.refl _ _) h0
 simp only [List.length_nil,Int.natCast_zero] at h
 by_cases hz:most < (l.length:Int)
 ·have k:Zc C (m + 1) UV [.lst 3 (l.map KM),.int .i64 most,fv] hp=some (.int .i64 6,hp,none):=by
   refine LA (by rw [hC.T]; rfl) ?_
   simp only [UW,CO,Nat.reduceAdd,Nat.reduceLeDiff,Nat.reduceBEq,List.length_cons,List.length_nil,hz]
  have e:WV most step l s=(6,s):=by simp [WV,hz]
  rw [k,e]
  exact ⟨hp,none,rfl,Upd.refl hg,Efs.refl _ _⟩
 ·have e:WV most step l s=Yz step l s:=by simp [WV,hz]
  rw [e]
  obtain ⟨hp',ef,h1,h2,h3⟩:=h
  refine ⟨hp',ef,?_,h2,h3⟩
  refine LA (by rw [hC.T]; rfl) ?_
  simp only [UW,CO,Nat.reduceAdd,Nat.reduceLeDiff,Nat.reduceBEq,List.length_cons,List.length_nil,hz,hro]
  exact h1
theorem Cs {C:Cfg}{σ:Type}(K:KT)(hp0:HP)(fv:AV)(l:List (List UInt8))(hl:l.length≤4611686018427387)(step:List UInt8→σ→Int×σ)(es:σ→List (AV×AV))(g:Nat)(Good:σ→HP→Prop)
  (hS:∀ x ∈ l,∀ s hp,Good s hp→Does g es s hp (step x s) (Vz K fv [.str x] hp)∧∀ hp',Upd g (es (step x s).2) hp hp'→Good (step x s).2 hp') (s0:σ) (h0:hp0[g]? = some (.map (es s0))):∀ (r q:List (List UInt8)) (m:Nat) (hp:HP) (s:σ) (ef:Eff),l=q ++ r→r.length < m→Upd g (es s) hp0 hp→Efs g (es s0) (es s) ef→Good s hp →
  Sc g (es s0) (es (Yz step r s).2) hp0 (Yz step r s).1 (Qk C.G K C.L hp0 (XT C.G K C.L hp0) m fv (.lst 1 (strs l)) (.int .i64 (l.length:Int)) (.int .i64 (q.length:Int)) hp ef)
 | _,_,0,_,_,_,_,h,_,_,_=>by omega
 | [],q,m + 1,hp,s,ef,h,_,hu,he,_=>by
  have l0:=lp0 h
  have k:Qk C.G K C.L hp0 (XT C.G K C.L hp0) (m + 1) fv (.lst 1 (strs l)) (.int .i64 (l.length:Int)) (.int .i64 (q.length:Int)) hp ef=some (Zq false hp0 (.int .i64 0) hp ef):=by
   simp only [Qk,XT,EV,l0,IFJ]
  rw [k]
  exact Sc.fin 0 h0 hu he
 | x :: r,q,m + 1,hp,s,ef,h,hm,hu,he,hgd=>by
  obtain ⟨a1,a2,a3,a4,a5⟩:=lp (fun x:List UInt8=>[.str x]) h hl
  have g1:(strs l)[q.length]? = some [.str x]:=a2
  have hlt:g < hp0.length:=(List.getElem?_eq_some_iff.1 h0).1
  obtain ⟨hS1,hS2⟩:=hS x a5 s hp hgd
  obtain ⟨hp',ef',hc,hu',he'⟩:=hS1
  have hgd':=hS2 hp' hu'
  have hu2:=hu.trans hu'
  have he2:=he.after hlt he'
  by_cases hz:(step x s).1=0
  ·have ih:=Cs (C := C) K hp0 fv l hl step es g Good hS s0 h0 r (q ++ [x]) m hp' (step x s).2 (Zd hp0.length ef ef') a4 (by simpa using hm) hu2 he2 hgd'
   have e:Yz step (x :: r) s=Yz step r (step x s).2:=by simp [Yz,hz]
   rw [e]
   simp only [Qk,CO,Nat.reduceAdd,Nat.reduceLeDiff,Nat.reduceBEq,List.length_cons,List.length_nil,a1,g1,a3,Yp,hc,hz,ne_eq,not_true_eq_false]
   exact ih
  ·have e:Yz step (x :: r) s=step x s:=by simp [Yz,hz]
   rw [e]
   simp only [Qk,CO,Nat.reduceAdd,Nat.reduceLeDiff,Nat.reduceBEq,List.length_cons,List.length_nil,a1,g1,a3,Yp,hc,hz,ne_eq,not_false_eq_true]
   exact Sc.fin _ h0 hu2 he2
theorem Zq7 {C:Cfg}(hC:Xz C){σ:Type}(m:Nat)(hp:HP)(most:Int)(fv:AV)(hro:AV.ro fv=fv)(l:List (List UInt8))(hl:l.length≤4611686018427387)(step:List UInt8→σ→Int×σ)(es:σ→List (AV×AV))(g:Nat)(Good:σ→HP→Prop)
  (hS:∀ x ∈ l,∀ s hp,Good s hp→Does g es s hp (step x s) (Vz (Zc C m) fv [.str x] hp)∧∀ hp',Upd g (es (step x s).2) hp hp'→Good (step x s).2 hp') (s:σ) (hg:hp[g]? = some (.map (es s))) (h0:Good s hp) :
  Does g es s hp (WV most step l s) (Zc C (m + 1) Gx [.lst 1 (strs l),.int .i64 most,fv] hp):=by
 have h:=Cs (C := C) (Zc C m) hp fv l hl step es g Good hS s hg l [] C.L hp s none rfl (by have:=hC.L; omega) (Upd.refl hg) (Efs.refl _ _) h0
 simp only [List.length_nil,Int.natCast_zero] at h
 by_cases hz:most < (l.length:Int)
 ·have k:Zc C (m + 1) Gx [.lst 1 (strs l),.int .i64 most,fv] hp=some (.int .i64 6,hp,none):=by
   refine Ba (by rw [hC.T]; rfl) ?_
   simp only [Gz,CO,Nat.reduceAdd,Nat.reduceLeDiff,Nat.reduceBEq,List.length_cons,List.length_nil,ZvZ,hz]
  have e:WV most step l s=(6,s):=by simp [WV,hz]
  rw [k,e]
  exact ⟨hp,none,rfl,Upd.refl hg,Efs.refl _ _⟩
 ·have e:WV most step l s=Yz step l s:=by simp [WV,hz]
  rw [e]
  obtain ⟨hp',ef,h1,h2,h3⟩:=h
  refine ⟨hp',ef,?_,h2,h3⟩
  refine Ba (by rw [hC.T]; rfl) ?_
  simp only [Gz,CO,Nat.reduceAdd,Nat.reduceLeDiff,Nat.reduceBEq,List.length_cons,List.length_nil,ZvZ,hz,hro]
  exact h1
theorem Zb7 {C:Cfg}(K:KT)(hp0:HP)(fv:AV)(l:List G8)(hl:l.length≤4611686018427387)(f:G8→Int)(Good:HP→Prop)(hG:∀ hp x,Good hp→Good (hp ++ [x]))(hS:∀ x ∈ l,∀ hp,Good hp→Vz K fv [.agg (Vr x)] hp=some (.int .i64 (f x),hp,none)):∀ (r q:List G8) (m:Nat) (hp:HP),l=q ++ r→r.length < m→hp0.length≤hp.length→Good hp →
  Q5 C.G K C.L hp0 (XX C.G K C.L hp0) m fv (.lst 5 (l.map Vr)) (.int .i64 (l.length:Int)) (.int .i64 (q.length:Int)) hp none=some (.int .i64 (IL f r),hp0,none)
 | _,_,0,_,_,h,_,_=>by omega
 | [],q,m + 1,hp,h,_,hh,_=>by
  have l0:=lp0 h
  simp only [Q5,XX,EV,l0,IL,IFJ]
 | x :: r,q,m + 1,hp,h,hm,hh,hgd=>by
  obtain ⟨a1,a2,a3,a4,a5⟩:=lp Vr h hl
  have hc:=hS x a5 (hp ++ [.cells (Vr x) U0]) (hG hp _ hgd)
  have ih:=Zb7 (C := C) K hp0 fv l hl f Good hG hS r (q ++ [x]) m (hp ++ [.cells (Vr x) U0]) a4 (by simpa using hm) (by simp; omega) (hG hp _ hgd)
  simp only [Q5,CO,Nat.reduceAdd,Nat.reduceLeDiff,Nat.reduceBEq,List.length_cons,List.length_nil,O4,STA hh,a1,a2,a3,Yp,hc,ih,IL]
theorem Zss {C:Cfg}(hC:Xz C)(m:Nat)(hp:HP)(most:Int)(fv:AV)(hro:AV.ro fv=fv)(l:List G8)(hl:l.length≤4611686018427387)(f:G8→Int)(Good:HP→Prop)(hG:∀ hp x,Good hp→Good (hp ++ [x]))(hS:∀ x ∈ l,∀ hp,Good hp→Vz (Zc C m) fv [.agg (Vr x)] hp=some (.int .i64 (f x),hp,none))(h0:Good hp) :
  Zc C (m + 1) H6 [.lst 5 (l.map Vr),.int .i64 most,fv] hp=some (.int .i64 (CR most f l),hp,none):=by
 have h:=Zb7 (C := C) (Zc C m) hp fv l hl f Good hG hS l [] C.L hp rfl (by have:=hC.L; omega) (Nat.le_refl _) h0
 simp only [List.length_nil,Int.natCast_zero] at h
 refine EC (by rw [hC.T]; rfl) ?_
 simp only [Ik,CO,Nat.reduceAdd,Nat.reduceLeDiff,Nat.reduceBEq,List.length_cons,List.length_nil,hro,h,CR]
theorem Zdm {C:Cfg}(K:KT)(hp0:HP)(fv:AV)(l:List MZ)(hl:l.length≤4611686018427387)(f:MZ→Int)(Good:HP→Prop)(hG:∀ hp x,Good hp→Good (hp ++ [x]))(hS:∀ x ∈ l,∀ hp,Good hp→Vz K fv [.agg (Ot x)] hp=some (.int .i64 (f x),hp,none)):∀ (r q:List MZ) (m:Nat) (hp:HP),l=q ++ r→r.length < m→hp0.length≤hp.length→Good hp →
  QH C.G K C.L hp0 (Vm C.G K C.L hp0) m fv (.lst 3 (l.map Ot)) (.int .i64 (l.length:Int)) (.int .i64 (q.length:Int)) hp none=some (.int .i64 (IL f r),hp0,none)
 | _,_,0,_,_,h,_,_=>by omega
 | [],q,m + 1,hp,h,_,hh,_=>by
  have l0:=lp0 h
  simp only [QH,Vm,EV,l0,IL,IFJ]
 | x :: r,q,m + 1,hp,h,hm,hh,hgd=>by
  obtain ⟨a1,a2,a3,a4,a5⟩:=lp Ot h hl
  have hc:=hS x a5 (hp ++ [.cells (Ot x) I7]) (hG hp _ hgd)
  have ih:=Zdm (C := C) K hp0 fv l hl f Good hG hS r (q ++ [x]) m (hp ++ [.cells (Ot x) I7]) a4 (by simpa using hm) (by simp; omega) (hG hp _ hgd)
  simp only [QH,CO,Nat.reduceAdd,Nat.reduceLeDiff,Nat.reduceBEq,List.length_cons,List.length_nil,Zfv,STA hh,a1,a2,a3,Yp,hc,ih,IL]
theorem Zul {C:Cfg}(hC:Xz C)(m:Nat)(hp:HP)(most:Int)(fv:AV)(hro:AV.ro fv=fv)(l:List MZ)(hl:l.length≤4611686018427387)(f:MZ→Int)(Good:HP→Prop)(hG:∀ hp x,Good hp→Good (hp ++ [x]))(hS:∀ x ∈ l,∀ hp,Good hp→Vz (Zc C m) fv [.agg (Ot x)] hp=some (.int .i64 (f x),hp,none))(h0:Good hp) :
  Zc C (m + 1) Og [.lst 3 (l.map Ot),.int .i64 most,fv] hp=some (.int .i64 (CR most f l),hp,none):=by
 have h:=Zdm (C := C) (Zc C m) hp fv l hl f Good hG hS l [] C.L hp rfl (by have:=hC.L; omega) (Nat.le_refl _) h0
 simp only [List.length_nil,Int.natCast_zero] at h
 refine Ai (by rw [hC.T]; rfl) ?_
 simp only [Om,CO,Nat.reduceAdd,Nat.reduceLeDiff,Nat.reduceBEq,List.length_cons,List.length_nil,hro,h,CR]
end Go.Proofs.YtlmfmmclnboglaaGreat
end
section
namespace Go.Proofs.YtlmfmmclnboglaaGreat
open Go Go.RowKit Go.Proofs.YtlmfmmclnboglaaGreat.Abs
set_option linter.all false
set_option maxRecDepth 100000
theorem IFK:(∀ (c:Prop) [Decidable c] (h0 h:HP) (k:IntKind) (a b:Int) (e:Eff),(if c then (some (Zq false h0 (.int k a) h e):KR) else some (Zq false h0 (.int k b) h e))=some (Zq false h0 (.int k (if c then a else b)) h e))∧(∀ (bs:Nat) (ef:Eff),Zd bs ef none=ef):=⟨fun c _ h0 h k a b e=>by split <;> rfl,fun _ _=>rfl⟩
theorem FN {s:List UInt8}{seen:Seen}(h:(Qd s seen).1=0)(rest:Int):Xy s rest seen=(rest,(Qd s seen).2):=by simp [Xy,h]
theorem ZbW {s:List UInt8}{seen:Seen}(h:¬ (Qd s seen).1=0)(rest:Int):Xy s rest seen=Qd s seen:=by simp [Xy,h]
theorem Z38 (e:TypeId)(a b:List (List AV))(hp:HP):ZbM e 1 [.lst 2 a,.lst 2 b] hp=some (.own 1 [[.lst 2 a],[.lst 2 b]],hp):=rfl
theorem Z3n (l:List Ov)(a:List (List AV))(hp:HP)(h:a.length + l.length≤1000):Zpk 2 24 (.own 2 a) (.lst 2 (l.map Vg)) hp=some (.own 2 (a ++ l.map Vg)):=by
 have h1:((l.map Vg).all (·.all AV.noId1))=true:=by
  rw [List.all_eq_true]; intro x hx; obtain ⟨y,_,rfl⟩:=List.mem_map.1 hx; rfl
 have h2:(a.length + (l.map Vg).length) * 24≤140737488355328:=by simp; omega
 simp only [Zpk,rowsOf,h1,h2,and_self,if_true]
theorem Z25 {C:Cfg}(hC:Xz C)(N:Nat)(hN:1≤N)(hp:HP)(n:Int)(h0:0≤n)(h1:n≤1000):Zc C N Xu [.own 2 [],.int .i64 n] hp=some (.own 2 [],hp,none):=by
 obtain ⟨m,rfl⟩:∃ m,N=m + 1:=⟨N - 1,by omega⟩
 obtain ⟨g1,g2⟩:=hC.G n hp h0 h1
 simp only [Zc,g1,g2]
theorem Zzg {C:Cfg}(hC:Xz C)(N:Nat)(hN:2≤N)(hp:HP)(a b:List Ov)(h:a.length + b.length≤1000):Zc C N XY [.lst 1 [[.lst 2 (a.map Vg)],[.lst 2 (b.map Vg)]]] hp=some (.own 2 ((a ++ b).map Vg),hp,none):=by
 obtain ⟨m,rfl⟩:∃ m,N=m + 1:=⟨N - 1,by omega⟩
 refine Tq (by rw [hC.T]; rfl) ?_
 obtain ⟨L,hL⟩:∃ L,C.L=L + 3:=⟨C.L - 3,by have:=hC.L; omega⟩
 have w1:IntKind.i64.wrap (0 + (a.length:Int))=a.length:=by rw [ZtM (by omega) (by omega)]; omega
 have w2:IntKind.i64.wrap ((a.length:Int) + (b.length:Int))=(a.length:Int) + b.length:=ZtM (by omega) (by omega)
 have n1:decide ((a.length:Int) < 0)=false:=by simp only [decide_eq_false_iff_not]; omega
 have n2:decide ((a.length:Int) + (b.length:Int) < 0)=false:=by simp only [decide_eq_false_iff_not]; omega
 have q:=Z25 hC m (by omega) hp ((a.length:Int) + b.length) (by omega) (by omega)
 have p1:=Z3n a [] hp (by simp; omega)
 have p2:=Z3n b (a.map Vg) hp (by simp; omega)
 rw [List.nil_append] at p1
 simp only [Va,WO,Qy,WP,Qz,hL,CO,iaI,w01,w1,w2,n1,n2,q,p1,p2,List.map_append]
theorem Z1h {C:Cfg}(hC:Xz C)(N:Nat)(hN:5≤N)(hp:HP)(g:Nat)(seen:Seen)(v:Jn)(hg:hp[g]? = some (.map (Oo seen)))(ok:ZdK v):Does g Oo seen hp (Xy v.Name (Kg v) seen) (Zc C N Vy [.map g,.agg (X9 v)] hp):=by
 obtain ⟨m,rfl⟩:∃ m,N=m + 1:=⟨N - 1,by omega⟩
 have q1:=ZgB hC m (by omega)
 have q2:=Zj0 hC m (by omega)
 have hlt:g < hp.length:=(List.getElem?_eq_some_iff.1 hg).1
 obtain ⟨h1,f1,q,u,e⟩:=FB hC m (by omega) (hp ++ [.cells (X9 v) LH]) g seen v.Name (ZpA hg _) ok.Name
 have c1:=u.get (ZC hp (.cells (X9 v) LH)) (by omega)
 have e1:Efs g (Oo seen) (Oo (Qd v.Name seen).2) (Zd hp.length none f1):=(Efs.refl _ _).after hlt e
 by_cases hz:(Qd v.Name seen).1=0
 ·rw [hz] at q
  have k:Zc C (m + 1) Vy [.map g,.agg (X9 v)] hp=some (Zq false hp (.int .i64 (Kg v)) h1 (Zd hp.length none f1)):=by
   refine LW (by rw [hC.T]; rfl) ?_
   simp only [KC,EV,LD,BL,IFJ,IFK,GI,QC,Nat.reduceAdd,Nat.reduceLeDiff,Nat.reduceBEq,List.length_cons,List.length_nil,Sb,q,LG c1,q1,q2,Kg,ne_eq,not_true_eq_false]
  rw [k,FN hz]
  exact Sc.fin _ hg u.off e1
 ·have k:Zc C (m + 1) Vy [.map g,.agg (X9 v)] hp=some (Zq false hp (.int .i64 (Qd v.Name seen).1) h1 (Zd hp.length none f1)):=by
   refine LW (by rw [hC.T]; rfl) ?_
   simp only [KC,EV,LD,BL,IFJ,IFK,GI,QC,Nat.reduceAdd,Nat.reduceLeDiff,Nat.reduceBEq,List.length_cons,List.length_nil,Sb,q,hz,ne_eq,not_false_eq_true]
  rw [k,ZbW hz]
  exact Sc.fin _ hg u.off e1
theorem Zxn (K:KT)(f:FuncId)(a:List AV)(g:Nat)(hp:HP):Vz K (.fn f [.map g] []) a hp=K f (.map g :: a) hp:=by
 show K f ([AV.nm (.map g)] ++ a ++ []) hp=_
 simp [AV.nm]
theorem Fp (K:KT)(f:FuncId)(a c:List AV)(hp:HP):Vz K (.fn f [] c) a hp=K f (a ++ c.map AV.nm) hp:=rfl
def Z2w (g:Nat)(s:Seen)(hp:HP):Prop:=hp[g]? = some (.map (Oo s))
theorem Zv7 {C:Cfg}(hC:Xz C)(N:Nat)(hN:7≤N)(hp:HP)(g:Nat)(seen:Seen)(l:List Jn)(hg:hp[g]? = some (.map (Oo seen)))(hl:l.length≤4611686018427387)(ok:∀ v ∈ l,ZdK v):Does g Oo seen hp (WV 32 (fun v=>Xy v.Name (Kg v)) l seen) (Zc C N Vi [.map g,.lst 3 (l.map X9)] hp):=by
 obtain ⟨m,rfl⟩:∃ m,N=m + 2:=⟨N - 2,by omega⟩
 obtain ⟨hp',ef,q,u,e⟩:=Zst hC m hp 32 (.fn Vy [.map g] []) rfl l hl (fun v=>Xy v.Name (Kg v)) Oo g (Z2w g) (fun s hp x h=>ZpA h x) (fun x hx s hp h=>⟨by rw [Zxn]; exact Z1h hC m (by omega) hp g s x h (ok x hx),fun hp' hu=>hu.2.1⟩) seen hg hg
 have hlt:g < hp.length:=(List.getElem?_eq_some_iff.1 hg).1
 have k:Zc C (m + 1 + 1) Vi [.map g,.lst 3 (l.map X9)] hp=some (Zq false hp (.int .i64 (WV 32 (fun v:Jn=>Xy v.Name (Kg v)) l seen).1) hp' (Zd hp.length none ef)):=by
  refine EH (by rw [hC.T]; rfl) ?_
  simp only [Ol,EV,q]
 rw [k]
 exact Sc.fin _ hg u ((Efs.refl _ _).after hlt e)
structure SI (g gs gd gp:Nat)(d:Zi)(s:Seen)(hp:HP):Prop where
 m:hp[g]? = some (.map (Oo s))
 c:hp[gs]? = some (.cells [.map g] Qm)
 d:hp[gd]? = some (.cells (Zj d) Zf)
 p:hp[gp]? = some (.cells [.fn Qa [] [.ptr gs 0]] Xt)
 n1:gs≠g
 n2:gd≠g
 n3:gp≠g
theorem SI.app {g gs gd gp:Nat}{d:Zi}{s:Seen}{hp:HP}(h:SI g gs gd gp d s hp)(x:Zt):SI g gs gd gp d s (hp ++ [x]):=⟨ZpA h.m x,Gt h.c x,Gt h.d x,Gt h.p x,h.n1,h.n2,h.n3⟩
theorem SI.upd {g gs gd gp:Nat}{d:Zi}{s s':Seen}{hp hp':HP}(h:SI g gs gd gp d s hp)(u:Upd g (Oo s') hp hp'):SI g gs gd gp d s' hp':=⟨u.2.1,u.get h.c h.n1,u.get h.d h.n2,u.get h.p h.n3,h.n1,h.n2,h.n3⟩
theorem Zk8 {C:Cfg}(hC:Xz C)(N:Nat)(hp:HP)(g gs gd gp:Nat)(d:Zi)(seen:Seen)(hd:Yl d)(v:ZY)(hi:SI g gs gd gp d seen hp)(ok:V9 v)(hN:8≤N):Does g Oo seen hp (Xy v.Name (Zxa d v) seen) (Zc C N Kl [.agg (Zu v),.ptr gs 0,.ptr gd 0] hp):=by
 obtain ⟨m,rfl⟩:∃ m,N=m + 1:=⟨N - 1,by omega⟩
 have p0:=Uy hC m (by omega)
 have p1:=Zk7 hC m (by omega)
 have p2:=Zk5 hC m (by omega)
 have hlt:g < hp.length:=(List.getElem?_eq_some_iff.1 hi.m).1
 have cs:=Gt hi.c (.cells (Zu v) WA)
 obtain ⟨h1,f1,q,u,e⟩:=FB hC m (by omega) (hp ++ [.cells (Zu v) WA]) g seen v.Name (ZpA hi.m _) ok.Name
 have c1:=u.get (ZC hp (.cells (Zu v) WA)) (by omega)
 have cd:=u.get (Gt hi.d (.cells (Zu v) WA)) hi.n2
 have e1:Efs g (Oo seen) (Oo (Qd v.Name seen).2) (Zd hp.length none f1):=(Efs.refl _ _).after hlt e
 by_cases hz:(Qd v.Name seen).1=0
 ·rw [hz] at q
  have k:Zc C (m + 1) Kl [.agg (Zu v),.ptr gs 0,.ptr gd 0] hp=some (Zq false hp (.int .i64 (Zxa d v)) h1 (Zd hp.length none f1)):=by
   refine NY (by rw [hC.T]; rfl) ?_
   simp only [MO,EV,LD,BL,IFJ,IFK,GI,QC,Nat.reduceAdd,Nat.reduceLeDiff,Nat.reduceBEq,List.length_cons,List.length_nil,Qg,LG cs,q,LG c1,LG cd,LGP c1,p0,p1,p2,ok,hd,ok.Fault,ZB,ZvQ,Zxa,ne_eq,not_true_eq_false]
  rw [k,FN hz]
  exact Sc.fin _ hi.m u.off e1
 ·have k:Zc C (m + 1) Kl [.agg (Zu v),.ptr gs 0,.ptr gd 0] hp=some (Zq false hp (.int .i64 (Qd v.Name seen).1) h1 (Zd hp.length none f1)):=by
   refine NY (by rw [hC.T]; rfl) ?_
   simp only [MO,EV,LD,BL,IFJ,IFK,GI,QC,Nat.reduceAdd,Nat.reduceLeDiff,Nat.reduceBEq,List.length_cons,List.length_nil,Qg,LG cs,q,hz,ne_eq,not_false_eq_true]
  rw [k,ZbW hz]
  exact Sc.fin _ hi.m u.off e1
theorem Zk9 {C:Cfg}(hC:Xz C)(N:Nat)(hp:HP)(g gs gd gp:Nat)(d:Zi)(seen:Seen)(hd:Yl d)(v:Q6)(hi:SI g gs gd gp d seen hp)(ok:ZdJ v)(hN:5≤N):Does g Oo seen hp (Xy v.Name (Am v) seen) (Zc C N Km [.agg (Yo v),.ptr gs 0] hp):=by
 obtain ⟨m,rfl⟩:∃ m,N=m + 1:=⟨N - 1,by omega⟩
 have p0:=Uy hC m (by omega)
 have hlt:g < hp.length:=(List.getElem?_eq_some_iff.1 hi.m).1
 have cs:=Gt hi.c (.cells (Yo v) VQ)
 obtain ⟨h1,f1,q,u,e⟩:=FB hC m (by omega) (hp ++ [.cells (Yo v) VQ]) g seen v.Name (ZpA hi.m _) ok.Name
 have c1:=u.get (ZC hp (.cells (Yo v) VQ)) (by omega)
 have cd:=u.get (Gt hi.d (.cells (Yo v) VQ)) hi.n2
 have e1:Efs g (Oo seen) (Oo (Qd v.Name seen).2) (Zd hp.length none f1):=(Efs.refl _ _).after hlt e
 by_cases hz:(Qd v.Name seen).1=0
 ·rw [hz] at q
  have k:Zc C (m + 1) Km [.agg (Yo v),.ptr gs 0] hp=some (Zq false hp (.int .i64 (Am v)) h1 (Zd hp.length none f1)):=by
   refine NZ (by rw [hC.T]; rfl) ?_
   simp only [MP,EV,LD,BL,IFJ,IFK,GI,QC,Nat.reduceAdd,Nat.reduceLeDiff,Nat.reduceBEq,List.length_cons,List.length_nil,LC,LG cs,q,LG c1,LG cd,LGP c1,p0,Am,ne_eq,not_true_eq_false]
  rw [k,FN hz]
  exact Sc.fin _ hi.m u.off e1
 ·have k:Zc C (m + 1) Km [.agg (Yo v),.ptr gs 0] hp=some (Zq false hp (.int .i64 (Qd v.Name seen).1) h1 (Zd hp.length none f1)):=by
   refine NZ (by rw [hC.T]; rfl) ?_
   simp only [MP,EV,LD,BL,IFJ,IFK,GI,QC,Nat.reduceAdd,Nat.reduceLeDiff,Nat.reduceBEq,List.length_cons,List.length_nil,LC,LG cs,q,hz,ne_eq,not_false_eq_true]
  rw [k,ZbW hz]
  exact Sc.fin _ hi.m u.off e1
theorem ZkA {C:Cfg}(hC:Xz C)(N:Nat)(hp:HP)(g gs gd gp:Nat)(d:Zi)(seen:Seen)(hd:Yl d)(v:XK)(hi:SI g gs gd gp d seen hp)(ok:Zhg v)(hN:5≤N):Does g Oo seen hp (Xy v.Name (Zhn v) seen) (Zc C N Kn [.agg (YL v),.ptr gs 0] hp):=by
 obtain ⟨m,rfl⟩:∃ m,N=m + 1:=⟨N - 1,by omega⟩
 have p0:=Uy hC m (by omega)
 have hlt:g < hp.length:=(List.getElem?_eq_some_iff.1 hi.m).1
 have cs:=Gt hi.c (.cells (YL v) UT)
 obtain ⟨h1,f1,q,u,e⟩:=FB hC m (by omega) (hp ++ [.cells (YL v) UT]) g seen v.Name (ZpA hi.m _) ok.Name
 have c1:=u.get (ZC hp (.cells (YL v) UT)) (by omega)
 have cd:=u.get (Gt hi.d (.cells (YL v) UT)) hi.n2
 have e1:Efs g (Oo seen) (Oo (Qd v.Name seen).2) (Zd hp.length none f1):=(Efs.refl _ _).after hlt e
 by_cases hz:(Qd v.Name seen).1=0
 ·rw [hz] at q
  have k:Zc C (m + 1) Kn [.agg (YL v),.ptr gs 0] hp=some (Zq false hp (.int .i64 (Zhn v)) h1 (Zd hp.length none f1)):=by
   refine Sa (by rw [hC.T]; rfl) ?_
   simp only [MQ,EV,LD,BL,IFJ,IFK,GI,QC,Nat.reduceAdd,Nat.reduceLeDiff,Nat.reduceBEq,List.length_cons,List.length_nil,Ny,LG cs,q,LG c1,LG cd,LGP c1,p0,Zhn,ne_eq,not_true_eq_false]
  rw [k,FN hz]
  exact Sc.fin _ hi.m u.off e1
 ·have k:Zc C (m + 1) Kn [.agg (YL v),.ptr gs 0] hp=some (Zq false hp (.int .i64 (Qd v.Name seen).1) h1 (Zd hp.length none f1)):=by
   refine Sa (by rw [hC.T]; rfl) ?_
   simp only [MQ,EV,LD,BL,IFJ,IFK,GI,QC,Nat.reduceAdd,Nat.reduceLeDiff,Nat.reduceBEq,List.length_cons,List.length_nil,Ny,LG cs,q,hz,ne_eq,not_false_eq_true]
  rw [k,ZbW hz]
  exact Sc.fin _ hi.m u.off e1
def Af (f:Ov):Int:=if (!(btw f.Ty 1 3))=true then 1 else 0
def GN (l:List Ov)(s:Seen):Int×Seen:=Yz (fun f:Ov=>Xy f.Name (Af f)) l s
def G5 (r:QI):Int :=
 if (decide (6 < (r.Params.length:Int)) || decide (16 < (r.Params.length:Int) + (r.Locals.length:Int)))=true then 6
 else if decide ((GN (r.Params ++ r.Locals) []).1≠0)=true then (GN (r.Params ++ r.Locals) []).1 else Zdj r.Body
theorem NU {C:Cfg}(K:KT)(hp0:HP)(r0:QI)(fs:List Ov)(hl:fs.length≤4611686018427387)(g g1:Nat)(tg1:TypeId)(hgb:hp0.length≤g)(hne:g1≠g)(hE:∀ hp seen s,hp[g]? = some (.map (Oo seen))→s.length≤140737488351232→Does g Oo seen hp (Qd s seen) (K Yt [.map g,.str s] hp))
  (hW:∀ hp x,K LV [.int .i64 x] hp=some (.bool (btw x 1 3),hp,none)) (hB:∀ hp,K NI [.lst 21 (r0.Body.map Y9)] hp=some (.int .i64 (Zdj r0.Body),hp,none)) (okn:∀ f ∈ fs,Zli f):∀ (r q:List Ov) (m:Nat) (hp:HP) (seen:Seen),fs=q ++ r→r.length < m→hp0.length≤hp.length→hp[g]? = some (.map (Oo seen))→hp[g1]? = some (.cells (Yr r0) tg1) →
  XE C.G K C.L hp0 (KE C.G K C.L hp0) m (.ptr g1 0) (.map g) (.lst 2 (fs.map Vg)) (.int .i64 (fs.length:Int)) (.int .i64 (q.length:Int)) hp none=some (.int .i64 (if decide ((GN r seen).1≠0)=true then (GN r seen).1 else Zdj r0.Body),hp0,none)
 | _,_,0,_,_,_,h,_,_,_=>by omega
 | [],q,m + 1,hp,seen,h,_,hh,hg,hg1=>by
  have l0:=lp0 h
  simp only [XE,KE,EV,LD,BL,IFJ,IFK,GI,QC,Nat.reduceAdd,Nat.reduceLeDiff,Nat.reduceBEq,List.length_cons,List.length_nil,l0,LG hg1,Jk,hB,GN,Yz,ne_eq,not_true_eq_false]
 | x :: r,q,m + 1,hp,seen,h,hm,hh,hg,hg1=>by
  obtain ⟨a1,a2,a3,a4,a5⟩:=lp Vg h hl
  have hlt:g < hp.length:=(List.getElem?_eq_some_iff.1 hg).1
  obtain ⟨h1,f1,qe,u,e⟩:=hE (hp ++ [.cells (Vg x) Sd]) seen x.Name (ZpA hg _) (okn x a5).Name
  have dr:Zd hp0.length none f1=none:=e.drop hgb
  have c1:=u.get (ZC hp (.cells (Vg x) Sd)) (by omega)
  by_cases hz:(Qd x.Name seen).1=0
  ·rw [hz] at qe
   by_cases hf:Af x=0
   ·have ih:=NU (C := C) K hp0 r0 fs hl g g1 tg1 hgb hne hE hW hB okn r (q ++ [x]) m h1 (Qd x.Name seen).2 a4 (by simpa using hm) (by have:=u.1; simp at this; omega) u.2.1 (u.get (Gt hg1 _) hne)
    have e1:GN (x :: r) seen=GN r (Qd x.Name seen).2:=by simp [GN,Yz,FN hz,hf]
    rw [e1]
    have hb:btw x.Ty 1 3=true:=by
     unfold Af at hf; cases hb:btw x.Ty 1 3
     ·rw [hb] at hf; exact absurd hf (by decide)
     ·rfl
    simp only [XE,EV,LD,BL,IFJ,IFK,GI,QC,Nat.reduceAdd,Nat.reduceLeDiff,Nat.reduceBEq,List.length_cons,List.length_nil,FK,STA hh,a1,a2,a3,Yp,qe,dr,LG c1,hW,hb,ne_eq,not_true_eq_false]
    exact ih
   ·have e1:GN (x :: r) seen=(Af x,(Qd x.Name seen).2):=by simp [GN,Yz,FN hz,hf]
    have hb:btw x.Ty 1 3=false:=by
     unfold Af at hf; cases hb:btw x.Ty 1 3
     ·rfl
     ·rw [hb] at hf; exact absurd rfl hf
    have e2:Af x=1:=by unfold Af; rw [hb]; rfl
    rw [e1]
    simp only [XE,EV,LD,BL,IFJ,IFK,GI,QC,Nat.reduceAdd,Nat.reduceLeDiff,Nat.reduceBEq,List.length_cons,List.length_nil,FK,STA hh,a1,a2,a3,Yp,qe,dr,LG c1,hW,hb,e2,ne_eq,not_true_eq_false]
    rfl
  ·have e1:GN (x :: r) seen=Qd x.Name seen:=by simp [GN,Yz,ZbW hz,hz]
   rw [e1]
   simp only [XE,EV,LD,BL,IFJ,IFK,GI,QC,Nat.reduceAdd,Nat.reduceLeDiff,Nat.reduceBEq,List.length_cons,List.length_nil,FK,STA hh,a1,a2,a3,Yp,qe,dr,hz,ne_eq,not_false_eq_true]
theorem Zmd {C:Cfg}(hC:Xz C)(N:Nat)(hp:HP)(r:QI)(hN:SizeOf.sizeOf r.Body + 15≤N)(ok:P6 r):Zc C N Px [.agg (Yr r)] hp=some (.int .i64 (G5 r),hp,none):=by
 obtain ⟨m,rfl⟩:∃ m,N=m + 1:=⟨N - 1,by omega⟩
 have hb:=ok.p
 have q1:=fun hp=>Zs6 hC m hp r.Body (by omega) hb.2.2
 have q2:=ZgB hC m (by omega)
 have wr:IntKind.i64.wrap ((r.Params.length:Int) + (r.Locals.length:Int))=(r.Params.length:Int) + (r.Locals.length:Int):=ZtM (by omega) (by omega)
 refine Zjg (by rw [hC.T]; rfl) ?_
 by_cases hc:(decide (6 < (r.Params.length:Int)) || decide (16 < (r.Params.length:Int) + (r.Locals.length:Int)))=true
 ·simp only [Rn,EV,LD,BL,IFJ,IFK,GI,QC,Nat.reduceAdd,Nat.reduceLeDiff,Nat.reduceBEq,List.length_cons,List.length_nil,Jk,wr,G5,hc]
 ·have hc':(decide (6 < (r.Params.length:Int)) || decide (16 < (r.Params.length:Int) + (r.Locals.length:Int)))=false:=by simpa using hc
  have hsm:r.Params.length + r.Locals.length≤16:=by simp only [Bool.or_eq_false_iff,decide_eq_false_iff_not] at hc'; omega
  have q3:=fun hp=>Zzg hC m (by omega) hp r.Params r.Locals (by omega)
  have h:=NU (C := C) (Zc C m) hp r (r.Params ++ r.Locals) (by simp; omega) (hp ++ [Zt.cells (Yr r) WH]).length hp.length WH (by simp) (by simp) (fun hp seen s hg hs=>FB hC m (by omega) hp _ seen s hg hs) q2 q1 (fun f hf=>by
   rcases List.mem_append.1 hf with hf | hf
   ·exact ok.Params.2 f hf
   ·exact ok.Locals.2 f hf) (r.Params ++ r.Locals) [] C.L (hp ++ [.cells (Yr r) WH] ++ [.map []]) [] rfl (by have:=hC.L; simp; omega) (by simp <;> omega) (ZC _ _) (Gt (ZC _ _) _)
  simp only [List.length_nil,Int.natCast_zero] at h
  simp only [Rn,EV,LD,BL,IFJ,IFK,GI,QC,Nat.reduceAdd,Nat.reduceLeDiff,Nat.reduceBEq,List.length_cons,List.length_nil,Jk,wr,G5,hc',Z38,q3,h]
theorem ZiW {C:Cfg}(hC:Xz C)(N:Nat)(hp:HP)(g gs gd gp:Nat)(d:Zi)(seen:Seen)(hd:Yl d)(v:QI)(hi:SI g gs gd gp d seen hp)(ok:P6 v)(hN:SizeOf.sizeOf v.Body + 16≤N):Does g Oo seen hp (Xy v.Name (G5 v) seen) (Zc C N U1 [.agg (Yr v),.ptr gs 0] hp):=by
 obtain ⟨m,rfl⟩:∃ m,N=m + 1:=⟨N - 1,by omega⟩
 have p0:=fun hp=>Zmd hC m hp v (by omega) ok
 have hlt:g < hp.length:=(List.getElem?_eq_some_iff.1 hi.m).1
 have cs:=Gt hi.c (.cells (Yr v) WH)
 obtain ⟨h1,f1,q,u,e⟩:=FB hC m (by omega) (hp ++ [.cells (Yr v) WH]) g seen v.Name (ZpA hi.m _) ok.Name
 have c1:=u.get (ZC hp (.cells (Yr v) WH)) (by omega)
 have cd:=u.get (Gt hi.d (.cells (Yr v) WH)) hi.n2
 have e1:Efs g (Oo seen) (Oo (Qd v.Name seen).2) (Zd hp.length none f1):=(Efs.refl _ _).after hlt e
 by_cases hz:(Qd v.Name seen).1=0
 ·rw [hz] at q
  have k:Zc C (m + 1) U1 [.agg (Yr v),.ptr gs 0] hp=some (Zq false hp (.int .i64 (G5 v)) h1 (Zd hp.length none f1)):=by
   refine Nr (by rw [hC.T]; rfl) ?_
   simp only [TF,EV,LD,BL,IFJ,IFK,GI,QC,Nat.reduceAdd,Nat.reduceLeDiff,Nat.reduceBEq,List.length_cons,List.length_nil,Jk,LG cs,q,LG c1,LG cd,LGP c1,p0,ne_eq,not_true_eq_false]
  rw [k,FN hz]
  exact Sc.fin _ hi.m u.off e1
 ·have k:Zc C (m + 1) U1 [.agg (Yr v),.ptr gs 0] hp=some (Zq false hp (.int .i64 (Qd v.Name seen).1) h1 (Zd hp.length none f1)):=by
   refine Nr (by rw [hC.T]; rfl) ?_
   simp only [TF,EV,LD,BL,IFJ,IFK,GI,QC,Nat.reduceAdd,Nat.reduceLeDiff,Nat.reduceBEq,List.length_cons,List.length_nil,Jk,LG cs,q,hz,ne_eq,not_false_eq_true]
  rw [k,ZbW hz]
  exact Sc.fin _ hi.m u.off e1
def Z1o (d:Zi)(l:Zfy):Int :=
 if decide ((l.Terms.length:Int)=0)=true then 7 else if decide (CR 8 (ZrH d) l.Terms≠0)=true then CR 8 (ZrH d) l.Terms else if (!(inB l.Total))=true then 2 else 0
structure SL (g gs gd:Nat)(d:Zi)(s:Seen)(hp:HP):Prop where
 m:hp[g]? = some (.map (Oo s))
 c:hp[gs]? = some (.cells [.map g] Qm)
 d:hp[gd]? = some (.cells (Zj d) Zf)
 n1:gs≠g
 n2:gd≠g
theorem SL.app {g gs gd:Nat}{d:Zi}{s:Seen}{hp:HP}(h:SL g gs gd d s hp)(x:Zt):SL g gs gd d s (hp ++ [x]):=⟨ZpA h.m x,Gt h.c x,Gt h.d x,h.n1,h.n2⟩
theorem SL.upd {g gs gd:Nat}{d:Zi}{s s':Seen}{hp hp':HP}(h:SL g gs gd d s hp)(u:Upd g (Oo s') hp hp'):SL g gs gd d s' hp':=⟨u.2.1,u.get h.c h.n1,u.get h.d h.n2,h.n1,h.n2⟩
theorem ZrQ.t {l:Zfy}(h:ZrQ l):l.Terms.length≤4611686018427387:=by have:=h.Terms.1; omega
theorem Zk6 {C:Cfg}(hC:Xz C)(N:Nat)(hN:5≤N)(hp:HP)(d:Zi)(t:MZ)(gd:Nat)(tg:TypeId)(hg:hp[gd]? = some (.cells (Zj d) tg))(hd:Yl d):Zc C N ML [.agg (Ot t),.ptr gd 0] hp=some (.int .i64 (ZrH d t),hp,none):=by
 obtain ⟨m,rfl⟩:∃ m,N=m + 1:=⟨N - 1,by omega⟩
 have q:=Zsz hC m (by omega)
 refine ZgR (by rw [hC.T]; rfl) ?_
 simp only [DI,EV,LD,BL,IFJ,IFK,GI,QC,Nat.reduceAdd,Nat.reduceLeDiff,Nat.reduceBEq,List.length_cons,List.length_nil,LG hg,ZB,Zfv,q,hd]
theorem Zol {C:Cfg}(hC:Xz C)(N:Nat)(hp:HP)(g gs gd gp:Nat)(d:Zi)(seen:Seen)(hd:Yl d)(v:Zfy)(hi:SL g gs gd d seen hp)(ok:ZrQ v)(hN:8≤N):Does g Oo seen hp (Xy v.Name (Z1o d v) seen) (Zc C N IP [.agg (EF v),.ptr gs 0,.ptr gd 0] hp):=by
 obtain ⟨m,rfl⟩:∃ m,N=m + 1:=⟨N - 1,by omega⟩
 obtain ⟨m,rfl⟩:∃ m',m=m' + 1:=⟨m - 1,by omega⟩
 have p0:=ZqD hC (m + 1) (by omega)
 have hlt:g < hp.length:=(List.getElem?_eq_some_iff.1 hi.m).1
 have cs:=Gt hi.c (.cells (EF v) Oe)
 obtain ⟨h1,f1,q,u,e⟩:=FB hC (m + 1) (by omega) (hp ++ [.cells (EF v) Oe]) g seen v.Name (ZpA hi.m _) ok.Name
 have c1:=u.get (ZC hp (.cells (EF v) Oe)) (by omega)
 have cd:=u.get (Gt hi.d (.cells (EF v) Oe)) hi.n2
 have e1:Efs g (Oo seen) (Oo (Qd v.Name seen).2) (Zd hp.length none f1):=(Efs.refl _ _).after hlt e
 have tm:=Zul hC m h1 8 (.fn ML [] [.ptr gd 0]) rfl v.Terms ok.t (ZrH d) (fun hp=>hp[gd]? = some (.cells (Zj d) Zf)) (fun hp x h=>Gt h x) (fun x hx hp h=>by rw [Fp]; exact Zk6 hC m (by omega) hp d x gd _ h hd) cd
 by_cases hz:(Qd v.Name seen).1=0
 ·rw [hz] at q
  have k:Zc C (m + 1 + 1) IP [.agg (EF v),.ptr gs 0,.ptr gd 0] hp=some (Zq false hp (.int .i64 (Z1o d v)) h1 (Zd hp.length none f1)):=by
   refine Cx (by rw [hC.T]; rfl) ?_
   simp only [BN,EV,LD,BL,IFJ,IFK,GI,QC,Nat.reduceAdd,Nat.reduceLeDiff,Nat.reduceBEq,List.length_cons,List.length_nil,ZgY,LG cs,q,LG c1,LG cd,LGP c1,p0,tm,Z1o,ne_eq,not_true_eq_false]
  rw [k,FN hz]
  exact Sc.fin _ hi.m u.off e1
 ·have k:Zc C (m + 1 + 1) IP [.agg (EF v),.ptr gs 0,.ptr gd 0] hp=some (Zq false hp (.int .i64 (Qd v.Name seen).1) h1 (Zd hp.length none f1)):=by
   refine Cx (by rw [hC.T]; rfl) ?_
   simp only [BN,EV,LD,BL,IFJ,IFK,GI,QC,Nat.reduceAdd,Nat.reduceLeDiff,Nat.reduceBEq,List.length_cons,List.length_nil,ZgY,LG cs,q,hz,ne_eq,not_false_eq_true]
  rw [k,ZbW hz]
  exact Sc.fin _ hi.m u.off e1
def Zm5 (d:Zi):Int:=(WV 32 (fun l:Zfy=>Xy l.Name (Z1o d l)) d.Laws []).1
theorem Yl.l2 {d:Zi}(h:Yl d):d.Vars.length≤4611686018427387∧d.Resources.length≤4611686018427387∧d.Belts.length≤4611686018427387∧d.Queues.length≤4611686018427387∧d.Tallies.length≤4611686018427387∧d.Levels.length≤4611686018427387∧d.Starts.length≤4611686018427387∧d.Laws.length≤4611686018427387:=by
 have:=h.Vars.1; have:=h.Resources.1; have:=h.Belts.1; have:=h.Queues.1; have:=h.Tallies.1; have:=h.Levels.1; have:=h.Starts.1; have:=h.Laws.1; omega
theorem Zsx {C:Cfg}(hC:Xz C)(N:Nat)(hN:10≤N)(hp:HP)(d:Zi)(hd:Yl d):Zc C N Zaa [.agg (Zj d)] hp=some (.int .i64 (Zm5 d),hp,none):=by
 obtain ⟨m,rfl⟩:∃ m,N=m + 2:=⟨N - 2,by omega⟩
 have st:=Znq hp.length (hp ++ [Zt.cells (Zj d) Zf] ++ [Zt.map []]) .nilm (.map (hp ++ [Zt.cells (Zj d) Zf]).length) Qm none rfl (by simp <;> omega)
 have hi:SL (hp ++ [Zt.cells (Zj d) Zf]).length (hp ++ [Zt.cells (Zj d) Zf] ++ [Zt.map []]).length hp.length d [] (hp ++ [Zt.cells (Zj d) Zf] ++ [.map []] ++ [.cells [.map (hp ++ [Zt.cells (Zj d) Zf]).length] Qm]) :=
  ⟨ZpA (ZC _ _) _,ZC _ _,Gt (Gt (ZC _ _) _) _,by simp,by simp⟩
 obtain ⟨hp',ef,q,u,e⟩:=Zwo hC m _ 32 (.fn IP [] [.ptr (hp ++ [Zt.cells (Zj d) Zf] ++ [Zt.map []]).length 0,.ptr hp.length 0]) rfl d.Laws hd.l2.2.2.2.2.2.2.2 (fun l=>Xy l.Name (Z1o d l)) Oo _ (SL _ _ _ d) (fun s hp x h=>h.app x)
  (fun x hx s hp h=>⟨by rw [Fp]; exact Zol hC m hp _ _ _ 0 d s hd x h (hd.Laws.2 x hx) (by omega),fun hp' hu=>h.upd hu⟩) [] hi.m hi
 have dr:=e.drop (bs := hp.length) (ef := none) (by simp)
 refine Zo5 (by rw [hC.T]; rfl) ?_
 simp only [Zbo,EV,LD,BL,IFJ,IFK,GI,QC,Nat.reduceAdd,Nat.reduceLeDiff,Nat.reduceBEq,List.length_cons,List.length_nil,ZB,st,q,dr,Zm5]
end Go.Proofs.YtlmfmmclnboglaaGreat
end
section
namespace Go.Proofs.YtlmfmmclnboglaaGreat
open Go Go.RowKit Go.Proofs.YtlmfmmclnboglaaGreat.Abs
set_option linter.all false
set_option maxRecDepth 100000
abbrev Step:=Seen→Int×Seen
def ZbU (d:Zi):List Step:=[WV 32 (fun v:Jn=>Xy v.Name (Kg v)) d.Vars,WV 32 (fun v:ZY=>Xy v.Name (Zxa d v)) d.Resources,WV 32 (fun v:Q6=>Xy v.Name (Am v)) d.Stores,WV 32 (fun v:XK=>Xy v.Name (Zhn v)) d.Belts,WV 32 Qd d.Queues,WV 32 Qd d.Streams,WV 32 Qd d.Tallies,WV 32 Qd d.Levels,WV 32 Qd d.Counts,
 WV 16 (fun v:QI=>Xy v.Name (G5 v)) d.Routines,fun s=>(CR 32 (MK d) d.Starts,s),fun s=>(Zm5 d,s)]
def ZoY (d:Zi):Int:=(CV (ZbU d) []).1
theorem MF {C:Cfg}(hC:Xz C)(N:Nat)(hN:5≤N)(hp:HP)(g gs:Nat)(seen:Seen)(l:List (List UInt8))(hl:l.length≤4611686018427387)(ok:∀ x ∈ l,x.length≤140737488351232)(hm:hp[g]? = some (.map (Oo seen)))(hc:hp[gs]? = some (.cells [.map g] Qm)) :
  Does g Oo seen hp (WV 32 Qd l seen) (Zc C N Qa [.lst 1 (strs l),.ptr gs 0] hp):=by
 obtain ⟨m,rfl⟩:∃ m,N=m + 2:=⟨N - 2,by omega⟩
 obtain ⟨hp',ef,q,u,e⟩:=Zq7 hC m hp 32 (.fn Yt [.map g] []) rfl l hl Qd Oo g (Z2w g) (fun x hx s hp h=>⟨by rw [Zxn]; exact FB hC m (by omega) hp g s x h (ok x hx),fun hp' hu=>hu.2.1⟩) seen hm hm
 have hlt:g < hp.length:=(List.getElem?_eq_some_iff.1 hm).1
 have k:Zc C (m + 1 + 1) Qa [.lst 1 (strs l),.ptr gs 0] hp=some (Zq false hp (.int .i64 (WV 32 Qd l seen).1) hp' (Zd hp.length none ef)):=by
  refine ZkD (by rw [hC.T]; rfl) ?_
  simp only [Em,EV,LD,BL,IFJ,IFK,GI,QC,Nat.reduceAdd,Nat.reduceLeDiff,Nat.reduceBEq,List.length_cons,List.length_nil,LG hc,q]
 rw [k]
 exact Sc.fin _ hm u ((Efs.refl _ _).after hlt e)
theorem Zom {C:Cfg}(hC:Xz C)(N:Nat)(hN:8≤N)(hp:HP)(g gs gd gp:Nat)(d:Zi)(seen:Seen)(hd:Yl d)(hi:SI g gs gd gp d seen hp):Does g Oo seen hp (WV 32 (fun v:Jn=>Xy v.Name (Kg v)) d.Vars seen) (Zc C N IQ [.ptr gs 0,.ptr gd 0] hp):=by
 obtain ⟨m,rfl⟩:∃ m,N=m + 1:=⟨N - 1,by omega⟩
 obtain ⟨hp',ef,q,u,e⟩:=Zv7 hC m (by omega) hp g seen d.Vars hi.m hd.l2.1 hd.Vars.2
 have hlt:g < hp.length:=(List.getElem?_eq_some_iff.1 hi.m).1
 have k:Zc C (m + 1) IQ [.ptr gs 0,.ptr gd 0] hp=some (Zq false hp (.int .i64 (WV 32 (fun v:Jn=>Xy v.Name (Kg v)) d.Vars seen).1) hp' (Zd hp.length none ef)):=by
  refine ZkE (by rw [hC.T]; rfl) ?_
  simp only [En,EV,LD,BL,IFJ,IFK,GI,QC,Nat.reduceAdd,Nat.reduceLeDiff,Nat.reduceBEq,List.length_cons,List.length_nil,LG hi.c,LG hi.d,ZB,q]
 rw [k]
 exact Sc.fin _ hi.m u ((Efs.refl _ _).after hlt e)
theorem Zon {C:Cfg}(hC:Xz C)(N:Nat)(hp:HP)(g gs gd gp:Nat)(d:Zi)(seen:Seen)(hN:10≤N)(hd:Yl d)(hi:SI g gs gd gp d seen hp):Does g Oo seen hp (WV 32 (fun v:ZY=>Xy v.Name (Zxa d v)) d.Resources seen) (Zc C N IR [.ptr gd 0,.ptr gs 0] hp):=by
 obtain ⟨m,rfl⟩:∃ m,N=m + 2:=⟨N - 2,by omega⟩
 obtain ⟨hp',ef,q,u,e⟩:=Zfg hC m hp 32 (.fn Kl [] [.ptr gs 0,.ptr gd 0]) rfl d.Resources hd.l2.2.1 (fun v:ZY=>Xy v.Name (Zxa d v)) Oo g (SI g gs gd gp d) (fun s hp x h=>h.app x) (fun x hx s hp h=>⟨by rw [Fp]; exact Zk8 hC m hp g gs gd gp d s hd x h (hd.Resources.2 x hx) (by omega),fun hp' hu=>h.upd hu⟩) seen hi.m hi
 have hlt:g < hp.length:=(List.getElem?_eq_some_iff.1 hi.m).1
 have k:Zc C (m + 1 + 1) IR [.ptr gd 0,.ptr gs 0] hp=some (Zq false hp (.int .i64 (WV 32 (fun v:ZY=>Xy v.Name (Zxa d v)) d.Resources seen).1) hp' (Zd hp.length none ef)):=by
  refine ZkF (by rw [hC.T]; rfl) ?_
  simp only [Eo,EV,LD,BL,IFJ,IFK,GI,QC,Nat.reduceAdd,Nat.reduceLeDiff,Nat.reduceBEq,List.length_cons,List.length_nil,LG hi.d,ZB,q]
 rw [k]
 exact Sc.fin _ hi.m u ((Efs.refl _ _).after hlt e)
theorem Zoo {C:Cfg}(hC:Xz C)(N:Nat)(hp:HP)(g gs gd gp:Nat)(d:Zi)(seen:Seen)(hN:10≤N)(hd:Yl d)(hi:SI g gs gd gp d seen hp):Does g Oo seen hp (WV 32 (fun v:Q6=>Xy v.Name (Am v)) d.Stores seen) (Zc C N IU [.ptr gd 0,.ptr gs 0] hp):=by
 obtain ⟨m,rfl⟩:∃ m,N=m + 2:=⟨N - 2,by omega⟩
 obtain ⟨hp',ef,q,u,e⟩:=Zk3 hC m hp 32 (.fn Km [] [.ptr gs 0]) rfl d.Stores hd.st.2.2.1 (fun v:Q6=>Xy v.Name (Am v)) Oo g (SI g gs gd gp d) (fun s hp x h=>h.app x) (fun x hx s hp h=>⟨by rw [Fp]; exact Zk9 hC m hp g gs gd gp d s hd x h (hd.Stores.2 x hx) (by omega),fun hp' hu=>h.upd hu⟩) seen hi.m hi
 have hlt:g < hp.length:=(List.getElem?_eq_some_iff.1 hi.m).1
 have k:Zc C (m + 1 + 1) IU [.ptr gd 0,.ptr gs 0] hp=some (Zq false hp (.int .i64 (WV 32 (fun v:Q6=>Xy v.Name (Am v)) d.Stores seen).1) hp' (Zd hp.length none ef)):=by
  refine ZkG (by rw [hC.T]; rfl) ?_
  simp only [Ep,EV,LD,BL,IFJ,IFK,GI,QC,Nat.reduceAdd,Nat.reduceLeDiff,Nat.reduceBEq,List.length_cons,List.length_nil,LG hi.d,ZB,q]
 rw [k]
 exact Sc.fin _ hi.m u ((Efs.refl _ _).after hlt e)
theorem Zop {C:Cfg}(hC:Xz C)(N:Nat)(hp:HP)(g gs gd gp:Nat)(d:Zi)(seen:Seen)(hN:10≤N)(hd:Yl d)(hi:SI g gs gd gp d seen hp):Does g Oo seen hp (WV 32 (fun v:XK=>Xy v.Name (Zhn v)) d.Belts seen) (Zc C N IV [.ptr gd 0,.ptr gs 0] hp):=by
 obtain ⟨m,rfl⟩:∃ m,N=m + 2:=⟨N - 2,by omega⟩
 obtain ⟨hp',ef,q,u,e⟩:=ZlY hC m hp 32 (.fn Kn [] [.ptr gs 0]) rfl d.Belts hd.l2.2.2.1 (fun v:XK=>Xy v.Name (Zhn v)) Oo g (SI g gs gd gp d) (fun s hp x h=>h.app x) (fun x hx s hp h=>⟨by rw [Fp]; exact ZkA hC m hp g gs gd gp d s hd x h (hd.Belts.2 x hx) (by omega),fun hp' hu=>h.upd hu⟩) seen hi.m hi
 have hlt:g < hp.length:=(List.getElem?_eq_some_iff.1 hi.m).1
 have k:Zc C (m + 1 + 1) IV [.ptr gd 0,.ptr gs 0] hp=some (Zq false hp (.int .i64 (WV 32 (fun v:XK=>Xy v.Name (Zhn v)) d.Belts seen).1) hp' (Zd hp.length none ef)):=by
  refine ZkH (by rw [hC.T]; rfl) ?_
  simp only [Er,EV,LD,BL,IFJ,IFK,GI,QC,Nat.reduceAdd,Nat.reduceLeDiff,Nat.reduceBEq,List.length_cons,List.length_nil,LG hi.d,ZB,q]
 rw [k]
 exact Sc.fin _ hi.m u ((Efs.refl _ _).after hlt e)
theorem Z3P {d:Zi}{r:QI}(h:r ∈ d.Routines):SizeOf.sizeOf r.Body < SizeOf.sizeOf d:=by
 have h1:=List.sizeOf_lt_of_mem h
 have h2:SizeOf.sizeOf r.Body < SizeOf.sizeOf r:=by cases r; simp; omega
 have h3:SizeOf.sizeOf d.Routines < SizeOf.sizeOf d:=by cases d; simp; omega
 omega
theorem Zmf {C:Cfg}(hC:Xz C)(N:Nat)(hp:HP)(g gs gd gp:Nat)(d:Zi)(seen:Seen)(hN:SizeOf.sizeOf d + 20≤N)(hd:Yl d)(hi:SI g gs gd gp d seen hp):Does g Oo seen hp (WV 16 (fun v:QI=>Xy v.Name (G5 v)) d.Routines seen) (Zc C N G7 [.ptr gd 0,.ptr gs 0] hp):=by
 obtain ⟨m,rfl⟩:∃ m,N=m + 2:=⟨N - 2,by omega⟩
 obtain ⟨hp',ef,q,u,e⟩:=Zok hC m hp 16 (.fn U1 [] [.ptr gs 0]) rfl d.Routines hd.st.2.2.2 (fun v:QI=>Xy v.Name (G5 v)) Oo g (SI g gs gd gp d) (fun s hp x h=>h.app x) (fun x hx s hp h=>⟨by rw [Fp]; exact ZiW hC m hp g gs gd gp d s hd x h (hd.Routines.2 x hx) (by have:=Z3P hx; omega),fun hp' hu=>h.upd hu⟩) seen hi.m hi
 have hlt:g < hp.length:=(List.getElem?_eq_some_iff.1 hi.m).1
 have k:Zc C (m + 1 + 1) G7 [.ptr gd 0,.ptr gs 0] hp=some (Zq false hp (.int .i64 (WV 16 (fun v:QI=>Xy v.Name (G5 v)) d.Routines seen).1) hp' (Zd hp.length none ef)):=by
  refine Zji (by rw [hC.T]; rfl) ?_
  simp only [Nb,EV,LD,BL,IFJ,IFK,GI,QC,Nat.reduceAdd,Nat.reduceLeDiff,Nat.reduceBEq,List.length_cons,List.length_nil,LG hi.d,ZB,q]
 rw [k]
 exact Sc.fin _ hi.m u ((Efs.refl _ _).after hlt e)
theorem Zoq {C:Cfg}(hC:Xz C)(N:Nat)(hN:7≤N)(hp:HP)(g gs gd gp:Nat)(d:Zi)(seen:Seen)(hd:Yl d)(hi:SI g gs gd gp d seen hp):Does g Oo seen hp (WV 32 Qd d.Queues seen) (Zc C N IW [.ptr gp 0,.ptr gd 0] hp):=by
 obtain ⟨m,rfl⟩:∃ m,N=m + 1:=⟨N - 1,by omega⟩
 obtain ⟨hp',ef,q,u,e⟩:=MF hC m (by omega) hp g gs seen d.Queues hd.l2.2.2.2.1 hd.Queues.2 hi.m hi.c
 have hlt:g < hp.length:=(List.getElem?_eq_some_iff.1 hi.m).1
 have cv:Vz (Zc C m) (.fn Qa [] [.ptr gs 0]) [.lst 1 (strs d.Queues)] hp=Zc C m Qa [.lst 1 (strs d.Queues),.ptr gs 0] hp:=rfl
 have k:Zc C (m + 1) IW [.ptr gp 0,.ptr gd 0] hp=some (Zq false hp (.int .i64 (WV 32 Qd d.Queues seen).1) hp' (Zd hp.length none ef)):=by
  refine ZkI (by rw [hC.T]; rfl) ?_
  simp only [Es,EV,LD,BL,IFJ,IFK,GI,QC,Nat.reduceAdd,Nat.reduceLeDiff,Nat.reduceBEq,List.length_cons,List.length_nil,LG hi.p,LG hi.d,ZB,cv,q]
 rw [k]
 exact Sc.fin _ hi.m u ((Efs.refl _ _).after hlt e)
theorem Zor {C:Cfg}(hC:Xz C)(N:Nat)(hN:7≤N)(hp:HP)(g gs gd gp:Nat)(d:Zi)(seen:Seen)(hd:Yl d)(hi:SI g gs gd gp d seen hp):Does g Oo seen hp (WV 32 Qd d.Streams seen) (Zc C N IX [.ptr gp 0,.ptr gd 0] hp):=by
 obtain ⟨m,rfl⟩:∃ m,N=m + 1:=⟨N - 1,by omega⟩
 obtain ⟨hp',ef,q,u,e⟩:=MF hC m (by omega) hp g gs seen d.Streams hd.st.1 hd.Streams.2 hi.m hi.c
 have hlt:g < hp.length:=(List.getElem?_eq_some_iff.1 hi.m).1
 have cv:Vz (Zc C m) (.fn Qa [] [.ptr gs 0]) [.lst 1 (strs d.Streams)] hp=Zc C m Qa [.lst 1 (strs d.Streams),.ptr gs 0] hp:=rfl
 have k:Zc C (m + 1) IX [.ptr gp 0,.ptr gd 0] hp=some (Zq false hp (.int .i64 (WV 32 Qd d.Streams seen).1) hp' (Zd hp.length none ef)):=by
  refine ZkJ (by rw [hC.T]; rfl) ?_
  simp only [Et,EV,LD,BL,IFJ,IFK,GI,QC,Nat.reduceAdd,Nat.reduceLeDiff,Nat.reduceBEq,List.length_cons,List.length_nil,LG hi.p,LG hi.d,ZB,cv,q]
 rw [k]
 exact Sc.fin _ hi.m u ((Efs.refl _ _).after hlt e)
theorem Zos {C:Cfg}(hC:Xz C)(N:Nat)(hN:7≤N)(hp:HP)(g gs gd gp:Nat)(d:Zi)(seen:Seen)(hd:Yl d)(hi:SI g gs gd gp d seen hp):Does g Oo seen hp (WV 32 Qd d.Tallies seen) (Zc C N IY [.ptr gp 0,.ptr gd 0] hp):=by
 obtain ⟨m,rfl⟩:∃ m,N=m + 1:=⟨N - 1,by omega⟩
 obtain ⟨hp',ef,q,u,e⟩:=MF hC m (by omega) hp g gs seen d.Tallies hd.l2.2.2.2.2.1 hd.Tallies.2 hi.m hi.c
 have hlt:g < hp.length:=(List.getElem?_eq_some_iff.1 hi.m).1
 have cv:Vz (Zc C m) (.fn Qa [] [.ptr gs 0]) [.lst 1 (strs d.Tallies)] hp=Zc C m Qa [.lst 1 (strs d.Tallies),.ptr gs 0] hp:=rfl
 have k:Zc C (m + 1) IY [.ptr gp 0,.ptr gd 0] hp=some (Zq false hp (.int .i64 (WV 32 Qd d.Tallies seen).1) hp' (Zd hp.length none ef)):=by
  refine ZkK (by rw [hC.T]; rfl) ?_
  simp only [Eu,EV,LD,BL,IFJ,IFK,GI,QC,Nat.reduceAdd,Nat.reduceLeDiff,Nat.reduceBEq,List.length_cons,List.length_nil,LG hi.p,LG hi.d,ZB,cv,q]
 rw [k]
 exact Sc.fin _ hi.m u ((Efs.refl _ _).after hlt e)
theorem Zot {C:Cfg}(hC:Xz C)(N:Nat)(hN:7≤N)(hp:HP)(g gs gd gp:Nat)(d:Zi)(seen:Seen)(hd:Yl d)(hi:SI g gs gd gp d seen hp):Does g Oo seen hp (WV 32 Qd d.Levels seen) (Zc C N IZ [.ptr gp 0,.ptr gd 0] hp):=by
 obtain ⟨m,rfl⟩:∃ m,N=m + 1:=⟨N - 1,by omega⟩
 obtain ⟨hp',ef,q,u,e⟩:=MF hC m (by omega) hp g gs seen d.Levels hd.l2.2.2.2.2.2.1 hd.Levels.2 hi.m hi.c
 have hlt:g < hp.length:=(List.getElem?_eq_some_iff.1 hi.m).1
 have cv:Vz (Zc C m) (.fn Qa [] [.ptr gs 0]) [.lst 1 (strs d.Levels)] hp=Zc C m Qa [.lst 1 (strs d.Levels),.ptr gs 0] hp:=rfl
 have k:Zc C (m + 1) IZ [.ptr gp 0,.ptr gd 0] hp=some (Zq false hp (.int .i64 (WV 32 Qd d.Levels seen).1) hp' (Zd hp.length none ef)):=by
  refine ZkL (by rw [hC.T]; rfl) ?_
  simp only [Ev,EV,LD,BL,IFJ,IFK,GI,QC,Nat.reduceAdd,Nat.reduceLeDiff,Nat.reduceBEq,List.length_cons,List.length_nil,LG hi.p,LG hi.d,ZB,cv,q]
 rw [k]
 exact Sc.fin _ hi.m u ((Efs.refl _ _).after hlt e)
theorem Zme {C:Cfg}(hC:Xz C)(N:Nat)(hN:7≤N)(hp:HP)(g gs gd gp:Nat)(d:Zi)(seen:Seen)(hd:Yl d)(hi:SI g gs gd gp d seen hp):Does g Oo seen hp (WV 32 Qd d.Counts seen) (Zc C N G6 [.ptr gp 0,.ptr gd 0] hp):=by
 obtain ⟨m,rfl⟩:∃ m,N=m + 1:=⟨N - 1,by omega⟩
 obtain ⟨hp',ef,q,u,e⟩:=MF hC m (by omega) hp g gs seen d.Counts hd.st.2.1 hd.Counts.2 hi.m hi.c
 have hlt:g < hp.length:=(List.getElem?_eq_some_iff.1 hi.m).1
 have cv:Vz (Zc C m) (.fn Qa [] [.ptr gs 0]) [.lst 1 (strs d.Counts)] hp=Zc C m Qa [.lst 1 (strs d.Counts),.ptr gs 0] hp:=rfl
 have k:Zc C (m + 1) G6 [.ptr gp 0,.ptr gd 0] hp=some (Zq false hp (.int .i64 (WV 32 Qd d.Counts seen).1) hp' (Zd hp.length none ef)):=by
  refine Zjh (by rw [hC.T]; rfl) ?_
  simp only [Na,EV,LD,BL,IFJ,IFK,GI,QC,Nat.reduceAdd,Nat.reduceLeDiff,Nat.reduceBEq,List.length_cons,List.length_nil,LG hi.p,LG hi.d,ZB,cv,q]
 rw [k]
 exact Sc.fin _ hi.m u ((Efs.refl _ _).after hlt e)
theorem ZiX {C:Cfg}(hC:Xz C)(N:Nat)(hN:6≤N)(hp:HP)(d:Zi)(t:G8)(gd:Nat)(tg:TypeId)(hg:hp[gd]? = some (.cells (Zj d) tg))(hd:Yl d)(ht:Sj t):Zc C N Tv [.agg (Vr t),.ptr gd 0] hp=some (.int .i64 (MK d t),hp,none):=by
 obtain ⟨m,rfl⟩:∃ m,N=m + 1:=⟨N - 1,by omega⟩
 have q:=fun hp=>ZqA hC m (by omega) hp d t hd ht
 refine Zfo (by rw [hC.T]; rfl) ?_
 simp only [Bq,EV,LD,BL,IFJ,IFK,GI,QC,Nat.reduceAdd,Nat.reduceLeDiff,Nat.reduceBEq,List.length_cons,List.length_nil,LG hg,ZB,O4,q]
theorem Zmg {C:Cfg}(hC:Xz C)(N:Nat)(hN:8≤N)(hp:HP)(gd:Nat)(d:Zi)(hd:Yl d)(hi:hp[gd]? = some (.cells (Zj d) Zf)):Zc C N OE [.ptr gd 0] hp=some (.int .i64 (CR 32 (MK d) d.Starts),hp,none):=by
 obtain ⟨m,rfl⟩:∃ m,N=m + 2:=⟨N - 2,by omega⟩
 have q:=Zss hC m hp 32 (.fn Tv [] [.ptr gd 0]) rfl d.Starts hd.l2.2.2.2.2.2.2.1 (MK d) (fun hp=>hp[gd]? = some (.cells (Zj d) Zf)) (fun hp x h=>Gt h x) (fun x hx hp h=>by rw [Fp]; exact ZiX hC m (by omega) hp d x gd _ h hd (hd.Starts.2 x hx)) hi
 refine Zjj (by rw [hC.T]; rfl) ?_
 simp only [Nc,EV,LD,BL,IFJ,IFK,GI,QC,Nat.reduceAdd,Nat.reduceLeDiff,Nat.reduceBEq,List.length_cons,List.length_nil,LG hi,ZB,q]
theorem Zmh {C:Cfg}(hC:Xz C)(N:Nat)(hN:12≤N)(hp:HP)(gd:Nat)(d:Zi)(hd:Yl d)(hi:hp[gd]? = some (.cells (Zj d) Zf)):Zc C N OG [.ptr gd 0] hp=some (.int .i64 (Zm5 d),hp,none):=by
 obtain ⟨m,rfl⟩:∃ m,N=m + 1:=⟨N - 1,by omega⟩
 have q:=fun hp=>Zsx hC m (by omega) hp d hd
 refine Zjk (by rw [hC.T]; rfl) ?_
 simp only [Nf,EV,LD,BL,IFJ,IFK,GI,QC,Nat.reduceAdd,Nat.reduceLeDiff,Nat.reduceBEq,List.length_cons,List.length_nil,LG hi,ZB,q]
theorem Zpx {C:Cfg}{σ:Type}(K:KT)(hp0:HP)(fs:List AV)(hro:∀ f ∈ fs,AV.ro f=f)(hfl:fs.length≤1000)(ga:Nat)(ta:TypeId)(steps:List (σ→Int×σ))(hlen:steps.length=fs.length)(es:σ→List (AV×AV))(g:Nat)(Good:σ→HP→Prop)(hGa:∀ s hp,Good s hp→hp[ga]? = some (.cells fs ta))
  (hS:∀ (i:Nat) (f:AV) (st:σ→Int×σ),fs[i]? = some f→steps[i]? = some st→∀ s hp,Good s hp→Does g es s hp (st s) (Vz K f [] hp)∧∀ hp',Upd g (es (st s).2) hp hp'→Good (st s).2 hp') (s0:σ) (h0:hp0[g]? = some (.map (es s0))):∀ (m i:Nat) (hp:HP) (s:σ) (ef:Eff),fs.length < m + i→i≤fs.length→Upd g (es s) hp0 hp→Efs g (es s0) (es s) ef→Good s hp →
  Sc g (es s0) (es (CV (steps.drop i) s).2) hp0 (CV (steps.drop i) s).1 (Vp C.G K C.L hp0 (Kt C.G K C.L hp0) m (.arr ga 0 fs.length 1) (.int .i64 (fs.length:Int)) (.int .i64 (i:Int)) hp ef)
 | 0,i,_,_,_,h,h2,_,_,_=>by omega
 | m + 1,i,hp,s,ef,h,h2,hu,he,hgd=>by
  have hlt:g < hp0.length:=(List.getElem?_eq_some_iff.1 h0).1
  by_cases hi:i=fs.length
  ·subst hi
   have l0:decide ((fs.length:Int) < (fs.length:Int))=false:=by simp
   have k:Vp C.G K C.L hp0 (Kt C.G K C.L hp0) (m + 1) (.arr ga 0 fs.length 1) (.int .i64 (fs.length:Int)) (.int .i64 (fs.length:Int)) hp ef=some (Zq false hp0 (.int .i64 0) hp ef):=by
    simp only [Vp,Kt,EV,l0,IFJ]
   have e:steps.drop fs.length=[]:=by rw [← hlen]; simp
   rw [k,e]
   exact Sc.fin 0 h0 hu he
  ·have hi2:i < fs.length:=by omega
   have hi3:i < steps.length:=by omega
   have l0:decide ((i:Int) < (fs.length:Int))=true:=by simp only [decide_eq_true_eq]; omega
   have a1:Yy (.slice 1) (.arr ga 0 fs.length 1) (.int .i64 (i:Int))=some (.ptr ga i):=by rw [Zm0 _ _ _ _ hi2,Nat.mul_one]
   have a2:Ze hp (.ptr ga i)=some fs[i]:=by
    rw [V7 (hGa s hp hgd),List.getElem?_eq_getElem hi2,Option.map_some,hro _ (List.getElem_mem hi2)]
   have a3:IntKind.i64.wrap ((i:Int) + 1)=((i + 1:Nat):Int):=Uo i (by omega)
   obtain ⟨hS1,hS2⟩:=hS i fs[i] steps[i] (List.getElem?_eq_getElem hi2) (List.getElem?_eq_getElem hi3) s hp hgd
   obtain ⟨hp',ef',hc,hu',he'⟩:=hS1
   have hu2:=hu.trans hu'
   have he2:=he.after hlt he'
   rw [List.drop_eq_getElem_cons hi3]
   by_cases hz:(steps[i] s).1=0
   ·have ih:=Zpx (C := C) K hp0 fs hro hfl ga ta steps hlen es g Good hGa hS s0 h0 m (i + 1) hp' (steps[i] s).2 (Zd hp0.length ef ef') (by omega) (by omega) hu2 he2 (hS2 hp' hu')
    have e:CV (steps[i] :: steps.drop (i + 1)) s=CV (steps.drop (i + 1)) (steps[i] s).2:=by simp [CV,hz]
    rw [e]
    simp only [Vp,EV,LD,BL,IFJ,IFK,GI,QC,Nat.reduceAdd,Nat.reduceLeDiff,Nat.reduceBEq,List.length_cons,List.length_nil,l0,a1,a2,a3,hc,hz,ne_eq,not_true_eq_false]
    exact ih
   ·have e:CV (steps[i] :: steps.drop (i + 1)) s=steps[i] s:=by simp [CV,hz]
    rw [e]
    simp only [Vp,EV,LD,BL,IFJ,IFK,GI,QC,Nat.reduceAdd,Nat.reduceLeDiff,Nat.reduceBEq,List.length_cons,List.length_nil,l0,a1,a2,a3,hc,hz,ne_eq,not_false_eq_true]
    exact Sc.fin _ h0 hu2 he2
def EE (gs gd gp:Nat):List AV:=[.fn IQ [] [.ptr gs 0,.ptr gd 0],.fn IR [] [.ptr gd 0,.ptr gs 0],.fn IU [] [.ptr gd 0,.ptr gs 0],.fn IV [] [.ptr gd 0,.ptr gs 0],.fn IW [] [.ptr gp 0,.ptr gd 0],.fn IX [] [.ptr gp 0,.ptr gd 0],.fn IY [] [.ptr gp 0,.ptr gd 0],.fn IZ [] [.ptr gp 0,.ptr gd 0],.fn G6 [] [.ptr gp 0,.ptr gd 0],.fn G7 [] [.ptr gd 0,.ptr gs 0],.fn OE [] [.ptr gd 0],.fn OG [] [.ptr gd 0]]
theorem Zzu (t:TypeId)(gs gd gp:Nat)(hp:HP):ZbM t 1 [.fn IQ [] [.ptr gs 0,.ptr gd 0],.fn IR [] [.ptr gd 0,.ptr gs 0],.fn IU [] [.ptr gd 0,.ptr gs 0],.fn IV [] [.ptr gd 0,.ptr gs 0],.fn IW [] [.ptr gp 0,.ptr gd 0],.fn IX [] [.ptr gp 0,.ptr gd 0],.fn IY [] [.ptr gp 0,.ptr gd 0],.fn IZ [] [.ptr gp 0,.ptr gd 0],.fn G6 [] [.ptr gp 0,.ptr gd 0],.fn G7 [] [.ptr gd 0,.ptr gs 0],.fn OE [] [.ptr gd 0],.fn OG [] [.ptr gd 0]] hp=some (.arr hp.length 0 12 1,hp ++ [.cells (EE gs gd gp) t]):=rfl
structure SF (g gs gd gp ga:Nat)(d:Zi)(ta:TypeId)(s:Seen)(hp:HP):Prop where
 i:SI g gs gd gp d s hp
 a:hp[ga]? = some (.cells (EE gs gd gp) ta)
 n:ga≠g
theorem Zsr {g:Nat}{s:Seen}{hp:HP}{e:Int}{r:KR}(hm:hp[g]? = some (.map (Oo s)))(h:r=some (.int .i64 e,hp,none)):Does g Oo s hp (e,s) r:=⟨hp,none,h,Upd.refl hm,Efs.refl _ _⟩
theorem Zy8 {C:Cfg}(hC:Xz C)(m:Nat)(g gs gd gp:Nat)(d:Zi)(hd:Yl d)(hm:SizeOf.sizeOf d + 20≤m):∀ (i:Nat) (f:AV) (st:Step),(EE gs gd gp)[i]? = some f→(ZbU d)[i]? = some st→∀ s hp,SI g gs gd gp d s hp→Does g Oo s hp (st s) (Vz (Zc C m) f [] hp):=by
 intro i f st hf hst s hp h
 match i,hf,hst with
 | 0,hf,hst=>cases hf; cases hst; exact Zom hC m (by omega) hp g gs gd gp d s hd h
 | 1,hf,hst=>cases hf; cases hst; exact Zon hC m hp g gs gd gp d s (by omega) hd h
 | 2,hf,hst=>cases hf; cases hst; exact Zoo hC m hp g gs gd gp d s (by omega) hd h
 | 3,hf,hst=>cases hf; cases hst; exact Zop hC m hp g gs gd gp d s (by omega) hd h
 | 4,hf,hst=>cases hf; cases hst; exact Zoq hC m (by omega) hp g gs gd gp d s hd h
 | 5,hf,hst=>cases hf; cases hst; exact Zor hC m (by omega) hp g gs gd gp d s hd h
 | 6,hf,hst=>cases hf; cases hst; exact Zos hC m (by omega) hp g gs gd gp d s hd h
 | 7,hf,hst=>cases hf; cases hst; exact Zot hC m (by omega) hp g gs gd gp d s hd h
 | 8,hf,hst=>cases hf; cases hst; exact Zme hC m (by omega) hp g gs gd gp d s hd h
 | 9,hf,hst=>cases hf; cases hst; exact Zmf hC m hp g gs gd gp d s (by omega) hd h
 | 10,hf,hst=>cases hf; cases hst; exact Zsr h.m (Zmg hC m (by omega) hp gd d hd h.d)
 | 11,hf,hst=>cases hf; cases hst; exact Zsr h.m (Zmh hC m (by omega) hp gd d hd h.d)
 | i + 12,hf,hst=>simp [EE] at hf
theorem Zsy {C:Cfg}(hC:Xz C)(N:Nat)(hp:HP)(d:Zi)(hN:SizeOf.sizeOf d + 22≤N)(hd:Yl d):Zc C N Zab [.agg (Zj d)] hp=some (.int .i64 (ZoY d),hp,none):=by
 obtain ⟨m,rfl⟩:∃ m,N=m + 2:=⟨N - 2,by omega⟩
 generalize hh0:hp ++ [Zt.cells (Zj d) Zf]=h0
 generalize hh1:h0 ++ [Zt.map []]=h1
 generalize hh2:h1 ++ [Zt.cells [.map h0.length] Qm]=h2
 generalize hh3:h2 ++ [Zt.cells [.fn Qa [] [.ptr h1.length 0]] Xt]=h3
 generalize hh4:h3 ++ [Zt.cells (EE h1.length hp.length h2.length) Jm]=h4
 have l0:h0.length=hp.length + 1:=by rw [← hh0]; simp
 have l1:h1.length=hp.length + 2:=by rw [← hh1]; simp [l0]
 have l2:h2.length=hp.length + 3:=by rw [← hh2]; simp [l1]
 have l3:h3.length=hp.length + 4:=by rw [← hh3]; simp [l2]
 have gd0:h0[hp.length]? = some (.cells (Zj d) Zf):=by rw [← hh0]; exact ZC _ _
 have gm1:h1[h0.length]? = some (.map (Oo [])):=by rw [← hh1]; exact ZC _ _
 have gc2:h2[h1.length]? = some (.cells [.map h0.length] Qm):=by rw [← hh2]; exact ZC _ _
 have gp3:h3[h2.length]? = some (.cells [.fn Qa [] [.ptr h1.length 0]] Xt):=by rw [← hh3]; exact ZC _ _
 have gd1:h1[hp.length]? = some (.cells (Zj d) Zf):=by rw [← hh1]; exact Gt gd0 _
 have gd2:h2[hp.length]? = some (.cells (Zj d) Zf):=by rw [← hh2]; exact Gt gd1 _
 have gd3:h3[hp.length]? = some (.cells (Zj d) Zf):=by rw [← hh3]; exact Gt gd2 _
 have gm2:h2[h0.length]? = some (.map (Oo [])):=by rw [← hh2]; exact ZpA gm1 _
 have gm3:h3[h0.length]? = some (.map (Oo [])):=by rw [← hh3]; exact ZpA gm2 _
 have gc3:h3[h1.length]? = some (.cells [.map h0.length] Qm):=by rw [← hh3]; exact Gt gc2 _
 have hSI:SI h0.length h1.length hp.length h2.length d [] h4:=by
  rw [← hh4]
  exact ⟨ZpA gm3 _,Gt gc3 _,Gt gd3 _,Gt gp3 _,by omega,by omega,by omega⟩
 have hga:h4[h3.length]? = some (.cells (EE h1.length hp.length h2.length) Jm):=by rw [← hh4]; exact ZC _ _
 have h:=Zpx (C := C) (Zc C m) h4 (EE h1.length hp.length h2.length) (fun f hf=>by
   simp only [EE,List.mem_cons,List.not_mem_nil,or_false] at hf
   rcases hf with rfl | rfl | rfl | rfl | rfl | rfl | rfl | rfl | rfl | rfl | rfl | rfl <;> rfl) (by simp [EE]) h3.length Jm (ZbU d) rfl Oo h0.length (SF h0.length h1.length hp.length h2.length h3.length d Jm) (fun s hp h=>h.a)
  (fun i f st hf hst s hp h=>⟨Zy8 hC m _ _ _ _ d hd (by omega) i f st hf hst s hp h.i,fun hp' hu=>⟨h.i.upd hu,hu.get h.a h.n,h.n⟩⟩) [] hSI.m C.L 0 h4 [] none (by have:=hC.L; simp [EE]; omega) (by omega) (Upd.refl hSI.m) (Efs.refl _ _) ⟨hSI,hga,by omega⟩
 obtain ⟨hp',ef,q,u,e⟩:=h
 have dr:=e.drop (bs := hp.length) (ef := none) (by omega)
 have fr:Zc C (m + 1) Ar [.arr h3.length 0 12 1] h4=some (.int .i64 (ZoY d),hp',ef):=by
  refine Zm9 (by rw [hC.T]; rfl) ?_
  have ll:Z9 h4 .slice (.arr h3.length 0 12 1)=some (.int .i64 12):=rfl
  have ra:AV.ro (.arr h3.length 0 12 1)=.arr h3.length 0 12 1:=rfl
  simp only [Fx,EV,ra,ll]
  exact q
 have st1:Zla hp.length (.ptr h1.length 0) (.map h0.length) (h1 ++ [.cells [.nilm] Qm]) none=some (h2,none):=by rw [← hh2]; exact Znq hp.length h1 .nilm (.map h0.length) Qm none rfl (by omega)
 have st2:Zla hp.length (.ptr h2.length 0) (.fn Qa [] [.ptr h1.length 0]) (h2 ++ [.cells [.nilf] Xt]) none=some (h3,none):=by rw [← hh3]; exact Znq hp.length h2 .nilf _ Xt none rfl (by omega)
 have lt:=Zzu Jm h1.length hp.length h2.length h3
 rw [hh4] at lt
 have ra:AV.ro (.arr h3.length 0 12 1)=.arr h3.length 0 12 1:=rfl
 refine Zo6 (by rw [hC.T]; rfl) ?_
 simp only [Zbs,EV,LD,ZB,hh0,hh1,st1,st2,lt,ra,fr,dr]
end Go.Proofs.YtlmfmmclnboglaaGreat
end
section
namespace Go.Proofs.YtlmfmmclnboglaaGreat
open Go Go.RowKit Go.Proofs.YtlmfmmclnboglaaGreat.Abs
set_option linter.all false
set_option maxRecDepth 100000
def ZxT (m:VX):Mdl:=⟨m.Name,m.Params.map X9,m.Sites.map ZpS,m.Links.map KM⟩
theorem ZqT (m:VX):ZgT (ZxT m)=Vh m:=by
 simp only [ZgT,ZxT,Vh,List.map_map]; rfl
theorem ZuB {m:VX}(h:TS m):Zwd (ZxT m):=by
 have h1:=h.Params.1; have h2:=h.Sites.1; have h3:=h.Links.1
 exact ⟨by simp [ZxT]; omega,by simp [ZxT]; omega,fun s hs=>by obtain ⟨x,hx,rfl⟩:=List.mem_map.1 hs; exact Zno (h.Sites.2 x hx),by simp [ZxT]; omega,fun r hr=>by obtain ⟨x,hx,rfl⟩:=List.mem_map.1 hr; exact ⟨x.From,x.To,x.Delay,rfl⟩⟩
theorem ZvX (name:List UInt8)(m:VX):Z0p name (ZxT m)=V8 (isN name) (m.Sites.map Zj) 0:=by
 simp only [Z0p,ZxT,List.map_map]; rfl
theorem ZoZ (s:List UInt8)(l:List Zi):decide (V8 (isN s) (l.map Zj) 0 < 0)=!(l.map (·.Name)).contains s:=ZqO (row := Zj) (nm := fun x:Zi=>x.Name) (fun _=>rfl) s l
theorem Zsw {C:Cfg}(hC:Xz C)(N:Nat)(hN:3≤N)(hp:HP)(m:VX)(s:List UInt8)(hm:TS m):Zc C N BU [.agg (Vh m),.str s] hp=some (.int .i64 (V8 (isN s) (m.Sites.map Zj) 0),hp,none):=by
 obtain ⟨n,rfl⟩:∃ n,N=n + 3:=⟨N - 3,by omega⟩
 have h:=Z1d hC n hp (ZxT m) s (ZuB hm)
 rw [ZqT,ZvX] at h
 exact h
theorem Zwv {C:Cfg}(hC:Xz C)(N:Nat)(hN:1≤N)(hp:HP)(m:VX)(s:List UInt8)(hm:TS m):Zc C N Po [.agg (Vh m),.str s] hp=some (.int .i64 (V8 (isN s) (m.Sites.map Zj) 0),hp,none):=by
 obtain ⟨n,rfl⟩:∃ n,N=n + 1:=⟨N - 1,by omega⟩
 have h:=Z1g hC n hp (ZxT m) s (ZuB hm)
 rw [ZqT,ZvX] at h
 exact h
abbrev ZtQ:=List (List UInt8×List UInt8)
def ZuA (m:VX)(l:DV)(s:ZtQ):Int×ZtQ :=
 if (!(m.Sites.map (·.Name)).contains l.From || !(m.Sites.map (·.Name)).contains l.To)=true then (5,s)
 else if decide (l.From=l.To)=true then (1,s) else if (!(btw l.Delay 1 1000000000))=true then (2,s) else if s.contains (l.From,l.To)=true then (4,s) else (0,s ++ [(l.From,l.To)])
def Zj4 (m:VX):Int:=(WV 32 (ZuA m) m.Links []).1
structure LI (g gs gm:Nat)(mo:VX)(s:ZtQ)(hp:HP):Prop where
 m:hp[g]? = some (.map (Zcy s))
 c:hp[gs]? = some (.cells [.map g] JI)
 d:hp[gm]? = some (.cells (Vh mo) ZV)
 n1:gs≠g
 n2:gm≠g
theorem LI.app {g gs gm:Nat}{m:VX}{s:ZtQ}{hp:HP}(h:LI g gs gm m s hp)(x:Zt):LI g gs gm m s (hp ++ [x]):=⟨ZpA h.m x,Gt h.c x,Gt h.d x,h.n1,h.n2⟩
theorem LI.upd {g gs gm:Nat}{m:VX}{s s':ZtQ}{hp hp':HP}(h:LI g gs gm m s hp)(u:Upd g (Zcy s') hp hp'):LI g gs gm m s' hp':=⟨u.2.1,u.get h.c h.n1,u.get h.d h.n2,h.n1,h.n2⟩
theorem ZsH (a b:List UInt8):fill [(.str []),(.str [])] [(0,1,.str a),(1,1,.str b)]=some [.str a,.str b]:=rfl
theorem Zmc {C:Cfg}(hC:Xz C)(N:Nat)(hN:4≤N)(hp:HP)(g gs gm:Nat)(m0:VX)(s:ZtQ)(hm:TS m0)(v:DV)(hi:LI g gs gm m0 s hp):Does g Zcy s hp (ZuA m0 v s) (Zc C N OD [.agg (KM v),.ptr gm 0,.ptr gs 0] hp):=by
 obtain ⟨m,rfl⟩:∃ m,N=m + 1:=⟨N - 1,by omega⟩
 have p1:=Zsw hC m (by omega)
 have p2:=Uy hC m (by omega)
 have hlt:g < hp.length:=(List.getElem?_eq_some_iff.1 hi.m).1
 have i1:=(hi.app (.cells (KM v) Jl)).app (.cells [.str v.From,.str v.To] Dm)
 have st:=N7 hp.length 2 (hp ++ [Zt.cells (KM v) Jl]) [(.str []),(.str [])] [.str v.From,.str v.To] Dm none rfl rfl (by simp)
 have l2:Zp (hp ++ [.cells (KM v) Jl] ++ [.cells [.str v.From,.str v.To] Dm]) 2 (.ptr (hp ++ [Zt.cells (KM v) Jl]).length 0)=some (.agg [.str v.From,.str v.To]):=FI (ZC _ _) 2 rfl rfl
 have run:∀ r,J9 C.G (Zc C m) C.L (.agg (KM v)) (.ptr gm 0) (.ptr gs 0) hp=some r→Zc C (m + 1) OD [.agg (KM v),.ptr gm 0,.ptr gs 0] hp=some r:=fun r h=>Zjf (by rw [hC.T]; rfl) h
 unfold ZuA
 rcases Bool.eq_false_or_eq_true (!(m0.Sites.map (·.Name)).contains v.From || !(m0.Sites.map (·.Name)).contains v.To) with b1 | b1
 ·rw [if_pos b1,run (.int .i64 5,hp,none) (by
   simp only [J9,EV,LD,BL,IFJ,IFK,GI,QC,Nat.reduceAdd,Nat.reduceLeDiff,Nat.reduceBEq,List.length_cons,List.length_nil,Lp,QF,ZsH,l2,st,LG i1.c,LG i1.d,p1,p2,hm,ZoZ,b1])]
  exact ⟨hp,none,rfl,Upd.refl hi.m,Efs.refl _ _⟩
 rw [if_neg (by rw [b1]; decide)]
 by_cases b2:v.From=v.To
 ·rw [if_pos (by simp [b2]),run (.int .i64 1,hp,none) (by
   simp only [J9,EV,LD,BL,IFJ,IFK,GI,QC,Nat.reduceAdd,Nat.reduceLeDiff,Nat.reduceBEq,List.length_cons,List.length_nil,Lp,QF,ZsH,l2,st,LG i1.c,LG i1.d,p1,p2,hm,ZoZ,b1]
   simp only [b2,decide_true,IFJ])]
  exact ⟨hp,none,rfl,Upd.refl hi.m,Efs.refl _ _⟩
 rw [if_neg (by simp [b2])]
 rcases Bool.eq_false_or_eq_true (!(btw v.Delay 1 1000000000)) with b3 | b3
 ·rw [if_pos b3,run (.int .i64 2,hp,none) (by
   simp only [J9,EV,LD,BL,IFJ,IFK,GI,QC,Nat.reduceAdd,Nat.reduceLeDiff,Nat.reduceBEq,List.length_cons,List.length_nil,Lp,QF,ZsH,l2,st,LG i1.c,LG i1.d,p1,p2,hm,ZoZ,b1,b2,b3])]
  exact ⟨hp,none,rfl,Upd.refl hi.m,Efs.refl _ _⟩
 rw [if_neg (by rw [b3]; decide)]
 have lk:=Zw5 i1.m v.From v.To
 rcases Bool.eq_false_or_eq_true (s.contains (v.From,v.To)) with b4 | b4
 ·rw [if_pos b4,run (.int .i64 4,hp,none) (by
   simp only [J9,EV,LD,BL,IFJ,IFK,GI,QC,Nat.reduceAdd,Nat.reduceLeDiff,Nat.reduceBEq,List.length_cons,List.length_nil,Lp,QF,ZsH,l2,st,LG i1.c,LG i1.d,p1,p2,hm,ZoZ,b1,b2,b3,lk,b4])]
  exact ⟨hp,none,rfl,Upd.refl hi.m,Efs.refl _ _⟩
 rw [if_neg (by rw [b4]; decide)]
 have mu:=Zw8 (bs := hp.length) i1.m v.From v.To b4 none
 have nt:Ak hp.length none g 0=some (g,0):=by simp [Ak,hlt,Eff.or]
 rw [nt] at mu
 rw [run (Zq false hp (.int .i64 0) ((hp ++ [Zt.cells (KM v) Jl] ++ [Zt.cells [.str v.From,.str v.To] Dm]).set g (.map (Zcy (s ++ [(v.From,v.To)])))) (some (g,0))) (by
   simp only [J9,EV,LD,BL,IFJ,IFK,GI,QC,Nat.reduceAdd,Nat.reduceLeDiff,Nat.reduceBEq,List.length_cons,List.length_nil,Lp,QF,ZsH,l2,st,LG i1.c,LG i1.d,p1,p2,hm,ZoZ,b1,b2,b3,lk,b4,mu])]
 exact Sc.fin 0 hi.m (Upd.set i1.m).off.off (.inr rfl)
theorem TS.l {m:VX}(h:TS m):m.Params.length≤4611686018427387∧m.Sites.length≤4611686018427387∧m.Links.length≤4611686018427387:=by
 have:=h.Params.1; have:=h.Sites.1; have:=h.Links.1; omega
theorem Zq9 {C:Cfg}(hC:Xz C)(N:Nat)(hN:6≤N)(hp:HP)(m0:VX)(hm:TS m0):Zc C N Au [.agg (Vh m0)] hp=some (.int .i64 (Zj4 m0),hp,none):=by
 obtain ⟨m,rfl⟩:∃ m,N=m + 2:=⟨N - 2,by omega⟩
 generalize hh0:hp ++ [Zt.cells (Vh m0) ZV]=h0
 generalize hh1:h0 ++ [Zt.map []]=h1
 generalize hh2:h1 ++ [Zt.cells [.map h0.length] JI]=h2
 have l0:h0.length=hp.length + 1:=by rw [← hh0]; simp
 have l1:h1.length=hp.length + 2:=by rw [← hh1]; simp [l0]
 have gd0:h0[hp.length]? = some (.cells (Vh m0) ZV):=by rw [← hh0]; exact ZC _ _
 have gm1:h1[h0.length]? = some (.map (Zcy [])):=by rw [← hh1]; exact ZC _ _
 have gd1:h1[hp.length]? = some (.cells (Vh m0) ZV):=by rw [← hh1]; exact Gt gd0 _
 have hi:LI h0.length h1.length hp.length m0 [] h2:=by
  rw [← hh2]; exact ⟨ZpA gm1 _,ZC _ _,Gt gd1 _,by omega,by omega⟩
 obtain ⟨hp',ef,q,u,e⟩:=Zuk hC m h2 32 (.fn OD [] [.ptr hp.length 0,.ptr h1.length 0]) rfl m0.Links hm.l.2.2 (ZuA m0) Zcy h0.length (LI h0.length h1.length hp.length m0) (fun s hp x h=>h.app x)
  (fun x hx s hp h=>⟨by rw [Fp]; exact Zmc hC m (by omega) hp _ _ _ m0 s hm x h,fun hp' hu=>h.upd hu⟩) [] hi.m hi
 have dr:=e.drop (bs := hp.length) (ef := none) (by omega)
 have st1:Zla hp.length (.ptr h1.length 0) (.map h0.length) (h1 ++ [.cells [.nilm] JI]) none=some (h2,none):=by rw [← hh2]; exact Znq hp.length h1 .nilm (.map h0.length) JI none rfl (by omega)
 refine ZmB (by rw [hC.T]; rfl) ?_
 simp only [Fz,EV,LD,GI,QF,hh0,hh1,st1,LG hi.d,q,dr,Zj4]
def FM (l:List Jn):Int:=(WV 32 (fun v:Jn=>Xy v.Name (Kg v)) l []).1
def Zj9 (m:VX):Int:=(WV 16 (fun d:Zi=>Xy d.Name (ZoY d)) m.Sites []).1
def Cw (m:VX):Int :=
 if decide (Gv m.Name≠0)=true then Gv m.Name else if decide (FM m.Params≠0)=true then FM m.Params else if decide ((m.Sites.length:Int)=0)=true then 7 else if decide (Zj9 m≠0)=true then Zj9 m else Zj4 m
structure CI (g gs:Nat)(s:Seen)(hp:HP):Prop where
 m:hp[g]? = some (.map (Oo s))
 c:hp[gs]? = some (.cells [.map g] Qm)
 n1:gs≠g
theorem CI.app {g gs:Nat}{s:Seen}{hp:HP}(h:CI g gs s hp)(x:Zt):CI g gs s (hp ++ [x]):=⟨ZpA h.m x,Gt h.c x,h.n1⟩
theorem CI.upd {g gs:Nat}{s s':Seen}{hp hp':HP}(h:CI g gs s hp)(u:Upd g (Oo s') hp hp'):CI g gs s' hp':=⟨u.2.1,u.get h.c h.n1,h.n1⟩
theorem Zmb {C:Cfg}(hC:Xz C)(N:Nat)(hp:HP)(g gs:Nat)(seen:Seen)(v:Zi)(hi:CI g gs seen hp)(ok:Yl v)(hN:SizeOf.sizeOf v + 24≤N):Does g Oo seen hp (Xy v.Name (ZoY v) seen) (Zc C N U5 [.agg (Zj v),.ptr gs 0] hp):=by
 obtain ⟨m,rfl⟩:∃ m,N=m + 1:=⟨N - 1,by omega⟩
 have p0:=fun hp=>Zsy hC m hp v (by omega) ok
 have hlt:g < hp.length:=(List.getElem?_eq_some_iff.1 hi.m).1
 have cs:=Gt hi.c (.cells (Zj v) Zf)
 obtain ⟨h1,f1,q,u,e⟩:=FB hC m (by omega) (hp ++ [.cells (Zj v) Zf]) g seen v.Name (ZpA hi.m _) ok.Name
 have c1:=u.get (ZC hp (.cells (Zj v) Zf)) (by omega)
 have e1:Efs g (Oo seen) (Oo (Qd v.Name seen).2) (Zd hp.length none f1):=(Efs.refl _ _).after hlt e
 by_cases hz:(Qd v.Name seen).1=0
 ·rw [hz] at q
  have k:Zc C (m + 1) U5 [.agg (Zj v),.ptr gs 0] hp=some (Zq false hp (.int .i64 (ZoY v)) h1 (Zd hp.length none f1)):=by
   refine Ah (by rw [hC.T]; rfl) ?_
   simp only [Ri,EV,LD,BL,IFJ,IFK,GI,QC,Nat.reduceAdd,Nat.reduceLeDiff,Nat.reduceBEq,List.length_cons,List.length_nil,ZB,LG cs,q,LG c1,p0,ne_eq,not_true_eq_false]
  rw [k,FN hz]
  exact Sc.fin _ hi.m u.off e1
 ·have k:Zc C (m + 1) U5 [.agg (Zj v),.ptr gs 0] hp=some (Zq false hp (.int .i64 (Qd v.Name seen).1) h1 (Zd hp.length none f1)):=by
   refine Ah (by rw [hC.T]; rfl) ?_
   simp only [Ri,EV,LD,BL,IFJ,IFK,GI,QC,Nat.reduceAdd,Nat.reduceLeDiff,Nat.reduceBEq,List.length_cons,List.length_nil,ZB,LG cs,q,hz,ne_eq,not_false_eq_true]
  rw [k,ZbW hz]
  exact Sc.fin _ hi.m u.off e1
theorem Z3O {m:VX}{d:Zi}(h:d ∈ m.Sites):SizeOf.sizeOf d < SizeOf.sizeOf m:=by
 have h1:=List.sizeOf_lt_of_mem h
 have h3:SizeOf.sizeOf m.Sites < SizeOf.sizeOf m:=by cases m; simp; omega
 omega
theorem Zq8 {C:Cfg}(hC:Xz C)(N:Nat)(hp:HP)(m0:VX)(hN:SizeOf.sizeOf m0 + 26≤N)(hm:TS m0):Zc C N Aq [.agg (Vh m0)] hp=some (.int .i64 (Cw m0),hp,none):=by
 obtain ⟨m,rfl⟩:∃ m,N=m + 2:=⟨N - 2,by omega⟩
 have p1:=Pi hC (m + 1) (by omega)
 have p2:=fun hp=>Zq9 hC (m + 1) (by omega) hp m0 hm
 refine Zm8 (by rw [hC.T]; rfl) ?_
 by_cases b1:Gv m0.Name=0
 case neg =>
  simp only [TE,EV,LD,BL,IFJ,IFK,GI,QC,Nat.reduceAdd,Nat.reduceLeDiff,Nat.reduceBEq,List.length_cons,List.length_nil,QF,p1,hm.Name,Cw,b1,ne_eq,not_false_eq_true]
 generalize hh0:hp ++ [Zt.cells (Vh m0) ZV]=h0
 have l0:h0.length=hp.length + 1:=by rw [← hh0]; simp
 have gd0:h0[hp.length]? = some (.cells (Vh m0) ZV):=by rw [← hh0]; exact ZC _ _
 obtain ⟨h1,f1,q1,u1,e1⟩:=Zv7 hC (m + 1) (by omega) (h0 ++ [.map []]) h0.length [] m0.Params (ZC _ _) hm.l.1 hm.Params.2
 have dr1:=e1.drop (bs := hp.length) (ef := none) (by omega)
 have gd1:=u1.get (Gt gd0 _) (by omega)
 have q1':Zc C (m + 1) Vi [.map h0.length,.lst 3 (m0.Params.map X9)] (h0 ++ [.map []])=some (.int .i64 (FM m0.Params),h1,f1):=q1
 by_cases b2:FM m0.Params=0
 case neg =>
  simp only [TE,CO,QF,hh0,LG gd0,p1,hm.Name,q1',dr1,Cw,b1,b2,ne_eq,not_true_eq_false,not_false_eq_true]
 by_cases b3:m0.Sites.length=0
 ·have b3':decide ((m0.Sites.length:Int)=0)=true:=by simp [b3]
  simp only [TE,CO,QF,hh0,LG gd0,LG gd1,p1,hm.Name,q1',dr1,Cw,b1,b2,b3',ne_eq,not_true_eq_false]
 have b3':decide ((m0.Sites.length:Int)=0)=false:=by simp only [decide_eq_false_iff_not]; omega
 have hh1:hp.length < h1.length:=(List.getElem?_eq_some_iff.1 gd1).1
 generalize hk1:h1 ++ [Zt.map []]=k1
 generalize hk2:k1 ++ [Zt.cells [.map h1.length] Qm]=k2
 have lk1:k1.length=h1.length + 1:=by rw [← hk1]; simp
 have gk1:k1[h1.length]? = some (.map (Oo [])):=by rw [← hk1]; exact ZC _ _
 have gd2:k1[hp.length]? = some (.cells (Vh m0) ZV):=by rw [← hk1]; exact Gt gd1 _
 have gd3:k2[hp.length]? = some (.cells (Vh m0) ZV):=by rw [← hk2]; exact Gt gd2 _
 have hi:CI h1.length k1.length [] k2:=by
  rw [← hk2]; exact ⟨ZpA gk1 _,ZC _ _,by omega⟩
 obtain ⟨h3,f3,q3,u3,e3⟩:=ZlZ hC m k2 16 (.fn U5 [] [.ptr k1.length 0]) rfl m0.Sites hm.l.2.1 (fun d:Zi=>Xy d.Name (ZoY d)) Oo h1.length (CI h1.length k1.length) (fun s hp x h=>h.app x)
  (fun x hx s hp h=>⟨by rw [Fp]; exact Zmb hC m hp _ _ s x h (hm.Sites.2 x hx) (by have:=Z3O hx; omega),fun hp' hu=>h.upd hu⟩) [] hi.m hi
 have q3':Zc C (m + 1) XU [.lst 13 (m0.Sites.map Zj),.int .i64 16,.fn U5 [] [.ptr k1.length 0]] k2=some (.int .i64 (Zj9 m0),h3,f3):=q3
 have dr3:=e3.drop (bs := hp.length) (ef := none) (by omega)
 have gd4:=u3.get gd3 (by omega)
 have st1:Zla hp.length (.ptr k1.length 0) (.map h1.length) (k1 ++ [.cells [.nilm] Qm]) none=some (k2,none):=by rw [← hk2]; exact Znq hp.length k1 .nilm (.map h1.length) Qm none rfl (by omega)
 simp only [TE,CO,QF,hh0,LG gd0,LG gd1,hk1,st1,LG gd3,LG gd4,p1,p2,hm.Name,q1',dr1,q3',dr3,Cw,b1,b2,b3',ne_eq,not_true_eq_false]
end Go.Proofs.YtlmfmmclnboglaaGreat
end
section
namespace Go.Proofs.YtlmfmmclnboglaaGreat
open Go Go.RowKit Go.Proofs.YtlmfmmclnboglaaGreat.Abs
set_option linter.all false
set_option maxRecDepth 100000
def JZ (s:List UInt8)(seen:Seen):Int:=Qe (Gv s) (Qu (!(seen.contains s)) 4)
theorem Zjr (s:List UInt8)(rest:Int)(seen:Seen):(Xy s rest seen).1=Qe (JZ s seen) rest:=by
 by_cases h1:Gv s=0 <;> rcases Bool.eq_false_or_eq_true (seen.contains s) with h2 | h2 <;> simp only [Xy,Qd,JZ,Qe,Qu,h1,h2] <;> simp [h1]
theorem Zjs {s:List UInt8}{rest:Int}{seen:Seen}(h:Qe (JZ s seen) rest=0):(Xy s rest seen)=(0,seen ++ [s]):=by
 by_cases h1:Gv s=0 <;> rcases Bool.eq_false_or_eq_true (seen.contains s) with h2 | h2 <;> simp only [JZ,Qe,Qu,h1,h2] at h <;> simp [h1] at h
 simp only [Xy,Qd,h1,h2]
 simp [h]
theorem Nl {C:Cfg}(hC:Xz C)(N:Nat)(hN:4≤N)(hp:HP)(s:List UInt8)(seen:Seen)(hs:s.length≤140737488351232)(hl:seen.length≤4611686018427387):Zc C N KS [.str s,.lst 1 (strs seen)] hp=some (.int .i64 (JZ s seen),hp,none):=by
 obtain ⟨m,rfl⟩:∃ m,N=m + 1:=⟨N - 1,by omega⟩
 have q1:=FC hC m (by omega)
 have q2:=Zp3 hC m (by omega)
 have q3:=Uz hC m (by omega)
 have q4:=Gp hC m (by omega)
 refine Zr3 (by rw [hC.T]; rfl) ?_
 simp only [ZeV,CO,Nat.reduceAdd,Nat.reduceLeDiff,Nat.reduceBEq,List.length_cons,List.length_nil,q1,q2,q3,q4,hs,hl,Z2e,JZ]
theorem Z3l (v:Jn)(seen:Seen):Qe (Qe (JZ v.Name seen) (Qu (ZjC v.Ty) 1)) (Qu (ZkB v.Ty v.N) 2)=Qe (JZ v.Name seen) (Kg v):=by
 rw [ZrK]
 unfold Qe Qu Kg
 by_cases h:JZ v.Name seen=0 <;> cases btw v.Ty 1 3 <;> cases ZkB v.Ty v.N <;> simp [h]
theorem Zu0 {C:Cfg}(hC:Xz C)(N:Nat)(hN:5≤N)(hp:HP)(v:Jn)(seen:Seen)(ok:ZdK v)(hl:seen.length≤4611686018427387):Zc C N A8 [.agg (X9 v),.lst 1 (strs seen)] hp=some (.int .i64 (Qe (JZ v.Name seen) (Kg v)),hp,none):=by
 obtain ⟨m,rfl⟩:∃ m,N=m + 1:=⟨N - 1,by omega⟩
 have q1:=Nl hC m (by omega)
 have q2:=Zfi hC m (by omega)
 have q3:=Uz hC m (by omega)
 have q4:=Gp hC m (by omega)
 have q5:=ZiY hC m (by omega)
 refine Zr5 (by rw [hC.T]; rfl) ?_
 rw [← Z3l]
 simp only [ZeZ,CO,Nat.reduceAdd,Nat.reduceLeDiff,Nat.reduceBEq,List.length_cons,List.length_nil,Sb,q1,q2,q3,q4,q5,ok.Name,hl]
theorem Z2z (seen:Seen)(s:List UInt8)(hp:HP)(h:seen.length≤1000000):Zpk 1 16 (.own 1 (strs seen)) (.lst 1 [[.str s]]) hp=some (.own 1 (strs (seen ++ [s]))):=by
 rw [Zhm _ _ _ (by simp [strs]; omega)]; simp [strs]
theorem roS (seen:Seen):AV.ro (.own 1 (strs seen))=.lst 1 (strs seen):=rfl
theorem Z1q:(.lst 1 []:AV)=.lst 1 (strs [])∧(.own 1 []:AV)=.own 1 (strs []):=⟨rfl,rfl⟩
theorem Z03 (f:Ov):Qu (ZjC f.Ty) 1=Af f:=by
 rw [ZrK]; unfold Qu Af; cases btw f.Ty 1 3 <;> rfl
theorem Cu {C:Cfg}(K:KT)(hp0 hp:HP)(r0:QI)(fs:List Ov)(hl:fs.length≤1000)(g:Nat)(tg:TypeId)(hg:hp[g]? = some (.cells (Yr r0) tg))(okn:∀ f ∈ fs,Zli f)
  (hN:∀ hp s (seen:Seen),s.length≤140737488351232→seen.length≤4611686018427387→K KS [.str s,.lst 1 (strs seen)] hp=some (.int .i64 (JZ s seen),hp,none)) (hT:∀ hp x,K Bc [.int .i64 x] hp=some (.bool (ZjC x),hp,none)) (hU:∀ hp b e,K YH [.bool b,.int .i64 e] hp=some (.int .i64 (Qu b e),hp,none)) (hF:∀ hp a b,K Qh [.int .i64 a,.int .i64 b] hp=some (.int .i64 (Qe a b),hp,none))
  (hB:∀ hp,K P5 [.lst 21 (r0.Body.map Y9)] hp=some (.int .i64 (Zdj r0.Body),hp,none)):∀ (r q:List Ov) (m:Nat) (seen:Seen),fs=q ++ r→r.length < m→seen.length + r.length≤1000000 →
  VP C.G K C.L hp0 (IK C.G K C.L hp0) m (.ptr g 0) (.lst 1 (strs seen)) (.own 1 (strs seen)) (.lst 2 (fs.map Vg)) (.int .i64 (q.length:Int)) hp none=some (.int .i64 (if decide ((GN r seen).1≠0)=true then (GN r seen).1 else Zdj r0.Body),hp0,none)
 | _,_,0,_,_,h,_=>by omega
 | [],q,m + 1,seen,h,_,_=>by
  have l0:=lp0 h
  simp only [VP,IK,CO,Nat.reduceAdd,Nat.reduceLeDiff,Nat.reduceBEq,List.length_cons,List.length_nil,l0,LG hg,Jk,hB,GN,Yz,ne_eq,not_true_eq_false]
 | x :: r,q,m + 1,seen,h,hm,hb=>by
  obtain ⟨a1,a2,a3,a4,a5⟩:=lp Vg h (by omega)
  have hb':seen.length + (r.length + 1)≤1000000:=by simpa using hb
  have hn:=hN hp x.Name seen (okn x a5).Name (by omega)
  have ap:=Z2z seen x.Name hp (by omega)
  have ih:=Cu (C := C) K hp0 hp r0 fs hl g tg hg okn hN hT hU hF hB r (q ++ [x]) m (seen ++ [x.Name]) a4 (by simpa using hm) (by simp; omega)
  have e0:(Xy x.Name (Af x) seen).1=Qe (JZ x.Name seen) (Af x):=Zjr _ _ _
  by_cases hz:Qe (JZ x.Name seen) (Af x)=0
  ·have e1:GN (x :: r) seen=GN r (seen ++ [x.Name]):=by simp [GN,Yz,Zjs hz]
   rw [e1]
   simp only [VP,CO,Nat.reduceAdd,Nat.reduceLeDiff,Nat.reduceBEq,List.length_cons,List.length_nil,LIT,FK,a1,a2,a3,Yp,hn,hT,hU,hF,Z03,hz,roS,ap,ih,ne_eq,not_true_eq_false]
  ·have e1:(GN (x :: r) seen).1=Qe (JZ x.Name seen) (Af x):=by simp [GN,Yz,e0,hz]
   rw [e1]
   simp only [VP,CO,Nat.reduceAdd,Nat.reduceLeDiff,Nat.reduceBEq,List.length_cons,List.length_nil,LIT,FK,a1,a2,a3,Yp,hn,hT,hU,hF,Z03,hz,ne_eq,not_false_eq_true]
theorem Z3T (t:TypeId)(k:Nat)(hp:HP):ZbM t k [] hp=some (.own k [],hp):=rfl
theorem ZqG {C:Cfg}(hC:Xz C)(N:Nat)(hp:HP)(r:QI)(hN:SizeOf.sizeOf r.Body + 15≤N)(ok:P6 r):Zc C N Az [.agg (Yr r)] hp=some (.int .i64 (G5 r),hp,none):=by
 obtain ⟨m,rfl⟩:∃ m,N=m + 1:=⟨N - 1,by omega⟩
 have hb:=ok.p
 have q1:∀ hp,Zc C m P5 [.lst 21 (r.Body.map Y9)] hp=some (.int .i64 (Zdj r.Body),hp,none):=fun hp=>by
  rw [← Zwl _ hb.2.2.1]; exact Zus hC m hp r.Body (by omega) hb.2.2
 have wr:IntKind.i64.wrap ((r.Params.length:Int) + (r.Locals.length:Int))=(r.Params.length:Int) + (r.Locals.length:Int):=ZtM (by omega) (by omega)
 refine ZmZ (by rw [hC.T]; rfl) ?_
 by_cases hc:(decide (6 < (r.Params.length:Int)) || decide (16 < (r.Params.length:Int) + (r.Locals.length:Int)))=true
 ·simp only [Ph,CO,Nat.reduceAdd,Nat.reduceLeDiff,Nat.reduceBEq,List.length_cons,List.length_nil,Jk,wr,G5,hc]
 ·have hc':(decide (6 < (r.Params.length:Int)) || decide (16 < (r.Params.length:Int) + (r.Locals.length:Int)))=false:=by simpa using hc
  have hsm:r.Params.length + r.Locals.length≤16:=by simp only [Bool.or_eq_false_iff,decide_eq_false_iff_not] at hc'; omega
  have p1:=Z3n r.Params [] (hp ++ [.cells (Yr r) WH]) (by simp; omega)
  have p2:=Z3n r.Locals (r.Params.map Vg) (hp ++ [.cells (Yr r) WH]) (by simp; omega)
  rw [List.nil_append] at p1
  rw [← List.map_append] at p2
  have h:=Cu (C := C) (Zc C m) hp (hp ++ [.cells (Yr r) WH]) r (r.Params ++ r.Locals) (by simp; omega) hp.length WH (ZC _ _) (fun f hf=>by
   rcases List.mem_append.1 hf with hf | hf
   ·exact ok.Params.2 f hf
   ·exact ok.Locals.2 f hf) (Nl hC m (by omega)) (Zfi hC m (by omega)) (Uz hC m (by omega)) (Gp hC m (by omega)) q1 (r.Params ++ r.Locals) [] C.L [] rfl (by have:=hC.L; simp; omega) (by simp; omega)
  simp only [List.length_nil,Int.natCast_zero] at h
  have ra:AV.ro (.own 2 ((r.Params ++ r.Locals).map Vg))=.lst 2 ((r.Params ++ r.Locals).map Vg):=rfl
  simp only [Ph,CO,Jk,wr,G5,hc',Z3T,p1,p2,ra,Z1q,h]
def R4 (d:Zi):List (Int×List (List UInt8×Int)):=[(32,d.Vars.map fun v=>(v.Name,Kg v)),(32,d.Resources.map fun v=>(v.Name,Zxa d v)),(32,d.Stores.map fun v=>(v.Name,Am v)),(32,d.Belts.map fun v=>(v.Name,Zhn v)),(32,d.Queues.map fun v=>(v,0)),(32,d.Streams.map fun v=>(v,0)),(32,d.Tallies.map fun v=>(v,0)),(32,d.Levels.map fun v=>(v,0)),(32,d.Counts.map fun v=>(v,0)),(16,d.Routines.map fun v=>(v.Name,G5 v))]
theorem Z3h (x:Q6):Qe (Qu (btw x.Room 1 1000) 2) (Qu (decide (1≤x.Policy) && decide (x.Policy≤3)) 1)=Am x:=by
 unfold Qe Qu Am
 have e:(decide (x.Policy < 1) || decide (3 < x.Policy))=!(decide (1≤x.Policy) && decide (x.Policy≤3)):=by
  have a1:decide (x.Policy < 1)=!decide (1≤x.Policy):=by rw [← decide_not]; congr 1; apply propext; omega
  have a2:decide (3 < x.Policy)=!decide (x.Policy≤3):=by rw [← decide_not]; congr 1; apply propext; omega
  rw [Bool.not_and,a1,a2]
 rw [e]
 cases btw x.Room 1 1000 <;> cases (decide (1≤x.Policy) && decide (x.Policy≤3)) <;> simp
theorem Z30 (x:XK):Qu (btw x.Length 1 1000 && btw x.Step 1 1000) 2=Zhn x:=by
 unfold Qu Zhn; cases btw x.Length 1 1000 <;> cases btw x.Step 1 1000 <;> rfl
theorem Z3m (v:Jn):Qe (Qu (ZjC v.Ty) 1) (Qu (ZkB v.Ty v.N) 2)=Kg v:=by
 rw [ZrK]; unfold Qe Qu Kg; cases btw v.Ty 1 3 <;> cases ZkB v.Ty v.N <;> rfl
theorem EB {α β:Type}{f:α→β}{l:List α}{i:Nat}{y:β}(h:(l.map f)[i]? = some y):∃ x,l[i]? = some x∧f x=y:=by
 rw [List.getElem?_map] at h
 exact Option.map_eq_some_iff.1 h
theorem kd (k:Nat):(∀ j:Nat,k=j→decide (((k:Nat):Int)=(j:Int))=true)∧(∀ j:Nat,k≠j→decide (((k:Nat):Int)=(j:Int))=false):=⟨fun j h=>by simp [h],fun j h=>by simp only [decide_eq_false_iff_not]; omega⟩
theorem Zox {C:Cfg}(hC:Xz C)(N:Nat)(hp:HP)(d:Zi)(hd:Yl d)(hN:SizeOf.sizeOf d + 17≤N):∀ (k i:Nat) (p:Int×List (List UInt8×Int)) (nm:List UInt8) (e:Int),(R4 d)[k]? = some p→p.2[i]? = some (nm,e)→Zc C N BH [.agg (Zj d),.int .i64 (k:Int),.int .i64 (i:Int)] hp=some (.int .i64 e,hp,none):=by
 obtain ⟨m,rfl⟩:∃ m,N=m + 1:=⟨N - 1,by omega⟩
 have q1:=Zfi hC m (by omega)
 have q2:=Uz hC m (by omega)
 have q3:=Gp hC m (by omega)
 have q4:=ZiY hC m (by omega)
 have q5:=Ti hC m (by omega)
 intro k i p nm e hk hi
 refine ZkX (by rw [hC.T]; rfl) ?_
 have m9:∀ j:Nat,4≤j→j≤8→Jz C.G (Zc C m) C.L (.agg (Zj d)) (.int .i64 (j:Int)) (.int .i64 (i:Int)) hp=some (.int .i64 0,hp,none):=fun j h1 h2=>by
  have n0:decide ((j:Int)=0)=false:=by simp only [decide_eq_false_iff_not]; omega
  have n1:decide ((j:Int)=1)=false:=by simp only [decide_eq_false_iff_not]; omega
  have n2:decide ((j:Int)=2)=false:=by simp only [decide_eq_false_iff_not]; omega
  have n3:decide ((j:Int)=3)=false:=by simp only [decide_eq_false_iff_not]; omega
  have n9:decide ((j:Int)=9)=false:=by simp only [decide_eq_false_iff_not]; omega
  simp only [Jz,CO,Nat.reduceAdd,Nat.reduceLeDiff,Nat.reduceBEq,List.length_cons,List.length_nil,ZB,n0,n1,n2,n3,n9]
 match k,hk with
 | 0,hk =>
  cases hk
  obtain ⟨v,h1,h2⟩:=EB hi
  obtain ⟨rfl,rfl⟩:=Prod.mk.inj h2
  have g:(d.Vars.map X9)[i]? = some (X9 v):=by rw [List.getElem?_map,h1]; rfl
  have c0:decide (((0:Nat):Int)=0)=true:=by decide
  rw [← Z3m]
  simp only [Jz,CO,Nat.reduceAdd,Nat.reduceLeDiff,Nat.reduceBEq,List.length_cons,List.length_nil,ZB,c0,Yp,g,Sb,q1,q2,q3,q4]
 | 1,hk =>
  cases hk
  obtain ⟨v,h1,h2⟩:=EB hi
  obtain ⟨rfl,rfl⟩:=Prod.mk.inj h2
  have g:(d.Resources.map Zu)[i]? = some (Zu v):=by rw [List.getElem?_map,h1]; rfl
  have c0:decide (((1:Nat):Int)=0)=false:=by decide
  have c1:decide (((1:Nat):Int)=1)=true:=by decide
  have q6:=fun hp=>Zoy hC m (by omega) hp d v hd (hd.Resources.2 v (List.mem_of_getElem? h1))
  rw [← Z2a]
  simp only [Jz,CO,Nat.reduceAdd,Nat.reduceLeDiff,Nat.reduceBEq,List.length_cons,List.length_nil,ZB,c0,c1,Yp,g,Qg,q6]
 | 2,hk =>
  cases hk
  obtain ⟨v,h1,h2⟩:=EB hi
  obtain ⟨rfl,rfl⟩:=Prod.mk.inj h2
  have g:(d.Stores.map Yo)[i]? = some (Yo v):=by rw [List.getElem?_map,h1]; rfl
  have c0:decide (((2:Nat):Int)=0)=false:=by decide
  have c1:decide (((2:Nat):Int)=1)=false:=by decide
  have c2:decide (((2:Nat):Int)=2)=true:=by decide
  rw [← Z3h]
  simp only [Jz,CO,Nat.reduceAdd,Nat.reduceLeDiff,Nat.reduceBEq,List.length_cons,List.length_nil,ZB,c0,c1,c2,Yp,g,LC,q2,q3,q5]
 | 3,hk =>
  cases hk
  obtain ⟨v,h1,h2⟩:=EB hi
  obtain ⟨rfl,rfl⟩:=Prod.mk.inj h2
  have g:(d.Belts.map YL)[i]? = some (YL v):=by rw [List.getElem?_map,h1]; rfl
  have c0:decide (((3:Nat):Int)=0)=false:=by decide
  have c1:decide (((3:Nat):Int)=1)=false:=by decide
  have c2:decide (((3:Nat):Int)=2)=false:=by decide
  have c3:decide (((3:Nat):Int)=3)=true:=by decide
  rw [← Z30]
  simp only [Jz,CO,Nat.reduceAdd,Nat.reduceLeDiff,Nat.reduceBEq,List.length_cons,List.length_nil,ZB,c0,c1,c2,c3,Yp,g,Ny,q2,q5]
 | 4,hk=>cases hk; obtain ⟨v,h1,h2⟩:=EB hi; obtain ⟨rfl,rfl⟩:=Prod.mk.inj h2; exact m9 4 (by omega) (by omega)
 | 5,hk=>cases hk; obtain ⟨v,h1,h2⟩:=EB hi; obtain ⟨rfl,rfl⟩:=Prod.mk.inj h2; exact m9 5 (by omega) (by omega)
 | 6,hk=>cases hk; obtain ⟨v,h1,h2⟩:=EB hi; obtain ⟨rfl,rfl⟩:=Prod.mk.inj h2; exact m9 6 (by omega) (by omega)
 | 7,hk=>cases hk; obtain ⟨v,h1,h2⟩:=EB hi; obtain ⟨rfl,rfl⟩:=Prod.mk.inj h2; exact m9 7 (by omega) (by omega)
 | 8,hk=>cases hk; obtain ⟨v,h1,h2⟩:=EB hi; obtain ⟨rfl,rfl⟩:=Prod.mk.inj h2; exact m9 8 (by omega) (by omega)
 | 9,hk =>
  cases hk
  obtain ⟨v,h1,h2⟩:=EB hi
  obtain ⟨rfl,rfl⟩:=Prod.mk.inj h2
  have g:(d.Routines.map Yr)[i]? = some (Yr v):=by rw [List.getElem?_map,h1]; rfl
  have c0:decide (((9:Nat):Int)=0)=false:=by decide
  have c1:decide (((9:Nat):Int)=1)=false:=by decide
  have c2:decide (((9:Nat):Int)=2)=false:=by decide
  have c3:decide (((9:Nat):Int)=3)=false:=by decide
  have c9:decide (((9:Nat):Int)=9)=true:=by decide
  have q6:=fun hp=>ZqG hC m hp v (by have:=Z3P (List.mem_of_getElem? h1); omega) (hd.Routines.2 v (List.mem_of_getElem? h1))
  simp only [Jz,CO,Nat.reduceAdd,Nat.reduceLeDiff,Nat.reduceBEq,List.length_cons,List.length_nil,ZB,c0,c1,c2,c3,c9,Yp,g,Jk,q6]
 | k + 10,hk=>simp [R4] at hk
def Zhe (d:Zi):List MZ→Int→Int
 | [],e=>e
 | t :: r,e=>Zhe d r (Qe e (Zc0 d t))
def Zcz (d:Zi)(l:Zfy):Int :=
 if decide ((l.Terms.length:Int)=0)=true then 7 else if decide (CR 8 (Zc0 d) l.Terms≠0)=true then CR 8 (Zc0 d) l.Terms else if (!(inB l.Total))=true then 2 else 0
theorem ZbV (d:Zi):∀ (l:List MZ) (e:Int),e≠0→Zhe d l e=e
 | [],_,_=>rfl
 | t :: r,e,h=>by
  have:Qe e (Zc0 d t)=e:=by simp [Qe,h]
  rw [Zhe,this,ZbV d r e h]
theorem Zwa (d:Zi):∀ (l:List MZ),Zhe d l 0=IL (Zc0 d) l
 | []=>rfl
 | t :: r=>by
  have h1:Qe 0 (Zc0 d t)=Zc0 d t:=by simp [Qe]
  rw [Zhe,h1,IL]
  by_cases h:Zc0 d t=0
  ·simp [h,Zwa d r]
  ·simp [h,ZbV d r _ h]
theorem Z3S (d:Zi)(l:Zfy)(n:Int):Qe (Zhe d l.Terms (Qe (Qe n (Qu (decide (0 < (l.Terms.length:Int))) 7)) (Qu (decide ((l.Terms.length:Int)≤8)) 6))) (Qu (inB l.Total) 2)=Qe n (Zcz d l):=by
 have f0:∀ x,Qe 0 x=x:=fun x=>by simp [Qe]
 have f1:∀ a x,a≠0→Qe a x=a:=fun a x h=>by simp [Qe,h]
 by_cases hn:n=0
 ·subst hn
  rw [f0,f0]
  unfold Zcz CR
  by_cases h0:l.Terms.length=0
  ·have a1:decide (0 < (l.Terms.length:Int))=false:=by simp [h0]
   have a2:decide ((l.Terms.length:Int)=0)=true:=by simp [h0]
   rw [a1,a2]
   have u7:Qu false 7=7:=rfl
   rw [u7,f1 7 _ (by omega),ZbV d _ 7 (by omega),f1 7 _ (by omega)]
   rfl
  ·have a1:decide (0 < (l.Terms.length:Int))=true:=by simp only [decide_eq_true_eq]; omega
   have a2:decide ((l.Terms.length:Int)=0)=false:=by simp only [decide_eq_false_iff_not]; omega
   have u7:Qu true 7=0:=rfl
   rw [a1,a2,u7,f0]
   by_cases h8:8 < (l.Terms.length:Int)
   ·have a3:decide ((l.Terms.length:Int)≤8)=false:=by simp only [decide_eq_false_iff_not]; omega
    have a4:decide (8 < (l.Terms.length:Int))=true:=by simp only [decide_eq_true_eq]; omega
    have u6:Qu false 6=6:=rfl
    rw [a3,a4,u6,ZbV d _ 6 (by omega),f1 6 _ (by omega)]
    rfl
   ·have a3:decide ((l.Terms.length:Int)≤8)=true:=by simp only [decide_eq_true_eq]; omega
    have a4:decide (8 < (l.Terms.length:Int))=false:=by simp only [decide_eq_false_iff_not]; omega
    have u6:Qu true 6=0:=rfl
    rw [a3,a4,u6,Zwa]
    by_cases hf:IL (Zc0 d) l.Terms=0
    ·rw [hf,f0]; unfold Qu; cases inB l.Total <;> rfl
    ·rw [f1 _ _ hf]
     simp [hf]
 ·rw [f1 n _ hn,f1 n _ hn,ZbV d _ n hn,f1 n _ hn,f1 n _ hn]
theorem Zj2 {C:Cfg}(K:KT)(hp0 hp:HP)(d:Zi)(l:Zfy)(ok:ZrQ l)(g g2:Nat)(tg tg2:TypeId)(hg:hp[g]? = some (.cells (Zj d) tg))(hg2:hp[g2]? = some (.cells (EF l) tg2))(hT:∀ hp t,K Zcb [.agg (Zj d),.agg (Ot t)] hp=some (.int .i64 (Zc0 d t),hp,none))(hU:∀ hp b e,K YH [.bool b,.int .i64 e] hp=some (.int .i64 (Qu b e),hp,none))(hF:∀ hp a b,K Qh [.int .i64 a,.int .i64 b] hp=some (.int .i64 (Qe a b),hp,none))(hI:∀ hp x,K Aw [.int .i64 x] hp=some (.bool (inB x),hp,none)):∀ (r q:List MZ) (m:Nat) (e:Int),l.Terms=q ++ r→r.length < m →
  Tc C.G K C.L hp0 (Da C.G K C.L hp0) m (.ptr g 0) (.ptr g2 0) (.int .i64 e) (.int .i64 (q.length:Int)) hp none=some (.int .i64 (Qe (Zhe d r e) (Qu (inB l.Total) 2)),hp0,none)
 | _,_,0,_,_,h=>by omega
 | [],q,m + 1,e,h,_=>by
  have l0:=lp0 h
  simp only [Tc,Da,CO,Nat.reduceAdd,Nat.reduceLeDiff,Nat.reduceBEq,List.length_cons,List.length_nil,LG hg2,ZgY,l0,hI,hU,hF,Zhe]
 | x :: r,q,m + 1,e,h,hm=>by
  obtain ⟨a1,a2,a3,a4,a5⟩:=lp Ot h ok.t
  have ih:=Zj2 (C := C) K hp0 hp d l ok g g2 tg tg2 hg hg2 hT hU hF hI r (q ++ [x]) m (Qe e (Zc0 d x)) a4 (by simpa using hm)
  simp only [Tc,CO,Nat.reduceAdd,Nat.reduceLeDiff,Nat.reduceBEq,List.length_cons,List.length_nil,LG hg,LG hg2,ZgY,ZB,Zfv,a1,a2,a3,Yp,hT,hF,ih,Zhe]
theorem ZxA {C:Cfg}(hC:Xz C)(N:Nat)(hN:6≤N)(hp:HP)(d:Zi)(l:Zfy)(seen:Seen)(hd:Yl d)(ok:ZrQ l)(hl:seen.length≤4611686018427387):Zc C N Zfx [.agg (Zj d),.agg (EF l),.lst 1 (strs seen)] hp=some (.int .i64 (Qe (JZ l.Name seen) (Zcz d l)),hp,none):=by
 obtain ⟨m,rfl⟩:∃ m,N=m + 1:=⟨N - 1,by omega⟩
 have q1:=Nl hC m (by omega)
 have q2:=Uz hC m (by omega)
 have q3:=Gp hC m (by omega)
 have h:=fun e=>Zj2 (C := C) (Zc C m) hp (hp ++ [.cells (Zj d) Zf] ++ [.cells (EF l) Oe]) d l ok hp.length (hp ++ [Zt.cells (Zj d) Zf]).length Zf Oe (Gt (ZC _ _) _) (ZC _ _) (fun hp t=>Zwx hC m (by omega) hp d t hd) q2 q3 (ZqE hC m (by omega)) l.Terms [] C.L e rfl (by have:=hC.L; have:=ok.t; omega)
 simp only [List.length_nil,Int.natCast_zero] at h
 refine Zvc (by rw [hC.T]; rfl) ?_
 rw [← Z3S]
 simp only [ZlJ,CO,Nat.reduceAdd,Nat.reduceLeDiff,Nat.reduceBEq,List.length_cons,List.length_nil,ZB,ZgY,q1,q2,q3,ok.Name,hl,h]
end Go.Proofs.YtlmfmmclnboglaaGreat
end
section
namespace Go.Proofs.YtlmfmmclnboglaaGreat
open Go Go.RowKit Go.Proofs.YtlmfmmclnboglaaGreat.Abs
set_option linter.all false
set_option maxRecDepth 100000
def RG (q:List UInt8×Int):Seen→Int×Seen:=Xy q.1 q.2
def TI (p:Int×List (List UInt8×Int)):Seen→Int×Seen:=WV p.1 RG p.2
theorem ZtC {α β σ:Type}(f:α→β)(step:β→σ→Int×σ):∀ (l:List α) (s:σ),Yz step (l.map f) s=Yz (fun x=>step (f x)) l s
 | [],s=>rfl
 | x :: r,s=>by rw [List.map_cons,Yz,Yz,ZtC f step r]
theorem Ad {α β σ:Type}(f:α→β)(step:β→σ→Int×σ)(most:Int)(l:List α):WV most step (l.map f)=WV most (fun x=>step (f x)) l:=by
 funext s; unfold WV; rw [ZtC,List.length_map]
def Tk (d:Zi):Int:=(WV 32 (fun l:Zfy=>Xy l.Name (Zcz d l)) d.Laws []).1
def Zch (d:Zi)(laws:Int):Int:=if decide (CR 32 (MK d) d.Starts≠0)=true then CR 32 (MK d) d.Starts else laws
def CX (d:Zi)(laws:Int):Int:=if decide ((CV ((R4 d).map TI) []).1≠0)=true then (CV ((R4 d).map TI) []).1 else Zch d laws
theorem Z2b (d:Zi):ZoY d=CX d (Zm5 d):=by
 have e:ZbU d=(R4 d).map TI ++ [fun s=>(CR 32 (MK d) d.Starts,s),fun s=>(Zm5 d,s)]:=by
  have f1:TI (32,d.Vars.map fun v=>(v.Name,Kg v))=WV 32 (fun v:Jn=>Xy v.Name (Kg v)) d.Vars:=Ad _ _ _ _
  have f2:TI (32,d.Resources.map fun v=>(v.Name,Zxa d v))=WV 32 (fun v:ZY=>Xy v.Name (Zxa d v)) d.Resources:=Ad _ _ _ _
  have f3:TI (32,d.Stores.map fun v=>(v.Name,Am v))=WV 32 (fun v:Q6=>Xy v.Name (Am v)) d.Stores:=Ad _ _ _ _
  have f4:TI (32,d.Belts.map fun v=>(v.Name,Zhn v))=WV 32 (fun v:XK=>Xy v.Name (Zhn v)) d.Belts:=Ad _ _ _ _
  have z:(fun v:List UInt8=>RG (v,0))=Qd:=by
   funext v s
   show Xy v 0 s=Qd v s
   unfold Xy
   by_cases h:(Qd v s).1=0
   ·simp only [h,ne_eq,not_true_eq_false,decide_false,Bool.false_eq_true,if_false]; rw [← h]
   ·simp [h]
  have f5:∀ l:List (List UInt8),TI (32,l.map fun v=>(v,0))=WV 32 Qd l:=fun l=>by rw [TI,Ad,z]
  have f6:TI (16,d.Routines.map fun v=>(v.Name,G5 v))=WV 16 (fun v:QI=>Xy v.Name (G5 v)) d.Routines:=Ad _ _ _ _
  unfold ZbU R4
  simp only [List.map_cons,List.map_nil,f1,f2,f3,f4,f5,f6]
  rfl
 have ap:∀ (l:List (Seen→Int×Seen)) (s:Seen),(CV (l ++ [fun s=>(CR 32 (MK d) d.Starts,s),fun s=>(Zm5 d,s)]) s).1=if decide ((CV l s).1≠0)=true then (CV l s).1 else Zch d (Zm5 d):=by
  intro l
  induction l with
  | nil =>
   intro s
   by_cases h:CR 32 (MK d) d.Starts=0 <;> by_cases h2:Zm5 d=0 <;> simp [CV,Zch,h,h2]
  | cons f r ih =>
   intro s
   rw [List.cons_append,CV,CV]
   by_cases h:(f s).1=0
   ·simp only [h,ne_eq,not_true_eq_false,decide_false,Bool.false_eq_true,if_false]
    exact ih _
   ·simp [h]
 rw [ZoY,e,ap]
 rfl
theorem ZuC (d:Zi):(Di (ZpS d)).map (fun l=>[AV.lst 1 l])=(R4 d).map fun p=>[AV.lst 1 (strs (p.2.map (·.1)))]:=by
 have f:∀ {α:Type} (row:α→List AV) (nm:α→List UInt8) (rest:α→Int) (l:List α),(∀ x,nameOf (row x)=nm x)→(l.map row).map nm1=strs ((l.map fun x=>(nm x,rest x)).map (·.1)):=by
  intro α row nm rest l h
  simp only [List.map_map,strs]
  exact List.map_congr_left fun x _=>by simp [nm1,h]
 have f2:∀ (l:List (List UInt8)),(strs l).map nm1=strs ((l.map fun x=>(x,(0:Int))).map (·.1)):=fun l=>f (fun x:List UInt8=>[AV.str x]) id (fun _=>0) l (fun _=>rfl)
 have e:(Di (ZpS d))=(R4 d).map fun p=>strs (p.2.map (·.1)):=by
  simp only [Di,kinds,ZpS,R4,List.map_cons,List.map_nil,f2,f X9 (fun v=>v.Name) Kg d.Vars (fun _=>rfl),f Zu (fun v=>v.Name) (Zxa d) d.Resources (fun _=>rfl),f Yo (fun v=>v.Name) Am d.Stores (fun _=>rfl),f YL (fun v=>v.Name) Zhn d.Belts (fun _=>rfl),f Yr (fun v=>v.Name) G5 d.Routines (fun _=>rfl)]
 rw [e,List.map_map]
 rfl
theorem Zwn (d:Zi):∀ (k:Nat) (p:Int×List (List UInt8×Int)),(R4 d)[k]? = some p→p.1=if k=9 then 16 else 32
 | 0,p,h=>by cases h; rfl
 | 1,p,h=>by cases h; rfl
 | 2,p,h=>by cases h; rfl
 | 3,p,h=>by cases h; rfl
 | 4,p,h=>by cases h; rfl
 | 5,p,h=>by cases h; rfl
 | 6,p,h=>by cases h; rfl
 | 7,p,h=>by cases h; rfl
 | 8,p,h=>by cases h; rfl
 | 9,p,h=>by cases h; rfl
 | k + 10,p,h=>by simp [R4] at h
theorem Zzf {d:Zi}(hd:Yl d):∀ p ∈ R4 d,p.2.length≤4611686018427387∧∀ q ∈ p.2,q.1.length≤140737488351232:=by
 have a:=hd.l2
 have b:=hd.st
 intro p hp
 simp only [R4,List.mem_cons,List.not_mem_nil,or_false] at hp
 rcases hp with rfl | rfl | rfl | rfl | rfl | rfl | rfl | rfl | rfl | rfl <;> refine ⟨by simp only [List.length_map]; omega,fun q hq=>?_⟩ <;> obtain ⟨x,hx,rfl⟩:=List.mem_map.1 hq
 ·exact (hd.Vars.2 x hx).Name
 ·exact (hd.Resources.2 x hx).Name
 ·exact (hd.Stores.2 x hx).Name
 ·exact (hd.Belts.2 x hx).Name
 ·exact hd.Queues.2 x hx
 ·exact hd.Streams.2 x hx
 ·exact hd.Tallies.2 x hx
 ·exact hd.Levels.2 x hx
 ·exact hd.Counts.2 x hx
 ·exact (hd.Routines.2 x hx).Name
theorem ZvW:∀ (l:List (List UInt8×Int)) (s:Seen),(Yz RG l s).2.length≤s.length + l.length
 | [],s=>by simp [Yz]
 | x :: r,s=>by
  have ih:=ZvW r (RG x s).2
  have h1:(RG x s).2.length≤s.length + 1:=by
   unfold RG Xy
   split
   ·unfold Qd; split <;> (try split) <;> simp
   ·show (Qd x.1 s).2.length≤_
    unfold Qd; split <;> (try split) <;> simp
  rw [Yz]
  split
  ·simp; omega
  ·simp; omega
section
variable {C:Cfg}(K:KT)(hp0 hp:HP)(d:Zi)(hd:Yl d)(g:Nat)(tg:TypeId)(hg:hp[g]? = some (.cells (Zj d) tg))(hL:9223372036854775808≤C.L)
 (hN:∀ hp s (seen:Seen),s.length≤140737488351232→seen.length≤4611686018427387→K KS [.str s,.lst 1 (strs seen)] hp=some (.int .i64 (JZ s seen),hp,none)) (hF:∀ hp a b,K Qh [.int .i64 a,.int .i64 b] hp=some (.int .i64 (Qe a b),hp,none))
 (hD:∀ hp (k i:Nat) (p:Int×List (List UInt8×Int)) (nm:List UInt8) (e:Int),(R4 d)[k]? = some p→p.2[i]? = some (nm,e)→K BH [.agg (Zj d),.int .i64 (k:Int),.int .i64 (i:Int)] hp=some (.int .i64 e,hp,none))
 (hS:∀ hp s,Sj s→K A7 [.agg (Zj d),.agg (Vr s)] hp=some (.int .i64 (MK d s),hp,none)) (hW:∀ hp l (seen:Seen),ZrQ l→seen.length≤4611686018427387→K Zfx [.agg (Zj d),.agg (EF l),.lst 1 (strs seen)] hp=some (.int .i64 (Qe (JZ l.Name seen) (Zcz d l)),hp,none))
include hd hg hN hF hD
theorem ZgI (k2:AV→AV→AV→AV→AV→HP→Eff→KR)(k:Nat)(p:Int×List (List UInt8×Int))(hk:(R4 d)[k]? = some p)(rows:List (List AV))(hrow:rows[k]? = some [.lst 1 (strs (p.2.map (·.1)))]):∀ (r q:List (List UInt8×Int)) (m:Nat) (seen:Seen),p.2=q ++ r→r.length < m→seen.length + r.length≤1000000 →
  KG C.G K C.L hp0 k2 m (.ptr g 0) (.lst 1 (strs seen)) (.own 1 (strs seen)) (.lst 1 rows) (.int .i64 (k:Int)) (.int .i64 (q.length:Int)) hp none =
   if decide ((Yz RG r seen).1≠0)=true then some (.int .i64 (Yz RG r seen).1,hp0,none) else k2 (.ptr g 0) (.lst 1 (strs (Yz RG r seen).2)) (.own 1 (strs (Yz RG r seen).2)) (.lst 1 rows) (.int .i64 (k:Int)) hp none
 | _,_,0,_,_,h,_=>by omega
 | [],q,m + 1,seen,h,_,_=>by
  have l0:decide ((q.length:Int) < (strs (p.2.map (·.1))).length)=false:=by rw [h]; simp [strs]
  simp only [KG,CO,Nat.reduceAdd,Nat.reduceLeDiff,Nat.reduceBEq,List.length_cons,List.length_nil,Yp,hrow,l0,Yz,ne_eq,not_true_eq_false]
 | x :: r,q,m + 1,seen,h,hm,hb=>by
  obtain ⟨ok1,ok2⟩:=Zzf hd p (List.mem_of_getElem? hk)
  have ln:(strs (p.2.map (·.1))).length=p.2.length:=by simp [strs]
  obtain ⟨a1,a2,a3,a4,a5⟩:=lp (fun x:List UInt8×Int=>[.str x.1]) h ok1
  have g1:(strs (p.2.map (·.1)))[q.length]? = some [.str x.1]:=by
   rw [h]; simp [strs]
  have gi:p.2[q.length]? = some (x.1,x.2):=by rw [h]; simp
  have hb':seen.length + (r.length + 1)≤1000000:=by simpa using hb
  have hn:=hN hp x.1 seen (ok2 x a5) (by omega)
  have hdl:=hD hp k q.length p x.1 x.2 hk gi
  have ap:=Z2z seen x.1 hp (by omega)
  have e0:(RG x seen).1=Qe (JZ x.1 seen) x.2:=Zjr _ _ _
  by_cases hz:Qe (JZ x.1 seen) x.2=0
  ·have ih:=ZgI k2 k p hk rows hrow r (q ++ [x]) m (seen ++ [x.1]) a4 (by simpa using hm) (by simp; omega)
   have e1:Yz RG (x :: r) seen=Yz RG r (seen ++ [x.1]):=by
    have:RG x seen=(0,seen ++ [x.1]):=Zjs hz
    simp [Yz,this]
   rw [e1]
   simp only [KG,CO,QC,LIT,LG hg,ZB,Yp,hrow,ln,a1,g1,a3,hn,hdl,hF,hz,roS,ap,ne_eq,not_true_eq_false]
   exact ih
  ·have e1:(Yz RG (x :: r) seen).1=Qe (JZ x.1 seen) x.2:=by simp [Yz,e0,hz]
   rw [e1]
   simp only [KG,CO,QC,LIT,LG hg,ZB,Yp,hrow,ln,a1,g1,a3,hn,hdl,hF,hz,ne_eq,not_false_eq_true]
include hL
theorem ZgH (k0:AV→HP→Eff→KR)(rows:List (List AV))(hrows:rows=(R4 d).map fun p=>[AV.lst 1 (strs (p.2.map (·.1)))]):∀ (r q:List (Int×List (List UInt8×Int))) (m:Nat) (seen:Seen),R4 d=q ++ r→r.length < m→seen.length≤32 * q.length →
  VG C.G K C.L hp0 k0 m (.ptr g 0) (.lst 1 (strs seen)) (.own 1 (strs seen)) (.lst 1 rows) (.int .i64 (q.length:Int)) hp none =
   if decide ((CV (r.map TI) seen).1≠0)=true then some (.int .i64 (CV (r.map TI) seen).1,hp0,none) else k0 (.ptr g 0) hp none
 | _,_,0,_,_,h,_=>by omega
 | [],q,m + 1,seen,h,_,_=>by
  have l0:decide ((q.length:Int) < (rows.length:Int))=false:=by rw [hrows,h]; simp
  simp only [VG,CO,Nat.reduceAdd,Nat.reduceLeDiff,Nat.reduceBEq,List.length_cons,List.length_nil,l0,List.map_nil,CV,ne_eq,not_true_eq_false]
 | p :: r,q,m + 1,seen,h,hm,hb=>by
  have hk:(R4 d)[q.length]? = some p:=by rw [h]; simp
  have hl10:(R4 d).length=10:=rfl
  have hq10:q.length < 10:=by have:=congrArg List.length h; rw [hl10] at this; simp at this; omega
  have l0:decide ((q.length:Int) < (rows.length:Int))=true:=by rw [hrows]; simp [hl10]; omega
  have hrow:rows[q.length]? = some [.lst 1 (strs (p.2.map (·.1)))]:=by rw [hrows,List.getElem?_map,hk]; rfl
  have ln:(strs (p.2.map (·.1))).length=p.2.length:=by simp [strs]
  have hmost:=Zwn d _ _ hk
  have hc:(decide (32 < (p.2.length:Int)) || (decide ((q.length:Int)=9) && decide (16 < (p.2.length:Int))))=decide (p.1 < (p.2.length:Int)):=by
   rw [hmost]
   by_cases h9:q.length=9
   ·have h9':decide ((q.length:Int)=9)=true:=by simp only [decide_eq_true_eq]; omega
    rw [h9',if_pos h9,Bool.true_and,← Bool.decide_or]; congr 1; apply propext; omega
   ·have h9':decide ((q.length:Int)=9)=false:=by simp only [decide_eq_false_iff_not]; omega
    rw [h9',if_neg h9,Bool.false_and,Bool.or_false]
  have wr:IntKind.i64.wrap ((q.length:Int) + 1)=((q ++ [p]).length:Int):=by rw [Uo _ (by omega)]; simp
  by_cases hlen:p.1 < (p.2.length:Int)
  ·have e1:CV ((p :: r).map TI) seen=(6,seen):=by
    have:TI p seen=(6,seen):=by simp [TI,WV,hlen]
    simp [CV,this]
   have hlen':decide (p.1 < (p.2.length:Int))=true:=by simp [hlen]
   rw [e1]
   rw [hlen'] at hc
   simp only [VG,CO,QC,Yp,l0,hrow,ln,hc,ne_eq]
   rfl
  ·have hp32:p.2.length≤32:=by rw [hmost] at hlen; split at hlen <;> omega
   have hsl:=ZvW p.2 seen
   have e2:TI p seen=Yz RG p.2 seen:=by simp [TI,WV,hlen]
   have hlen':decide (p.1 < (p.2.length:Int))=false:=by simp [hlen]
   rw [hlen'] at hc
   have h1:=ZgI (C := C) K hp0 hp d hd g tg hg hN hF hD (Rx C.G K C.L hp0 (VG C.G K C.L hp0 k0 m)) q.length p hk rows hrow p.2 [] C.L seen rfl (by omega) (by omega)
   simp only [List.length_nil,Int.natCast_zero] at h1
   have ih:=ZgH k0 rows hrows r (q ++ [p]) m (Yz RG p.2 seen).2 (by rw [h]; simp) (by simpa using hm) (by simp; omega)
   simp only [VG,CO,QC,Yp,l0,hrow,ln,hc,h1,Rx,wr,ih]
   by_cases hz:(Yz RG p.2 seen).1=0
   ·have e3:CV ((p :: r).map TI) seen=CV (r.map TI) (Yz RG p.2 seen).2:=by simp [CV,e2,hz]
    rw [e3]
    simp only [hz,ne_eq,not_true_eq_false,IFJ]
   ·have e3:CV ((p :: r).map TI) seen=Yz RG p.2 seen:=by simp [CV,e2,hz]
    rw [e3]
    simp [hz]
omit hN hF hD
include hS
theorem ZgJ (k4:AV→HP→Eff→KR):∀ (r q:List G8) (m:Nat),d.Starts=q ++ r→r.length < m →
  KH C.G K C.L hp0 k4 m (.ptr g 0) (.int .i64 (q.length:Int)) hp none=if decide (IL (MK d) r≠0)=true then some (.int .i64 (IL (MK d) r),hp0,none) else k4 (.ptr g 0) hp none
 | _,_,0,_,h=>by omega
 | [],q,m + 1,h,_=>by
  have l0:=lp0 h
  simp only [KH,CO,Nat.reduceAdd,Nat.reduceLeDiff,Nat.reduceBEq,List.length_cons,List.length_nil,LG hg,ZB,l0,IL,ne_eq,not_true_eq_false]
 | x :: r,q,m + 1,h,hm=>by
  obtain ⟨a1,a2,a3,a4,a5⟩:=lp Vr h hd.l2.2.2.2.2.2.2.1
  have ih:=ZgJ k4 r (q ++ [x]) m a4 (by simpa using hm)
  have hs:=fun hp=>hS hp x (hd.Starts.2 x a5)
  by_cases hz:MK d x=0
  ·simp only [KH,CO,Nat.reduceAdd,Nat.reduceLeDiff,Nat.reduceBEq,List.length_cons,List.length_nil,LG hg,ZB,O4,a1,a2,a3,Yp,hs,hz,ih,IL,ne_eq,not_true_eq_false]
  ·simp only [KH,CO,Nat.reduceAdd,Nat.reduceLeDiff,Nat.reduceBEq,List.length_cons,List.length_nil,LG hg,ZB,O4,a1,a2,a3,Yp,hs,hz,IL,ne_eq,not_false_eq_true]
omit hS
include hW
theorem ZgK:∀ (r q:List Zfy) (m:Nat) (seen:Seen),d.Laws=q ++ r→r.length < m→seen.length + r.length≤1000000 →
  KI C.G K C.L hp0 (Ry C.G K C.L hp0) m (.ptr g 0) (.lst 1 (strs seen)) (.own 1 (strs seen)) (.int .i64 (q.length:Int)) hp none=some (.int .i64 (Yz (fun l:Zfy=>Xy l.Name (Zcz d l)) r seen).1,hp0,none)
 | _,_,0,_,_,h,_=>by omega
 | [],q,m + 1,seen,h,_,_=>by
  have l0:=lp0 h
  simp only [KI,Ry,CO,Nat.reduceAdd,Nat.reduceLeDiff,Nat.reduceBEq,List.length_cons,List.length_nil,LG hg,ZB,l0,Yz]
 | x :: r,q,m + 1,seen,h,hm,hb=>by
  obtain ⟨a1,a2,a3,a4,a5⟩:=lp EF h hd.l2.2.2.2.2.2.2.2
  have hb':seen.length + (r.length + 1)≤1000000:=by simpa using hb
  have hs:=fun hp=>hW hp x seen (hd.Laws.2 x a5) (by omega)
  have ap:=Z2z seen x.Name hp (by omega)
  have ih:=ZgK r (q ++ [x]) m (seen ++ [x.Name]) a4 (by simpa using hm) (by simp; omega)
  have e0:(Xy x.Name (Zcz d x) seen).1=Qe (JZ x.Name seen) (Zcz d x):=Zjr _ _ _
  by_cases hz:Qe (JZ x.Name seen) (Zcz d x)=0
  ·have e1:Yz (fun l:Zfy=>Xy l.Name (Zcz d l)) (x :: r) seen=Yz (fun l:Zfy=>Xy l.Name (Zcz d l)) r (seen ++ [x.Name]):=by simp [Yz,Zjs hz]
   rw [e1]
   simp only [KI,CO,QC,LIT,LG hg,ZB,ZgY,a1,a2,a3,Yp,hs,hz,roS,ap,ih,ne_eq,not_true_eq_false]
  ·have e1:(Yz (fun l:Zfy=>Xy l.Name (Zcz d l)) (x :: r) seen).1=Qe (JZ x.Name seen) (Zcz d x):=by simp [Yz,e0,hz]
   rw [e1]
   simp only [KI,CO,QC,LIT,LG hg,ZB,ZgY,a1,a2,a3,Yp,hs,hz,ne_eq,not_false_eq_true]
include hS
theorem ZqH:Ir C.G K C.L hp0 (.ptr g 0) hp none=some (.int .i64 (Zch d (Tk d)),hp0,none):=by
 have h4:=ZgJ (C := C) K hp0 hp d hd g tg hg hL hS (Iu C.G K C.L hp0) d.Starts [] C.L rfl (by have:=hd.l2; omega)
 simp only [List.length_nil,Int.natCast_zero] at h4
 have h5:Iu C.G K C.L hp0 (.ptr g 0) hp none=some (.int .i64 (Tk d),hp0,none):=by
  by_cases hl:32 < (d.Laws.length:Int)
  ·have e:Tk d=6:=by simp [Tk,WV,hl]
   have hl':decide (32 < (d.Laws.length:Int))=true:=by simp [hl]
   rw [e]
   simp only [Iu,CO,QC,LG hg,ZB,hl']
  ·have h6:=ZgK (C := C) K hp0 hp d hd g tg hg hL hW d.Laws [] C.L [] rfl (by have:=hd.l2; omega) (by simp; omega)
   simp only [List.length_nil,Int.natCast_zero] at h6
   have e:Tk d=(Yz (fun l:Zfy=>Xy l.Name (Zcz d l)) d.Laws []).1:=by simp [Tk,WV,hl]
   have hl':decide (32 < (d.Laws.length:Int))=false:=by simp [hl]
   rw [e]
   simp only [Iu,CO,QC,LG hg,ZB,hl',Z1q]
   exact h6
 by_cases hl:32 < (d.Starts.length:Int)
 ·have hl':decide (32 < (d.Starts.length:Int))=true:=by simp [hl]
  simp only [Ir,CO,QC,LG hg,ZB,hl',Zch,CR]
  rfl
 ·have hl':decide (32 < (d.Starts.length:Int))=false:=by simp [hl]
  simp only [Ir,CO,QC,LG hg,ZB,hl',h4,h5,Zch,CR]
end
theorem Zux {C:Cfg}(hC:Xz C)(N:Nat)(hN:1≤N)(hp:HP)(d:Zi)(hd:Yl d):Zc C N MX [.agg (Zj d)] hp=some (.lst 1 ((R4 d).map fun p=>[AV.lst 1 (strs (p.2.map (·.1)))]),hp,none):=by
 obtain ⟨m,rfl⟩:∃ m,N=m + 1:=⟨N - 1,by omega⟩
 rw [← ZuC]
 exact ZqB hC m hp (ZpS d) (Zno hd)
theorem Zww {C:Cfg}(hC:Xz C)(N:Nat)(hp:HP)(d:Zi)(hN:SizeOf.sizeOf d + 19≤N)(hd:Yl d):Zc C N Zca [.agg (Zj d)] hp=some (.int .i64 (CX d (Tk d)),hp,none):=by
 obtain ⟨m,rfl⟩:∃ m,N=m + 1:=⟨N - 1,by omega⟩
 have q1:=Zux hC m (by omega)
 have h3:=ZqH (C := C) (Zc C m) hp (hp ++ [.cells (Zj d) Zf]) d hd hp.length Zf (ZC _ _) hC.L (fun hp s hs=>Zuz hC m (by omega) hp d s hd hs) (fun hp l seen hl hs=>ZxA hC m (by omega) hp d l seen hd hl hs)
 have h0:=ZgH (C := C) (Zc C m) hp (hp ++ [.cells (Zj d) Zf]) d hd hp.length Zf (ZC _ _) hC.L (Nl hC m (by omega)) (Gp hC m (by omega)) (fun hp k i p nm e h1 h2=>Zox hC m hp d hd (by omega) k i p nm e h1 h2) (Ir C.G (Zc C m) C.L hp) _ rfl (R4 d) [] C.L [] rfl (by have:=hC.L; simp [R4]; omega) (by simp)
 simp only [List.length_nil,Int.natCast_zero] at h0
 rw [h3] at h0
 refine Ztt (by rw [hC.T]; rfl) ?_
 simp only [ZiM,EV,LD,ZB,q1,hd,Z1q,h0,CX,IFJ]
end Go.Proofs.YtlmfmmclnboglaaGreat
end
section
namespace Go.Proofs.YtlmfmmclnboglaaGreat
open Go Go.RowKit Go.Proofs.YtlmfmmclnboglaaGreat.Abs
set_option linter.all false
set_option maxRecDepth 100000
def ZbR (l:DV):List UInt8×List UInt8:=(l.From,l.To)
theorem Zzt (m:VX)(l:DV)(s:ZtQ):ZuA m l s=if (!(m.Sites.map (·.Name)).contains l.From || !(m.Sites.map (·.Name)).contains l.To)=true then (5,s)
 else if decide (l.From=l.To)=true then (1,s) else if (!(btw l.Delay 1 1000000000))=true then (2,s) else if s.contains (l.From,l.To)=true then (4,s) else (0,s ++ [(l.From,l.To)]):=rfl
theorem ZnF (x v:DV)(w:List DV):((x :: w).map ZbR).contains (ZbR v)=((decide (x.From=v.From) && decide (x.To=v.To)) || (w.map ZbR).contains (ZbR v)):=by
 rw [List.map_cons,List.contains_cons]
 congr 1
 rw [← Bool.decide_and]
 by_cases h:x.From=v.From∧x.To=v.To
 ·rw [decide_eq_true h]; simp [ZbR,h.1,h.2]
 ·rw [decide_eq_false h]
  simp only [beq_eq_false_iff_ne,ne_eq,ZbR,Prod.mk.injEq]
  exact fun ⟨a,b⟩=>h ⟨a.symm,b.symm⟩
theorem Zdz {C:Cfg}(K:KT)(hp0 hp:HP)(mo:VX)(hm:TS mo)(g gl:Nat)(tg tl:TypeId)(v:DV)(hg:hp[g]? = some (.cells (Vh mo) tg))(hv:hp[gl]? = some (.cells (KM v) tl))(k2:AV→AV→HP→Eff→KR)(rest:List DV):∀ (w q:List DV) (m:Nat),mo.Links=(q ++ w) ++ rest→w.length < m →
  J2 C.G K C.L hp0 k2 m (.ptr g 0) (.int .i64 ((q ++ w).length:Int)) (.ptr gl 0) (.int .i64 (q.length:Int)) hp none=if ((w.map ZbR).contains (ZbR v))=true then some (.int .i64 4,hp0,none) else k2 (.ptr g 0) (.int .i64 ((q ++ w).length:Int)) hp none
 | _,_,0,_,h=>by omega
 | [],q,m + 1,h,_=>by
  have l0:decide ((q.length:Int) < ((q ++ []).length:Int))=false:=by simp
  simp only [J2,CO,Nat.reduceAdd,Nat.reduceLeDiff,Nat.reduceBEq,List.length_cons,List.length_nil,l0,List.map_nil,List.contains_nil]
 | x :: w,q,m + 1,h,hw=>by
  have l0:decide ((q.length:Int) < ((q ++ x :: w).length:Int))=true:=by simp; omega
  have h':mo.Links=q ++ x :: (w ++ rest):=by rw [h]; simp
  obtain ⟨a1,a2,a3,a4,a5⟩:=lp KM h' hm.l.2.2
  have ih:=Zdz (C := C) K hp0 hp mo hm g gl tg tl v hg hv k2 rest w (q ++ [x]) m (by rw [h]; simp) (by simpa using hw)
  have e:(q ++ x :: w)=q ++ [x] ++ w:=by simp
  rw [ZnF]
  by_cases b1:x.From=v.From
  ·by_cases b2:x.To=v.To
   ·simp only [J2,CO,Nat.reduceAdd,Nat.reduceLeDiff,Nat.reduceBEq,List.length_cons,List.length_nil,LG hg,LG hv,QF,Lp,a2,l0,Yp,b1,b2]
   ·simp only [J2,CO,Nat.reduceAdd,Nat.reduceLeDiff,Nat.reduceBEq,List.length_cons,List.length_nil,LG hg,LG hv,QF,Lp,a2,a3,l0,Yp,b1,b2]
    rw [e]; exact ih
  ·simp only [J2,CO,Nat.reduceAdd,Nat.reduceLeDiff,Nat.reduceBEq,List.length_cons,List.length_nil,LG hg,LG hv,QF,Lp,a2,a3,l0,Yp,b1]
   rw [e]; exact ih
theorem Zdy {C:Cfg}(hL:9223372036854775808≤C.L)(K:KT)(hp0:HP)(mo:VX)(hm:TS mo)(g:Nat)(tg:TypeId)
  (hS:∀ hp s,K Po [.agg (Vh mo),.str s] hp=some (.int .i64 (V8 (isN s) (mo.Sites.map Zj) 0),hp,none)) (hW:∀ hp a b c,K QN [.int .i64 a,.int .i64 b,.int .i64 c] hp=some (.bool (btw a b c),hp,none)):∀ (r q:List DV) (m:Nat) (hp:HP),mo.Links=q ++ r→r.length < m→hp[g]? = some (.cells (Vh mo) tg)→hp0.length≤hp.length →
  Xm C.G K C.L hp0 (Od C.G K C.L hp0) m (.ptr g 0) (.int .i64 (q.length:Int)) hp none=some (.int .i64 (Yz (ZuA mo) r (q.map ZbR)).1,hp0,none)
 | _,_,0,_,_,h,_,_=>by omega
 | [],q,m + 1,hp,h,_,hg,_=>by
  have l0:=lp0 h
  simp only [Xm,Od,CO,Nat.reduceAdd,Nat.reduceLeDiff,Nat.reduceBEq,List.length_cons,List.length_nil,LG hg,QF,l0,Yz]
 | v :: r,q,m + 1,hp,h,hr,hg,hb=>by
  obtain ⟨a1,a2,a3,a4,a5⟩:=lp KM h hm.l.2.2
  have st:=N7 hp0.length 3 hp [(.str []),(.str []),(.int .i64 0)] (KM v) Jl none rfl rfl hb
  have hg':=Gt hg (.cells (KM v) Jl)
  have hv:=ZC hp (.cells (KM v) Jl)
  have l1:=Zdz (C := C) K hp0 _ mo hm g hp.length tg Jl v hg' hv (M7 C.G K C.L hp0 (Xm C.G K C.L hp0 (Od C.G K C.L hp0) m)) (v :: r) q [] C.L (by rw [h]; simp) (by have:=hm.l.2.2; have:=congrArg List.length h; simp at this; omega)
  simp only [List.length_nil,Int.natCast_zero,List.nil_append] at l1
  have ih:=Zdy hL K hp0 mo hm g tg hS hW r (q ++ [v]) m _ a4 (by simpa using hr) hg' (by simp; omega)
  have lc:(q.map ZbR).contains (v.From,v.To)=(q.map ZbR).contains (ZbR v):=rfl
  rw [Yz]
  rw [Zzt,lc]
  by_cases b1:(!(mo.Sites.map (·.Name)).contains v.From || !(mo.Sites.map (·.Name)).contains v.To)=true
  ·simp only [Xm,CO,Nat.reduceAdd,Nat.reduceLeDiff,Nat.reduceBEq,List.length_cons,List.length_nil,LG hg,LG hg',LG hv,QF,Lp,a1,a2,st,Yp,hS,ZoZ,b1]
   rfl
  have b1':(!(mo.Sites.map (·.Name)).contains v.From || !(mo.Sites.map (·.Name)).contains v.To)=false:=by simpa using b1
  by_cases b2:v.From=v.To
  ·simp only [Xm,CO,Nat.reduceAdd,Nat.reduceLeDiff,Nat.reduceBEq,List.length_cons,List.length_nil,LG hg,LG hg',LG hv,QF,Lp,a1,a2,st,Yp,hS,ZoZ,b1']
   simp [b2,IFJ]
   try rfl
  have b2':decide (v.From=v.To)=false:=by simp [b2]
  by_cases b3:(!(btw v.Delay 1 1000000000))=true
  ·simp only [Xm,CO,Nat.reduceAdd,Nat.reduceLeDiff,Nat.reduceBEq,List.length_cons,List.length_nil,LG hg,LG hg',LG hv,QF,Lp,a1,a2,st,Yp,hS,ZoZ,hW,b1',b2',b3]
   rfl
  have b3':(!(btw v.Delay 1 1000000000))=false:=by simpa using b3
  by_cases b4:((q.map ZbR).contains (ZbR v))=true
  ·simp only [b4,if_true] at l1
   simp only [Xm,CO,Nat.reduceAdd,Nat.reduceLeDiff,Nat.reduceBEq,List.length_cons,List.length_nil,LG hg,LG hg',LG hv,QF,Lp,a1,a2,st,Yp,hS,ZoZ,hW,b1',b2',b3',b4,l1]
   rfl
  ·have b4':((q.map ZbR).contains (ZbR v))=false:=by simpa using b4
   simp only [b4',Bool.false_eq_true,if_false] at l1
   simp only [Xm,CO,Nat.reduceAdd,Nat.reduceLeDiff,Nat.reduceBEq,List.length_cons,List.length_nil,LG hg,LG hg',LG hv,QF,Lp,a1,a2,st,Yp,hS,ZoZ,hW,b1',b2',b3',b4',l1,M7,a3,ih]
   simp [ZbR,Yz]
theorem Zuy {C:Cfg}(hC:Xz C)(N:Nat)(hN:6≤N)(hp:HP)(mo:VX)(hm:TS mo):Zc C N ZdH [.agg (Vh mo)] hp=some (.int .i64 (Zj4 mo),hp,none):=by
 obtain ⟨m,rfl⟩:∃ m,N=m + 1:=⟨N - 1,by omega⟩
 have q1:=fun hp s=>Zwv hC m (by omega) hp mo s hm
 have q2:=Ti hC m (by omega)
 refine Zr2 (by rw [hC.T]; rfl) ?_
 by_cases hl:32 < (mo.Links.length:Int)
 ·have e:Zj4 mo=6:=by simp [Zj4,WV,hl]
  have hl':decide (32 < (mo.Links.length:Int))=true:=by simp [hl]
  rw [e]
  simp only [F8,CO,Nat.reduceAdd,Nat.reduceLeDiff,Nat.reduceBEq,List.length_cons,List.length_nil,QF,hl']
 ·have hl':decide (32 < (mo.Links.length:Int))=false:=by simp [hl]
  have h:=Zdy hC.L (Zc C m) hp mo hm hp.length ZV q1 q2 mo.Links [] C.L (hp ++ [.cells (Vh mo) ZV]) rfl (by have:=hm.l.2.2; have:=hC.L; omega) (ZC _ _) (by simp)
  simp only [List.length_nil,Int.natCast_zero,List.map_nil] at h
  have e:Zj4 mo=(Yz (ZuA mo) mo.Links []).1:=by simp [Zj4,WV,hl]
  rw [e]
  simp only [F8,CO,Nat.reduceAdd,Nat.reduceLeDiff,Nat.reduceBEq,List.length_cons,List.length_nil,QF,hl',h]
end Go.Proofs.YtlmfmmclnboglaaGreat
end
section
namespace Go.Proofs.YtlmfmmclnboglaaGreat
open Go Go.RowKit Go.Proofs.YtlmfmmclnboglaaGreat.Abs
set_option linter.all false
set_option maxRecDepth 100000
theorem Z2j {s:List UInt8}{rest:Int}{seen:Seen}(h:(Xy s rest seen).1=0):(Xy s rest seen).2=seen ++ [s]∧s ∉ seen∧rest=0:=by
 rw [Zjr] at h
 have w:=Zjs h
 refine ⟨by rw [w],?_,?_⟩
 ·intro hm
  have:seen.contains s=true:=by simpa using hm
  simp only [JZ,this,Qe,Qu] at h
  by_cases h1:Gv s=0 <;> simp [h1] at h
 ·by_cases h1:JZ s seen=0
  ·simpa [Qe,h1] using h
  ·simp [Qe,h1] at h
theorem Zy4:∀ (l:List (List UInt8×Int)) (s:Seen),(Yz RG l s).1=0→(Yz RG l s).2=s ++ l.map (·.1)∧(∀ q ∈ l.map (·.1),q ∉ s)∧(l.map (·.1)).Nodup∧∀ q ∈ l,q.2=0
 | [],s,_=>by simp [Yz]
 | x :: r,s,h=>by
  by_cases hz:(RG x s).1=0
  ·obtain ⟨w1,w2,w3⟩:=Z2j (s := x.1) (rest := x.2) (seen := s) hz
   have e:Yz RG (x :: r) s=Yz RG r (s ++ [x.1]):=by
    have:(RG x s).2=s ++ [x.1]:=w1
    simp [Yz,hz,this]
   rw [e] at h ⊢
   obtain ⟨i1,i2,i3,i4⟩:=Zy4 r _ h
   refine ⟨by rw [i1]; simp,?_,?_,?_⟩
   ·intro q hq
    rw [List.map_cons] at hq
    rcases List.mem_cons.1 hq with rfl | hq
    ·exact w2
    ·exact fun hm=>i2 q hq (by simp [hm])
   ·rw [List.map_cons,List.nodup_cons]
    exact ⟨fun hm=>i2 x.1 hm (by simp),i3⟩
   ·intro q hq
    rcases List.mem_cons.1 hq with rfl | hq
    ·exact w3
    ·exact i4 q hq
  ·have e:Yz RG (x :: r) s=RG x s:=by simp [Yz,hz]
   rw [e] at h; exact absurd h hz
def Z0B (p:Int×List (List UInt8×Int)):List (List UInt8):=p.2.map (·.1)
theorem Z0K:∀ (ds:List (Int×List (List UInt8×Int))) (s:Seen),(CV (ds.map TI) s).1=0→ds.Pairwise (fun a b=>∀ x ∈ Z0B a,x ∉ Z0B b)∧(∀ p ∈ ds,(Z0B p).Nodup∧(∀ x ∈ Z0B p,x ∉ s)∧∀ q ∈ p.2,q.2=0)
 | [],s,_=>⟨List.Pairwise.nil,fun p h=>by cases h⟩
 | p :: r,s,h=>by
  by_cases hz:(TI p s).1=0
  ·have e:CV ((p :: r).map TI) s=CV (r.map TI) (TI p s).2:=by simp [CV,hz]
   rw [e] at h
   have hl:¬ p.1 < (p.2.length:Int):=fun hl=>by simp [TI,WV,hl] at hz
   have e2:TI p s=Yz RG p.2 s:=by simp [TI,WV,hl]
   rw [e2] at hz h
   obtain ⟨w1,w2,w3,w4⟩:=Zy4 p.2 s hz
   rw [w1] at h
   obtain ⟨i1,i2⟩:=Z0K r _ h
   refine ⟨List.Pairwise.cons (fun b hb x hx hm=>(i2 b hb).2.1 x hm (by simp [Z0B] at hx ⊢; exact .inr hx)) i1,fun a ha=>?_⟩
   rcases List.mem_cons.1 ha with rfl | ha
   ·exact ⟨w3,w2,w4⟩
   ·exact ⟨(i2 a ha).1,fun x hx hm=>(i2 a ha).2.1 x hx (by simp [hm]),(i2 a ha).2.2⟩
  ·have e:CV ((p :: r).map TI) s=TI p s:=by simp [CV,hz]
   rw [e] at h; exact absurd h hz
def Zd2 (nm:List UInt8):List (List UInt8×List (List UInt8))→List UInt8
 | []=>[]
 | (w,ns) :: r=>if ns.contains nm=true then w else Zd2 nm r
theorem Zp6 (nm:List UInt8):∀ l:List (List UInt8×List (List UInt8)),Zd2 nm l=[]∨Zd2 nm l ∈ l.map (·.1)
 | []=>.inl rfl
 | (w,ns) :: r=>by
  rw [Zd2]
  split
  ·right; simp
  ·rcases Zp6 nm r with h | h
   ·exact .inl h
   ·right; rw [List.map_cons]; exact List.mem_cons_of_mem _ h
theorem Zp5 (nm:List UInt8):∀ l:List (List UInt8×List (List UInt8)),l.Pairwise (fun a b=>∀ x ∈ a.2,x ∉ b.2)→(l.map (·.1)).Nodup→[] ∉ l.map (·.1)→∀ p ∈ l,(Zd2 nm l=p.1↔nm ∈ p.2)
 | [],_,_,_,p,h=>by cases h
 | (w,ns) :: r,hp,hn,he,p,h=>by
  rw [List.pairwise_cons] at hp
  rw [List.map_cons,List.nodup_cons] at hn
  rw [List.map_cons,List.mem_cons,not_or] at he
  rw [Zd2]
  by_cases hc:nm ∈ ns
  ·rw [if_pos (by simpa using hc)]
   rcases List.mem_cons.1 h with rfl | h
   ·simp [hc]
   ·refine ⟨fun e=>absurd (List.mem_map_of_mem (f := (·.1)) h) (by show p.1 ∉ _; rw [← e]; exact hn.1),fun hm=>absurd hm (hp.1 p h nm hc)⟩
  ·rw [if_neg (by simpa using hc)]
   rcases List.mem_cons.1 h with rfl | h
   ·refine ⟨fun e=>?_,fun hm=>absurd hm hc⟩
    rcases Zp6 nm r with h1 | h1
    ·rw [h1] at e; exact absurd e he.1
    ·rw [e] at h1; exact absurd h1 hn.1
   ·exact Zp5 nm r hp.2 hn.2 he.2 p h
def Zd5 (d:Zi):List (List UInt8×List (List UInt8)):=[([118,97,114],d.Vars.map (·.Name)),([114,101,115,111,117,114,99,101],d.Resources.map (·.Name)),([115,116,111,114,101],d.Stores.map (·.Name)),([98,101,108,116],d.Belts.map (·.Name)),([113,117,101,117,101],d.Queues),([115,116,114,101,97,109],d.Streams),([116,97,108,108,121],d.Tallies),([108,101,118,101,108],d.Levels),([99,111,117,110,116],d.Counts),([114,111,117,116,105,110,101],d.Routines.map (·.Name))]
theorem L9 {α:Type}{row:α→List AV}{nm:α→List UInt8}(hn:∀ x,nameOf (row x)=nm x)(s w:List UInt8)(l:List α)(r:List (List UInt8×List (List AV)))(r':List (List UInt8×List (List UInt8)))(h:(Oq s r).1=Zd2 s r'):(Oq s ((w,l.map row) :: r)).1=Zd2 s ((w,l.map nm) :: r'):=by
 rw [Oq,Zd2,← Zcf hn s l 0]
 by_cases c:0≤V8 (isN s) (l.map row) 0
 ·simp [c]
 ·simp [c,h]
theorem ZxD (s:List UInt8)(d:Zi):(Oq s (kinds (ZpS d))).1=Zd2 s (Zd5 d):=by
 have z:∀ l:List (List UInt8),l.map (fun x:List UInt8=>x)=l:=fun l=>by simp
 have c2:=fun (w:List UInt8) (l:List (List UInt8))=>L9 (row := fun x:List UInt8=>[.str x]) (nm := fun x=>x) (fun _=>rfl) s w l
 simp only [z] at c2
 exact L9 (row := X9) (nm := fun x:Jn=>x.Name) (fun _=>rfl) _ _ _ _ _ <| L9 (row := Zu) (nm := fun x:ZY=>x.Name) (fun _=>rfl) _ _ _ _ _ <| L9 (row := Yo) (nm := fun x:Q6=>x.Name) (fun _=>rfl) _ _ _ _ _ <| L9 (row := YL) (nm := fun x:XK=>x.Name) (fun _=>rfl) _ _ _ _ _ <| c2 _ _ _ _ <| c2 _ _ _ _ <| c2 _ _ _ _ <| c2 _ _ _ _ <| c2 _ _ _ _ <| L9 (row := Yr) (nm := fun x:QI=>x.Name) (fun _=>rfl) _ _ _ _ _ rfl
theorem Zzr (d:Zi):(Zd5 d).map (·.2)=(R4 d).map Z0B:=by
 simp [Zd5,R4,Z0B,Function.comp_def]
theorem Zjd (d:Zi)(h:(CV ((R4 d).map TI) []).1=0)(nm:List UInt8)(p:List UInt8×List (List UInt8))(hp:p ∈ Zd5 d):(Oq nm (kinds (ZpS d))).1=p.1↔nm ∈ p.2:=by
 rw [ZxD]
 refine Zp5 nm (Zd5 d) ?_ ?_ ?_ p hp
 ·have:=(Z0K _ _ h).1
  have h2:((R4 d).map Z0B).Pairwise (fun a b=>∀ x ∈ a,x ∉ b):=List.pairwise_map.2 this
  rw [← Zzr] at h2
  exact List.pairwise_map.1 h2
 ·simp only [Zd5,List.map_cons,List.map_nil]; decide
 ·simp only [Zd5,List.map_cons,List.map_nil]; decide
theorem ZrI (d:Zi)(t:MZ)(k:List UInt8)(hk:k≠[])(b:Bool)(h:(Oq t.Name (kinds (ZpS d))).1=k↔b=true):ZjB d t k=Zpg t b:=by
 have h1:decide (k≠[])=true:=by simp [hk]
 have h2:decide ((Oq t.Name (kinds (ZpS d))).1=k)=b:=by
  cases b
  ·simp only [decide_eq_false_iff_not]; exact fun e=>by have:=h.1 e; cases this
  ·simp only [decide_eq_true_eq]; exact h.2 rfl
 rw [ZjB,h1,h2]
 rcases Bool.eq_false_or_eq_true (btw t.Coef (-1000) 1000) with h3 | h3 <;> by_cases c:t.Coef=0 <;> cases b <;> simp only [Zpg,h3] <;> simp [Qe,Qu,c]
theorem Z2h (d:Zi)(h:(CV ((R4 d).map TI) []).1=0)(t:MZ):Zc0 d t=ZrH d t:=by
 have hR:(Oq t.Name (kinds (ZpS d))).1=[114,111,117,116,105,110,101]↔(d.Routines.map (·.Name)).contains t.Name=true:=by
  rw [List.contains_iff_mem]; exact Zjd d h t.Name ([114,111,117,116,105,110,101],d.Routines.map (·.Name)) (by simp [Zd5])
 have hS:(Oq t.Name (kinds (ZpS d))).1=[115,116,111,114,101]↔(d.Stores.map (·.Name)).contains t.Name=true:=by
  rw [List.contains_iff_mem]; exact Zjd d h t.Name ([115,116,111,114,101],d.Stores.map (·.Name)) (by simp [Zd5])
 have hQ:(Oq t.Name (kinds (ZpS d))).1=[99,111,117,110,116]↔d.Counts.contains t.Name=true:=by
  rw [List.contains_iff_mem]; exact Zjd d h t.Name ([99,111,117,110,116],d.Counts) (by simp [Zd5])
 have eR:=ZrI d t _ (by decide) _ hR
 have eS:=ZrI d t _ (by decide) _ hS
 have eQ:=ZrI d t _ (by decide) _ hQ
 unfold Zc0 Z1n ZrH
 split
 ·exact eR
 split
 ·exact eR
 split
 ·exact eR
 split
 ·exact eS
 split
 ·exact eS
 split
 ·exact eS
 split
 ·exact eQ
 ·rfl
theorem Z1p (d:Zi)(h:(CV ((R4 d).map TI) []).1=0):Tk d=Zm5 d:=by
 have e:Zc0 d=ZrH d:=funext (Z2h d h)
 have e2:Zcz d=Z1o d:=by funext l; unfold Zcz Z1o; rw [e]
 unfold Tk Zm5; rw [e2]
theorem Z2c (d:Zi):CX d (Tk d)=ZoY d:=by
 rw [Z2b]
 by_cases h:(CV ((R4 d).map TI) []).1=0
 ·rw [Z1p d h]
 ·unfold CX
  rw [if_pos (by simp [h]),if_pos (by simp [h])]
def Zy9 (m:VX):Int:=(WV 16 (fun d:Zi=>Xy d.Name (CX d (Tk d))) m.Sites []).1
theorem Z0q (m:VX):Zy9 m=Zj9 m:=by
 unfold Zy9 Zj9
 have:(fun d:Zi=>Xy d.Name (CX d (Tk d)))=fun d:Zi=>Xy d.Name (ZoY d):=by funext d; rw [Z2c]
 rw [this]
section
variable {C:Cfg}(K:KT)(hp0 hp:HP)(mo:VX)(hm:TS mo)(g:Nat)(tg:TypeId)(hg:hp[g]? = some (.cells (Vh mo) tg))(hL:9223372036854775808≤C.L)
include hm hg
theorem Zdx (hN:∀ hp s (seen:Seen),s.length≤140737488351232→seen.length≤4611686018427387→K KS [.str s,.lst 1 (strs seen)] hp=some (.int .i64 (JZ s seen),hp,none))(hF:∀ hp a b,K Qh [.int .i64 a,.int .i64 b] hp=some (.int .i64 (Qe a b),hp,none))
 (hS:∀ hp,∀ d ∈ mo.Sites,K Zca [.agg (Zj d)] hp=some (.int .i64 (CX d (Tk d)),hp,none)) (k2:AV→HP→Eff→KR):∀ (r q:List Zi) (m:Nat) (seen:Seen),mo.Sites=q ++ r→r.length < m→seen.length + r.length≤1000000 →
  Uw C.G K C.L hp0 k2 m (.ptr g 0) (.lst 1 (strs seen)) (.own 1 (strs seen)) (.int .i64 (q.length:Int)) hp none=if decide ((Yz (fun d:Zi=>Xy d.Name (CX d (Tk d))) r seen).1≠0)=true then some (.int .i64 (Yz (fun d:Zi=>Xy d.Name (CX d (Tk d))) r seen).1,hp0,none) else k2 (.ptr g 0) hp none
 | _,_,0,_,_,h,_=>by omega
 | [],q,m + 1,seen,h,_,_=>by
  have l0:=lp0 h
  simp only [Uw,CO,Nat.reduceAdd,Nat.reduceLeDiff,Nat.reduceBEq,List.length_cons,List.length_nil,LG hg,QF,l0,Yz,ne_eq,not_true_eq_false]
 | x :: r,q,m + 1,seen,h,hr,hb=>by
  obtain ⟨a1,a2,a3,a4,a5⟩:=lp Zj h hm.l.2.1
  have hb':seen.length + (r.length + 1)≤1000000:=by simpa using hb
  have hn:=fun hp=>hN hp x.Name seen (hm.Sites.2 x a5).Name (by omega)
  have hs:=fun hp=>hS hp x a5
  have ap:=fun hp=>Z2z seen x.Name hp (by omega)
  have e0:(Xy x.Name (CX x (Tk x)) seen).1=Qe (JZ x.Name seen) (CX x (Tk x)):=Zjr _ _ _
  by_cases hz:Qe (JZ x.Name seen) (CX x (Tk x))=0
  ·have ih:=Zdx hN hF hS k2 r (q ++ [x]) m (seen ++ [x.Name]) a4 (by simpa using hr) (by simp; omega)
   have e1:Yz (fun d:Zi=>Xy d.Name (CX d (Tk d))) (x :: r) seen=Yz (fun d:Zi=>Xy d.Name (CX d (Tk d))) r (seen ++ [x.Name]):=by simp [Yz,Zjs hz]
   rw [e1]
   simp only [Uw,CO,Nat.reduceAdd,Nat.reduceLeDiff,Nat.reduceBEq,List.length_cons,List.length_nil,LIT,LG hg,QF,ZB,a1,a2,a3,Yp,hn,hs,hF,hz,roS,ap,ih,ne_eq,not_true_eq_false]
  ·have e1:(Yz (fun d:Zi=>Xy d.Name (CX d (Tk d))) (x :: r) seen).1=Qe (JZ x.Name seen) (CX x (Tk x)):=by simp [Yz,e0,hz]
   rw [e1]
   simp only [Uw,CO,Nat.reduceAdd,Nat.reduceLeDiff,Nat.reduceBEq,List.length_cons,List.length_nil,LIT,LG hg,QF,ZB,a1,a2,a3,Yp,hn,hs,hF,hz,ne_eq,not_false_eq_true]
theorem Zdw (hV:∀ hp v (seen:Seen),ZdK v→seen.length≤4611686018427387→K A8 [.agg (X9 v),.lst 1 (strs seen)] hp=some (.int .i64 (Qe (JZ v.Name seen) (Kg v)),hp,none))(k0:AV→HP→Eff→KR):∀ (r q:List Jn) (m:Nat) (seen:Seen),mo.Params=q ++ r→r.length < m→seen.length + r.length≤1000000 →
  Uv C.G K C.L hp0 k0 m (.ptr g 0) (.lst 1 (strs seen)) (.own 1 (strs seen)) (.int .i64 (q.length:Int)) hp none=if decide ((Yz (fun v:Jn=>Xy v.Name (Kg v)) r seen).1≠0)=true then some (.int .i64 (Yz (fun v:Jn=>Xy v.Name (Kg v)) r seen).1,hp0,none) else k0 (.ptr g 0) hp none
 | _,_,0,_,_,h,_=>by omega
 | [],q,m + 1,seen,h,_,_=>by
  have l0:=lp0 h
  simp only [Uv,CO,Nat.reduceAdd,Nat.reduceLeDiff,Nat.reduceBEq,List.length_cons,List.length_nil,LG hg,QF,l0,Yz,ne_eq,not_true_eq_false]
 | x :: r,q,m + 1,seen,h,hr,hb=>by
  obtain ⟨a1,a2,a3,a4,a5⟩:=lp X9 h hm.l.1
  have hb':seen.length + (r.length + 1)≤1000000:=by simpa using hb
  have hn:=fun hp=>hV hp x seen (hm.Params.2 x a5) (by omega)
  have ap:=fun hp=>Z2z seen x.Name hp (by omega)
  have e0:(Xy x.Name (Kg x) seen).1=Qe (JZ x.Name seen) (Kg x):=Zjr _ _ _
  by_cases hz:Qe (JZ x.Name seen) (Kg x)=0
  ·have ih:=Zdw hV k0 r (q ++ [x]) m (seen ++ [x.Name]) a4 (by simpa using hr) (by simp; omega)
   have e1:Yz (fun v:Jn=>Xy v.Name (Kg v)) (x :: r) seen=Yz (fun v:Jn=>Xy v.Name (Kg v)) r (seen ++ [x.Name]):=by simp [Yz,Zjs hz]
   rw [e1]
   simp only [Uv,CO,Nat.reduceAdd,Nat.reduceLeDiff,Nat.reduceBEq,List.length_cons,List.length_nil,LIT,LG hg,QF,Sb,a1,a2,a3,Yp,hn,hz,roS,ap,ih,ne_eq,not_true_eq_false]
  ·have e1:(Yz (fun v:Jn=>Xy v.Name (Kg v)) (x :: r) seen).1=Qe (JZ x.Name seen) (Kg x):=by simp [Yz,e0,hz]
   rw [e1]
   simp only [Uv,CO,Nat.reduceAdd,Nat.reduceLeDiff,Nat.reduceBEq,List.length_cons,List.length_nil,LIT,LG hg,QF,Sb,a1,a2,a3,Yp,hn,hz,ne_eq,not_false_eq_true]
end
theorem Zuw {C:Cfg}(hC:Xz C)(N:Nat)(hp:HP)(m0:VX)(hN:SizeOf.sizeOf m0 + 26≤N)(hm:TS m0):Zc C N ZdG [.agg (Vh m0)] hp=some (.int .i64 (Cw m0),hp,none):=by
 obtain ⟨m,rfl⟩:∃ m,N=m + 1:=⟨N - 1,by omega⟩
 have q1:=FC hC m (by omega)
 have q2:=Uz hC m (by omega)
 have q3:=Gp hC m (by omega)
 have q4:=fun hp=>Zuy hC m (by omega) hp m0 hm
 have gd:=ZC hp (.cells (Vh m0) ZV)
 refine Zry (by rw [hC.T]; rfl) ?_
 have f0:∀ x,Qe 0 x=x:=fun x=>by simp [Qe]
 by_cases b1:Gv m0.Name=0
 case neg =>
  have e1:∀ x,Qe (Gv m0.Name) x=Gv m0.Name:=fun x=>by simp [Qe,b1]
  simp only [Ta,CO,Nat.reduceAdd,Nat.reduceLeDiff,Nat.reduceBEq,List.length_cons,List.length_nil,QF,q1,q2,q3,hm.Name,Cw,e1,b1,ne_eq,not_false_eq_true]
 by_cases b2:32 < (m0.Params.length:Int)
 ·have e1:decide ((m0.Params.length:Int)≤32)=false:=by simp only [decide_eq_false_iff_not]; omega
  have e2:FM m0.Params=6:=by simp [FM,WV,b2]
  have u:Qu false 6=6:=rfl
  simp only [Ta,CO,Nat.reduceAdd,Nat.reduceLeDiff,Nat.reduceBEq,List.length_cons,List.length_nil,QF,q1,q2,q3,hm.Name,Cw,b1,e1,e2,f0,u,ne_eq,not_true_eq_false]
  rfl
 have e1:decide ((m0.Params.length:Int)≤32)=true:=by simp only [decide_eq_true_eq]; omega
 have e2:FM m0.Params=(Yz (fun v:Jn=>Xy v.Name (Kg v)) m0.Params []).1:=by simp [FM,WV,b2]
 have u0:∀ e,Qu true e=0:=fun _=>rfl
 have l0:=Zdw (C := C) (Zc C m) hp _ m0 hm hp.length ZV gd (Zu0 hC m (by omega)) (Gd C.G (Zc C m) C.L hp) m0.Params [] C.L [] rfl (by have:=hm.l; have:=hC.L; omega) (by simp; omega)
 simp only [List.length_nil,Int.natCast_zero,← e2] at l0
 by_cases b3:FM m0.Params=0
 case neg =>
  simp only [Ta,CO,Nat.reduceAdd,Nat.reduceLeDiff,Nat.reduceBEq,List.length_cons,List.length_nil,QF,q1,q2,q3,hm.Name,Cw,b1,b3,e1,u0,f0,Z1q,l0,ne_eq,not_true_eq_false,not_false_eq_true]
 by_cases b4:m0.Sites.length=0
 ·have g1:decide (0 < (m0.Sites.length:Int))=false:=by simp [b4]
  have g2:decide ((m0.Sites.length:Int)=0)=true:=by simp [b4]
  have g3:∀ x,Qe (Qu false 7) x=7:=fun x=>rfl
  simp only [Ta,Gd,CO,Nat.reduceAdd,Nat.reduceLeDiff,Nat.reduceBEq,List.length_cons,List.length_nil,LG gd,QF,q1,q2,q3,hm.Name,Cw,b1,b3,e1,u0,f0,Z1q,l0,g1,g2,g3,ne_eq,not_true_eq_false,not_false_eq_true]
  rfl
 have g1:decide (0 < (m0.Sites.length:Int))=true:=by simp only [decide_eq_true_eq]; omega
 have g2:decide ((m0.Sites.length:Int)=0)=false:=by simp only [decide_eq_false_iff_not]; omega
 by_cases b5:16 < (m0.Sites.length:Int)
 ·have g3:decide ((m0.Sites.length:Int)≤16)=false:=by simp only [decide_eq_false_iff_not]; omega
  have g4:Zj9 m0=6:=by simp [Zj9,WV,b5]
  have u:Qu false 6=6:=rfl
  simp only [Ta,Gd,CO,Nat.reduceAdd,Nat.reduceLeDiff,Nat.reduceBEq,List.length_cons,List.length_nil,LG gd,QF,q1,q2,q3,hm.Name,Cw,b1,b3,e1,u0,f0,Z1q,l0,g1,g2,g3,g4,u,ne_eq,not_true_eq_false,not_false_eq_true]
  rfl
 have g3:decide ((m0.Sites.length:Int)≤16)=true:=by simp only [decide_eq_true_eq]; omega
 have g4:Zj9 m0=(Yz (fun d:Zi=>Xy d.Name (CX d (Tk d))) m0.Sites []).1:=by rw [← Z0q]; simp [Zy9,WV,b5]
 have l2:=Zdx (C := C) (Zc C m) hp _ m0 hm hp.length ZV gd (Nl hC m (by omega)) (Gp hC m (by omega)) (fun hp d hd=>Zww hC m hp d (by have:=Z3O hd; omega) (hm.Sites.2 d hd)) (Mx C.G (Zc C m) C.L hp) m0.Sites [] C.L [] rfl (by have:=hm.l; have:=hC.L; omega) (by simp; omega)
 simp only [List.length_nil,Int.natCast_zero,← g4] at l2
 simp only [Ta,Gd,CO,Nat.reduceAdd,Nat.reduceLeDiff,Nat.reduceBEq,List.length_cons,List.length_nil,LG gd,QF,q1,q2,q3,hm.Name,Cw,b1,b3,e1,u0,f0,Z1q,l0,l2,g1,g2,g3,Mx,q4,ne_eq,not_true_eq_false,not_false_eq_true]
end Go.Proofs.YtlmfmmclnboglaaGreat
end
section
namespace Go.Proofs.YtlmfmmclnboglaaGreat
open Go Go.RowKit Go.Proofs.YtlmfmmclnboglaaGreat.Abs
set_option linter.all false
set_option maxRecDepth 100000
def Zxh (hp:List Zt)(r:KR):Prop:=∃ b,r=some (.bool b,hp,none)
section
variable {C:Cfg}(hC:Xz C)
include hC
theorem ZvE (K:FuncId→List AV→List Zt→KR)(hp0 hp:List Zt)(k2:AV→AV→AV→List Zt→Eff→KR)(x1 x4:AV)(ls:List (List (List AV)))(hl:ls.length≤100)(hk:∀ k,Zxh hp0 (k2 x1 (.int .i64 k) x4 hp none)) :
  ∀ (r q:List (List (List AV))) (m:Nat) (k:Int),ls=q ++ r→r.length < m→Zxh hp0 (JP C.G K C.L hp0 k2 m x1 (.int .i64 k) x4 (.lst 1 (ls.map fun l=>[.lst 1 l])) (.int .i64 q.length) hp none)
 | _,_,0,_,_,h=>by omega
 | [],q,m + 1,k,hs,_=>by
  have hlen:((ls.map fun l=>[AV.lst 1 l]).length:Int)=q.length:=by rw [hs]; simp
  obtain ⟨b,h⟩:=hk k
  exact ⟨b,by simp only [JP,Wh,Wd,We,Xb,ZN,ZM,Z5,Z4,Yj,Yi,Xa,Zk,Wl,ZO,ZP,Yf,YQ,YS,YP,YR,YO,YT,Yk,Wm,Wt,Wn,Wp,Wj,Wu,Wq,Wo,Ws,Xi,ZQ,Yh,YU,YZ,YV,YX,Yx,YY,YW,Xe,QS,QY,QV,GY,Hf,He,Hd,Ha,GZ,Hl,Hm,Xf,Xh,Wi,Xg,Hg,QU,QX,QT,QW,Option.map_some,Xk,Xj,Xd,Xc,QZ,Xl,Zr,ZI,Yb,Ye,Yc,Yd,Ya,ZJ,ZL,Z0,ZK,YJ,YI,Yg,hlen,Int.lt_irrefl,decide_false,Bool.false_eq_true,if_false,h]⟩
 | x :: r,q,m + 1,k,hs,hm=>by
  have hlen:((ls.map fun l=>[AV.lst 1 l]).length:Int)=q.length + (r.length + 1):=by rw [hs]; simp
  have hlt:(q.length:Int) < q.length + (r.length + 1):=by omega
  have hql:q.length + (r.length + 1)≤100:=by rw [hs] at hl; simpa using hl
  have hg:(ls.map fun l=>[AV.lst 1 l])[q.length]? = some [.lst 1 x]:=by rw [hs]; simp
  have l0:∀ v:AV,Ze hp (.ref [v])=some v.ro:=fun v=>rfl
  have hwr:=Uo q.length (by omega)
  obtain ⟨b,ih⟩:=ZvE K hp0 hp k2 x1 x4 ls hl hk r (q ++ [x]) m (IntKind.i64.wrap (k + x.length)) (by rw [hs]; simp) (by simpa using hm)
  simp only [List.length_append,List.length_cons,List.length_nil,Nat.zero_add] at ih
  exact ⟨b,by simp only [JP,Wh,Wd,We,Xb,ZN,ZM,Z5,Z4,Yj,Yi,Xa,Zk,Wl,ZO,ZP,Yf,YQ,YS,YP,YR,YO,YT,Yk,Wm,Wt,Wn,Wp,Wj,Wu,Wq,Wo,Ws,Xi,ZQ,Yh,YU,YZ,YV,YX,Yx,YY,YW,Xe,QS,QY,QV,GY,Hf,He,Hd,Ha,GZ,Hl,Hm,Xf,Xh,Wi,Xg,Hg,QU,QX,QT,QW,Option.map_some,Xk,Xj,Xd,Xc,QZ,Xl,Zr,ZI,Yb,Ye,Yc,Yd,Ya,ZJ,ZL,Z0,ZK,YJ,YI,Yg,hlen,hlt,decide_true,if_true,Yp,hg,l0,hwr,ih]⟩
theorem ZvD (n:Nat)(hp0:List Zt)(m0:Mdl)(hm:Zwd m0)(hs:m0.sites.length≤8796093022208):∀ (r q:List N8) (m:Nat) (k:Int),m0.sites=q ++ r→r.length < m →
  Zxh hp0 (X0 C.G (Zc C (n + 1)) C.L hp0 (Kr C.G (Zc C (n + 1)) C.L hp0) m (.ptr hp0.length 0) (.int .i64 k) (.int .i64 q.length) (hp0 ++ [Zt.cells (ZgT m0) ZV]) none)
 | _,_,0,_,_,h=>by omega
 | [],q,m + 1,k,hq,_=>by
  have hlen:((m0.sites.map VS).length:Int)=q.length:=by rw [hq]; simp
  have lf:Ze (hp0 ++ [Zt.cells (ZgT m0) ZV]) (.ptr hp0.length (0 + 2))=some (.lst 13 (m0.sites.map VS)):=V7 (ZC _ _) 2
  exact ⟨_,by simp only [X0,Kr,Wh,Wd,We,Xb,ZN,ZM,Z5,Z4,Yj,Yi,Xa,Zk,Wl,ZO,ZP,Yf,YQ,YS,YP,YR,YO,YT,Yk,Wm,Wt,Wn,Wp,Wj,Wu,Wq,Wo,Ws,Xi,ZQ,Yh,YU,YZ,YV,YX,Yx,YY,YW,Xe,QS,QY,QV,GY,Hf,He,Hd,Ha,GZ,Hl,Hm,Xf,Xh,Wi,Xg,Hg,QU,QX,QT,QW,Option.map_some,Xk,Xj,Xd,Xc,QZ,Xl,Zr,ZI,Yb,Ye,Yc,Yd,Ya,ZJ,ZL,Z0,ZK,YJ,YI,Yg,lf,hlen,Int.lt_irrefl,decide_false,Bool.false_eq_true,if_false]; rfl⟩
 | x :: r,q,m + 1,k,hq,hlm=>by
  have hlen:((m0.sites.map VS).length:Int)=q.length + (r.length + 1):=by rw [hq]; simp
  have hlt:(q.length:Int) < q.length + (r.length + 1):=by omega
  have hql:q.length + (r.length + 1)≤8796093022208:=by rw [hq] at hs; simpa using hs
  have hg:(m0.sites.map VS)[q.length]? = some (VS x):=by rw [hq]; simp
  have hx:=hm.site x (by rw [hq]; simp)
  have lf:Ze (hp0 ++ [Zt.cells (ZgT m0) ZV]) (.ptr hp0.length (0 + 2))=some (.lst 13 (m0.sites.map VS)):=V7 (ZC _ _) 2
  have hwr:=Uo q.length (by omega)
  have hld:=Zm6 (hp0 ++ [Zt.cells (ZgT m0) ZV]) 13 (VS x) (by simp [VS])
  have hro:((VS x).take 13).map AV.ro=VS x:=rfl
  have hn:=ZqB hC n (hp0 ++ [Zt.cells (ZgT m0) ZV]) x hx
  have l11:∀ H,Ze H (.ref ((VS x).drop 11))=some (.lst 5 x.starts):=fun H=>rfl
  have l12:∀ H,Ze H (.ref ((VS x).drop 12))=some (.lst 3 x.laws):=fun H=>rfl
  have h1:=ZvE hC (Zc C (n + 1)) hp0 (hp0 ++ [Zt.cells (ZgT m0) ZV]) (IG C.G (Zc C (n + 1)) C.L hp0 (Kq C.G (Zc C (n + 1)) C.L hp0 (X0 C.G (Zc C (n + 1)) C.L hp0 (Kr C.G (Zc C (n + 1)) C.L hp0) m))) (.ptr hp0.length 0) (.int .i64 q.length) (Di x) (by simp [Di,kinds]) (fun k'=>by
    obtain ⟨b,ih⟩:=ZvD n hp0 m0 hm hs r (q ++ [x]) m (IntKind.i64.wrap (k' + IntKind.i64.wrap (x.starts.length + x.laws.length))) (by rw [hq]; simp) (by simpa using hlm)
    simp only [List.length_append,List.length_cons,List.length_nil,Nat.zero_add] at ih
    exact ⟨b,by simp only [IG,Kq,Wh,Wd,We,Xb,ZN,ZM,Z5,Z4,Yj,Yi,Xa,Zk,Wl,ZO,ZP,Yf,YQ,YS,YP,YR,YO,YT,Yk,Wm,Wt,Wn,Wp,Wj,Wu,Wq,Wo,Ws,Xi,ZQ,Yh,YU,YZ,YV,YX,Yx,YY,YW,Xe,QS,QY,QV,GY,Hf,He,Hd,Ha,GZ,Hl,Hm,Xf,Xh,Wi,Xg,Hg,QU,QX,QT,QW,Option.map_some,Xk,Xj,Xd,Xc,QZ,Xl,Zr,ZI,Yb,Ye,Yc,Yd,Ya,ZJ,ZL,Z0,ZK,YJ,YI,Yg,lf,Yp,hg,l11,l12,hwr,ih]⟩) (Di x) [] C.L k rfl (by have:=hC.L; simp [Di,kinds]; omega)
  obtain ⟨b,h1⟩:=h1
  exact ⟨b,by simp only [X0,Wh,Wd,We,Xb,ZN,ZM,Z5,Z4,Yj,Yi,Xa,Zk,Wl,ZO,ZP,Yf,YQ,YS,YP,YR,YO,YT,Yk,Wm,Wt,Wn,Wp,Wj,Wu,Wq,Wo,Ws,Xi,ZQ,Yh,YU,YZ,YV,YX,Yx,YY,YW,Xe,QS,QY,QV,GY,Hf,He,Hd,Ha,GZ,Hl,Hm,Xf,Xh,Wi,Xg,Hg,QU,QX,QT,QW,Option.map_some,Xk,Xj,Xd,Xc,QZ,Xl,Zr,ZI,Yb,Ye,Yc,Yd,Ya,ZJ,ZL,Z0,ZK,YJ,YI,Yg,lf,hlen,hlt,decide_true,if_true,Yp,hg,hld,hro,hn]; exact h1⟩
theorem Z1c (n:Nat)(hp:List Zt)(m:Mdl)(hm:Zwd m):Zxh hp (Zc C (n + 2) DT [.agg (ZgT m)] hp):=by
 have l1:Ze (hp ++ [Zt.cells (ZgT m) ZV]) (.ptr hp.length (0 + 1))=some (.lst 3 m.params):=V7 (ZC _ _) 1
 have l2:Ze (hp ++ [Zt.cells (ZgT m) ZV]) (.ptr hp.length (0 + 2))=some (.lst 13 (m.sites.map VS)):=V7 (ZC _ _) 2
 have l3:Ze (hp ++ [Zt.cells (ZgT m) ZV]) (.ptr hp.length (0 + 3))=some (.lst 3 m.links):=V7 (ZC _ _) 3
 obtain ⟨b,h⟩:=ZvD hC n hp m hm hm.sites m.sites [] C.L 0 rfl (by have:=hC.L; have:=hm.sites; omega)
 have h0:((([]:List N8).length:Nat):Int)=0:=rfl
 rw [h0] at h
 by_cases c1:((m.sites.map VS).length:Int) > 20
 ·exact ⟨false,R7 (by rw [hC.T]; rfl) (by simp only [TD,Wh,Wd,We,Xb,ZN,ZM,Z5,Z4,Yj,Yi,Xa,Zk,Wl,ZO,ZP,Yf,YQ,YS,YP,YR,YO,YT,Yk,Wm,Wt,Wn,Wp,Wj,Wu,Wq,Wo,Ws,Xi,ZQ,Yh,YU,YZ,YV,YX,Yx,YY,YW,Xe,QS,QY,QV,GY,Hf,He,Hd,Ha,GZ,Hl,Hm,Xf,Xh,Wi,Xg,Hg,QU,QX,QT,QW,Option.map_some,Xk,Xj,Xd,Xc,QZ,Xl,Zr,ZI,Yb,Ye,Yc,Yd,Ya,ZJ,ZL,Z0,ZK,YJ,YI,Yg,Bg 4 (ZgT m) rfl,l1,l2,l3,c1,decide_true,if_true,Bool.true_or])⟩
 by_cases c2:(m.params.length:Int) > 40
 ·exact ⟨false,R7 (by rw [hC.T]; rfl) (by simp only [TD,Wh,Wd,We,Xb,ZN,ZM,Z5,Z4,Yj,Yi,Xa,Zk,Wl,ZO,ZP,Yf,YQ,YS,YP,YR,YO,YT,Yk,Wm,Wt,Wn,Wp,Wj,Wu,Wq,Wo,Ws,Xi,ZQ,Yh,YU,YZ,YV,YX,Yx,YY,YW,Xe,QS,QY,QV,GY,Hf,He,Hd,Ha,GZ,Hl,Hm,Xf,Xh,Wi,Xg,Hg,QU,QX,QT,QW,Option.map_some,Xk,Xj,Xd,Xc,QZ,Xl,Zr,ZI,Yb,Ye,Yc,Yd,Ya,ZJ,ZL,Z0,ZK,YJ,YI,Yg,Bg 4 (ZgT m) rfl,l1,l2,l3,c1,c2,decide_true,decide_false,if_true,Bool.false_or,Bool.true_or])⟩
 by_cases c3:(m.links.length:Int) > 40
 ·exact ⟨false,R7 (by rw [hC.T]; rfl) (by simp only [TD,Wh,Wd,We,Xb,ZN,ZM,Z5,Z4,Yj,Yi,Xa,Zk,Wl,ZO,ZP,Yf,YQ,YS,YP,YR,YO,YT,Yk,Wm,Wt,Wn,Wp,Wj,Wu,Wq,Wo,Ws,Xi,ZQ,Yh,YU,YZ,YV,YX,Yx,YY,YW,Xe,QS,QY,QV,GY,Hf,He,Hd,Ha,GZ,Hl,Hm,Xf,Xh,Wi,Xg,Hg,QU,QX,QT,QW,Option.map_some,Xk,Xj,Xd,Xc,QZ,Xl,Zr,ZI,Yb,Ye,Yc,Yd,Ya,ZJ,ZL,Z0,ZK,YJ,YI,Yg,Bg 4 (ZgT m) rfl,l1,l2,l3,c1,c2,c3,decide_true,decide_false,if_true,Bool.false_or,Bool.true_or])⟩
 exact ⟨b,R7 (by rw [hC.T]; rfl) (by simp only [TD,Wh,Wd,We,Xb,ZN,ZM,Z5,Z4,Yj,Yi,Xa,Zk,Wl,ZO,ZP,Yf,YQ,YS,YP,YR,YO,YT,Yk,Wm,Wt,Wn,Wp,Wj,Wu,Wq,Wo,Ws,Xi,ZQ,Yh,YU,YZ,YV,YX,Yx,YY,YW,Xe,QS,QY,QV,GY,Hf,He,Hd,Ha,GZ,Hl,Hm,Xf,Xh,Wi,Xg,Hg,QU,QX,QT,QW,Option.map_some,Xk,Xj,Xd,Xc,QZ,Xl,Zr,ZI,Yb,Ye,Yc,Yd,Ya,ZJ,ZL,Z0,ZK,YJ,YI,Yg,Bg 4 (ZgT m) rfl,l1,l2,l3,c1,c2,c3,decide_false,Bool.false_eq_true,if_false,Bool.false_or]; exact h)⟩
end
end Go.Proofs.YtlmfmmclnboglaaGreat
end
section
namespace Go.Proofs.YtlmfmmclnboglaaGreat
open Go Go.RowKit Go.Proofs.YtlmfmmclnboglaaGreat.Abs
set_option linter.all false
set_option maxRecDepth 100000
theorem Zzh {C:Cfg}(hC:Xz C)(N:Nat)(hN:2≤N)(hp:HP)(m:VX)(hm:TS m):Zxh hp (Zc C N DT [.agg (Vh m)] hp):=by
 obtain ⟨n,rfl⟩:∃ n,N=n + 2:=⟨N - 2,by omega⟩
 rw [← ZqT]; exact Z1c hC n hp (ZxT m) (ZuB hm)
theorem Zuf {C:Cfg}(hC:Xz C)(N:Nat)(hp:HP)(m0:VX)(hN:SizeOf.sizeOf m0 + 26≤N)(hm:TS m0)(haw:∀ hp,Zc C N H5 [] hp=some (.bool true,hp,none)):Zc C (N + 1) MU [.agg (Vh m0)] hp=some (.bool true,hp,none):=by
 refine ZbK (by rw [hC.T]; rfl) ?_
 obtain ⟨lb,hl⟩:=Zzh hC N (by omega) (hp ++ [Zt.cells (Vh m0) ZV]) m0 hm
 have q1:=fun hp=>Zq8 hC N hp m0 hN hm
 have q2:=fun hp=>Zuw hC N hp m0 hN hm
 generalize Zc C N=K at *
 cases lb with
 | false=>simp only [Ij,CO,Nat.reduceAdd,Nat.reduceLeDiff,Nat.reduceBEq,List.length_cons,List.length_nil,QF,hl,haw]
 | true=>simp only [Ij,CO,Nat.reduceAdd,Nat.reduceLeDiff,Nat.reduceBEq,List.length_cons,List.length_nil,QF,hl,haw,q1,q2]
end Go.Proofs.YtlmfmmclnboglaaGreat
end
section
namespace Go.Proofs.YtlmfmmclnboglaaGreat.Abs
open Go Go.RowKit Go.ChangeShapes Go.WideShapes Go.Deep
set_option linter.all false
def Z3j (P:Program):List Field→Nat→Nat→Bool
 | [],o,n=>o == n
 | f :: r,o,n=>(f.offset == o) && Z3j P r (o + P.cellsOf f.type) n
def Z00 {H:Type}(P:Program):Nat→TypeId→List AV→DataW H→Prop
 | 0,_,_,_=>False
 | n + 1,t,az,d=>match P.underlying t with
  | some .bool=>∃ b,az=[.bool b]∧d=.lit (.bool b)
  | some (.int k)=>∃ x,az=[.int k x]∧d=.lit (.int k x)∧(Lit.int k x).wf=true
  | some .string=>∃ s,az=[.str s]∧d=.lit (.string s)∧s.length≤140737488351232
  | some (.slice e)=>∃ rows,az=[.lst (P.cellsOf e) rows]∧rows.length≤140737488351232∧((rows=[]∧d=.nil)∨∃ D ds spare,d=.slice ds spare∧ds=(List.range rows.length).map D∧∀ (i:Nat) (r:List AV),rows[i]? = some r→Z00 P n e r (D i))
  | some (.struct fs)=>az.length=P.cellsOf t∧∃ ds,d=.agg ds∧ds.length=fs.size∧∀ (i:Nat) (f:Field),fs.toList[i]? = some f→∃ di,ds[i]? = some di∧Z00 P n f.type ((az.drop f.offset).take (P.cellsOf f.type)) di
  | _=>False
structure Shp {H:Type}(P:Program)(n:Nat)(t:TypeId)(az:List AV)(d:DataW H):Prop where
 ok:Z00 P n t az d
theorem ZvT {n:Nat}(h:n≤reachBytes):n≤140737488351232:=h
theorem Shp.bool {H:Type}{P:Program}{n:Nat}{t:TypeId}{az:List AV}{d:DataW H}(h:Shp P (n + 1) t az d)(hu:P.underlying t=some .bool):∃ b,az=[.bool b]∧d=.lit (.bool b):=by
 have h:=h.ok; rw [Z00,hu] at h; exact h
theorem Shp.int {H:Type}{P:Program}{n:Nat}{t:TypeId}{k:IntKind}{az:List AV}{d:DataW H}(h:Shp P (n + 1) t az d)(hu:P.underlying t=some (.int k)):∃ x,az=[.int k x]∧d=.lit (.int k x)∧k.min≤x∧x≤k.max:=by
 have h:=h.ok
 rw [Z00,hu] at h
 obtain ⟨x,h1,h2,h3⟩:=h
 simp only [Lit.wf,Bool.and_eq_true,decide_eq_true_eq] at h3
 exact ⟨x,h1,h2,h3⟩
theorem Shp.i64 {H:Type}{P:Program}{n:Nat}{t:TypeId}{az:List AV}{d:DataW H}(h:Shp P (n + 1) t az d)(hu:P.underlying t=some (.int .i64)):∃ x,az=[.int .i64 x]∧d=.lit (.int .i64 x)∧-9223372036854775808≤x∧x≤9223372036854775807:=by
 obtain ⟨x,h1,h2,h3⟩:=h.int hu
 exact ⟨x,h1,h2,by simpa [IntKind.min,IntKind.max,IntKind.signed,IntKind.bits] using h3⟩
theorem Shp.str {H:Type}{P:Program}{n:Nat}{t:TypeId}{az:List AV}{d:DataW H}(h:Shp P (n + 1) t az d)(hu:P.underlying t=some .string):∃ s,az=[.str s]∧d=.lit (.string s)∧s.length≤140737488351232:=by
 have h:=h.ok; rw [Z00,hu] at h; exact h
theorem Shp.slice {H:Type}{P:Program}{n:Nat}{t e:TypeId}{az:List AV}{d:DataW H}(h:Shp P (n + 1) t az d)(hu:P.underlying t=some (.slice e)):∃ rows,az=[.lst (P.cellsOf e) rows]∧rows.length≤140737488351232∧((rows=[]∧d=.nil)∨∃ D ds spare,d=.slice ds spare∧ds=(List.range rows.length).map D∧∀ (i:Nat) (r:List AV),rows[i]? = some r→Shp P n e r (D i)):=by
 have h:=h.ok
 rw [Z00,hu] at h
 obtain ⟨rows,h1,h2,h3⟩:=h
 refine ⟨rows,h1,h2,h3.imp id ?_⟩
 rintro ⟨D,ds,spare,e1,e2,e3⟩
 exact ⟨D,ds,spare,e1,e2,fun i r hr=>⟨e3 i r hr⟩⟩
theorem Shp.struct {H:Type}{P:Program}{n:Nat}{t:TypeId}{fs:Array Field}{az:List AV}{d:DataW H}(h:Shp P (n + 1) t az d)(hu:P.underlying t=some (.struct fs)):az.length=P.cellsOf t∧∃ ds,d=.agg ds∧ds.length=fs.size∧∀ (i:Nat) (f:Field),fs.toList[i]? = some f→∃ di,ds[i]? = some di∧Shp P n f.type ((az.drop f.offset).take (P.cellsOf f.type)) di:=by
 have h:=h.ok
 rw [Z00,hu] at h
 obtain ⟨h1,ds,h2,h3,h4⟩:=h
 exact ⟨h1,ds,h2,h3,fun i f hf=>let ⟨di,e1,e2⟩:=h4 i f hf; ⟨di,e1,⟨e2⟩⟩⟩
def ZdB (Γ:Wx)(w:World)(a:AV)(v:Value):Prop:=Rep Γ w a v∧a.one=true∧a.noId1=true∧∀ k r,a≠.own k r
variable {H:Type}{enc:TypeId×Value→H}{P:Program}{w:World}{base:Nat}{sp:Nat→Bool}{held:Bool}{Γ:Wx}
theorem ZyH {H:Type}{P:Program}{e:TypeId}{d:DataW H}{y:Nat}:∀ {ds:List (DataW H)},d ∈ ds→y ∈ d.weights P e→y ∈ DataW.weightsAll P e ds
 | [],h,_=>by simp at h
 | z :: ds,h,hy=>by
  rw [DataW.weightsAll,List.mem_append]
  rcases List.mem_cons.1 h with rfl | h
  ·exact .inl hy
  ·exact .inr (ZyH h hy)
theorem sized_arg {H:Type}{P:Program}{ts:List TypeId}{ds:List (DataW H)}(h:(DataW.weightsEach P ts ds).all (·≤reachBytes)=true){j:Nat}{t:TypeId}{d:DataW H}(ht:ts[j]? = some t)(hd:ds[j]? = some d):∀ y ∈ d.weights P t,y≤reachBytes:=fun y hy=>by
 have:=List.all_eq_true.1 h _ (DataW.weights_mem_each ht hd y hy)
 simpa using this
theorem arg_stays {t:TypeId}{v:Value}{d:DataW H}{ps:List MemPlace}{W W':World}(hl:laidOutB P=true)(hr:P.readableRec t=true)(hrow:t < P.types.size)(h:DataW.Trod enc P W 0 (fun _=>true) true t v d ps)(hb:Below W.heap.size W W')(hlt:∀ p ∈ ps,p.block < W.heap.size) :
  DataW.Trod enc P W' 0 (fun b=>decide (b < W.heap.size)) true t v d ps :=
 WideElems.Trod_stays hl hr hrow h (fun p hp=>hb.same (hlt p hp)) (fun p hp=>by simpa using hlt p hp)
end Go.Proofs.YtlmfmmclnboglaaGreat.Abs
end
section
namespace Go.Proofs.YtlmfmmclnboglaaGreat.Abs
open Go Go.RowKit Go.ChangeShapes Go.WideShapes Go.Deep
set_option linter.all false
def Z1w (P:Program)(S:List TypeId):Bool :=
 S.all fun t=>match P.underlying t with
  | some .bool=>true
  | some (.int _)=>true
  | some .string=>true
  | some (.slice e)=>(decide (0 < P.cellsOf e) && decide (0 < P.bytesOf e)) && S.contains e
  | some (.struct fs)=>Z3j P fs.toList 0 (P.cellsOf t) && fs.toList.all fun f=>S.contains f.type
  | _=>false
inductive Zcc {H:Type}(P:Program):TypeId→List AV→DataW H→Prop
 | bool (t:TypeId) (b:Bool) (hu:P.underlying t=some .bool):Zcc P t [.bool b] (.lit (.bool b))
 | int (t:TypeId) (k:IntKind) (x:Int) (hu:P.underlying t=some (.int k)) (hw:(Lit.int k x).wf=true):Zcc P t [.int k x] (.lit (.int k x))
 | str (t:TypeId) (s:List UInt8) (hu:P.underlying t=some .string) (hl:s.length≤140737488351232):Zcc P t [.str s] (.lit (.string s))
 | nil (t e:TypeId) (hu:P.underlying t=some (.slice e)):Zcc P t [.lst (P.cellsOf e) []] .nil
 | slice (t e:TypeId) (rows:List (List AV)) (D:Nat→DataW H) (spare:List (DataW H)) (hu:P.underlying t=some (.slice e)) (hl:rows.length * P.bytesOf e≤140737488351232) (h:∀ (i:Nat) (r:List AV),rows[i]? = some r→Zcc P e r (D i)) :
   Zcc P t [.lst (P.cellsOf e) rows] (.slice ((List.range rows.length).map D) spare)
 | struct (t:TypeId) (fs:Array Field) (cs:List AV) (D:Nat→DataW H) (hu:P.underlying t=some (.struct fs)) (hl:cs.length=P.cellsOf t)
   (h:∀ (i:Nat) (f:Field),fs.toList[i]? = some f→Zcc P f.type ((cs.drop f.offset).take (P.cellsOf f.type)) (D i)):Zcc P t cs (.agg ((List.range fs.size).map D))
section
variable {H:Type}{P:Program}{t:TypeId}{cs:List AV}{d:DataW H}
theorem Zcc.toBool (h:Zcc P t cs d)(hu:P.underlying t=some .bool):∃ b,cs=[.bool b]∧d=.lit (.bool b):=by
 cases h <;> rename_i h2 <;> first | exact ⟨_,rfl,rfl⟩ | (simp_all; done)
theorem Zcc.toInt (h:Zcc P t cs d){k:IntKind}(hu:P.underlying t=some (.int k)):∃ x,cs=[.int k x]∧d=.lit (.int k x)∧k.min≤x∧x≤k.max:=by
 cases h with
 | int _ k' x h1 hw =>
  rw [hu] at h1; cases h1
  simp only [Lit.wf,Bool.and_eq_true,decide_eq_true_eq] at hw
  exact ⟨x,rfl,rfl,hw⟩
 | _=>simp_all
theorem Zcc.toI64 (h:Zcc P t cs d)(hu:P.underlying t=some (.int .i64)):∃ x,cs=[.int .i64 x]∧d=.lit (.int .i64 x)∧-9223372036854775808≤x∧x≤9223372036854775807:=by
 obtain ⟨x,h1,h2,h3⟩:=h.toInt hu
 exact ⟨x,h1,h2,by simpa [IntKind.min,IntKind.max,IntKind.signed,IntKind.bits] using h3⟩
theorem Zcc.toStr (h:Zcc P t cs d)(hu:P.underlying t=some .string):∃ s,cs=[.str s]∧d=.lit (.string s)∧s.length≤140737488351232:=by
 cases h with
 | str _ s h1 hl=>exact ⟨s,rfl,rfl,hl⟩
 | _=>simp_all
theorem Zcc.toSlice (h:Zcc P t cs d){e:TypeId}(hu:P.underlying t=some (.slice e)):∃ rows,cs=[.lst (P.cellsOf e) rows]∧rows.length * P.bytesOf e≤140737488351232∧∃ D:Nat→DataW H,(∀ (i:Nat) (r:List AV),rows[i]? = some r→Zcc P e r (D i))∧((rows=[]∧d=.nil)∨∃ spare,d=.slice ((List.range rows.length).map D) spare):=by
 cases h with
 | nil _ e' h1=>rw [hu] at h1; cases h1; exact ⟨[],rfl,by simp,fun _=>.nil,fun i r hr=>by simp at hr,.inl ⟨rfl,rfl⟩⟩
 | slice _ e' rows D spare h1 hl h=>rw [hu] at h1; cases h1; exact ⟨rows,rfl,hl,D,h,.inr ⟨spare,rfl⟩⟩
 | _=>simp_all
theorem Zcc.toStruct (h:Zcc P t cs d){fs:Array Field}(hu:P.underlying t=some (.struct fs)):cs.length=P.cellsOf t∧∃ D:Nat→DataW H,d=.agg ((List.range fs.size).map D)∧∀ (i:Nat) (f:Field),fs.toList[i]? = some f→Zcc P f.type ((cs.drop f.offset).take (P.cellsOf f.type)) (D i):=by
 cases h with
 | struct _ fs' _ D h1 hl h=>rw [hu] at h1; cases h1; exact ⟨hl,D,rfl,h⟩
 | _=>simp_all
end
def Of (P:Program)(t:TypeId)(cs:List AV):Prop:=∃ (H:Type) (d:DataW H),Zcc P t cs d
theorem Zcc.of {H:Type}{P:Program}{t:TypeId}{cs:List AV}{d:DataW H}(h:Zcc P t cs d):Of P t cs:=⟨H,d,h⟩
theorem Of.toBool {P:Program}{t:TypeId}{cs:List AV}(h:Of P t cs)(hu:P.underlying t=some .bool):∃ b,cs=[.bool b]:=by
 obtain ⟨H,d,h⟩:=h; obtain ⟨b,h1,_⟩:=h.toBool hu; exact ⟨b,h1⟩
theorem Of.toInt {P:Program}{t:TypeId}{cs:List AV}(h:Of P t cs){k:IntKind}(hu:P.underlying t=some (.int k)):∃ x,cs=[.int k x]∧k.min≤x∧x≤k.max:=by
 obtain ⟨H,d,h⟩:=h; obtain ⟨x,h1,_,h2⟩:=h.toInt hu; exact ⟨x,h1,h2⟩
theorem Of.toI64 {P:Program}{t:TypeId}{cs:List AV}(h:Of P t cs)(hu:P.underlying t=some (.int .i64)):∃ x,cs=[.int .i64 x]∧-9223372036854775808≤x∧x≤9223372036854775807:=by
 obtain ⟨H,d,h⟩:=h; obtain ⟨x,h1,_,h2⟩:=h.toI64 hu; exact ⟨x,h1,h2⟩
theorem Of.toStr {P:Program}{t:TypeId}{cs:List AV}(h:Of P t cs)(hu:P.underlying t=some .string):∃ s,cs=[.str s]∧s.length≤140737488351232:=by
 obtain ⟨H,d,h⟩:=h; obtain ⟨x,h1,_,h2⟩:=h.toStr hu; exact ⟨x,h1,h2⟩
theorem Of.toSlice {P:Program}{t:TypeId}{cs:List AV}(h:Of P t cs){e:TypeId}(hu:P.underlying t=some (.slice e)):∃ rows,cs=[.lst (P.cellsOf e) rows]∧rows.length * P.bytesOf e≤140737488351232∧∀ r ∈ rows,Of P e r:=by
 obtain ⟨H,d,h⟩:=h
 obtain ⟨rows,h1,h2,D,h3,_⟩:=h.toSlice hu
 exact ⟨rows,h1,h2,fun r hr=>by obtain ⟨i,hi⟩:=List.mem_iff_getElem?.1 hr; exact (h3 i r hi).of⟩
theorem Of.toStruct {P:Program}{t:TypeId}{cs:List AV}(h:Of P t cs){fs:Array Field}(hu:P.underlying t=some (.struct fs)):cs.length=P.cellsOf t∧∀ (i:Nat) (f:Field),fs.toList[i]? = some f→Of P f.type ((cs.drop f.offset).take (P.cellsOf f.type)):=by
 obtain ⟨H,d,h⟩:=h
 obtain ⟨h1,D,_,h2⟩:=h.toStruct hu
 exact ⟨h1,fun i f hf=>(h2 i f hf).of⟩
variable {H:Type}{enc:TypeId×Value→H}{P:Program}{w:World}{base:Nat}{sp:Nat→Bool}{held:Bool}{Γ:Wx}
theorem ZuM {t e:TypeId}{fuel:Nat}{cs:List Value}{x:DataW H×List MemPlace}(ht:P.underlying t=some (.slice e))(h:DataW.trod enc P w base sp held (fuel + 1) t cs=some x) :
  (cs=[.slice none 0 0]∧x=(.nil,[])) ∨
  ∃ (a:Addr) (len cap m n:Nat) (D:Nat→DataW H) (Pl:Nat→List MemPlace),n=fuel∧cs=[.slice (some a) len cap]∧base≤a.block∧len≤cap∧cap≤maxLen∧m=(if sp a.block then cap else len) ∧
   x=(.slice ((List.range len).map D) ((List.range (m - len)).map fun j=>D (len + j)),MemPlace.row a (m * P.cellsOf e) ++ (List.range m).flatMap Pl) ∧
   ∀ i,i < m→∃ cs',w.cells? base (a.add (i * P.cellsOf e)) (P.cellsOf e)=some cs'∧DataW.trod enc P w base sp held n e cs'=some (D i,Pl i):=by
 rcases DataW.trod_slice ht h with h0 | ⟨a,len,cap,elems,rest,n,hn,rfl,rfl,hb,hl,hm,hlen,hel,hsp,hns⟩
 ·exact Or.inl h0
 right
 have hrl:rest.length=(if sp a.block then cap else len) - len:=by
  cases hs:sp a.block with
  | true=>simpa [hs] using (hsp hs).1
  | false=>simp [hns hs]
 have hle:len≤(if sp a.block then cap else len):=by split <;> omega
 have hall:(elems ++ rest).length=(if sp a.block then cap else len):=by rw [List.length_append,hlen,hrl]; omega
 refine ⟨a,len,cap,_,n,fun i=>((elems ++ rest).getD i (.nil,[])).1,fun i=>((elems ++ rest).getD i (.nil,[])).2,by omega,rfl,hb,hl,hm,rfl,?_,?_⟩
 ·refine Prod.ext ?_ ?_
  ·show DataW.slice (elems.map (·.1)) (rest.map (·.1))=_
   congr 1
   ·rw [map_by_index elems (.nil,[]) (·.1),hlen]
    refine List.map_congr_left fun i hi=>?_
    have hi':i < elems.length:=by rw [hlen]; simpa using hi
    simp [List.getD,List.getElem?_append_left hi']
   ·rw [map_by_index rest (.nil,[]) (·.1),hrl]
    refine List.map_congr_left fun j _=>?_
    simp [List.getD,List.getElem?_append_right (show elems.length≤len + j by omega),hlen]
  ·show MemPlace.row a ((elems.length + rest.length) * P.cellsOf e) ++ (elems ++ rest).flatMap (·.2)=_
   rw [flatMap_by_index (elems ++ rest) (.nil,[]) (·.2),hall,← List.length_append,hall]
 ·intro i hi
  have key:(w.cells? base (a.add (i * P.cellsOf e)) (P.cellsOf e)).bind (DataW.trod enc P w base sp held n e)=(elems ++ rest)[i]?:=by
   by_cases hil:i < len
   ·rw [hel i hil,List.getElem?_append_left (by omega)]
   ·have hs:sp a.block=true:=by
     cases hs:sp a.block with
     | true=>rfl
     | false=>simp [hs] at hi; omega
    have:=(hsp hs).2 (i - len) (by simp [hs] at hi; omega)
    rw [show len + (i - len)=i by omega] at this
    rw [this,List.getElem?_append_right (by omega),hlen]
  rw [List.getElem?_eq_getElem (by omega)] at key
  obtain ⟨cs',h1,h2⟩:=Option.bind_eq_some_iff.1 key
  refine ⟨cs',h1,?_⟩
  rw [h2]
  simp [List.getD,List.getElem?_eq_getElem (show i < (elems ++ rest).length by omega)]
theorem Zms (S:List TypeId)(fuel:Nat)(cs:List Value)
  (ih:∀ (t:TypeId) (cs:List Value) (x:DataW H×List MemPlace),S.contains t=true→DataW.trod enc P w base sp held fuel t cs=some x→(∀ y ∈ x.1.weights P t,y≤reachBytes)→∃ az:List AV,Zcc P t az x.1∧az.length=cs.length∧∀ j a,az[j]? = some a→ZdB Γ w a (cs.getD j Go.undef)) :
  ∀ (fs:List Field) (xs:List (DataW H×List MemPlace)) (o m:Nat),Z3j P fs o m=true→m=cs.length→(fs.all fun f=>S.contains f.type)=true→(∀ (i:Nat) (f:Field),fs[i]? = some f→∃ x,xs[i]? = some x∧DataW.trod enc P w base sp held fuel f.type ((cs.drop f.offset).take (P.cellsOf f.type))=some x∧∀ y ∈ x.1.weights P f.type,y≤reachBytes) →
   o≤m∧∃ az:List AV,az.length=m - o∧(∀ (i:Nat) (f:Field),fs[i]? = some f→o≤f.offset∧∃ x,xs[i]? = some x∧Zcc P f.type ((az.drop (f.offset - o)).take (P.cellsOf f.type)) x.1)∧∀ j a,az[j]? = some a→ZdB Γ w a (cs.getD (o + j) Go.undef)
 | [],xs,o,m,ht,hm,_,_=>by
  have:o=m:=by simpa [Z3j] using ht
  subst this
  exact ⟨Nat.le_refl _,[],by simp,fun i f hf=>by simp at hf,fun j a h=>by simp at h⟩
 | f :: r,xs,o,m,ht,hm,hok,hx=>by
  simp only [Z3j,Bool.and_eq_true,beq_iff_eq] at ht
  simp only [List.all_cons,Bool.and_eq_true] at hok
  obtain ⟨x,hx0,hxf,hxw⟩:=hx 0 f rfl
  obtain ⟨xs,rfl⟩:∃ xs',xs=x :: xs':=by
   cases xs with
   | nil=>simp at hx0
   | cons y ys=>simp at hx0; exact ⟨ys,by rw [hx0]⟩
  obtain ⟨hle,az,hl,hs,hr⟩:=Zms S fuel cs ih r xs _ m ht.2 hm hok.2 (fun i g hg=>hx (i + 1) g hg)
  obtain ⟨a1,s1,l1,r1⟩:=ih _ _ _ hok.1 hxf hxw
  have hlen:((cs.drop f.offset).take (P.cellsOf f.type)).length=P.cellsOf f.type:=by
   rw [List.length_take,List.length_drop]; omega
  rw [hlen] at l1
  refine ⟨by omega,a1 ++ az,by rw [List.length_append]; omega,fun i g hg=>?_,fun j a hj=>?_⟩
  ·cases i with
   | zero =>
    simp only [List.getElem?_cons_zero,Option.some.injEq] at hg
    subst hg
    refine ⟨by omega,x,rfl,?_⟩
    rw [ht.1,Nat.sub_self,List.drop_zero,List.take_append_of_le_length (by omega),List.take_of_length_le (by omega)]
    exact s1
   | succ i =>
    simp only [List.getElem?_cons_succ] at hg
    obtain ⟨q1,q2⟩:=hs i g hg
    refine ⟨by omega,?_⟩
    rw [List.drop_append,List.drop_eq_nil_of_le (by omega),List.nil_append,l1]
    rw [show g.offset - o - P.cellsOf f.type=g.offset - (o + P.cellsOf f.type) by omega]
    simpa using q2
  ·by_cases hj2:j < a1.length
   ·rw [List.getElem?_append_left hj2] at hj
    have:=r1 j a hj
    have e:((cs.drop f.offset).take (P.cellsOf f.type)).getD j Go.undef=cs.getD (o + j) Go.undef:=by
     rw [List.getD_eq_getElem?_getD,List.getD_eq_getElem?_getD,List.getElem?_take_of_lt (by omega),List.getElem?_drop,ht.1]
    rwa [e] at this
   ·rw [List.getElem?_append_right (by omega)] at hj
    have:=hr _ a hj
    rwa [show o + P.cellsOf f.type + (j - a1.length)=o + j by omega] at this
theorem Zh1 (hΓ:∀ b,Γ b=.imm){S:List TypeId}(hS:Z1w P S=true):∀ (fuel:Nat) (t:TypeId) (cs:List Value) (x:DataW H×List MemPlace),S.contains t=true→DataW.trod enc P w base sp held fuel t cs=some x→(∀ y ∈ x.1.weights P t,y≤reachBytes) →
  ∃ az:List AV,Zcc P t az x.1∧az.length=cs.length∧∀ j a,az[j]? = some a→ZdB Γ w a (cs.getD j Go.undef)
 | 0,_,_,_,_,h,_=>by cases h
 | fuel + 1,t,cs,x,hc,h,hwt=>by
  have ho:=List.all_eq_true.1 hS t (by simpa using hc)
  cases hu:P.underlying t with
  | none=>simp [hu] at ho
  | some d =>
  have one:∀ (c:AV) (v:Value),ZdB Γ w c v→∀ j a,[c][j]? = some a→ZdB Γ w a ([v].getD j Go.undef):=fun c v hc j a hj=>by
   match j,hj with
   | 0,hj=>cases hj; exact hc
   | j + 1,hj=>simp at hj
  cases d <;> simp only [hu,Bool.false_eq_true] at ho
  case bool =>
   obtain ⟨b,rfl,rfl⟩:=DataW.trod_bool hu h
   exact ⟨[.bool b],.bool t b hu,rfl,one _ _ ⟨.bool b,rfl,rfl,fun k r e=>by cases e⟩⟩
  case int k =>
   obtain ⟨x,rfl,rfl,hw⟩:=DataW.trod_int hu h
   exact ⟨[.int k x],.int t k x hu hw,rfl,one _ _ ⟨.int k x,rfl,rfl,fun k r e=>by cases e⟩⟩
  case string =>
   obtain ⟨b,rfl,rfl,hb⟩:=DataW.trod_string hu h
   have e:b=⟨b.data.toList.toArray⟩:=by cases b; simp
   refine ⟨[.str b.data.toList],.str t _ hu (ZvT (hwt _ (by simp [DataW.weights]))),rfl,one _ _ ⟨?_,rfl,rfl,fun k r e=>by cases e⟩⟩
   have:Rep Γ w (.str b.data.toList) (.string ⟨b.data.toList.toArray⟩):=.str _
   rwa [← e] at this
  case slice e =>
   simp only [Bool.and_eq_true,decide_eq_true_eq] at ho
   rcases ZuM hu h with ⟨rfl,rfl⟩ | ⟨A,len,cap,m,n',D,Pl,hn',rfl,hb,hl,hm,hmm,rfl,hi⟩
   ·exact ⟨[.lst (P.cellsOf e) []],.nil t e hu,rfl,one _ _ ⟨.lstNil _,rfl,rfl,fun k r e=>by cases e⟩⟩
   ·have hlm:len≤m:=by rw [hmm]; split <;> omega
    have hwe:∀ i,i < len→∀ y ∈ (D i).weights P e,y≤reachBytes:=fun i hi y hy=>by
     refine hwt y ?_
     simp only [DataW.weights,hu]
     exact List.mem_cons_of_mem _ (List.mem_append_left _ (ZyH (List.mem_map.2 ⟨i,by simpa using hi,rfl⟩) hy))
    have hlr:len * P.bytesOf e≤140737488351232:=by
     refine ZvT (Nat.le_trans ?_ (hwt ((((List.range len).map D).length + ((List.range (m - len)).map fun j=>D (len + j)).length) * P.bytesOf e) ?_))
     ·simp only [List.length_map,List.length_range]
      exact Nat.mul_le_mul_right _ (Nat.le_add_right _ _)
     ·simp only [DataW.weights,hu]
      exact List.mem_cons_self ..
    have hrow:∀ i,∃ r:List AV,i < len→Zcc P e r (D i)∧r.length=P.cellsOf e∧∀ j a,r[j]? = some a→w.cell? ((A.add (i * P.cellsOf e)).add j)=some ((w.cell? ((A.add (i * P.cellsOf e)).add j)).getD Go.undef)∧ZdB Γ w a ((w.cell? ((A.add (i * P.cellsOf e)).add j)).getD Go.undef):=fun i=>by
     by_cases hil:i < len
     ·obtain ⟨cs',hc,ht⟩:=hi i (by omega)
      obtain ⟨_,hlen,hcell⟩:=World.cells?_some hc
      obtain ⟨r,s1,l1,r1⟩:=Zh1 hΓ hS n' e cs' _ ho.2 ht (hwe i hil)
      refine ⟨r,fun _=>⟨s1,by omega,fun j a hj=>?_⟩⟩
      have hjl:j < r.length:=(List.getElem?_eq_some_iff.1 hj).1
      have hc2:=hcell j (by omega)
      have hr:=r1 j a hj
      rw [List.getElem?_eq_getElem (by omega)] at hc2
      rw [List.getD_eq_getElem?_getD,List.getElem?_eq_getElem (by omega)] at hr
      rw [hc2]
      exact ⟨rfl,hr⟩
     ·exact ⟨[],fun h=>absurd h hil⟩
    have hf:∃ f:Nat→List AV,∀ i,i < len→Zcc P e (f i) (D i)∧(f i).length=P.cellsOf e∧∀ j a,(f i)[j]? = some a→w.cell? ((A.add (i * P.cellsOf e)).add j)=some ((w.cell? ((A.add (i * P.cellsOf e)).add j)).getD Go.undef)∧ZdB Γ w a ((w.cell? ((A.add (i * P.cellsOf e)).add j)).getD Go.undef) :=
     ⟨fun i=>(hrow i).choose,fun i=>(hrow i).choose_spec⟩
    obtain ⟨f,hf⟩:=hf
    have hget:∀ (i:Nat) (r:List AV),((List.range len).map f)[i]? = some r→i < len∧r=f i:=fun i r hr=>by
     rw [List.getElem?_map] at hr
     obtain ⟨i',hi',rfl⟩:=Option.map_eq_some_iff.1 hr
     have hlt:=(List.getElem?_eq_some_iff.1 hi').1
     rw [List.length_range] at hlt
     rw [List.getElem?_range hlt] at hi'
     obtain rfl:=Option.some.inj hi'
     exact ⟨hlt,rfl⟩
    have hlenf:((List.range len).map f).length=len:=by simp
    have hsl:=Zcc.slice (P := P) t e ((List.range len).map f) D ((List.range (m - len)).map fun j=>D (len + j)) hu (by simpa using hlr) (fun i r hr=>by obtain ⟨h1,rfl⟩:=hget i r hr; exact (hf i h1).1)
    rw [hlenf] at hsl
    refine ⟨[.lst (P.cellsOf e) ((List.range len).map f)],hsl,rfl,one _ _ ⟨?_,rfl,rfl,fun k r e=>by cases e⟩⟩
    ·by_cases hex:∃ (i j:Nat) (a:AV),i < len∧(f i)[j]? = some a
     ·obtain ⟨i0,j0,a0,hi0,hj0⟩:=hex
      have h0:∃ v,w.cell? A=some v:=by
       have hj0l:j0 < (f i0).length:=(List.getElem?_eq_some_iff.1 hj0).1
       have hpos:0 < P.cellsOf e:=by have:=(hf i0 hi0).2.1; omega
       have hz:=(hf 0 (by omega)).2.1
       have:=((hf 0 (by omega)).2.2 0 ((f 0)[0]'(by omega)) (List.getElem?_eq_getElem _)).1
       rw [Nat.zero_mul] at this
       have e1:(A.add 0).add 0=A:=by simp [Addr.add]
       rw [e1] at this
       exact ⟨_,this⟩
      have hsp:A.spot=none:=by
       obtain ⟨v,hv⟩:=h0
       unfold World.cell? at hv
       split at hv
       ·split at hv
        ·cases hv
        ·rename_i hs; simpa using hs
       ·cases hv
      obtain ⟨b,o,q⟩:=A
      simp only at hsp
      subst hsp
      have hadd:∀ i j,((⟨b,o,none⟩:Addr).add (i * P.cellsOf e)).add j=⟨b,o + (i * P.cellsOf e + j),none⟩:=fun i j=>by
       rw [Go.Deep.add_add]
       unfold Addr.add
       split
       ·rename_i h0; simp [h0]
       ·rfl
      have hll:len=((List.range len).map f).length:=by simp
      generalize hrows:(List.range len).map f=rows at *
      subst hll
      refine .lst _ rows b o cap (fun i j=>(w.cell? ⟨b,o + (i * P.cellsOf e + j),none⟩).getD Go.undef) hl (fun r hr=>?_) (fun i j r c hr hc=>?_) (fun i j r c hr hc=>?_)
      ·obtain ⟨i,hi⟩:=List.mem_iff_getElem?.1 hr
       obtain ⟨h1,rfl⟩:=hget i r hi
       exact (hf i h1).2.1
      ·obtain ⟨h1,rfl⟩:=hget i r hr
       have:=(hf i h1).2.2 j c hc
       rw [hadd] at this
       exact ⟨this.1,by show Ma _ (Γ b); rw [hΓ]; trivial,this.2.2.2.1⟩
      ·obtain ⟨h1,rfl⟩:=hget i r hr
       have:=(hf i h1).2.2 j c hc
       rw [hadd] at this
       exact this.2.1
     ·have h0:len=0:=by
       rcases Nat.eq_zero_or_pos len with h0 | h0
       ·exact h0
       ·refine absurd ⟨0,0,(f 0)[0]'(by have:=(hf 0 h0).2.1; have:=ho.1.1; omega),h0,List.getElem?_eq_getElem _⟩ hex
      subst h0
      exact .lstE _ A cap
  case struct fs =>
   simp only [Bool.and_eq_true] at ho
   obtain ⟨xs,n',hn,rfl,hlen,hxl,hf⟩:=DataW.trod_struct hu h
   obtain ⟨_,az,l1,s1,r1⟩:=Zms S n' cs (fun t cs x=>Zh1 hΓ hS n' t cs x) fs.toList xs 0 _ ho.1 hlen.symm ho.2 fun i f hf'=>by
    have hi':fs[i]? = some f:=by simpa using hf'
    have:=hf i f hi'
    have hlt:i < xs.length:=by rw [hxl]; exact (Array.getElem?_eq_some_iff.1 hi').1
    rw [List.getElem?_eq_getElem hlt] at this
    refine ⟨_,List.getElem?_eq_getElem hlt,this,fun y hy=>hwt y ?_⟩
    simp only [DataW.weights,hu]
    exact DataW.weights_mem_each (j := i) (t := f.type) (d := (xs[i]'hlt).1) (by simp [hi']) (by simp [List.getElem?_eq_getElem hlt]) y hy
   have hst:=Zcc.struct (P := P) t fs az (fun i=>((xs.map (·.1))[i]?).getD .nil) hu (by omega) fun i f hf'=>by
    obtain ⟨_,x,hx,hsx⟩:=s1 i f hf'
    simpa [hx] using hsx
   have hds:(List.range fs.size).map (fun i=>((xs.map (·.1))[i]?).getD .nil)=xs.map (·.1):=by
    refine List.ext_getElem? fun i=>?_
    rw [List.getElem?_map]
    by_cases hi:i < fs.size
    ·rw [List.getElem?_range hi,Option.map_some,List.getElem?_map,List.getElem?_eq_getElem (by omega)]; rfl
    ·rw [List.getElem?_eq_none (by simpa using hi),List.getElem?_eq_none (by simp; omega)]; rfl
   rw [hds] at hst
   exact ⟨az,hst,by omega,fun j a hj=>by simpa using r1 j a hj⟩
theorem argS_struct (hΓ:∀ b,Γ b=.imm){S:List TypeId}(hS:Z1w P S=true){r:Reach}{b0:Nat}{t:TypeId}{fs:Array Field}{v:Value}{d:DataW H}{ps:List MemPlace}(hc:S.contains t=true)(hu:P.underlying t=some (.struct fs))(hv:Value.okWide P w r b0 t v)
  (h:DataW.Trod enc P w base sp held t v d ps) (hw:∀ y ∈ d.weights P t,y≤reachBytes):∃ az,Rep Γ w (.agg az) v∧Zcc P t az d:=by
 obtain ⟨cs,rfl,hsz⟩:=okWide_struct hu hv
 obtain ⟨fuel,hf⟩:=h
 obtain ⟨az,s1,l1,r1⟩:=Zh1 hΓ hS fuel t _ _ hc hf hw
 have l2:az.length=cs.size:=by rw [l1]; rfl
 refine ⟨az,.agg az cs l2.symm (fun j c hc=>(r1 j c hc).2.1) (fun j k r hc=>absurd rfl ((r1 j _ hc).2.2.2 k r)) (fun j c hc=>?_),s1⟩
 have:=(r1 j c hc).1
 have e:(Value.agg cs).cells.toList.getD j Go.undef=cs.getD j Go.undef:=by
  show cs.toList.getD j Go.undef=_
  simp [List.getD_eq_getElem?_getD,Array.getD_eq_getD_getElem?]
 rwa [e] at this
end Go.Proofs.YtlmfmmclnboglaaGreat.Abs
end
section
namespace Go.Proofs.YtlmfmmclnboglaaGreat
open Go Go.RowKit Go.Proofs.YtlmfmmclnboglaaGreat.Abs
set_option linter.all false
set_option maxRecDepth 100000
set_option maxHeartbeats 0
theorem J4 {α:Type _}{l:List α}{n:Nat}(h:l.length=n + 1):∃ a r,l=a :: r∧r.length=n:=by
 cases l with
 | nil=>simp at h
 | cons a r=>exact ⟨a,r,rfl,by simpa using h⟩
theorem ZxL {cs:List AV}{w k:Nat}{rows:List (List AV)}{r:List AV}(h1:AV.lst w rows ∈ cs)(h2:r ∈ rows)(h3:SizeOf.sizeOf cs≤k + 1):SizeOf.sizeOf r≤k:=by
 have a1:=List.sizeOf_lt_of_mem h1
 have a2:=List.sizeOf_lt_of_mem h2
 have a3:SizeOf.sizeOf (AV.lst w rows)=1 + SizeOf.sizeOf w + SizeOf.sizeOf rows:=by simp
 omega
theorem VR {α:Type}{Q:List AV→Prop}{row:α→List AV}{ok:α→Prop}:∀ {rows:List (List AV)},(∀ r ∈ rows,Q r→∃ x,r=row x∧ok x)→(∀ r ∈ rows,Q r)→∃ l:List α,rows=l.map row∧∀ x ∈ l,ok x
 | [],_,_=>⟨[],rfl,fun x h=>by cases h⟩
 | r :: rs,hq,h=>by
  obtain ⟨x,h1,h2⟩:=hq r (List.mem_cons_self ..) (h r (List.mem_cons_self ..))
  obtain ⟨l,h3,h4⟩:=VR (rows := rs) (fun y hy=>hq y (List.mem_cons_of_mem _ hy)) fun y hy=>h y (List.mem_cons_of_mem _ hy)
  exact ⟨x :: l,by rw [h1,h3]; rfl,fun y hy=>by
   rcases List.mem_cons.1 hy with rfl | hy
   ·exact h2
   ·exact h4 y hy⟩
def Z1x:List TypeId:=[26,9,22,69,67,3,23,42,34,92,84,159,90,88,85,86,35,95,93,36,97,37,38,79,76,103,77,181,175,179,176,177,4,39,105,40,57,55,54,24,49]
theorem ZzA:Z1w Tryz.prog Z1x=true:=by kernel_rfl
theorem ZtR:Tryz.prog.bytesOf 3=8:=by kernel_rfl
theorem Zqn:Tryz.prog.cellsOf 3=1:=by kernel_rfl
theorem Zlp:Tryz.prog.bytesOf 9=16:=by kernel_rfl
theorem ZfS:Tryz.prog.cellsOf 9=1:=by kernel_rfl
theorem ZyS:Tryz.prog.bytesOf 42=304:=by kernel_rfl
theorem Zxq:Tryz.prog.cellsOf 42=13:=by kernel_rfl
theorem ZyT:Tryz.prog.bytesOf 49=40:=by kernel_rfl
theorem Zxr:Tryz.prog.cellsOf 49=3:=by kernel_rfl
theorem ZyU:Tryz.prog.bytesOf 54=40:=by kernel_rfl
theorem Zxs:Tryz.prog.cellsOf 54=3:=by kernel_rfl
theorem ZyV:Tryz.prog.bytesOf 57=48:=by kernel_rfl
theorem Zxt:Tryz.prog.cellsOf 57=3:=by kernel_rfl
theorem Zvy:Tryz.prog.bytesOf 69=32:=by kernel_rfl
theorem Zso:Tryz.prog.cellsOf 69=3:=by kernel_rfl
theorem ZyW:Tryz.prog.bytesOf 79=88:=by kernel_rfl
theorem Zxu:Tryz.prog.cellsOf 79=4:=by kernel_rfl
theorem ZyX:Tryz.prog.bytesOf 92=232:=by kernel_rfl
theorem Zxv:Tryz.prog.cellsOf 92=17:=by kernel_rfl
theorem ZyY:Tryz.prog.bytesOf 95=32:=by kernel_rfl
theorem Zxw:Tryz.prog.cellsOf 95=3:=by kernel_rfl
theorem ZyZ:Tryz.prog.bytesOf 97=32:=by kernel_rfl
theorem Zxx:Tryz.prog.cellsOf 97=3:=by kernel_rfl
theorem ZrX:Tryz.prog.bytesOf 103=24:=by kernel_rfl
theorem Zpu:Tryz.prog.cellsOf 103=2:=by kernel_rfl
theorem Zxj:Tryz.prog.bytesOf 105=64:=by kernel_rfl
theorem Zwj:Tryz.prog.cellsOf 105=5:=by kernel_rfl
theorem Zxk:Tryz.prog.bytesOf 159=16:=by kernel_rfl
theorem Zwk:Tryz.prog.cellsOf 159=2:=by kernel_rfl
theorem ZrY:Tryz.prog.bytesOf 179=56:=by kernel_rfl
theorem Zpv:Tryz.prog.cellsOf 179=4:=by kernel_rfl
theorem Zlo:Tryz.prog.bytesOf 181=312:=by kernel_rfl
theorem Zh0:Tryz.prog.cellsOf 181=21:=by kernel_rfl
theorem Z1v {cs:List AV}(h:Of Tryz.prog 3 cs):∃ x:Int,cs=[.int .i64 x]∧(-9223372036854775808≤x∧x≤9223372036854775807):=h.toI64 Tryz.underlying3
theorem ZxZ {cs:List AV}(h:Of Tryz.prog 9 cs):∃ x:List UInt8,cs=[.str x]∧x.length≤140737488351232:=h.toStr Tryz.underlying9
theorem ZvJ {cs:List AV}(h:Of Tryz.prog 69 cs):∃ x,cs=X9 x∧ZdK x:=by
 obtain ⟨hl,hf⟩:=h.toStruct Tryz.underlying69
 rw [show Tryz.prog.cellsOf 69=3 from by kernel_rfl] at hl
 obtain ⟨c0,r0,rfl,hl0⟩:=J4 hl
 obtain ⟨c1,r1,rfl,hl1⟩:=J4 hl0
 obtain ⟨c2,r2,rfl,hl2⟩:=J4 hl1
 obtain rfl:=List.eq_nil_of_length_eq_zero hl2
 have f0:Of Tryz.prog 9 ((([c0,c1,c2]:List AV).drop 0).take (Tryz.prog.cellsOf 9)):=hf 0 _ rfl
 rw [show Tryz.prog.cellsOf 9=1 from by kernel_rfl] at f0
 replace f0:Of Tryz.prog 9 [c0]:=f0
 obtain ⟨v0,q0,b0⟩:=f0.toStr Tryz.underlying9
 have f1:Of Tryz.prog 67 ((([c0,c1,c2]:List AV).drop 1).take (Tryz.prog.cellsOf 67)):=hf 1 _ rfl
 rw [show Tryz.prog.cellsOf 67=1 from by kernel_rfl] at f1
 replace f1:Of Tryz.prog 67 [c1]:=f1
 obtain ⟨v1,q1,b1⟩:=f1.toI64 Tryz.underlying67
 have f2:Of Tryz.prog 3 ((([c0,c1,c2]:List AV).drop 2).take (Tryz.prog.cellsOf 3)):=hf 2 _ rfl
 rw [show Tryz.prog.cellsOf 3=1 from by kernel_rfl] at f2
 replace f2:Of Tryz.prog 3 [c2]:=f2
 obtain ⟨v2,q2,b2⟩:=f2.toI64 Tryz.underlying3
 refine ⟨⟨v0,v1,v2⟩,?_,⟨b0,b1,b2⟩⟩
 have hc:([c0,c1,c2]:List AV)=[c0] ++ [c1] ++ [c2]:=rfl
 rw [hc]
 rw [q0,q1,q2]
 rfl
theorem ZxY {cs:List AV}(h:Of Tryz.prog 159 cs):∃ x,cs=JH x∧Zvw x:=by
 obtain ⟨hl,hf⟩:=h.toStruct Tryz.underlying159
 rw [show Tryz.prog.cellsOf 159=2 from by kernel_rfl] at hl
 obtain ⟨c0,r0,rfl,hl0⟩:=J4 hl
 obtain ⟨c1,r1,rfl,hl1⟩:=J4 hl0
 obtain rfl:=List.eq_nil_of_length_eq_zero hl1
 have f0:Of Tryz.prog 3 ((([c0,c1]:List AV).drop 0).take (Tryz.prog.cellsOf 3)):=hf 0 _ rfl
 rw [show Tryz.prog.cellsOf 3=1 from by kernel_rfl] at f0
 replace f0:Of Tryz.prog 3 [c0]:=f0
 obtain ⟨v0,q0,b0⟩:=f0.toI64 Tryz.underlying3
 have f1:Of Tryz.prog 3 ((([c0,c1]:List AV).drop 1).take (Tryz.prog.cellsOf 3)):=hf 1 _ rfl
 rw [show Tryz.prog.cellsOf 3=1 from by kernel_rfl] at f1
 replace f1:Of Tryz.prog 3 [c1]:=f1
 obtain ⟨v1,q1,b1⟩:=f1.toI64 Tryz.underlying3
 refine ⟨⟨v0,v1⟩,?_,⟨b0,b1⟩⟩
 have hc:([c0,c1]:List AV)=[c0] ++ [c1]:=rfl
 rw [hc]
 rw [q0,q1]
 rfl
theorem ZuE {cs:List AV}(h:Of Tryz.prog 88 cs):∃ x,cs=Kk x∧RU x:=by
 obtain ⟨hl,hf⟩:=h.toStruct Tryz.underlying88
 rw [show Tryz.prog.cellsOf 88=6 from by kernel_rfl] at hl
 obtain ⟨c0,r0,rfl,hl0⟩:=J4 hl
 obtain ⟨c1,r1,rfl,hl1⟩:=J4 hl0
 obtain ⟨c2,r2,rfl,hl2⟩:=J4 hl1
 obtain ⟨c3,r3,rfl,hl3⟩:=J4 hl2
 obtain ⟨c4,r4,rfl,hl4⟩:=J4 hl3
 obtain ⟨c5,r5,rfl,hl5⟩:=J4 hl4
 obtain rfl:=List.eq_nil_of_length_eq_zero hl5
 have f0:Of Tryz.prog 85 ((([c0,c1,c2,c3,c4,c5]:List AV).drop 0).take (Tryz.prog.cellsOf 85)):=hf 0 _ rfl
 rw [show Tryz.prog.cellsOf 85=1 from by kernel_rfl] at f0
 replace f0:Of Tryz.prog 85 [c0]:=f0
 obtain ⟨v0,q0,b0⟩:=f0.toI64 Tryz.underlying85
 have f1:Of Tryz.prog 3 ((([c0,c1,c2,c3,c4,c5]:List AV).drop 1).take (Tryz.prog.cellsOf 3)):=hf 1 _ rfl
 rw [show Tryz.prog.cellsOf 3=1 from by kernel_rfl] at f1
 replace f1:Of Tryz.prog 3 [c1]:=f1
 obtain ⟨v1,q1,b1⟩:=f1.toI64 Tryz.underlying3
 have f2:Of Tryz.prog 3 ((([c0,c1,c2,c3,c4,c5]:List AV).drop 2).take (Tryz.prog.cellsOf 3)):=hf 2 _ rfl
 rw [show Tryz.prog.cellsOf 3=1 from by kernel_rfl] at f2
 replace f2:Of Tryz.prog 3 [c2]:=f2
 obtain ⟨v2,q2,b2⟩:=f2.toI64 Tryz.underlying3
 have f3:Of Tryz.prog 3 ((([c0,c1,c2,c3,c4,c5]:List AV).drop 3).take (Tryz.prog.cellsOf 3)):=hf 3 _ rfl
 rw [show Tryz.prog.cellsOf 3=1 from by kernel_rfl] at f3
 replace f3:Of Tryz.prog 3 [c3]:=f3
 obtain ⟨v3,q3,b3⟩:=f3.toI64 Tryz.underlying3
 have f4:Of Tryz.prog 86 ((([c0,c1,c2,c3,c4,c5]:List AV).drop 4).take (Tryz.prog.cellsOf 86)):=hf 4 _ rfl
 rw [show Tryz.prog.cellsOf 86=1 from by kernel_rfl] at f4
 replace f4:Of Tryz.prog 86 [c4]:=f4
 obtain ⟨w4,q4,b4,m4⟩:=f4.toSlice Tryz.underlying86
 rw [Zqn] at q4
 rw [ZtR] at b4
 obtain ⟨v4,e4,n4⟩:=VR (row := (fun x=>[.int .i64 x])) (fun r hr hq=>Z1v hq) m4
 replace b4:v4.length * 8≤140737488351232:=by rw [e4,List.length_map] at b4; exact b4
 have f5:Of Tryz.prog 86 ((([c0,c1,c2,c3,c4,c5]:List AV).drop 5).take (Tryz.prog.cellsOf 86)):=hf 5 _ rfl
 rw [show Tryz.prog.cellsOf 86=1 from by kernel_rfl] at f5
 replace f5:Of Tryz.prog 86 [c5]:=f5
 obtain ⟨w5,q5,b5,m5⟩:=f5.toSlice Tryz.underlying86
 rw [Zqn] at q5
 rw [ZtR] at b5
 obtain ⟨v5,e5,n5⟩:=VR (row := (fun x=>[.int .i64 x])) (fun r hr hq=>Z1v hq) m5
 replace b5:v5.length * 8≤140737488351232:=by rw [e5,List.length_map] at b5; exact b5
 refine ⟨⟨v0,v1,v2,v3,v4,v5⟩,?_,⟨b0,b1,b2,b3,⟨b4,n4⟩,⟨b5,n5⟩⟩⟩
 have hc:([c0,c1,c2,c3,c4,c5]:List AV)=[c0] ++ [c1] ++ [c2] ++ [c3] ++ [c4] ++ [c5]:=rfl
 rw [hc]
 rw [q0,q1,q2,q3,q4,q5]
 rw [e4,e5]
 rfl
theorem Zz2 {cs:List AV}(h:Of Tryz.prog 90 cs):∃ x,cs=TR x∧ZtP x:=by
 obtain ⟨hl,hf⟩:=h.toStruct Tryz.underlying90
 rw [show Tryz.prog.cellsOf 90=13 from by kernel_rfl] at hl
 obtain ⟨c0,r0,rfl,hl0⟩:=J4 hl
 obtain ⟨c1,r1,rfl,hl1⟩:=J4 hl0
 obtain ⟨c2,r2,rfl,hl2⟩:=J4 hl1
 obtain ⟨c3,r3,rfl,hl3⟩:=J4 hl2
 obtain ⟨c4,r4,rfl,hl4⟩:=J4 hl3
 obtain ⟨c5,r5,rfl,hl5⟩:=J4 hl4
 obtain ⟨c6,r6,rfl,hl6⟩:=J4 hl5
 obtain ⟨c7,r7,rfl,hl7⟩:=J4 hl6
 obtain ⟨c8,r8,rfl,hl8⟩:=J4 hl7
 obtain ⟨c9,r9,rfl,hl9⟩:=J4 hl8
 obtain ⟨c10,r10,rfl,hl10⟩:=J4 hl9
 obtain ⟨c11,r11,rfl,hl11⟩:=J4 hl10
 obtain ⟨c12,r12,rfl,hl12⟩:=J4 hl11
 obtain rfl:=List.eq_nil_of_length_eq_zero hl12
 have f0:Of Tryz.prog 9 ((([c0,c1,c2,c3,c4,c5,c6,c7,c8,c9,c10,c11,c12]:List AV).drop 0).take (Tryz.prog.cellsOf 9)):=hf 0 _ rfl
 rw [show Tryz.prog.cellsOf 9=1 from by kernel_rfl] at f0
 replace f0:Of Tryz.prog 9 [c0]:=f0
 obtain ⟨v0,q0,b0⟩:=f0.toStr Tryz.underlying9
 have f1:Of Tryz.prog 88 ((([c0,c1,c2,c3,c4,c5,c6,c7,c8,c9,c10,c11,c12]:List AV).drop 1).take (Tryz.prog.cellsOf 88)):=hf 1 _ rfl
 rw [show Tryz.prog.cellsOf 88=6 from by kernel_rfl] at f1
 replace f1:Of Tryz.prog 88 [c1,c2,c3,c4,c5,c6]:=f1
 obtain ⟨v1,q1,b1⟩:=ZuE f1
 have f2:Of Tryz.prog 88 ((([c0,c1,c2,c3,c4,c5,c6,c7,c8,c9,c10,c11,c12]:List AV).drop 7).take (Tryz.prog.cellsOf 88)):=hf 2 _ rfl
 rw [show Tryz.prog.cellsOf 88=6 from by kernel_rfl] at f2
 replace f2:Of Tryz.prog 88 [c7,c8,c9,c10,c11,c12]:=f2
 obtain ⟨v2,q2,b2⟩:=ZuE f2
 refine ⟨⟨v0,v1,v2⟩,?_,⟨b0,b1,b2⟩⟩
 have hc:([c0,c1,c2,c3,c4,c5,c6,c7,c8,c9,c10,c11,c12]:List AV)=[c0] ++ [c1,c2,c3,c4,c5,c6] ++ [c7,c8,c9,c10,c11,c12]:=rfl
 rw [hc]
 rw [q0,q1,q2]
 unfold TR; simp only [List.append_assoc,List.cons_append,List.nil_append]
theorem ZmH {cs:List AV}(h:Of Tryz.prog 92 cs):∃ x,cs=Zu x∧V9 x:=by
 obtain ⟨hl,hf⟩:=h.toStruct Tryz.underlying92
 rw [show Tryz.prog.cellsOf 92=17 from by kernel_rfl] at hl
 obtain ⟨c0,r0,rfl,hl0⟩:=J4 hl
 obtain ⟨c1,r1,rfl,hl1⟩:=J4 hl0
 obtain ⟨c2,r2,rfl,hl2⟩:=J4 hl1
 obtain ⟨c3,r3,rfl,hl3⟩:=J4 hl2
 obtain ⟨c4,r4,rfl,hl4⟩:=J4 hl3
 obtain ⟨c5,r5,rfl,hl5⟩:=J4 hl4
 obtain ⟨c6,r6,rfl,hl6⟩:=J4 hl5
 obtain ⟨c7,r7,rfl,hl7⟩:=J4 hl6
 obtain ⟨c8,r8,rfl,hl8⟩:=J4 hl7
 obtain ⟨c9,r9,rfl,hl9⟩:=J4 hl8
 obtain ⟨c10,r10,rfl,hl10⟩:=J4 hl9
 obtain ⟨c11,r11,rfl,hl11⟩:=J4 hl10
 obtain ⟨c12,r12,rfl,hl12⟩:=J4 hl11
 obtain ⟨c13,r13,rfl,hl13⟩:=J4 hl12
 obtain ⟨c14,r14,rfl,hl14⟩:=J4 hl13
 obtain ⟨c15,r15,rfl,hl15⟩:=J4 hl14
 obtain ⟨c16,r16,rfl,hl16⟩:=J4 hl15
 obtain rfl:=List.eq_nil_of_length_eq_zero hl16
 have f0:Of Tryz.prog 9 ((([c0,c1,c2,c3,c4,c5,c6,c7,c8,c9,c10,c11,c12,c13,c14,c15,c16]:List AV).drop 0).take (Tryz.prog.cellsOf 9)):=hf 0 _ rfl
 rw [show Tryz.prog.cellsOf 9=1 from by kernel_rfl] at f0
 replace f0:Of Tryz.prog 9 [c0]:=f0
 obtain ⟨v0,q0,b0⟩:=f0.toStr Tryz.underlying9
 have f1:Of Tryz.prog 3 ((([c0,c1,c2,c3,c4,c5,c6,c7,c8,c9,c10,c11,c12,c13,c14,c15,c16]:List AV).drop 1).take (Tryz.prog.cellsOf 3)):=hf 1 _ rfl
 rw [show Tryz.prog.cellsOf 3=1 from by kernel_rfl] at f1
 replace f1:Of Tryz.prog 3 [c1]:=f1
 obtain ⟨v1,q1,b1⟩:=f1.toI64 Tryz.underlying3
 have f2:Of Tryz.prog 84 ((([c0,c1,c2,c3,c4,c5,c6,c7,c8,c9,c10,c11,c12,c13,c14,c15,c16]:List AV).drop 2).take (Tryz.prog.cellsOf 84)):=hf 2 _ rfl
 rw [show Tryz.prog.cellsOf 84=1 from by kernel_rfl] at f2
 replace f2:Of Tryz.prog 84 [c2]:=f2
 obtain ⟨w2,q2,b2,m2⟩:=f2.toSlice Tryz.underlying84
 rw [Zwk] at q2
 rw [Zxk] at b2
 obtain ⟨v2,e2,n2⟩:=VR (row := JH) (fun r hr hq=>ZxY hq) m2
 replace b2:v2.length * 16≤140737488351232:=by rw [e2,List.length_map] at b2; exact b2
 have f3:Of Tryz.prog 3 ((([c0,c1,c2,c3,c4,c5,c6,c7,c8,c9,c10,c11,c12,c13,c14,c15,c16]:List AV).drop 3).take (Tryz.prog.cellsOf 3)):=hf 3 _ rfl
 rw [show Tryz.prog.cellsOf 3=1 from by kernel_rfl] at f3
 replace f3:Of Tryz.prog 3 [c3]:=f3
 obtain ⟨v3,q3,b3⟩:=f3.toI64 Tryz.underlying3
 have f4:Of Tryz.prog 90 ((([c0,c1,c2,c3,c4,c5,c6,c7,c8,c9,c10,c11,c12,c13,c14,c15,c16]:List AV).drop 4).take (Tryz.prog.cellsOf 90)):=hf 4 _ rfl
 rw [show Tryz.prog.cellsOf 90=13 from by kernel_rfl] at f4
 replace f4:Of Tryz.prog 90 [c4,c5,c6,c7,c8,c9,c10,c11,c12,c13,c14,c15,c16]:=f4
 obtain ⟨v4,q4,b4⟩:=Zz2 f4
 refine ⟨⟨v0,v1,v2,v3,v4⟩,?_,⟨b0,b1,⟨b2,n2⟩,b3,b4⟩⟩
 have hc:([c0,c1,c2,c3,c4,c5,c6,c7,c8,c9,c10,c11,c12,c13,c14,c15,c16]:List AV)=[c0] ++ [c1] ++ [c2] ++ [c3] ++ [c4,c5,c6,c7,c8,c9,c10,c11,c12,c13,c14,c15,c16]:=rfl
 rw [hc]
 rw [q0,q1,q2,q3,q4]
 rw [e2]
 unfold Zu; simp only [List.append_assoc,List.cons_append,List.nil_append]
theorem ZsT {cs:List AV}(h:Of Tryz.prog 95 cs):∃ x,cs=Yo x∧ZdJ x:=by
 obtain ⟨hl,hf⟩:=h.toStruct Tryz.underlying95
 rw [show Tryz.prog.cellsOf 95=3 from by kernel_rfl] at hl
 obtain ⟨c0,r0,rfl,hl0⟩:=J4 hl
 obtain ⟨c1,r1,rfl,hl1⟩:=J4 hl0
 obtain ⟨c2,r2,rfl,hl2⟩:=J4 hl1
 obtain rfl:=List.eq_nil_of_length_eq_zero hl2
 have f0:Of Tryz.prog 9 ((([c0,c1,c2]:List AV).drop 0).take (Tryz.prog.cellsOf 9)):=hf 0 _ rfl
 rw [show Tryz.prog.cellsOf 9=1 from by kernel_rfl] at f0
 replace f0:Of Tryz.prog 9 [c0]:=f0
 obtain ⟨v0,q0,b0⟩:=f0.toStr Tryz.underlying9
 have f1:Of Tryz.prog 3 ((([c0,c1,c2]:List AV).drop 1).take (Tryz.prog.cellsOf 3)):=hf 1 _ rfl
 rw [show Tryz.prog.cellsOf 3=1 from by kernel_rfl] at f1
 replace f1:Of Tryz.prog 3 [c1]:=f1
 obtain ⟨v1,q1,b1⟩:=f1.toI64 Tryz.underlying3
 have f2:Of Tryz.prog 93 ((([c0,c1,c2]:List AV).drop 2).take (Tryz.prog.cellsOf 93)):=hf 2 _ rfl
 rw [show Tryz.prog.cellsOf 93=1 from by kernel_rfl] at f2
 replace f2:Of Tryz.prog 93 [c2]:=f2
 obtain ⟨v2,q2,b2⟩:=f2.toI64 Tryz.underlying93
 refine ⟨⟨v0,v1,v2⟩,?_,⟨b0,b1,b2⟩⟩
 have hc:([c0,c1,c2]:List AV)=[c0] ++ [c1] ++ [c2]:=rfl
 rw [hc]
 rw [q0,q1,q2]
 rfl
theorem ZuD {cs:List AV}(h:Of Tryz.prog 97 cs):∃ x,cs=YL x∧Zhg x:=by
 obtain ⟨hl,hf⟩:=h.toStruct Tryz.underlying97
 rw [show Tryz.prog.cellsOf 97=3 from by kernel_rfl] at hl
 obtain ⟨c0,r0,rfl,hl0⟩:=J4 hl
 obtain ⟨c1,r1,rfl,hl1⟩:=J4 hl0
 obtain ⟨c2,r2,rfl,hl2⟩:=J4 hl1
 obtain rfl:=List.eq_nil_of_length_eq_zero hl2
 have f0:Of Tryz.prog 9 ((([c0,c1,c2]:List AV).drop 0).take (Tryz.prog.cellsOf 9)):=hf 0 _ rfl
 rw [show Tryz.prog.cellsOf 9=1 from by kernel_rfl] at f0
 replace f0:Of Tryz.prog 9 [c0]:=f0
 obtain ⟨v0,q0,b0⟩:=f0.toStr Tryz.underlying9
 have f1:Of Tryz.prog 3 ((([c0,c1,c2]:List AV).drop 1).take (Tryz.prog.cellsOf 3)):=hf 1 _ rfl
 rw [show Tryz.prog.cellsOf 3=1 from by kernel_rfl] at f1
 replace f1:Of Tryz.prog 3 [c1]:=f1
 obtain ⟨v1,q1,b1⟩:=f1.toI64 Tryz.underlying3
 have f2:Of Tryz.prog 3 ((([c0,c1,c2]:List AV).drop 2).take (Tryz.prog.cellsOf 3)):=hf 2 _ rfl
 rw [show Tryz.prog.cellsOf 3=1 from by kernel_rfl] at f2
 replace f2:Of Tryz.prog 3 [c2]:=f2
 obtain ⟨v2,q2,b2⟩:=f2.toI64 Tryz.underlying3
 refine ⟨⟨v0,v1,v2⟩,?_,⟨b0,b1,b2⟩⟩
 have hc:([c0,c1,c2]:List AV)=[c0] ++ [c1] ++ [c2]:=rfl
 rw [hc]
 rw [q0,q1,q2]
 rfl
theorem ZvI {cs:List AV}(h:Of Tryz.prog 103 cs):∃ x,cs=Vg x∧Zli x:=by
 obtain ⟨hl,hf⟩:=h.toStruct Tryz.underlying103
 rw [show Tryz.prog.cellsOf 103=2 from by kernel_rfl] at hl
 obtain ⟨c0,r0,rfl,hl0⟩:=J4 hl
 obtain ⟨c1,r1,rfl,hl1⟩:=J4 hl0
 obtain rfl:=List.eq_nil_of_length_eq_zero hl1
 have f0:Of Tryz.prog 9 ((([c0,c1]:List AV).drop 0).take (Tryz.prog.cellsOf 9)):=hf 0 _ rfl
 rw [show Tryz.prog.cellsOf 9=1 from by kernel_rfl] at f0
 replace f0:Of Tryz.prog 9 [c0]:=f0
 obtain ⟨v0,q0,b0⟩:=f0.toStr Tryz.underlying9
 have f1:Of Tryz.prog 67 ((([c0,c1]:List AV).drop 1).take (Tryz.prog.cellsOf 67)):=hf 1 _ rfl
 rw [show Tryz.prog.cellsOf 67=1 from by kernel_rfl] at f1
 replace f1:Of Tryz.prog 67 [c1]:=f1
 obtain ⟨v1,q1,b1⟩:=f1.toI64 Tryz.underlying67
 refine ⟨⟨v0,v1⟩,?_,⟨b0,b1⟩⟩
 have hc:([c0,c1]:List AV)=[c0] ++ [c1]:=rfl
 rw [hc]
 rw [q0,q1]
 rfl
theorem ZqY:∀ (k:Nat) {cs:List AV},SizeOf.sizeOf cs≤k→Of Tryz.prog 179 cs→∃ x,cs=WG x∧XQ x
 | 0,cs,hk,h=>by
  obtain ⟨hl,_⟩:=h.toStruct Tryz.underlying179
  rw [show Tryz.prog.cellsOf 179=4 from by kernel_rfl] at hl
  cases cs with
  | nil=>simp at hl
  | cons a r=>simp at hk
 | k + 1,cs,hk,h=>by
  obtain ⟨hl,hf⟩:=h.toStruct Tryz.underlying179
  rw [show Tryz.prog.cellsOf 179=4 from by kernel_rfl] at hl
  obtain ⟨c0,r0,rfl,hl0⟩:=J4 hl
  obtain ⟨c1,r1,rfl,hl1⟩:=J4 hl0
  obtain ⟨c2,r2,rfl,hl2⟩:=J4 hl1
  obtain ⟨c3,r3,rfl,hl3⟩:=J4 hl2
  obtain rfl:=List.eq_nil_of_length_eq_zero hl3
  have f0:Of Tryz.prog 176 ((([c0,c1,c2,c3]:List AV).drop 0).take (Tryz.prog.cellsOf 176)):=hf 0 _ rfl
  rw [show Tryz.prog.cellsOf 176=1 from by kernel_rfl] at f0
  replace f0:Of Tryz.prog 176 [c0]:=f0
  obtain ⟨v0,q0,b0⟩:=f0.toI64 Tryz.underlying176
  have f1:Of Tryz.prog 9 ((([c0,c1,c2,c3]:List AV).drop 1).take (Tryz.prog.cellsOf 9)):=hf 1 _ rfl
  rw [show Tryz.prog.cellsOf 9=1 from by kernel_rfl] at f1
  replace f1:Of Tryz.prog 9 [c1]:=f1
  obtain ⟨v1,q1,b1⟩:=f1.toStr Tryz.underlying9
  have f2:Of Tryz.prog 3 ((([c0,c1,c2,c3]:List AV).drop 2).take (Tryz.prog.cellsOf 3)):=hf 2 _ rfl
  rw [show Tryz.prog.cellsOf 3=1 from by kernel_rfl] at f2
  replace f2:Of Tryz.prog 3 [c2]:=f2
  obtain ⟨v2,q2,b2⟩:=f2.toI64 Tryz.underlying3
  have f3:Of Tryz.prog 177 ((([c0,c1,c2,c3]:List AV).drop 3).take (Tryz.prog.cellsOf 177)):=hf 3 _ rfl
  rw [show Tryz.prog.cellsOf 177=1 from by kernel_rfl] at f3
  replace f3:Of Tryz.prog 177 [c3]:=f3
  obtain ⟨w3,q3,b3,m3⟩:=f3.toSlice Tryz.underlying177
  rw [Zpv] at q3
  rw [ZrY] at b3
  obtain ⟨v3,e3,n3⟩:=VR (row := WG) (ok := XQ) (fun r hr hq=>ZqY k (ZxL (w := 4) (rows := w3) (by simp [(List.cons.inj q3).1]) hr hk) hq) m3
  replace b3:v3.length * 56≤140737488351232:=by rw [e3,List.length_map] at b3; exact b3
  refine ⟨⟨v0,v1,v2,v3⟩,?_,⟨_,b0,b1,b2,b3,n3⟩⟩
  have hc:([c0,c1,c2,c3]:List AV)=[c0] ++ [c1] ++ [c2] ++ [c3]:=rfl
  rw [hc]
  rw [q0,q1,q2,q3]
  rw [e3]
  rw [VN]; rfl
theorem ZuG:∀ (k:Nat) {cs:List AV},SizeOf.sizeOf cs≤k→Of Tryz.prog 181 cs→∃ x,cs=Y9 x∧Vq x
 | 0,cs,hk,h=>by
  obtain ⟨hl,_⟩:=h.toStruct Tryz.underlying181
  rw [show Tryz.prog.cellsOf 181=21 from by kernel_rfl] at hl
  cases cs with
  | nil=>simp at hl
  | cons a r=>simp at hk
 | k + 1,cs,hk,h=>by
  obtain ⟨hl,hf⟩:=h.toStruct Tryz.underlying181
  rw [show Tryz.prog.cellsOf 181=21 from by kernel_rfl] at hl
  obtain ⟨c0,r0,rfl,hl0⟩:=J4 hl
  obtain ⟨c1,r1,rfl,hl1⟩:=J4 hl0
  obtain ⟨c2,r2,rfl,hl2⟩:=J4 hl1
  obtain ⟨c3,r3,rfl,hl3⟩:=J4 hl2
  obtain ⟨c4,r4,rfl,hl4⟩:=J4 hl3
  obtain ⟨c5,r5,rfl,hl5⟩:=J4 hl4
  obtain ⟨c6,r6,rfl,hl6⟩:=J4 hl5
  obtain ⟨c7,r7,rfl,hl7⟩:=J4 hl6
  obtain ⟨c8,r8,rfl,hl8⟩:=J4 hl7
  obtain ⟨c9,r9,rfl,hl9⟩:=J4 hl8
  obtain ⟨c10,r10,rfl,hl10⟩:=J4 hl9
  obtain ⟨c11,r11,rfl,hl11⟩:=J4 hl10
  obtain ⟨c12,r12,rfl,hl12⟩:=J4 hl11
  obtain ⟨c13,r13,rfl,hl13⟩:=J4 hl12
  obtain ⟨c14,r14,rfl,hl14⟩:=J4 hl13
  obtain ⟨c15,r15,rfl,hl15⟩:=J4 hl14
  obtain ⟨c16,r16,rfl,hl16⟩:=J4 hl15
  obtain ⟨c17,r17,rfl,hl17⟩:=J4 hl16
  obtain ⟨c18,r18,rfl,hl18⟩:=J4 hl17
  obtain ⟨c19,r19,rfl,hl19⟩:=J4 hl18
  obtain ⟨c20,r20,rfl,hl20⟩:=J4 hl19
  obtain rfl:=List.eq_nil_of_length_eq_zero hl20
  have f0:Of Tryz.prog 175 ((([c0,c1,c2,c3,c4,c5,c6,c7,c8,c9,c10,c11,c12,c13,c14,c15,c16,c17,c18,c19,c20]:List AV).drop 0).take (Tryz.prog.cellsOf 175)):=hf 0 _ rfl
  rw [show Tryz.prog.cellsOf 175=1 from by kernel_rfl] at f0
  replace f0:Of Tryz.prog 175 [c0]:=f0
  obtain ⟨v0,q0,b0⟩:=f0.toI64 Tryz.underlying175
  have f1:Of Tryz.prog 9 ((([c0,c1,c2,c3,c4,c5,c6,c7,c8,c9,c10,c11,c12,c13,c14,c15,c16,c17,c18,c19,c20]:List AV).drop 1).take (Tryz.prog.cellsOf 9)):=hf 1 _ rfl
  rw [show Tryz.prog.cellsOf 9=1 from by kernel_rfl] at f1
  replace f1:Of Tryz.prog 9 [c1]:=f1
  obtain ⟨v1,q1,b1⟩:=f1.toStr Tryz.underlying9
  have f2:Of Tryz.prog 9 ((([c0,c1,c2,c3,c4,c5,c6,c7,c8,c9,c10,c11,c12,c13,c14,c15,c16,c17,c18,c19,c20]:List AV).drop 2).take (Tryz.prog.cellsOf 9)):=hf 2 _ rfl
  rw [show Tryz.prog.cellsOf 9=1 from by kernel_rfl] at f2
  replace f2:Of Tryz.prog 9 [c2]:=f2
  obtain ⟨v2,q2,b2⟩:=f2.toStr Tryz.underlying9
  have f3:Of Tryz.prog 179 ((([c0,c1,c2,c3,c4,c5,c6,c7,c8,c9,c10,c11,c12,c13,c14,c15,c16,c17,c18,c19,c20]:List AV).drop 3).take (Tryz.prog.cellsOf 179)):=hf 3 _ rfl
  rw [show Tryz.prog.cellsOf 179=4 from by kernel_rfl] at f3
  replace f3:Of Tryz.prog 179 [c3,c4,c5,c6]:=f3
  obtain ⟨v3,q3,b3⟩:=ZqY _ (Nat.le_refl _) f3
  have f4:Of Tryz.prog 179 ((([c0,c1,c2,c3,c4,c5,c6,c7,c8,c9,c10,c11,c12,c13,c14,c15,c16,c17,c18,c19,c20]:List AV).drop 7).take (Tryz.prog.cellsOf 179)):=hf 4 _ rfl
  rw [show Tryz.prog.cellsOf 179=4 from by kernel_rfl] at f4
  replace f4:Of Tryz.prog 179 [c7,c8,c9,c10]:=f4
  obtain ⟨v4,q4,b4⟩:=ZqY _ (Nat.le_refl _) f4
  have f5:Of Tryz.prog 177 ((([c0,c1,c2,c3,c4,c5,c6,c7,c8,c9,c10,c11,c12,c13,c14,c15,c16,c17,c18,c19,c20]:List AV).drop 11).take (Tryz.prog.cellsOf 177)):=hf 5 _ rfl
  rw [show Tryz.prog.cellsOf 177=1 from by kernel_rfl] at f5
  replace f5:Of Tryz.prog 177 [c11]:=f5
  obtain ⟨w5,q5,b5,m5⟩:=f5.toSlice Tryz.underlying177
  rw [Zpv] at q5
  rw [ZrY] at b5
  obtain ⟨v5,e5,n5⟩:=VR (row := WG) (ok := XQ) (fun r hr hq=>ZqY _ (Nat.le_refl _) hq) m5
  replace b5:v5.length * 56≤140737488351232:=by rw [e5,List.length_map] at b5; exact b5
  have f6:Of Tryz.prog 88 ((([c0,c1,c2,c3,c4,c5,c6,c7,c8,c9,c10,c11,c12,c13,c14,c15,c16,c17,c18,c19,c20]:List AV).drop 12).take (Tryz.prog.cellsOf 88)):=hf 6 _ rfl
  rw [show Tryz.prog.cellsOf 88=6 from by kernel_rfl] at f6
  replace f6:Of Tryz.prog 88 [c12,c13,c14,c15,c16,c17]:=f6
  obtain ⟨v6,q6,b6⟩:=ZuE f6
  have f7:Of Tryz.prog 4 ((([c0,c1,c2,c3,c4,c5,c6,c7,c8,c9,c10,c11,c12,c13,c14,c15,c16,c17,c18,c19,c20]:List AV).drop 18).take (Tryz.prog.cellsOf 4)):=hf 7 _ rfl
  rw [show Tryz.prog.cellsOf 4=1 from by kernel_rfl] at f7
  replace f7:Of Tryz.prog 4 [c18]:=f7
  obtain ⟨v7,q7⟩:=f7.toBool Tryz.underlying4
  have b7:True:=trivial
  have f8:Of Tryz.prog 77 ((([c0,c1,c2,c3,c4,c5,c6,c7,c8,c9,c10,c11,c12,c13,c14,c15,c16,c17,c18,c19,c20]:List AV).drop 19).take (Tryz.prog.cellsOf 77)):=hf 8 _ rfl
  rw [show Tryz.prog.cellsOf 77=1 from by kernel_rfl] at f8
  replace f8:Of Tryz.prog 77 [c19]:=f8
  obtain ⟨w8,q8,b8,m8⟩:=f8.toSlice Tryz.underlying77
  rw [Zh0] at q8
  rw [Zlo] at b8
  obtain ⟨v8,e8,n8⟩:=VR (row := Y9) (ok := Vq) (fun r hr hq=>ZuG k (ZxL (w := 21) (rows := w8) (by simp [(List.cons.inj q8).1]) hr hk) hq) m8
  replace b8:v8.length * 312≤140737488351232:=by rw [e8,List.length_map] at b8; exact b8
  have f9:Of Tryz.prog 77 ((([c0,c1,c2,c3,c4,c5,c6,c7,c8,c9,c10,c11,c12,c13,c14,c15,c16,c17,c18,c19,c20]:List AV).drop 20).take (Tryz.prog.cellsOf 77)):=hf 9 _ rfl
  rw [show Tryz.prog.cellsOf 77=1 from by kernel_rfl] at f9
  replace f9:Of Tryz.prog 77 [c20]:=f9
  obtain ⟨w9,q9,b9,m9⟩:=f9.toSlice Tryz.underlying77
  rw [Zh0] at q9
  rw [Zlo] at b9
  obtain ⟨v9,e9,n9⟩:=VR (row := Y9) (ok := Vq) (fun r hr hq=>ZuG k (ZxL (w := 21) (rows := w9) (by simp [(List.cons.inj q9).1]) hr hk) hq) m9
  replace b9:v9.length * 312≤140737488351232:=by rw [e9,List.length_map] at b9; exact b9
  refine ⟨⟨v0,v1,v2,v3,v4,v5,v6,v7,v8,v9⟩,?_,⟨_,b0,b1,b2,b3,b4,b5,n5,b6,b7,b8,n8,b9,n9⟩⟩
  have hc:([c0,c1,c2,c3,c4,c5,c6,c7,c8,c9,c10,c11,c12,c13,c14,c15,c16,c17,c18,c19,c20]:List AV)=[c0] ++ [c1] ++ [c2] ++ [c3,c4,c5,c6] ++ [c7,c8,c9,c10] ++ [c11] ++ [c12,c13,c14,c15,c16,c17] ++ [c18] ++ [c19] ++ [c20]:=rfl
  rw [hc]
  rw [q0,q1,q2,q3,q4,q5,q6,q7,q8,q9]
  rw [e5,e8,e9]
  rw [O5]; simp only [List.append_assoc,List.cons_append,List.nil_append]
theorem ZwA {cs:List AV}(h:Of Tryz.prog 79 cs):∃ x,cs=Yr x∧P6 x:=by
 obtain ⟨hl,hf⟩:=h.toStruct Tryz.underlying79
 rw [show Tryz.prog.cellsOf 79=4 from by kernel_rfl] at hl
 obtain ⟨c0,r0,rfl,hl0⟩:=J4 hl
 obtain ⟨c1,r1,rfl,hl1⟩:=J4 hl0
 obtain ⟨c2,r2,rfl,hl2⟩:=J4 hl1
 obtain ⟨c3,r3,rfl,hl3⟩:=J4 hl2
 obtain rfl:=List.eq_nil_of_length_eq_zero hl3
 have f0:Of Tryz.prog 9 ((([c0,c1,c2,c3]:List AV).drop 0).take (Tryz.prog.cellsOf 9)):=hf 0 _ rfl
 rw [show Tryz.prog.cellsOf 9=1 from by kernel_rfl] at f0
 replace f0:Of Tryz.prog 9 [c0]:=f0
 obtain ⟨v0,q0,b0⟩:=f0.toStr Tryz.underlying9
 have f1:Of Tryz.prog 76 ((([c0,c1,c2,c3]:List AV).drop 1).take (Tryz.prog.cellsOf 76)):=hf 1 _ rfl
 rw [show Tryz.prog.cellsOf 76=1 from by kernel_rfl] at f1
 replace f1:Of Tryz.prog 76 [c1]:=f1
 obtain ⟨w1,q1,b1,m1⟩:=f1.toSlice Tryz.underlying76
 rw [Zpu] at q1
 rw [ZrX] at b1
 obtain ⟨v1,e1,n1⟩:=VR (row := Vg) (fun r hr hq=>ZvI hq) m1
 replace b1:v1.length * 24≤140737488351232:=by rw [e1,List.length_map] at b1; exact b1
 have f2:Of Tryz.prog 76 ((([c0,c1,c2,c3]:List AV).drop 2).take (Tryz.prog.cellsOf 76)):=hf 2 _ rfl
 rw [show Tryz.prog.cellsOf 76=1 from by kernel_rfl] at f2
 replace f2:Of Tryz.prog 76 [c2]:=f2
 obtain ⟨w2,q2,b2,m2⟩:=f2.toSlice Tryz.underlying76
 rw [Zpu] at q2
 rw [ZrX] at b2
 obtain ⟨v2,e2,n2⟩:=VR (row := Vg) (fun r hr hq=>ZvI hq) m2
 replace b2:v2.length * 24≤140737488351232:=by rw [e2,List.length_map] at b2; exact b2
 have f3:Of Tryz.prog 77 ((([c0,c1,c2,c3]:List AV).drop 3).take (Tryz.prog.cellsOf 77)):=hf 3 _ rfl
 rw [show Tryz.prog.cellsOf 77=1 from by kernel_rfl] at f3
 replace f3:Of Tryz.prog 77 [c3]:=f3
 obtain ⟨w3,q3,b3,m3⟩:=f3.toSlice Tryz.underlying77
 rw [Zh0] at q3
 rw [Zlo] at b3
 obtain ⟨v3,e3,n3⟩:=VR (row := Y9) (ok := Vq) (fun r hr hq=>ZuG _ (Nat.le_refl _) hq) m3
 replace b3:v3.length * 312≤140737488351232:=by rw [e3,List.length_map] at b3; exact b3
 refine ⟨⟨v0,v1,v2,v3⟩,?_,⟨b0,⟨b1,n1⟩,⟨b2,n2⟩,⟨b3,n3⟩⟩⟩
 have hc:([c0,c1,c2,c3]:List AV)=[c0] ++ [c1] ++ [c2] ++ [c3]:=rfl
 rw [hc]
 rw [q0,q1,q2,q3]
 rw [e1,e2,e3]
 rfl
theorem Zz4 {cs:List AV}(h:Of Tryz.prog 105 cs):∃ x,cs=Vr x∧Sj x:=by
 obtain ⟨hl,hf⟩:=h.toStruct Tryz.underlying105
 rw [show Tryz.prog.cellsOf 105=5 from by kernel_rfl] at hl
 obtain ⟨c0,r0,rfl,hl0⟩:=J4 hl
 obtain ⟨c1,r1,rfl,hl1⟩:=J4 hl0
 obtain ⟨c2,r2,rfl,hl2⟩:=J4 hl1
 obtain ⟨c3,r3,rfl,hl3⟩:=J4 hl2
 obtain ⟨c4,r4,rfl,hl4⟩:=J4 hl3
 obtain rfl:=List.eq_nil_of_length_eq_zero hl4
 have f0:Of Tryz.prog 9 ((([c0,c1,c2,c3,c4]:List AV).drop 0).take (Tryz.prog.cellsOf 9)):=hf 0 _ rfl
 rw [show Tryz.prog.cellsOf 9=1 from by kernel_rfl] at f0
 replace f0:Of Tryz.prog 9 [c0]:=f0
 obtain ⟨v0,q0,b0⟩:=f0.toStr Tryz.underlying9
 have f1:Of Tryz.prog 86 ((([c0,c1,c2,c3,c4]:List AV).drop 1).take (Tryz.prog.cellsOf 86)):=hf 1 _ rfl
 rw [show Tryz.prog.cellsOf 86=1 from by kernel_rfl] at f1
 replace f1:Of Tryz.prog 86 [c1]:=f1
 obtain ⟨w1,q1,b1,m1⟩:=f1.toSlice Tryz.underlying86
 rw [Zqn] at q1
 rw [ZtR] at b1
 obtain ⟨v1,e1,n1⟩:=VR (row := (fun x=>[.int .i64 x])) (fun r hr hq=>Z1v hq) m1
 replace b1:v1.length * 8≤140737488351232:=by rw [e1,List.length_map] at b1; exact b1
 have f2:Of Tryz.prog 3 ((([c0,c1,c2,c3,c4]:List AV).drop 2).take (Tryz.prog.cellsOf 3)):=hf 2 _ rfl
 rw [show Tryz.prog.cellsOf 3=1 from by kernel_rfl] at f2
 replace f2:Of Tryz.prog 3 [c2]:=f2
 obtain ⟨v2,q2,b2⟩:=f2.toI64 Tryz.underlying3
 have f3:Of Tryz.prog 3 ((([c0,c1,c2,c3,c4]:List AV).drop 3).take (Tryz.prog.cellsOf 3)):=hf 3 _ rfl
 rw [show Tryz.prog.cellsOf 3=1 from by kernel_rfl] at f3
 replace f3:Of Tryz.prog 3 [c3]:=f3
 obtain ⟨v3,q3,b3⟩:=f3.toI64 Tryz.underlying3
 have f4:Of Tryz.prog 3 ((([c0,c1,c2,c3,c4]:List AV).drop 4).take (Tryz.prog.cellsOf 3)):=hf 4 _ rfl
 rw [show Tryz.prog.cellsOf 3=1 from by kernel_rfl] at f4
 replace f4:Of Tryz.prog 3 [c4]:=f4
 obtain ⟨v4,q4,b4⟩:=f4.toI64 Tryz.underlying3
 refine ⟨⟨v0,v1,v2,v3,v4⟩,?_,⟨b0,⟨b1,n1⟩,b2,b3,b4⟩⟩
 have hc:([c0,c1,c2,c3,c4]:List AV)=[c0] ++ [c1] ++ [c2] ++ [c3] ++ [c4]:=rfl
 rw [hc]
 rw [q0,q1,q2,q3,q4]
 rw [e1]
 rfl
theorem Z1u {cs:List AV}(h:Of Tryz.prog 54 cs):∃ x,cs=Ot x∧Z0z x:=by
 obtain ⟨hl,hf⟩:=h.toStruct Tryz.underlying54
 rw [show Tryz.prog.cellsOf 54=3 from by kernel_rfl] at hl
 obtain ⟨c0,r0,rfl,hl0⟩:=J4 hl
 obtain ⟨c1,r1,rfl,hl1⟩:=J4 hl0
 obtain ⟨c2,r2,rfl,hl2⟩:=J4 hl1
 obtain rfl:=List.eq_nil_of_length_eq_zero hl2
 have f0:Of Tryz.prog 3 ((([c0,c1,c2]:List AV).drop 0).take (Tryz.prog.cellsOf 3)):=hf 0 _ rfl
 rw [show Tryz.prog.cellsOf 3=1 from by kernel_rfl] at f0
 replace f0:Of Tryz.prog 3 [c0]:=f0
 obtain ⟨v0,q0,b0⟩:=f0.toI64 Tryz.underlying3
 have f1:Of Tryz.prog 9 ((([c0,c1,c2]:List AV).drop 1).take (Tryz.prog.cellsOf 9)):=hf 1 _ rfl
 rw [show Tryz.prog.cellsOf 9=1 from by kernel_rfl] at f1
 replace f1:Of Tryz.prog 9 [c1]:=f1
 obtain ⟨v1,q1,b1⟩:=f1.toStr Tryz.underlying9
 have f2:Of Tryz.prog 9 ((([c0,c1,c2]:List AV).drop 2).take (Tryz.prog.cellsOf 9)):=hf 2 _ rfl
 rw [show Tryz.prog.cellsOf 9=1 from by kernel_rfl] at f2
 replace f2:Of Tryz.prog 9 [c2]:=f2
 obtain ⟨v2,q2,b2⟩:=f2.toStr Tryz.underlying9
 refine ⟨⟨v0,v1,v2⟩,?_,⟨b0,b1,b2⟩⟩
 have hc:([c0,c1,c2]:List AV)=[c0] ++ [c1] ++ [c2]:=rfl
 rw [hc]
 rw [q0,q1,q2]
 rfl
theorem Z2H {cs:List AV}(h:Of Tryz.prog 57 cs):∃ x,cs=EF x∧ZrQ x:=by
 obtain ⟨hl,hf⟩:=h.toStruct Tryz.underlying57
 rw [show Tryz.prog.cellsOf 57=3 from by kernel_rfl] at hl
 obtain ⟨c0,r0,rfl,hl0⟩:=J4 hl
 obtain ⟨c1,r1,rfl,hl1⟩:=J4 hl0
 obtain ⟨c2,r2,rfl,hl2⟩:=J4 hl1
 obtain rfl:=List.eq_nil_of_length_eq_zero hl2
 have f0:Of Tryz.prog 9 ((([c0,c1,c2]:List AV).drop 0).take (Tryz.prog.cellsOf 9)):=hf 0 _ rfl
 rw [show Tryz.prog.cellsOf 9=1 from by kernel_rfl] at f0
 replace f0:Of Tryz.prog 9 [c0]:=f0
 obtain ⟨v0,q0,b0⟩:=f0.toStr Tryz.underlying9
 have f1:Of Tryz.prog 55 ((([c0,c1,c2]:List AV).drop 1).take (Tryz.prog.cellsOf 55)):=hf 1 _ rfl
 rw [show Tryz.prog.cellsOf 55=1 from by kernel_rfl] at f1
 replace f1:Of Tryz.prog 55 [c1]:=f1
 obtain ⟨w1,q1,b1,m1⟩:=f1.toSlice Tryz.underlying55
 rw [Zxs] at q1
 rw [ZyU] at b1
 obtain ⟨v1,e1,n1⟩:=VR (row := Ot) (fun r hr hq=>Z1u hq) m1
 replace b1:v1.length * 40≤140737488351232:=by rw [e1,List.length_map] at b1; exact b1
 have f2:Of Tryz.prog 3 ((([c0,c1,c2]:List AV).drop 2).take (Tryz.prog.cellsOf 3)):=hf 2 _ rfl
 rw [show Tryz.prog.cellsOf 3=1 from by kernel_rfl] at f2
 replace f2:Of Tryz.prog 3 [c2]:=f2
 obtain ⟨v2,q2,b2⟩:=f2.toI64 Tryz.underlying3
 refine ⟨⟨v0,v1,v2⟩,?_,⟨b0,⟨b1,n1⟩,b2⟩⟩
 have hc:([c0,c1,c2]:List AV)=[c0] ++ [c1] ++ [c2]:=rfl
 rw [hc]
 rw [q0,q1,q2]
 rw [e1]
 rfl
theorem ZuF {cs:List AV}(h:Of Tryz.prog 42 cs):∃ x,cs=Zj x∧Yl x:=by
 obtain ⟨hl,hf⟩:=h.toStruct Tryz.underlying42
 rw [show Tryz.prog.cellsOf 42=13 from by kernel_rfl] at hl
 obtain ⟨c0,r0,rfl,hl0⟩:=J4 hl
 obtain ⟨c1,r1,rfl,hl1⟩:=J4 hl0
 obtain ⟨c2,r2,rfl,hl2⟩:=J4 hl1
 obtain ⟨c3,r3,rfl,hl3⟩:=J4 hl2
 obtain ⟨c4,r4,rfl,hl4⟩:=J4 hl3
 obtain ⟨c5,r5,rfl,hl5⟩:=J4 hl4
 obtain ⟨c6,r6,rfl,hl6⟩:=J4 hl5
 obtain ⟨c7,r7,rfl,hl7⟩:=J4 hl6
 obtain ⟨c8,r8,rfl,hl8⟩:=J4 hl7
 obtain ⟨c9,r9,rfl,hl9⟩:=J4 hl8
 obtain ⟨c10,r10,rfl,hl10⟩:=J4 hl9
 obtain ⟨c11,r11,rfl,hl11⟩:=J4 hl10
 obtain ⟨c12,r12,rfl,hl12⟩:=J4 hl11
 obtain rfl:=List.eq_nil_of_length_eq_zero hl12
 have f0:Of Tryz.prog 9 ((([c0,c1,c2,c3,c4,c5,c6,c7,c8,c9,c10,c11,c12]:List AV).drop 0).take (Tryz.prog.cellsOf 9)):=hf 0 _ rfl
 rw [show Tryz.prog.cellsOf 9=1 from by kernel_rfl] at f0
 replace f0:Of Tryz.prog 9 [c0]:=f0
 obtain ⟨v0,q0,b0⟩:=f0.toStr Tryz.underlying9
 have f1:Of Tryz.prog 22 ((([c0,c1,c2,c3,c4,c5,c6,c7,c8,c9,c10,c11,c12]:List AV).drop 1).take (Tryz.prog.cellsOf 22)):=hf 1 _ rfl
 rw [show Tryz.prog.cellsOf 22=1 from by kernel_rfl] at f1
 replace f1:Of Tryz.prog 22 [c1]:=f1
 obtain ⟨w1,q1,b1,m1⟩:=f1.toSlice Tryz.underlying22
 rw [Zso] at q1
 rw [Zvy] at b1
 obtain ⟨v1,e1,n1⟩:=VR (row := X9) (fun r hr hq=>ZvJ hq) m1
 replace b1:v1.length * 32≤140737488351232:=by rw [e1,List.length_map] at b1; exact b1
 have f2:Of Tryz.prog 34 ((([c0,c1,c2,c3,c4,c5,c6,c7,c8,c9,c10,c11,c12]:List AV).drop 2).take (Tryz.prog.cellsOf 34)):=hf 2 _ rfl
 rw [show Tryz.prog.cellsOf 34=1 from by kernel_rfl] at f2
 replace f2:Of Tryz.prog 34 [c2]:=f2
 obtain ⟨w2,q2,b2,m2⟩:=f2.toSlice Tryz.underlying34
 rw [Zxv] at q2
 rw [ZyX] at b2
 obtain ⟨v2,e2,n2⟩:=VR (row := Zu) (fun r hr hq=>ZmH hq) m2
 replace b2:v2.length * 232≤140737488351232:=by rw [e2,List.length_map] at b2; exact b2
 have f3:Of Tryz.prog 35 ((([c0,c1,c2,c3,c4,c5,c6,c7,c8,c9,c10,c11,c12]:List AV).drop 3).take (Tryz.prog.cellsOf 35)):=hf 3 _ rfl
 rw [show Tryz.prog.cellsOf 35=1 from by kernel_rfl] at f3
 replace f3:Of Tryz.prog 35 [c3]:=f3
 obtain ⟨w3,q3,b3,m3⟩:=f3.toSlice Tryz.underlying35
 rw [Zxw] at q3
 rw [ZyY] at b3
 obtain ⟨v3,e3,n3⟩:=VR (row := Yo) (fun r hr hq=>ZsT hq) m3
 replace b3:v3.length * 32≤140737488351232:=by rw [e3,List.length_map] at b3; exact b3
 have f4:Of Tryz.prog 36 ((([c0,c1,c2,c3,c4,c5,c6,c7,c8,c9,c10,c11,c12]:List AV).drop 4).take (Tryz.prog.cellsOf 36)):=hf 4 _ rfl
 rw [show Tryz.prog.cellsOf 36=1 from by kernel_rfl] at f4
 replace f4:Of Tryz.prog 36 [c4]:=f4
 obtain ⟨w4,q4,b4,m4⟩:=f4.toSlice Tryz.underlying36
 rw [Zxx] at q4
 rw [ZyZ] at b4
 obtain ⟨v4,e4,n4⟩:=VR (row := YL) (fun r hr hq=>ZuD hq) m4
 replace b4:v4.length * 32≤140737488351232:=by rw [e4,List.length_map] at b4; exact b4
 have f5:Of Tryz.prog 37 ((([c0,c1,c2,c3,c4,c5,c6,c7,c8,c9,c10,c11,c12]:List AV).drop 5).take (Tryz.prog.cellsOf 37)):=hf 5 _ rfl
 rw [show Tryz.prog.cellsOf 37=1 from by kernel_rfl] at f5
 replace f5:Of Tryz.prog 37 [c5]:=f5
 obtain ⟨w5,q5,b5,m5⟩:=f5.toSlice Tryz.underlying37
 rw [ZfS] at q5
 rw [Zlp] at b5
 obtain ⟨v5,e5,n5⟩:=VR (row := (fun x=>[.str x])) (fun r hr hq=>ZxZ hq) m5
 replace b5:v5.length * 16≤140737488351232:=by rw [e5,List.length_map] at b5; exact b5
 have f6:Of Tryz.prog 37 ((([c0,c1,c2,c3,c4,c5,c6,c7,c8,c9,c10,c11,c12]:List AV).drop 6).take (Tryz.prog.cellsOf 37)):=hf 6 _ rfl
 rw [show Tryz.prog.cellsOf 37=1 from by kernel_rfl] at f6
 replace f6:Of Tryz.prog 37 [c6]:=f6
 obtain ⟨w6,q6,b6,m6⟩:=f6.toSlice Tryz.underlying37
 rw [ZfS] at q6
 rw [Zlp] at b6
 obtain ⟨v6,e6,n6⟩:=VR (row := (fun x=>[.str x])) (fun r hr hq=>ZxZ hq) m6
 replace b6:v6.length * 16≤140737488351232:=by rw [e6,List.length_map] at b6; exact b6
 have f7:Of Tryz.prog 37 ((([c0,c1,c2,c3,c4,c5,c6,c7,c8,c9,c10,c11,c12]:List AV).drop 7).take (Tryz.prog.cellsOf 37)):=hf 7 _ rfl
 rw [show Tryz.prog.cellsOf 37=1 from by kernel_rfl] at f7
 replace f7:Of Tryz.prog 37 [c7]:=f7
 obtain ⟨w7,q7,b7,m7⟩:=f7.toSlice Tryz.underlying37
 rw [ZfS] at q7
 rw [Zlp] at b7
 obtain ⟨v7,e7,n7⟩:=VR (row := (fun x=>[.str x])) (fun r hr hq=>ZxZ hq) m7
 replace b7:v7.length * 16≤140737488351232:=by rw [e7,List.length_map] at b7; exact b7
 have f8:Of Tryz.prog 37 ((([c0,c1,c2,c3,c4,c5,c6,c7,c8,c9,c10,c11,c12]:List AV).drop 8).take (Tryz.prog.cellsOf 37)):=hf 8 _ rfl
 rw [show Tryz.prog.cellsOf 37=1 from by kernel_rfl] at f8
 replace f8:Of Tryz.prog 37 [c8]:=f8
 obtain ⟨w8,q8,b8,m8⟩:=f8.toSlice Tryz.underlying37
 rw [ZfS] at q8
 rw [Zlp] at b8
 obtain ⟨v8,e8,n8⟩:=VR (row := (fun x=>[.str x])) (fun r hr hq=>ZxZ hq) m8
 replace b8:v8.length * 16≤140737488351232:=by rw [e8,List.length_map] at b8; exact b8
 have f9:Of Tryz.prog 37 ((([c0,c1,c2,c3,c4,c5,c6,c7,c8,c9,c10,c11,c12]:List AV).drop 9).take (Tryz.prog.cellsOf 37)):=hf 9 _ rfl
 rw [show Tryz.prog.cellsOf 37=1 from by kernel_rfl] at f9
 replace f9:Of Tryz.prog 37 [c9]:=f9
 obtain ⟨w9,q9,b9,m9⟩:=f9.toSlice Tryz.underlying37
 rw [ZfS] at q9
 rw [Zlp] at b9
 obtain ⟨v9,e9,n9⟩:=VR (row := (fun x=>[.str x])) (fun r hr hq=>ZxZ hq) m9
 replace b9:v9.length * 16≤140737488351232:=by rw [e9,List.length_map] at b9; exact b9
 have f10:Of Tryz.prog 38 ((([c0,c1,c2,c3,c4,c5,c6,c7,c8,c9,c10,c11,c12]:List AV).drop 10).take (Tryz.prog.cellsOf 38)):=hf 10 _ rfl
 rw [show Tryz.prog.cellsOf 38=1 from by kernel_rfl] at f10
 replace f10:Of Tryz.prog 38 [c10]:=f10
 obtain ⟨w10,q10,b10,m10⟩:=f10.toSlice Tryz.underlying38
 rw [Zxu] at q10
 rw [ZyW] at b10
 obtain ⟨v10,e10,n10⟩:=VR (row := Yr) (fun r hr hq=>ZwA hq) m10
 replace b10:v10.length * 88≤140737488351232:=by rw [e10,List.length_map] at b10; exact b10
 have f11:Of Tryz.prog 39 ((([c0,c1,c2,c3,c4,c5,c6,c7,c8,c9,c10,c11,c12]:List AV).drop 11).take (Tryz.prog.cellsOf 39)):=hf 11 _ rfl
 rw [show Tryz.prog.cellsOf 39=1 from by kernel_rfl] at f11
 replace f11:Of Tryz.prog 39 [c11]:=f11
 obtain ⟨w11,q11,b11,m11⟩:=f11.toSlice Tryz.underlying39
 rw [Zwj] at q11
 rw [Zxj] at b11
 obtain ⟨v11,e11,n11⟩:=VR (row := Vr) (fun r hr hq=>Zz4 hq) m11
 replace b11:v11.length * 64≤140737488351232:=by rw [e11,List.length_map] at b11; exact b11
 have f12:Of Tryz.prog 40 ((([c0,c1,c2,c3,c4,c5,c6,c7,c8,c9,c10,c11,c12]:List AV).drop 12).take (Tryz.prog.cellsOf 40)):=hf 12 _ rfl
 rw [show Tryz.prog.cellsOf 40=1 from by kernel_rfl] at f12
 replace f12:Of Tryz.prog 40 [c12]:=f12
 obtain ⟨w12,q12,b12,m12⟩:=f12.toSlice Tryz.underlying40
 rw [Zxt] at q12
 rw [ZyV] at b12
 obtain ⟨v12,e12,n12⟩:=VR (row := EF) (fun r hr hq=>Z2H hq) m12
 replace b12:v12.length * 48≤140737488351232:=by rw [e12,List.length_map] at b12; exact b12
 refine ⟨⟨v0,v1,v2,v3,v4,v5,v6,v7,v8,v9,v10,v11,v12⟩,?_,⟨b0,⟨b1,n1⟩,⟨b2,n2⟩,⟨b3,n3⟩,⟨b4,n4⟩,⟨b5,n5⟩,⟨b6,n6⟩,⟨b7,n7⟩,⟨b8,n8⟩,⟨b9,n9⟩,⟨b10,n10⟩,⟨b11,n11⟩,⟨b12,n12⟩⟩⟩
 have hc:([c0,c1,c2,c3,c4,c5,c6,c7,c8,c9,c10,c11,c12]:List AV)=[c0] ++ [c1] ++ [c2] ++ [c3] ++ [c4] ++ [c5] ++ [c6] ++ [c7] ++ [c8] ++ [c9] ++ [c10] ++ [c11] ++ [c12]:=rfl
 rw [hc]
 rw [q0,q1,q2,q3,q4,q5,q6,q7,q8,q9,q10,q11,q12]
 rw [e1,e2,e3,e4,e5,e6,e7,e8,e9,e10,e11,e12]
 rfl
theorem Z1t {cs:List AV}(h:Of Tryz.prog 49 cs):∃ x,cs=KM x∧Z0y x:=by
 obtain ⟨hl,hf⟩:=h.toStruct Tryz.underlying49
 rw [show Tryz.prog.cellsOf 49=3 from by kernel_rfl] at hl
 obtain ⟨c0,r0,rfl,hl0⟩:=J4 hl
 obtain ⟨c1,r1,rfl,hl1⟩:=J4 hl0
 obtain ⟨c2,r2,rfl,hl2⟩:=J4 hl1
 obtain rfl:=List.eq_nil_of_length_eq_zero hl2
 have f0:Of Tryz.prog 9 ((([c0,c1,c2]:List AV).drop 0).take (Tryz.prog.cellsOf 9)):=hf 0 _ rfl
 rw [show Tryz.prog.cellsOf 9=1 from by kernel_rfl] at f0
 replace f0:Of Tryz.prog 9 [c0]:=f0
 obtain ⟨v0,q0,b0⟩:=f0.toStr Tryz.underlying9
 have f1:Of Tryz.prog 9 ((([c0,c1,c2]:List AV).drop 1).take (Tryz.prog.cellsOf 9)):=hf 1 _ rfl
 rw [show Tryz.prog.cellsOf 9=1 from by kernel_rfl] at f1
 replace f1:Of Tryz.prog 9 [c1]:=f1
 obtain ⟨v1,q1,b1⟩:=f1.toStr Tryz.underlying9
 have f2:Of Tryz.prog 3 ((([c0,c1,c2]:List AV).drop 2).take (Tryz.prog.cellsOf 3)):=hf 2 _ rfl
 rw [show Tryz.prog.cellsOf 3=1 from by kernel_rfl] at f2
 replace f2:Of Tryz.prog 3 [c2]:=f2
 obtain ⟨v2,q2,b2⟩:=f2.toI64 Tryz.underlying3
 refine ⟨⟨v0,v1,v2⟩,?_,⟨b0,b1,b2⟩⟩
 have hc:([c0,c1,c2]:List AV)=[c0] ++ [c1] ++ [c2]:=rfl
 rw [hc]
 rw [q0,q1,q2]
 rfl
theorem Zz3 {cs:List AV}(h:Of Tryz.prog 26 cs):∃ x,cs=Vh x∧TS x:=by
 obtain ⟨hl,hf⟩:=h.toStruct Tryz.underlying26
 rw [show Tryz.prog.cellsOf 26=4 from by kernel_rfl] at hl
 obtain ⟨c0,r0,rfl,hl0⟩:=J4 hl
 obtain ⟨c1,r1,rfl,hl1⟩:=J4 hl0
 obtain ⟨c2,r2,rfl,hl2⟩:=J4 hl1
 obtain ⟨c3,r3,rfl,hl3⟩:=J4 hl2
 obtain rfl:=List.eq_nil_of_length_eq_zero hl3
 have f0:Of Tryz.prog 9 ((([c0,c1,c2,c3]:List AV).drop 0).take (Tryz.prog.cellsOf 9)):=hf 0 _ rfl
 rw [show Tryz.prog.cellsOf 9=1 from by kernel_rfl] at f0
 replace f0:Of Tryz.prog 9 [c0]:=f0
 obtain ⟨v0,q0,b0⟩:=f0.toStr Tryz.underlying9
 have f1:Of Tryz.prog 22 ((([c0,c1,c2,c3]:List AV).drop 1).take (Tryz.prog.cellsOf 22)):=hf 1 _ rfl
 rw [show Tryz.prog.cellsOf 22=1 from by kernel_rfl] at f1
 replace f1:Of Tryz.prog 22 [c1]:=f1
 obtain ⟨w1,q1,b1,m1⟩:=f1.toSlice Tryz.underlying22
 rw [Zso] at q1
 rw [Zvy] at b1
 obtain ⟨v1,e1,n1⟩:=VR (row := X9) (fun r hr hq=>ZvJ hq) m1
 replace b1:v1.length * 32≤140737488351232:=by rw [e1,List.length_map] at b1; exact b1
 have f2:Of Tryz.prog 23 ((([c0,c1,c2,c3]:List AV).drop 2).take (Tryz.prog.cellsOf 23)):=hf 2 _ rfl
 rw [show Tryz.prog.cellsOf 23=1 from by kernel_rfl] at f2
 replace f2:Of Tryz.prog 23 [c2]:=f2
 obtain ⟨w2,q2,b2,m2⟩:=f2.toSlice Tryz.underlying23
 rw [Zxq] at q2
 rw [ZyS] at b2
 obtain ⟨v2,e2,n2⟩:=VR (row := Zj) (fun r hr hq=>ZuF hq) m2
 replace b2:v2.length * 304≤140737488351232:=by rw [e2,List.length_map] at b2; exact b2
 have f3:Of Tryz.prog 24 ((([c0,c1,c2,c3]:List AV).drop 3).take (Tryz.prog.cellsOf 24)):=hf 3 _ rfl
 rw [show Tryz.prog.cellsOf 24=1 from by kernel_rfl] at f3
 replace f3:Of Tryz.prog 24 [c3]:=f3
 obtain ⟨w3,q3,b3,m3⟩:=f3.toSlice Tryz.underlying24
 rw [Zxr] at q3
 rw [ZyT] at b3
 obtain ⟨v3,e3,n3⟩:=VR (row := KM) (fun r hr hq=>Z1t hq) m3
 replace b3:v3.length * 40≤140737488351232:=by rw [e3,List.length_map] at b3; exact b3
 refine ⟨⟨v0,v1,v2,v3⟩,?_,⟨b0,⟨b1,n1⟩,⟨b2,n2⟩,⟨b3,n3⟩⟩⟩
 have hc:([c0,c1,c2,c3]:List AV)=[c0] ++ [c1] ++ [c2] ++ [c3]:=rfl
 rw [hc]
 rw [q0,q1,q2,q3]
 rw [e1,e2,e3]
 rfl
end Go.Proofs.YtlmfmmclnboglaaGreat
end
section
namespace Go.Proofs.YtlmfmmclnboglaaGreat.Abs
open Go Go.RowKit
set_option linter.all false
def ZfR (call:FuncId→List AV→List Zt→Option (AV×List Zt×Eff))(f:FuncId)(args:List AV)(hp:List Zt):Option (AV×List Zt×Eff) :=
 match call f args hp with
 | some (v,hp',none)=>match frz hp.length hp' v with
  | some v'=>some (v',hp,none)
  | none=>none
 | _=>none
theorem Zxo {call:FuncId→List AV→List Zt→Option (AV×List Zt×Eff)}:∀ f args hp v hp' e,ZfR call f args hp=some (v,hp',e)→hp'=hp∧e=none:=by
 intro f args hp v hp' e h
 unfold ZfR at h
 split at h <;> first | (cases h; done) | skip
 split at h <;> first | (cases h; done) | skip
 cases h
 exact ⟨rfl,rfl⟩
theorem Zxp {P:Program}{W0:World}{call:FuncId→List AV→List Zt→Option (AV×List Zt×Eff)}(hS:JK P W0 call):JK P W0 (ZfR call):=by
 intro f args hp v hp' e h Γ w xs hr ht hs hx
 unfold ZfR at h
 split at h <;> first | (cases h; done) | skip
 rename_i v0 hp0 hc
 split at h <;> first | (cases h; done) | skip
 rename_i v1 hf
 cases h
 refine (hS f args hp v0 hp0 none hc Γ w xs hr ht hs hx).mono fun cv w' ⟨Γ',r1,r2,r3,r4,r5⟩=>?_
 exact Zmv (s := ⟨[],hp0,none,hp.length⟩) hr rfl r5 (fun b n g i hb=>ht.cell b n g i hb) r1 r4 r2 r3 (keep := false) (by simp only [finish,hf]; rfl)
section
variable {P:Program}{G:Nat→Option (List AV)}{call:FuncId→List AV→List Zt→Option (AV×List Zt×Eff)}{E:Entry}{s s':Zz}{Γ:Wx}{a:Act}{w:World}{hand:Nat→Bool}{draw:Bool}
theorem Zyg (hG:GOk G E.W0)(hS:JK P E.W0 call){ops:Array Oper}{o:Oper}{g:Option (Nat×Bool)}{u:Zz}{K:Act→World→Prop}{Q:Exit→Act→World→Prop}(h2:Zlr ops o.guard=some g)
  (he:Q0 G call ⟨o.dst,(cOp P hand draw o).getD .bad,g⟩ s=some u) (hI:Inv E s Γ a w) (hK:∀ Γ a w,Inv E u Γ a w→K a w) :
  if Region.wanted o (yielded ops a.tmps)=true then o.wp P a w K Q∨(o.asks P a w∧LetsOut Q) else K (a.put o.dst Go.undef) w:=by
 simp only [Q0] at he
 split at he <;> first | (cases he; done) | skip
 ·rename_i hw
  rw [Dn hI h2 hw]
  split at he <;> first | (cases he; done) | skip
  rename_i v s2 hev
  obtain rfl:=Option.some.inj he
  simp only [if_true]
  refine .inl (Z1B hG hS hI (Dl hev) hev fun Γ' cv w' i1 r1 o1=>?_)
  obtain ⟨Γ2,i2⟩:=i1.put o.dst r1 o1
  exact hK _ _ _ i2
 ·rename_i hw
  rw [Dn hI h2 hw]
  obtain rfl:=Option.some.inj he
  simp only [Bool.false_eq_true,if_false]
  obtain ⟨Γ2,i2⟩:=hI.put o.dst (v := .undef) (cv := Go.undef) .undef (.of_ne (by simp))
  exact hK _ _ _ i2
theorem ZzH (hG:GOk G E.W0)(hS:JK P E.W0 call)(hpure:∀ f args hp v hp' e,call f args hp=some (v,hp',e)→hp'=hp∧e=none){ops:Array Oper}{bops:List Js}{Q:Exit→Act→World→Prop}{sF:Zz}(hc:BX P hand draw ops ops.toList=some bops)(hd:Zpw ops bops=true)(hQ:∀ Γ a w,Inv E sF Γ a w→Q .normal a w) :
  ∀ (fuel:Nat) {listed:Array Bool} {s:Zz} {Γ:Wx} {a:Act} {w:World},listed.size=ops.size→(RQ ops.size listed).length=fuel→X3 G call ((RQ ops.size listed).map fun i=>bops.getD i ⟨none,.bad,none⟩) s=some sF→Inv E s Γ a w→wpAny P .any ops Q fuel listed a w:=by
 simp only [Zpw,Bool.and_eq_true,List.all_eq_true,List.mem_range] at hd
 obtain ⟨⟨hord,hnh⟩,hpair⟩:=hd
 obtain ⟨hlen,hget⟩:=EI hc
 intro fuel
 induction fuel with
 | zero =>
  intro listed s Γ a w hsz hl h hI
  have hn:=List.eq_nil_of_length_eq_zero hl
  rw [hn] at h
  obtain rfl:=Option.some.inj (by simpa [X3] using h:some s=some sF)
  refine ⟨List.eq_nil_iff_forall_not_mem.2 fun i hi=>?_,hQ _ _ _ hI⟩
  obtain ⟨h1,o,h2,_⟩:=mem_ready.1 hi
  have:i ∈ RQ ops.size listed:=MG.2 ⟨(Array.getElem?_eq_some_iff.1 h2).1,h1⟩
  rw [hn] at this
  cases this
 | succ fuel ih =>
  intro listed s Γ a w hsz hl h hI
  have hlisted:∀ j,j < ops.size→listed.getD j true≠false→listed.getD j false=true:=fun j hj h=>by
   have hj':j < listed.size:=by omega
   simp [hj'] at h ⊢; exact h
  refine ⟨fun hr=>?_,fun i hi=>?_⟩
  ·obtain ⟨i,r,hir⟩:∃ i r,RQ ops.size listed=i :: r:=by
    cases hx:RQ ops.size listed with
    | nil=>rw [hx] at hl; cases hl
    | cons i r=>exact ⟨i,r,rfl⟩
   have him:=MG.1 (show i ∈ RQ ops.size listed by rw [hir]; exact List.mem_cons_self ..)
   have hoi:ops[i]? = some ops[i]:=Array.getElem?_eq_getElem him.1
   have hready:i ∈ Region.ready .any ops listed:=by
    refine mem_ready.2 ⟨him.2,_,hoi,fun e he hb=>?_⟩
    have:=hord i him.1
    rw [hoi] at this
    have hlt:=Array.all_eq_true'.1 this e he
    rw [hb] at hlt
    simp only [Bool.not_true,Bool.false_or,decide_eq_true_eq] at hlt
    refine hlisted e.on (by omega) fun hun=>?_
    have hm:=MG.2 ⟨show e.on < ops.size by omega,hun⟩
    rw [hir] at hm
    have hs:=Dj ops.size listed
    rw [hir] at hs
    rcases List.mem_cons.1 hm with he | hm
    ·omega
    ·have:=(List.pairwise_cons.1 hs).1 _ hm
     omega
   rw [hr] at hready
   cases hready
  ·obtain ⟨hun,o,ho,hdeps⟩:=mem_ready.1 hi
   have hin:=(Array.getElem?_eq_some_iff.1 ho).1
   obtain ⟨l1,l2,hsplit⟩:=List.append_of_mem (MG.2 ⟨hin,hun⟩)
   have hs:=Dj ops.size listed
   rw [hsplit] at hs
   obtain ⟨g,hg1,hg2⟩:=hget i o (by simpa using ho)
   have hbi:bops.getD i ⟨none,.bad,none⟩=⟨o.dst,(cOp P hand draw o).getD .bad,g⟩:=by rw [List.getD_eq_getElem?_getD,hg2]; rfl
   have hcomm:∀ x ∈ l1.map (fun i=>bops.getD i ⟨none,.bad,none⟩),Zwm x ⟨o.dst,(cOp P hand draw o).getD .bad,g⟩=true:=fun x hx=>by
    obtain ⟨j,hj,rfl⟩:=List.mem_map.1 hx
    have hji:j < i:=(List.pairwise_append.1 hs).2.2 j hj i (List.mem_cons_self ..)
    have hjm:=MG.1 (show j ∈ RQ ops.size listed by rw [hsplit]; exact List.mem_append_left _ hj)
    have:=hpair i hin j hji
    rw [Bool.or_eq_true] at this
    rcases this with h1 | h1
    ·exfalso
     unfold ZyG at h1
     rw [ho] at h1
     obtain ⟨e,he,hb⟩:=Array.any_eq_true'.1 h1
     simp only [Bool.and_eq_true,beq_iff_eq] at hb
     have h2:=hdeps e he hb.1
     rw [hb.2,Zp9 hjm.2] at h2
     cases h2
    ·rw [hg2] at h1
     split at h1
     ·rename_i x y hx hy
      cases hy
      rw [List.getD_eq_getElem?_getD,hx]
      exact h1
     ·cases h1
   rw [hsplit,List.map_append,List.map_cons,hbi] at h
   obtain ⟨u,hu1,hu2⟩:=bubble hpure hcomm h
   rw [← List.map_append,← Zhb hsplit (by omega)] at hu2
   have hlen2:(RQ ops.size (listed.setIfInBounds i true)).length=fuel:=by
    rw [Zhb hsplit (by omega)]
    rw [hsplit] at hl
    simp at hl ⊢
    omega
   unfold wpOp
   simp only [ho]
   exact Zyg hG hS hg1 hu1 hI fun Γ' a' w' hI'=>ih (by simp [hsz]) hlen2 hu2 hI'
end
def DL (P:Program)(takes:FuncId→List Nat)(res:List Nat):Code→Option Zh
 | .skip=>some .skip
 | .region _ ops false=>(BX P (fun t=>(handed takes res ops.toList).contains t) false ops ops.toList).map (.region false)
 | .region _ ops true=>match BX P (fun t=>(handed takes res ops.toList).contains t) false ops ops.toList with
  | some bops=>if Zpw ops bops then some (.region true bops) else some .bad
  | _=>none
 | .seq a b=>match DL P takes res a,DL P takes res b with
  | some a,some b=>some (.seq a b)
  | _,_=>none
 | .cond c a b=>match Q4 P 0 c,DL P takes res a,DL P takes res b with
  | some c,some a,some b=>some (.cond c a b)
  | _,_,_=>none
 | .block id c=>(DL P takes res c).map (.block id)
 | .loop c=>(DL P takes res c).map .loop
 | .scope c=>(DL P takes res c).map .scope
 | .exit id=>some (.exit id)
 | .ret=>some .ret
 | .label _=>some .skip
 | _=>some .bad
def Z3o (P:Program)(takes:FuncId→List Nat)(fn:Func):Option AFn :=
 match fn.body,Zsb P fn.results.toList with
 | some c,some rs=>(DL P takes (ZrB fn.results.toList) c).map fun ac=>⟨fn.ntmps,rs,ac,!(takes ZbL).isEmpty⟩
 | _,_=>none
section
variable (G:Nat→Option (List AV))(call:FuncId→List AV→List Zt→Option (AV×List Zt×Eff))(L:Nat)
def XF:Zh→Zz→Option (CZ×Zz)
 | .skip,s=>some (.normal,s)
 | .region false ops,s=>(X3 G call ops s).map (.normal,·)
 | .region true ops,s=>(X3 G (ZfR call) ops s).map (.normal,·)
 | .seq a b,s=>match XF a s with
  | some (.normal,s')=>XF b s'
  | r=>r
 | .cond c a b,s=>match opnd G s.sl c with
  | some (.bool true)=>XF a s
  | some (.bool false)=>XF b s
  | _=>none
 | .block id c,s=>match XF c s with
  | some (.exit i,s')=>if i=id then some (.normal,s') else some (.exit i,s')
  | r=>r
 | .loop c,s=>iter (XF c) L s
 | .scope c,s=>XF c s
 | .exit id,s=>some (.exit id,s)
 | .ret,s=>some (.ret,s)
 | .bad,_=>none
end
section
variable {P:Program}{G:Nat→Option (List AV)}{call:FuncId→List AV→List Zt→Option (AV×List Zt×Eff)}{E:Entry}
theorem Zze (hm:P.follows .mixedOrders=true)(hG:GOk G E.W0)(hS:JK P E.W0 call){takes:FuncId→List Nat}{res:List Nat}(L:Nat):∀ {c:Code} {ac:Zh} {s:Zz} {r:CZ×Zz} {Γ:Wx} {a:Act} {w:World},
  DL P takes res c=some ac→XF G call L ac s=some r→Inv E s Γ a w→c.wp P (Ends E r) a w:=by
 intro c
 induction c with
 | skip =>
  intro ac s r Γ a w hc h hI
  cases hc; cases h
  exact Go.wp_skip (.normal hI)
 | region id ops draw =>
  intro ac s r Γ a w hc h hI
  cases draw with
  | false =>
   simp only [DL] at hc
   obtain ⟨aops,h1,rfl⟩:=Option.map_eq_some_iff.1 hc
   simp only [XF] at h
   obtain ⟨s1,h2,rfl⟩:=Option.map_eq_some_iff.1 h
   refine wp_region ?_
   rw [List.range_eq_range']
   have:=ZvM hG hS (Q := Ends E (.normal,s1)) 0 (l := ops.toList) (by simp) h1 h2 hI fun Γ a w h=>.normal h
   simpa using this
  | true =>
   simp only [DL] at hc
   split at hc <;> first | (cases hc; done) | skip
   rename_i bops h1'
   split at hc
   ·rename_i hd
    cases hc
    simp only [XF] at h
    obtain ⟨s1,h2,rfl⟩:=Option.map_eq_some_iff.1 h
    refine wp_region_any hm ?_
    have hb:Behind w { w with drawn:=w.drawn + 1 }:=⟨rfl,rfl,rfl,Nat.le_refl _,fun _ _=>rfl⟩
    have hr:RQ ops.size (Array.replicate ops.size false)=List.range ops.size:=by
     unfold RQ
     refine List.filter_eq_self.2 fun i hi=>?_
     simp only [List.mem_range] at hi
     simp [hi]
    have hmap:(List.range ops.size).map (fun i=>bops.getD i ⟨none,.bad,none⟩)=bops:=by
     have hl:ops.size=bops.length:=by simpa using (EI h1').1
     rw [hl]
     refine List.ext_getElem? fun i=>?_
     rw [List.getElem?_map]
     by_cases hi:i < bops.length
     ·rw [List.getElem?_range hi,Option.map_some,List.getD_eq_getElem?_getD,List.getElem?_eq_getElem hi]; rfl
     ·rw [List.getElem?_eq_none (by simpa using hi),List.getElem?_eq_none (by omega)]; rfl
    exact ZzH hG (Zxp hS) Zxo (Q := Ends E (.normal,s1)) h1' hd (fun Γ a w h=>.normal h) ops.size (by simp) (by rw [hr]; simp) (by rw [hr,hmap]; exact h2) (hb.inv hI)
   ·cases hc; cases h
 | seq x y ihx ihy =>
  intro ac s r Γ a w hc h hI
  simp only [DL] at hc
  split at hc <;> first | (cases hc; done) | skip
  rename_i ax ay hx hy
  obtain rfl:=Option.some.inj hc
  simp only [XF] at h
  refine Go.wp_seq ?_
  split at h
  ·rename_i s1 h1
   refine Go.wp_mono (ihx hx h1 hI) fun e a' w' he=>?_
   obtain ⟨k1,Γ',i1⟩:=he
   cases e <;> first | exact k1.elim | skip
   exact ihy hy h i1
  ·rename_i hne
   refine Go.wp_mono (ihx hx h hI) fun e a' w' he=>?_
   cases e <;> first | exact he | skip
   obtain ⟨k1,_⟩:=he
   obtain ⟨q,s1⟩:=r
   cases q <;> first | exact k1.elim | skip
   exact absurd h (hne s1)
 | cond c x y ihx ihy =>
  intro ac s r Γ a w hc h hI
  simp only [DL] at hc
  split at hc <;> first | (cases hc; done) | skip
  rename_i c' ax ay hcc hx hy
  obtain rfl:=Option.some.inj hc
  simp only [XF] at h
  split at h <;> first | (cases h; done) | skip
  ·rename_i hb
   have k:=(ZW hG hI hcc hb).1
   generalize hq:a.eval c=q at k
   cases k
   exact Go.wp_cond_true hq (ihx hx h hI)
  ·rename_i hb
   have k:=(ZW hG hI hcc hb).1
   generalize hq:a.eval c=q at k
   cases k
   exact Go.wp_cond_false hq (ihy hy h hI)
 | block id c ih =>
  intro ac s r Γ a w hc h hI
  simp only [DL] at hc
  obtain ⟨ax,hx,rfl⟩:=Option.map_eq_some_iff.1 hc
  simp only [XF] at h
  refine Go.wp_block ?_
  split at h
  ·rename_i i s1 h1
   split at h
   ·rename_i hi
    obtain rfl:=Option.some.inj h
    refine Go.wp_mono (ih hx h1 hI) fun e a' w' he=>?_
    obtain ⟨k1,Γ',i1⟩:=he
    cases e <;> first | exact k1.elim | skip
    rename_i j
    simp only [Exit.inBlock]
    rw [if_pos (by rw [← hi]; exact (show i=j from k1).symm)]
    exact .normal i1
   ·rename_i hi
    obtain rfl:=Option.some.inj h
    refine Go.wp_mono (ih hx h1 hI) fun e a' w' he=>?_
    obtain ⟨k1,Γ',i1⟩:=he
    cases e <;> first | exact k1.elim | skip
    rename_i j
    simp only [Exit.inBlock]
    rw [if_neg (by rw [← (show i=j from k1)]; exact hi)]
    exact ⟨k1,Γ',i1⟩
  ·rename_i hne
   refine Go.wp_mono (ih hx h hI) fun e a' w' he=>?_
   cases e <;> first | exact he | skip
   obtain ⟨k1,_⟩:=he
   obtain ⟨q,s1⟩:=r
   cases q <;> first | exact k1.elim | skip
   exact absurd h (hne _ s1)
 | loop c ih =>
  intro ac s r Γ a w hc h hI
  simp only [DL] at hc
  obtain ⟨ax,hx,rfl⟩:=Option.map_eq_some_iff.1 hc
  simp only [XF] at h
  exact wp_loop_rounds L (Zu8 (fun h1 h2=>ih hx h1 h2) L h hI)
 | scope c ih =>
  intro ac s r Γ a w hc h hI
  simp only [DL] at hc
  obtain ⟨ax,hx,rfl⟩:=Option.map_eq_some_iff.1 hc
  simp only [XF] at h
  refine Go.wp_scope_straight (Go.wp_mono (ih hx h hI) fun e a' w' he=>?_)
  cases e <;> first | exact he | skip
  obtain ⟨k1,_⟩:=he
  obtain ⟨q,s1⟩:=r
  cases q <;> exact k1.elim
 | exit id =>
  intro ac s r Γ a w hc h hI
  cases hc; cases h
  exact Go.wp_exit ⟨rfl,Γ,hI⟩
 | ret =>
  intro ac s r Γ a w hc h hI
  cases hc; cases h
  exact Go.wp_ret ⟨trivial,Γ,hI⟩
 | label l =>
  intro ac s r Γ a w hc h hI
  cases hc; cases h
  exact Go.wp_label (.normal hI)
 | _ =>
  intro ac s r Γ a w hc h
  cases hc; cases h
end
section
variable {G:Nat→Option (List AV)}{call:FuncId→List AV→List Zt→Option (AV×List Zt×Eff)}
theorem ZsE (L:Nat):∀ {c:Zh} {s:Zz} {r:CZ×Zz},XF G call L c s=some r→r.2.bs=s.bs:=by
 intro c
 induction c with
 | skip=>intro s r h; cases h; rfl
 | region draw ops =>
  intro s r h
  cases draw with
  | false =>
   simp only [XF] at h
   obtain ⟨s1,h1,rfl⟩:=Option.map_eq_some_iff.1 h
   exact Ae h1
  | true =>
   simp only [XF] at h
   obtain ⟨s1,h1,rfl⟩:=Option.map_eq_some_iff.1 h
   exact Ae h1
 | seq x y ihx ihy =>
  intro s r h
  simp only [XF] at h
  split at h
  ·rename_i s1 h1
   rw [ihy h]; exact ihx h1
  ·exact ihx h
 | cond c x y ihx ihy =>
  intro s r h
  simp only [XF] at h
  split at h <;> first | (cases h; done) | skip
  ·exact ihx h
  ·exact ihy h
 | block id c ih =>
  intro s r h
  simp only [XF] at h
  split at h
  ·rename_i i s1 h1
   have:=ih h1
   split at h <;> (obtain rfl:=Option.some.inj h; exact this)
  ·exact ih h
 | loop c ih =>
  intro s r h
  simp only [XF] at h
  exact Zu7 ih L h
 | scope c ih=>intro s r h; simp only [XF] at h; exact ih h
 | exit id=>intro s r h; cases h; rfl
 | ret=>intro s r h; cases h; rfl
 | bad=>intro s r h; cases h
end
def Zmp (C:Cfg)(n:Nat)(fn:AFn)(args:List AV)(hp:List Zt):Option (AV×List Zt×Eff) :=
 match XF C.G (Zc C n) C.L fn.code ⟨args ++ List.replicate (fn.ntmps - args.length) .undef,hp,none,hp.length⟩ with
 | some (.exit _,_)=>none
 | some (_,s)=>match Pk s fn.results with
  | some v=>some (if fn.keep then (v.nm,s.hp,s.ef) else finish v s hp)
  | none=>none
 | none=>none
theorem Zw0 {P:Program}{W0:World}{C:Cfg}(h:Zwc P W0 C)(n:Nat){f:FuncId}{fn:Func}{takes:FuncId→List Nat}{af:AFn}(hf:P.funcs[f]? = some fn)(hname:(fn.name == "runtime.NumGoroutine")=false)(hcf:Z3o P takes fn=some af) :
  JK P W0 fun g args hp=>if g=f then Zmp C n af args hp else none:=by
 intro g args hp v hp' e hc Γ w xs hr ht hs hx
 replace hc:(if g=f then Zmp C n af args hp else none)=some (v,hp',e):=hc
 split at hc
 case isFalse=>cases hc
 rename_i hgf
 subst hgf
 have ih:=Zmo h n
 unfold Zmp at hc
 unfold Z3o at hcf
 split at hcf <;> first | (cases hcf; done) | skip
 rename_i c rs hb hrs
 obtain ⟨ac,hac,rfl⟩:=Option.map_eq_some_iff.1 hcf
 split at hc
 ·cases hc
 ·rename_i x s hne hev
  split at hc <;> first | (cases hc; done) | skip
  rename_i u hu
  have hfin:=Option.some.inj hc
  refine ⟨ZgL hf hname hb xs w,?_⟩
  have hbs:s.bs=hp.length:=ZsE C.L hev
  have hI:Inv ⟨W0,Γ,w⟩ ⟨args ++ List.replicate (fn.ntmps - args.length) .undef,hp,none,hp.length⟩ Γ { tmps := xs ++ Array.replicate (fn.ntmps - xs.size) Go.undef,defers := [] } w:=by
   have get:∀ (t:Nat) (y:AV),(args ++ List.replicate (fn.ntmps - args.length) AV.undef)[t]? = some y→(args[t]? = some y∧(xs ++ Array.replicate (fn.ntmps - xs.size) Go.undef).getD t Go.undef=xs.getD t Go.undef)∨(y=.undef∧(xs ++ Array.replicate (fn.ntmps - xs.size) Go.undef).getD t Go.undef=Go.undef):=by
    intro t y hy
    rw [List.getElem?_append] at hy
    split at hy
    ·rename_i hlt
     refine .inl ⟨hy,?_⟩
     rw [Array.getD_eq_getD_getElem?,Array.getD_eq_getD_getElem?,Array.getElem?_append_left (by omega)]
    ·rename_i hge
     have hm:=List.mem_of_getElem? hy
     have:=List.eq_of_mem_replicate hm
     refine .inr ⟨this,?_⟩
     have hlt:=ZX hy
     simp only [List.length_replicate] at hlt
     rw [Array.getD_eq_getD_getElem?,Array.getElem?_append_right (by omega),Array.getElem?_replicate,if_pos (by omega)]
     rfl
   refine ⟨rfl,⟨by simp [hs],fun t y hy=>?_,fun t y hy=>?_⟩,hr,.refl _ _ _,fun b g hb=>hr.lt b g hb,fun b m g i hb=>ht.cell b m g i hb,Nat.le_refl _⟩
   ·rcases get t y hy with ⟨h1,h2⟩ | ⟨rfl,h2⟩
    ·rw [h2]; exact (hx t y h1).1
    ·rw [h2]; exact .undef
   ·rcases get t y hy with ⟨h1,h2⟩ | ⟨rfl,h2⟩
    ·rw [h2]; exact (hx t y h1).2
    ·exact .of_ne (by simp)
  have hw:=Zze h.mixed h.globals ih C.L hac hev hI
  refine calls_of_wp hf hb (Go.wp_mono hw fun en a' w' he=>?_)
  obtain ⟨k1,Γ',i1⟩:=he
  have fin:a'.defers=[]∧∃ cv,(results fn a'.tmps).run P w'=.ok cv w'∧∃ v',Ending.returned cv=.returned v'∧∃ Γ',RW W0 Γ' w' hp'∧Rep Γ' w' v v'∧OwnAt Γ' w' .res v v'∧Frame Γ w Γ' w' e∧hp.length≤hp'.length:=by
   obtain ⟨cv,Γ2,q1,q2,q3,q4,q5⟩:=Z0J i1 hrs hu
   obtain ⟨Γ3,p1,p2,p3,p4,p5⟩:=Zmv hr hbs (by rw [hbs]; have:=i1.le; simpa [hbs] using this) (fun b m g i hb=>by rw [hbs]; exact ht.cell b m g i hb) q2 q3 q4 q5 hfin
   exact ⟨i1.defers,cv,q1,cv,rfl,Γ3,p1,p2,p3,p4,p5⟩
  cases x with
  | exit i=>exact (hne i rfl).elim
  | normal=>cases en <;> first | exact k1.elim | exact fin
  | ret=>cases en <;> first | exact k1.elim | exact fin
 ·cases hc
theorem Z3k {P:Program}{W:World}{C:Cfg}(h:Zwc P W C){n:Nat}{f:FuncId}{fn:Func}{takes:FuncId→List Nat}{af:AFn}(hf:P.funcs[f]? = some fn)(hname:(fn.name == "runtime.NumGoroutine")=false)(hcf:Z3o P takes fn=some af)
  {hp:List Zt} {e:Eff} (hev:Zmp C n af [] []=some (.bool true,hp,e)):Calls P f #[] W fun e W'=>e=.returned (.bool true)∧Below W.heap.size W W':=by
 obtain ⟨_,hw⟩:=Zw0 h n hf hname hcf f [] [] (.bool true) hp e (by simpa using hev) still W #[] (ZvV W) ZpV rfl fun j x hx=>by simp at hx
 refine hw.mono fun en W' ⟨cv,hv,Γ',r1,r2,_,r4,_⟩=>?_
 subst hv
 cases r2
 exact ⟨rfl,r4.os,r4.tape,r4.output,r4.size,fun b hb=>(r4.keep b hb trivial).2⟩
end Go.Proofs.YtlmfmmclnboglaaGreat.Abs
end
section
namespace Go.Proofs.YtlmfmmclnboglaaGreat
open Go Go.Proofs.YtlmfmmclnboglaaGreat.Abs
set_option maxRecDepth 100000
set_option maxHeartbeats 0
set_option linter.all false
def Z3i:FuncId→List Nat:=fun _=>[]
def Z0O:FuncId→List Nat:=fun x=>if x=ZbL then [1000043,1000050,1000058,1000055] else []
def Zqe:Zh:=yQ [yC 0 yF] (yQ [yP 8 25 [],yP 9 25 [],yP 10 25 [],yP 11 25 [],yI 1 (.mk 26 [(.str []),(.own 3 []),(.own 13 []),(.own 3 [])]),yI 2 (.mk 26 [(.str []),(.own 3 []),(.own 13 []),(.own 3 [])]),yI 3 (.mk 26 [(.str []),(.own 3 []),(.own 13 []),(.own 3 [])]),yI 4 (.mk 26 [(.str []),(.own 3 []),(.own 13 []),(.own 3 [])]),yN (.st 4 (yV 1) (yV 8)),yN (.st 4 (yV 2) (yV 9)),yN (.st 4 (yV 3) (yV 10)),yN (.st 4 (yV 4) (yV 11))] (yQ [yH 12 2 2,yL 13 12,yI 14 (.lit 9 1 [(yS [109])]),yI 15 (.ia (.slice 13) (yV 13) (yK 0)),yH 16 5 15,yN (.stt (yV 16) 14)] (yQ [yH 17 2 3,yL 18 17,yI 19 (.ia (.slice 13) (yV 18) (yK 0)),yH 20 12 19,yL 21 20,yI 22 (.ia (.slice 3) (yV 21) (yK 0)),yH 23 1 22,yL 24 23,yI 25 (.ia (.slice 3) (yV 24) (yK 0)),yH 26 1 25,yN (.st 1 (yV 26) (yS [115,116,111,114,101,100]))] (yQ [yH 27 3 4,yL 28 27,yI 29 (.ia (.slice 3) (yV 28) (yK 0)),yH 30 1 29,yN (.st 1 (yV 30) (yS [112,108,97,110,116]))] (yQ [yD 32 4 1,yP 33 12 [yA 32,yB (yS [112,108,97,110,116]),yB (yS [121,97,114,100])],yM 31 33,yI 34 (.extract (yV 31) 0),yI 35 (.extract (yV 31) 1),yU 5 34,yU 6 35] (yQ [yH 36 2 1,yL 37 36,yI 38 (.ia (.slice 13) (yV 37) (yK 0)),yD 39 13 38,yI 7 (.mk 42 [(.str []),(.own 3 []),(.own 17 []),(.own 3 []),(.own 3 []),(.own 1 []),(.own 1 []),(.own 1 []),(.own 1 []),(.own 1 []),(.own 4 []),(.own 5 []),(.own 3 [])]),yN (.st 13 (yV 7) (yV 39))] (.seq (.region true [yD 40 4 1,yP 41 10 [yA 40],yX 42 .eql (yV 41) (yK 0),yM 43 42,yJ 44 (.lda 4 (yV 2)) 43 true,yJ 45 (.call (yG 10) [yA 44]) 43 true,yJ 46 (.bin .eql .prim (yV 45) (yK 4)) 43 true,yI 47 (.pick (yV 43) (yV 46) yF),yM 48 47,yJ 49 (.lda 4 (yV 3)) 48 true,yJ 50 (.call (yG 10) [yA 49]) 48 true,yJ 51 (.bin .eql .prim (yV 50) (yK 5)) 48 true,yI 52 (.pick (yV 48) (yV 51) yF),yM 53 52,yJ 54 (.lda 4 (yV 4)) 53 true,yJ 55 (.call (yG 10) [yA 54]) 53 true,yJ 56 (.bin .eql .prim (yV 55) (yK 1)) 53 true,yI 57 (.pick (yV 53) (yV 56) yF),yM 58 57,yJ 59 (.mv (yV 5)) 58 true,yJ 60 (.bin .eql .prim (yV 59) (yK 4)) 58 true,yI 61 (.pick (yV 58) (yV 60) yF),yM 62 61,yJ 63 (.mv (yV 6)) 62 true,yI 64 (.pick (yV 62) (yV 63) yF),yM 65 64,yJ 66 (.lda 4 (yV 1)) 65 true,yJ 67 (.call (yG 14) [yA 66,yB (yS [121,97,114,100])]) 65 true,yJ 68 (.bin .eql .prim (yV 67) (yK 1)) 65 true,yI 69 (.pick (yV 65) (yV 68) yF),yM 70 69,yJ 71 (.lda 13 (yV 7)) 70 true,yJ 72 (.call (yG 16) [yA 71,yB (yS [112,97,114,116])]) 70 true,yJ 73 (.bin .eql .prim (yV 72) (yK 0)) 70 true,yI 74 (.pick (yV 70) (yV 73) yF),yM 75 74,yJ 76 (.lda 13 (yV 7)) 75 true,yJ 77 (.call (yG 18) [yA 76,yB (yS [100,111,110,101])]) 75 true,yJ 78 (.bin .eql .prim (yV 77) (yS [99,111,117,110,116])) 75 true,yI 79 (.pick (yV 75) (yV 78) yF),yM 80 79,yJ 81 (.lda 13 (yV 7)) 80 true,yJ 82 (.call (yG 20) [yA 81,yB (yS [100,111,110,101])]) 80 true,yJ 83 (.bin .eql .prim (yV 82) (yK 0)) 80 true,yI 84 (.pick (yV 80) (yV 83) yF),yM 85 84,yJ 86 (.lda 13 (yV 7)) 85 true,yJ 87 (.call (yG 20) [yA 86,yB (yS [120])]) 85 true,yJ 88 (.bin .eql .prim (yV 87) (.const (.int .i64 (-1)))) 85 true,yI 89 (.pick (yV 85) (yV 88) yF),yM 90 89,yJ 91 (.lda 4 (yV 1)) 90 true,yJ 92 (.call (yG 25) []) 90 true,yJ 93 (.call (yG 23) [yA 91,yA 92]) 90 true,yI 94 (.pick (yV 90) (yV 93) yF),yM 95 94,yJ 96 (.lda 4 (yV 1)) 95 true,yJ 97 (.lda 4 (yV 2)) 95 true,yJ 98 (.call (yG 23) [yA 96,yA 97]) 95 true,yJ 99 (.un .not (yV 98)) 95 true,yI 100 (.pick (yV 95) (yV 99) yF),yU 0 100]) (.ret))))))))
def Zf1:AFn:=⟨101,[.tmp 0],Zqe,false⟩
theorem ZrG:Z3o Tryz.prog Z3i Tryz.f9=some Zf1:=by kernel_rfl
theorem ZqU:(Tryz.f9.name == "runtime.NumGoroutine")=false:=by kernel_rfl
end Go.Proofs.YtlmfmmclnboglaaGreat
end
section
namespace Go.Proofs.YtlmfmmclnboglaaGreat
open Go Go.Proofs.YtlmfmmclnboglaaGreat.Abs
set_option maxRecDepth 100000
set_option maxHeartbeats 0
set_option linter.all false
def Znx:Zh:=yQ [yI 0 (.mk 26 [(.str []),(.own 3 []),(.own 13 []),(.own 3 [])])] (yQ [yI 2 (.build [(.str []),(.int .i64 0),(.own 2 []),(.int .i64 0),(.str []),(.int .i64 0),(.int .i64 0),(.int .i64 0),(.int .i64 0),(.own 1 []),(.own 1 []),(.int .i64 0),(.int .i64 0),(.int .i64 0),(.int .i64 0),(.own 1 []),(.own 1 [])] [(0,1,(yS [109])),(1,1,(yK 1))]),yI 3 (.lit 92 17 [(yV 2)]),yI 4 (.lit 9 1 [(yS [113])]),yI 5 (.lit 9 1 [(yS [100,111,110,101])]),yI 6 (.build [(.str []),(.int .i64 0)] [(0,1,(yS [107])),(1,1,(yK 1))]),yI 7 (.lit 103 2 [(yV 6)]),yI 8 (.build [(.str []),(.own 2 []),(.own 2 []),(.own 21 [])] [(0,1,(yS [112,97,114,116])),(1,1,(yV 7))]),yI 9 (.lit 79 4 [(yV 8)]),yI 10 (.lit 3 1 [(yK 3)]),yI 11 (.build [(.str []),(.own 1 []),(.int .i64 0),(.int .i64 0),(.int .i64 0)] [(0,1,(yS [112,97,114,116])),(1,1,(yV 10)),(2,1,(yK 1))]),yI 12 (.lit 105 5 [(yV 11)]),yI 13 (.build [(.int .i64 0),(.str []),(.str [])] [(0,1,(yK 1)),(1,1,(yS [99,114,101,97,116,101,100])),(2,1,(yS [112,97,114,116]))]),yI 14 (.build [(.int .i64 0),(.str []),(.str [])] [(0,1,(.const (.int .i64 (-1)))),(1,1,(yS [105,110,115,105,100,101])),(2,1,(yS [112,97,114,116]))]),yI 15 (.lita 54 3 [(yV 13),(yV 14)]),yI 16 (.build [(.str []),(.own 3 []),(.int .i64 0)] [(0,1,(yS [112,97,114,116,115])),(1,1,(yV 15))]),yI 17 (.lita 57 3 [(yV 16)]),yI 18 (.build [(.str []),(.own 3 []),(.own 17 []),(.own 3 []),(.own 3 []),(.own 1 []),(.own 1 []),(.own 1 []),(.own 1 []),(.own 1 []),(.own 4 []),(.own 5 []),(.own 3 [])] [(0,1,(yS [112,108,97,110,116])),(2,1,(yV 3)),(5,1,(yV 4)),(9,1,(yV 5)),(10,1,(yV 9)),(11,1,(yV 12)),(12,1,(yV 17))]),yI 1 (.mk 42 [(.str []),(.own 3 []),(.own 17 []),(.own 3 []),(.own 3 []),(.own 1 []),(.own 1 []),(.own 1 []),(.own 1 []),(.own 1 []),(.own 4 []),(.own 5 []),(.own 3 [])]),yN (.st 13 (yV 1) (yV 18))] (yQ [yD 19 13 1,yI 20 (.build [(.str []),(.own 3 []),(.own 17 []),(.own 3 []),(.own 3 []),(.own 1 []),(.own 1 []),(.own 1 []),(.own 1 []),(.own 1 []),(.own 4 []),(.own 5 []),(.own 3 [])] [(0,1,(yS [121,97,114,100]))]),yI 21 (.lita 42 13 [(yV 19),(yV 20)]),yI 22 (.build [(.str []),(.str []),(.int .i64 0)] [(0,1,(yS [112,108,97,110,116])),(1,1,(yS [121,97,114,100])),(2,1,(yK 4))]),yI 23 (.lita 49 3 [(yV 22)]),yI 24 (.build [(.str []),(.own 3 []),(.own 13 []),(.own 3 [])] [(0,1,(yS [115,104,111,112])),(2,1,(yV 21)),(3,1,(yV 23))]),yN (.st 4 (yV 0) (yV 24))] (.ret)))
def Zc3:AFn:=⟨25,[.agg 0 4],Znx,true⟩
theorem Zpf:cFn Tryz.prog Z0O Tryz.f25=some Zc3:=by kernel_rfl
theorem Zo8:(Tryz.f25.name == "runtime.NumGoroutine")=false:=by kernel_rfl
def Z3Q:List (Nat×AFn):=[(25,Zc3)] ++ tab
theorem Z2f:∀ p ∈ Z3Q,∃ fn takes,Tryz.prog.funcs[p.1]? = some fn∧(fn.name == "runtime.NumGoroutine")=false∧cFn Tryz.prog takes fn=some p.2:=by
 intro p hp
 rcases List.mem_append.1 hp with hp | hp
 ·simp only [List.mem_cons,List.not_mem_nil,or_false] at hp
  rcases hp with rfl | rfl
  ·exact ⟨Tryz.f25,Z0O,Tryz.func25,Zo8,Zpf⟩
 ·exact Z0N p hp
end Go.Proofs.YtlmfmmclnboglaaGreat
end
section
namespace Go.Proofs.YtlmfmmclnboglaaGreat.Abs
open Go Go.RowKit Go.Shelf
set_option linter.all false
def Zw1 (f:FuncId)(k bytes:Nat)(g:FuncId)(args:List AV)(hp:List Zt):Option (AV×List Zt×Eff) :=
 if g=f then
  match args with
  | [.own k' [],.int .i64 n]=>if k'=k∧0≤n∧n.toNat * bytes≤140737488355328∧n.toNat≤140737488355328 then some (.own k [],hp,none) else none
  | _=>none
 else none
theorem ZxH {P:Program}{ρ:Ren}{W0:World}(L:Lays8.n4 P ρ){i0:TypeInfo}{z:Value}(hi0:P.info? (ρ.t 25)=some i0)(hz0:i0.zero=some z)(hzs:z.cells.size=i0.size)(hs0:0 < i0.size) :
  JK P W0 (Zw1 (ρ.f 4) i0.size i0.bytes):=by
 intro g args hp v hp' e hc Γ w xs hr ht hs hx
 unfold Zw1 at hc
 split at hc
 case isFalse=>cases hc
 rename_i hgf
 subst hgf
 split at hc <;> first | (cases hc; done) | skip
 rename_i k' n
 split at hc <;> first | (cases hc; done) | skip
 rename_i hh
 obtain ⟨rfl,hn0,hnb,hn47⟩:=hh
 cases hc
 have hI:Inv ⟨W0,Γ,w⟩ ⟨[.own i0.size []],hp,none,hp.length⟩ Γ { tmps := #[xs.getD 0 Go.undef],defers := [] } w:=by
  refine ⟨rfl,⟨rfl,fun t y hy=>?_,fun t y hy=>?_⟩,hr,.refl _ _ _,fun b g hb=>hr.lt b g hb,fun b m g i hb=>ht.cell b m g i hb,Nat.le_refl _⟩
  ·cases t with
   | zero=>exact (hx 0 y (by simpa using hy)).1
   | succ t=>simp at hy
  ·cases t with
   | zero=>exact (hx 0 y (by simpa using hy)).2
   | succ t=>simp at hy
 have hx1:xs.getD 1 Go.undef=.int .i64 n:=by
  have:=(hx 1 _ rfl).1
  generalize xs.getD 1 Go.undef=u at this
  cases this; rfl
 have hxs:xs=#[xs.getD 0 Go.undef,xs.getD 1 Go.undef]:=by
  have hs2:xs.size=2:=hs
  refine Array.ext hs2 fun i h1 h2=>?_
  have:i=0∨i=1:=by simp at h2; omega
  rcases this with rfl | rfl <;> simp [Array.getD_eq_getD_getElem?,h1]
 obtain ⟨m,rfl⟩:∃ m:Nat,n=m:=⟨n.toNat,by omega⟩
 simp only [Int.toNat_natCast] at hnb hn47
 have hgo:∀ {R:Value→World→Prop},Calls P (ρ.f 4) xs w (fun e w''=>∃ v,e=.returned v∧R v w'')→Z0R P (ρ.f 4) xs w R:=fun h=>by
  obtain ⟨nm,hn,hf⟩:=L.f4
  exact ⟨ZgL hf hn rfl xs w,h⟩
 have same:∀ {cv:Value} {Γ':Wx} {s:Zz} {a:Act} {w':World},s.hp=hp→s.ef=none→Inv ⟨W0,Γ,w⟩ s Γ' a w'→Rep Γ' w' (.own i0.size []) cv→OwnAt Γ' w' .res (.own i0.size []) cv →
   ∃ Γ',RW W0 Γ' w' hp∧Rep Γ' w' (.own i0.size []) cv∧OwnAt Γ' w' .res (.own i0.size []) cv∧Frame Γ w Γ' w' none∧hp.length≤hp.length:=fun h1 h2 i r o=>⟨_,by rw [← h1]; exact i.rw,r,o,by rw [← h2]; exact i.fr,Nat.le_refl _⟩
 have hmax:maxLen=9223372036854775807:=rfl
 have new:∀ (c:Nat) (cs:List Value),c < m→cs.length=c * i0.size →
   ∃ Γ',RW W0 Γ' (w.drew.alloc (.cells (cs.toArray ++ Builtin.zeroCells z.cells (0 + m - c) ++ Builtin.zeroCells z.cells (grownCap w (0 + m) c (ρ.t 25) - (0 + m))) (ρ.t 25))) hp ∧
    Rep Γ' (w.drew.alloc (.cells (cs.toArray ++ Builtin.zeroCells z.cells (0 + m - c) ++ Builtin.zeroCells z.cells (grownCap w (0 + m) c (ρ.t 25) - (0 + m))) (ρ.t 25))) (.own i0.size []) (.slice (some ⟨w.heap.size,0,none⟩) 0 (grownCap w (0 + m) c (ρ.t 25))) ∧
    OwnAt Γ' (w.drew.alloc (.cells (cs.toArray ++ Builtin.zeroCells z.cells (0 + m - c) ++ Builtin.zeroCells z.cells (grownCap w (0 + m) c (ρ.t 25) - (0 + m))) (ρ.t 25))) .res (.own i0.size []) (.slice (some ⟨w.heap.size,0,none⟩) 0 (grownCap w (0 + m) c (ρ.t 25))) ∧
    Frame Γ w Γ' (w.drew.alloc (.cells (cs.toArray ++ Builtin.zeroCells z.cells (0 + m - c) ++ Builtin.zeroCells z.cells (grownCap w (0 + m) c (ρ.t 25) - (0 + m))) (ρ.t 25))) none∧hp.length≤hp.length:=by
  intro c cs hcm hcl
  have hge:=grownCap_ge w (0 + m) c (ρ.t 25)
  have hle:=grownCap_le_maxLen w (0 + m) c (ρ.t 25) (by omega)
  obtain ⟨Γ',i1,o1⟩:=ZuO (w := w.drew) hI.drew (k := i0.size) (cap := grownCap w (0 + m) c (ρ.t 25)) (rows := []) (e := ρ.t 25)
   (cur := cs.toArray ++ Builtin.zeroCells z.cells (0 + m - c) ++ Builtin.zeroCells z.cells (grownCap w (0 + m) c (ρ.t 25) - (0 + m))) (Nat.zero_le _) hle (by
    simp only [Array.size_append,List.size_toArray,size_zeroCells,hzs,hcl,← Nat.add_mul]
    congr 1
    omega) (fun r hr=>by cases hr) (fun i j r c hi hj=>by simp at hi)
  exact same rfl rfl i1 (.own _ _ _ (.lstE _ _ _)) o1
 obtain ⟨Γ2,i2,r2,o2⟩:=hI.take 0 (v := .own i0.size []) rfl
 have r2':Rep Γ2 w (.own i0.size []) (xs.getD 0 Go.undef):=r2
 have o2':OwnAt Γ2 w .res (.own i0.size []) (xs.getD 0 Go.undef):=o2
 refine hgo ?_
 rcases (hx 0 _ rfl).2 _ _ rfl with ⟨h1,_⟩ | ⟨b,cap,e0,cur,h1,hg,hh,h2,h3,h4,_⟩
 ·rw [hxs,hx1]
  rw [h1] at r2' o2' ⊢
  rcases Nat.eq_zero_or_pos m with hm | hm
  ·subst hm
   refine (Any8.slices_Grow_room L none 0 0 0 w (by omega) (by omega) (by omega) (by omega)).mono ?_
   rintro e w' ⟨rfl,rfl⟩
   exact ⟨_,rfl,same (s := Zz.let_ ⟨[.own i0.size []],hp,none,hp.length⟩ 0) rfl rfl i2 r2' o2'⟩
  ·refine (Any8.slices_Grow_grow L i0 z hi0 hz0 hs0 none 0 0 m [] w (by omega) (by omega) (by simpa using hnb) (by omega) (by simp) (fun _=>rfl) (fun a ha=>by cases ha)).mono ?_
   rintro e w' ⟨rfl,rfl⟩
   exact ⟨_,rfl,new 0 [] hm (by simp)⟩
 ·have h1:xs.getD 0 Go.undef=.slice (some ⟨b,0,none⟩) 0 cap:=h1
  rw [hxs,hx1]
  rw [h1] at r2' o2' ⊢
  rcases Nat.lt_or_ge cap m with hm | hm
  ·refine (Any8.slices_Grow_grow L i0 z hi0 hz0 hs0 (some ⟨b,0,none⟩) 0 cap m cur.toList w (by omega) (by omega) (by simpa using hnb) (by omega) (by simpa using h4) (fun h=>by cases h) (fun a ha j v hj=>?_)).mono ?_
   ·cases ha
    rw [Array.getElem?_toList] at hj
    have hj':(if j=0 then (⟨b,0,none⟩:Addr) else ⟨b,j,none⟩)=⟨b,j,none⟩:=by
     split
     ·rename_i h0; rw [h0]
     ·rfl
    simp [World.cell?,Addr.add,hj',hh,hj]
   ·rintro e w' ⟨rfl,rfl⟩
    exact ⟨_,rfl,new cap cur.toList hm (by simpa using h4)⟩
  ·refine (Any8.slices_Grow_room L (some ⟨b,0,none⟩) 0 cap m w (by omega) (by omega) (by omega) (by omega)).mono ?_
   rintro e w' ⟨rfl,rfl⟩
   exact ⟨_,rfl,same (s := Zz.let_ ⟨[.own i0.size []],hp,none,hp.length⟩ 0) rfl rfl i2 r2' o2'⟩
end Go.Proofs.YtlmfmmclnboglaaGreat.Abs
end
