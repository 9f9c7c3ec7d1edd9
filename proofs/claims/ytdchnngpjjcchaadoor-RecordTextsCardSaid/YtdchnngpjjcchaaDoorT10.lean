import Derived.Test.YtdchnngpjjcchaaDoorT9
set_option linter.all false
section
namespace Go.Proofs.YtdchnngpjjcchaaDoor
open Go Go.RowKit Go.Proofs.YtdchnngpjjcchaaDoor.Abs
set_option maxRecDepth 100000
theorem Tt (N:Nat)(hN:6≤N)(hp0:HP)(r:YS)(hr:QT r)(s:List UInt8):Zb CR N YY [.agg (Yf r),.str s] hp0=some (.bool true,hp0,none):=by
  obtain ⟨k,rfl,hk⟩:=fuel (C := CR) (d := 5) hN
  obtain ⟨m,rfl⟩:∃ m,k=m + 1:=⟨k - 1,by omega⟩
  refine Jd (Ry.T _ _ rfl) ?_
  have aw:=fun hp=>ZaJ (m + 1) (by omega) hp
  have bx:=fun x=>RQ 6 (Yf x) rfl
  by_cases h2:200 < s.length
  · have a1:decide ((200:Int) < (s.length:Int))=true:=by simp; omega
    simp only [Wl,EV,bx,a1,if_true,aw]
  · have a1:decide ((200:Int) < (s.length:Int))=false:=by simp; omega
    have t1:=fun hp=>GR (m + 1) (by omega) hp r hr
    have t2:=fun hp=>Lc m hp r hr
    have k1:=fun hp=>Tq Ry.toJD (m + 1) (by omega) hp r
    have k2:=fun hp=>Tu Ry.toJD (m + 1) (by omega) hp r
    have p1:=fun hp=>UV (m + 1) (by omega) hp s (by omega)
    have p2:=fun hp=>Aj (m + 1) (by omega) hp s (by omega)
    rw [Ey] at p2
    unfold Zd9 at p1 p2
    obtain ⟨p,hp⟩:∃ p,Ib s=p:=⟨_,rfl⟩
    rw [hp] at p1 p2
    have s1:=st_all hp0.length 6 (hp0 ++ [.cells (Yf r) Ze]) (Yf YP) (Yf p.1) Ze none rfl rfl (by simp)
    have s2:=st_all hp0.length 6 (hp0 ++ [.cells (Yf r) Ze] ++ [.cells (Yf p.1) Ze]) (Yf YP) (Yf p.1) Ze none rfl rfl (by simp)
    simp only [Wl,EV,bx,a1,Bool.false_eq_true,if_false,LD,GI,W9,Q5,p1,p2,Xe,s1,s2,QC,k1,k2,t1,t2,Zah,aw,decide_true,Bool.and_true]
theorem ZaG {H:Type}{c0:List AV}{d0:DataW H}(S0:UA Tryd.prog 24 c0 d0)(v0:Value)(x1:ByteArray)(w:World)(hK:CfgOk Tryd.prog w CR)(hR0:Rep still w (.agg c0) v0) :
    Calls Tryd.prog YY #[v0,.string x1] w fun e w'=>e=.returned (.bool true)∧Below w.heap.size w w':=by
  obtain ⟨r,rfl,hr⟩:=ZcM S0.of
  refine Zc4 hK (Tt 6 (Nat.le_refl _) [] r hr x1.data.toList) rfl fun j x hx=>?_
  match j,hx with
  | 0,hx=>cases hx; exact ⟨hR0,fun k r e=>by cases e⟩
  | 1,hx =>
    cases hx
    refine ⟨?_,fun k r e=>by cases e⟩
    have:Rep still w (.str x1.data.toList) (.string ⟨x1.data.toList.toArray⟩):=.str _
    simpa using this
end Go.Proofs.YtdchnngpjjcchaaDoor
end
