import Derived.IntWalk
import Derived.Test.YtbcfddaocfpckaaGreatDoorHSt2
set_option linter.all false
section
namespace Go.Proofs.YtbcfddaocfpckaaGreatDoor
open Go Go.Proofs.YtbcfddaocfpckaaGreatDoor.Abs Go.Proofs.YtbcfddaocfpckaaGreatDoor.Tl
set_option maxRecDepth 100000
set_option maxHeartbeats 0
@[reducible] def tD:Nat→Type
 | 0=>VO
 | 1=>Qy
 | 2=>ZF
 | 3=>Hw
 | 4=>Zt
 | 5=>Yx
 | 6=>YS
 | 7=>Qk
 | 8=>Zi
 | 9=>Zd
 | 10=>Yu
 | 11=>Kt
 | 12=>DV
 | 13=>Zb4
 | 14=>Zq
 | 15=>NS
 | 16=>Ob
 | 17=>Y6
 | 18=>QL
 | 19=>ZL
 | 20=>XZ
 | 21=>XY
 | _=>Int
def tRow:(τ:Nat)→tD τ→List AV
 | 0=>N8
 | 1=>Dc
 | 2=>Tv
 | 3=>AY
 | 4=>QB
 | 5=>JW
 | 6=>KZ
 | 7=>N7
 | 8=>WZ
 | 9=>Wj
 | 10=>IZ
 | 11=>AZ
 | 12=>Zcb
 | 13=>ZeK
 | 14=>Gf
 | 15=>Zca
 | 16=>Zbi
 | 17=>Zbh
 | 18=>Zfp
 | 19=>EC
 | 20=>ED
 | 21=>Tz
 | _ + 22=>fun (x:Int)=>[.int .i64 x]
def tNc:Nat→Nat
 | 0=>3
 | 1=>2
 | 2=>6
 | 3=>13
 | 4=>17
 | 5=>3
 | 6=>3
 | 7=>2
 | 8=>4
 | 9=>21
 | 10=>4
 | 11=>5
 | 12=>3
 | 13=>3
 | 14=>13
 | 15=>3
 | 16=>4
 | 17=>1
 | 18=>9
 | 19=>9
 | 20=>2
 | 21=>5
 | _ + 22=>1
@[reducible] def tT:TT:=⟨tD,tRow,tNc⟩
def ZdN:TI tT 0 where
 comps:=[.str,.int .i64,.int .i64]
 to:=fun (x:VO)=>(x.Name,x.Ty,x.N,())
 of:=fun p=>(⟨p.1,p.2.1,p.2.2.1⟩:VO)
def ZcP:TI tT 1 where
 comps:=[.int .i64,.int .i64]
 to:=fun (x:Qy)=>(x.At_,x.Units,())
 of:=fun p=>(⟨p.1,p.2.1⟩:Qy)
def ZeY:TI tT 2 where
 comps:=[.int .i64,.int .i64,.int .i64,.int .i64,.lst 1 (.int .i64),.lst 1 (.int .i64)]
 to:=fun (x:ZF)=>(x.Op,x.A,x.B,x.N,x.Values,x.Weights,())
 of:=fun p=>(⟨p.1,p.2.1,p.2.2.1,p.2.2.2.1,p.2.2.2.2.1,p.2.2.2.2.2.1⟩:ZF)
def ZdJ:TI tT 3 where
 comps:=[.str,.row 2,.row 2]
 to:=fun (x:Hw)=>(x.Stream,x.Up,x.Down,())
 of:=fun p=>(⟨p.1,p.2.1,p.2.2.1⟩:Hw)
def Bh:TI tT 4 where
 comps:=[.str,.int .i64,.lst 2 (.row 1),.int .i64,.row 3]
 to:=fun (x:Zt)=>(x.Name,x.Units,x.Shift,x.Cycle,x.Fault,())
 of:=fun p=>(⟨p.1,p.2.1,p.2.2.1,p.2.2.2.1,p.2.2.2.2.1⟩:Zt)
def CE:TI tT 5 where
 comps:=[.str,.int .i64,.int .i64]
 to:=fun (x:Yx)=>(x.Name,x.Room,x.Policy,())
 of:=fun p=>(⟨p.1,p.2.1,p.2.2.1⟩:Yx)
def ZaI:TI tT 6 where
 comps:=[.str,.int .i64,.int .i64]
 to:=fun (x:YS)=>(x.Name,x.Length,x.Step,())
 of:=fun p=>(⟨p.1,p.2.1,p.2.2.1⟩:YS)
def ZdK:TI tT 7 where
 comps:=[.str,.int .i64]
 to:=fun (x:Qk)=>(x.Name,x.Ty,())
 of:=fun p=>(⟨p.1,p.2.1⟩:Qk)
def ZeZ:TI tT 8 where
 comps:=[.int .i64,.str,.int .i64,.lst 4 (.row 8)]
 to:=fun (x:Zi)=>(x.Op,x.Name,x.N,x.Kids,())
 of:=fun p=>(⟨p.1,p.2.1,p.2.2.1,p.2.2.2.1⟩:Zi)
def Zfb:TI tT 9 where
 comps:=[.int .i64,.str,.str,.row 8,.row 8,.lst 4 (.row 8),.row 2,.bool,.lst 21 (.row 9),.lst 21 (.row 9)]
 to:=fun (x:Zd)=>(x.Op,x.Name,x.Of,x.E,x.F,x.Args,x.Dist,x.Flag,x.Body,x.Else,())
 of:=fun p=>(⟨p.1,p.2.1,p.2.2.1,p.2.2.2.1,p.2.2.2.2.1,p.2.2.2.2.2.1,p.2.2.2.2.2.2.1,p.2.2.2.2.2.2.2.1,p.2.2.2.2.2.2.2.2.1,p.2.2.2.2.2.2.2.2.2.1⟩:Zd)
def ZbD:TI tT 10 where
 comps:=[.str,.lst 2 (.row 7),.lst 2 (.row 7),.lst 21 (.row 9)]
 to:=fun (x:Yu)=>(x.Name,x.Params,x.Locals,x.Body,())
 of:=fun p=>(⟨p.1,p.2.1,p.2.2.1,p.2.2.2.1⟩:Yu)
def ZdM:TI tT 11 where
 comps:=[.str,.lst 1 (.int .i64),.int .i64,.int .i64,.int .i64]
 to:=fun (x:Kt)=>(x.Routine,x.Args,x.At_,x.Every,x.Until,())
 of:=fun p=>(⟨p.1,p.2.1,p.2.2.1,p.2.2.2.1,p.2.2.2.2.1⟩:Kt)
def Zfc:TI tT 12 where
 comps:=[.int .i64,.str,.str]
 to:=fun (x:DV)=>(x.Coef,x.What,x.Name,())
 of:=fun p=>(⟨p.1,p.2.1,p.2.2.1⟩:DV)
def Zf7:TI tT 13 where
 comps:=[.str,.lst 3 (.row 12),.int .i64]
 to:=fun (x:Zb4)=>(x.Name,x.Terms,x.Total,())
 of:=fun p=>(⟨p.1,p.2.1,p.2.2.1⟩:Zb4)
def ZaJ:TI tT 14 where
 comps:=[.str,.lst 3 (.row 0),.lst 17 (.row 4),.lst 3 (.row 5),.lst 3 (.row 6),.lst 1 (.str),.lst 1 (.str),.lst 1 (.str),.lst 1 (.str),.lst 1 (.str),.lst 4 (.row 10),.lst 5 (.row 11),.lst 3 (.row 13)]
 to:=fun (x:Zq)=>(x.Name,x.Vars,x.Resources,x.Stores,x.Belts,x.Queues,x.Streams,x.Tallies,x.Levels,x.Counts,x.Routines,x.Starts,x.Laws,())
 of:=fun p=>(⟨p.1,p.2.1,p.2.2.1,p.2.2.2.1,p.2.2.2.2.1,p.2.2.2.2.2.1,p.2.2.2.2.2.2.1,p.2.2.2.2.2.2.2.1,p.2.2.2.2.2.2.2.2.1,p.2.2.2.2.2.2.2.2.2.1,p.2.2.2.2.2.2.2.2.2.2.1,p.2.2.2.2.2.2.2.2.2.2.2.1,p.2.2.2.2.2.2.2.2.2.2.2.2.1⟩:Zq)
def Zfa:TI tT 15 where
 comps:=[.str,.str,.int .i64]
 to:=fun (x:NS)=>(x.From,x.To,x.Delay,())
 of:=fun p=>(⟨p.1,p.2.1,p.2.2.1⟩:NS)
def ZdL:TI tT 16 where
 comps:=[.str,.lst 3 (.row 0),.lst 13 (.row 14),.lst 3 (.row 15)]
 to:=fun (x:Ob)=>(x.Name,x.Params,x.Sites,x.Links,())
 of:=fun p=>(⟨p.1,p.2.1,p.2.2.1,p.2.2.2.1⟩:Ob)
def ZdI:TI tT 17 where
 comps:=[.bool]
 to:=fun (x:Y6)=>(x.code,())
 of:=fun p=>(⟨p.1⟩:Y6)
def Zf8:TI tT 18 where
 comps:=[.bool,.bool,.bool,.bool,.bool,.bool,.bool,.bool,.bool]
 to:=fun (x:QL)=>(x.name,x.of,x.e,x.f,x.args,x.dist,x.flag,x.body,x.other,())
 of:=fun p=>(⟨p.1,p.2.1,p.2.2.1,p.2.2.2.1,p.2.2.2.2.1,p.2.2.2.2.2.1,p.2.2.2.2.2.2.1,p.2.2.2.2.2.2.2.1,p.2.2.2.2.2.2.2.2.1⟩:QL)
def ZcQ:TI tT 19 where
 comps:=[.bool,.bool,.bool,.bool,.bool,.bool,.bool,.bool,.bool]
 to:=fun (x:ZL)=>(x.Name,x.Of,x.E,x.F,x.Args,x.Dist,x.Flag,x.Body,x.Else,())
 of:=fun p=>(⟨p.1,p.2.1,p.2.2.1,p.2.2.2.1,p.2.2.2.2.1,p.2.2.2.2.2.1,p.2.2.2.2.2.2.1,p.2.2.2.2.2.2.2.1,p.2.2.2.2.2.2.2.2.1⟩:ZL)
def ZcS:TI tT 20 where
 comps:=[.bool,.str]
 to:=fun (x:XZ)=>(x.is,x.name,())
 of:=fun p=>(⟨p.1,p.2.1⟩:XZ)
def ZcR:TI tT 21 where
 comps:=[.bool,.row 8]
 to:=fun (x:XY)=>(x.is,x.e,())
 of:=fun p=>(⟨p.1,p.2.1⟩:XY)
def tI:(τ:Nat)→TI tT τ
 | 0=>ZdN
 | 1=>ZcP
 | 2=>ZeY
 | 3=>ZdJ
 | 4=>Bh
 | 5=>CE
 | 6=>ZaI
 | 7=>ZdK
 | 8=>ZeZ
 | 9=>Zfb
 | 10=>ZbD
 | 11=>ZdM
 | 12=>Zfc
 | 13=>Zf7
 | 14=>ZaJ
 | 15=>Zfa
 | 16=>ZdL
 | 17=>ZdI
 | 18=>Zf8
 | 19=>ZcQ
 | 20=>ZcS
 | 21=>ZcR
 | _ + 22=>⟨[.int .i64],fun (x:Int)=>(x,()),fun p=>p.1⟩
theorem Zf0:TIok tT tI where
 row:=fun τ=>match τ with
  | 0=>fun (x:VO)=>by first | rfl | (show N8 x=_; unfold N8; (try simp only [List.append_assoc,List.cons_append,List.nil_append]); rfl)
  | 1=>fun (x:Qy)=>by first | rfl | (show Dc x=_; unfold Dc; (try simp only [List.append_assoc,List.cons_append,List.nil_append]); rfl)
  | 2=>fun (x:ZF)=>by first | rfl | (show Tv x=_; unfold Tv; (try simp only [List.append_assoc,List.cons_append,List.nil_append]); rfl)
  | 3=>fun (x:Hw)=>by first | rfl | (show AY x=_; unfold AY; (try simp only [List.append_assoc,List.cons_append,List.nil_append]); rfl)
  | 4=>fun (x:Zt)=>by first | rfl | (show QB x=_; unfold QB; (try simp only [List.append_assoc,List.cons_append,List.nil_append]); rfl)
  | 5=>fun (x:Yx)=>by first | rfl | (show JW x=_; unfold JW; (try simp only [List.append_assoc,List.cons_append,List.nil_append]); rfl)
  | 6=>fun (x:YS)=>by first | rfl | (show KZ x=_; unfold KZ; (try simp only [List.append_assoc,List.cons_append,List.nil_append]); rfl)
  | 7=>fun (x:Qk)=>by first | rfl | (show N7 x=_; unfold N7; (try simp only [List.append_assoc,List.cons_append,List.nil_append]); rfl)
  | 8=>fun (x:Zi)=>by first | rfl | (show WZ x=_; rw [Df]; (try simp only [List.append_assoc,List.cons_append,List.nil_append]); rfl)
  | 9=>fun (x:Zd)=>by first | rfl | (show Wj x=_; rw [Dh]; (try simp only [List.append_assoc,List.cons_append,List.nil_append]); rfl)
  | 10=>fun (x:Yu)=>by first | rfl | (show IZ x=_; unfold IZ; (try simp only [List.append_assoc,List.cons_append,List.nil_append]); rfl)
  | 11=>fun (x:Kt)=>by first | rfl | (show AZ x=_; unfold AZ; (try simp only [List.append_assoc,List.cons_append,List.nil_append]); rfl)
  | 12=>fun (x:DV)=>by first | rfl | (show Zcb x=_; unfold Zcb; (try simp only [List.append_assoc,List.cons_append,List.nil_append]); rfl)
  | 13=>fun (x:Zb4)=>by first | rfl | (show ZeK x=_; unfold ZeK; (try simp only [List.append_assoc,List.cons_append,List.nil_append]); rfl)
  | 14=>fun (x:Zq)=>by first | rfl | (show Gf x=_; unfold Gf; (try simp only [List.append_assoc,List.cons_append,List.nil_append]); rfl)
  | 15=>fun (x:NS)=>by first | rfl | (show Zca x=_; unfold Zca; (try simp only [List.append_assoc,List.cons_append,List.nil_append]); rfl)
  | 16=>fun (x:Ob)=>by first | rfl | (show Zbi x=_; unfold Zbi; (try simp only [List.append_assoc,List.cons_append,List.nil_append]); rfl)
  | 17=>fun (x:Y6)=>by first | rfl | (show Zbh x=_; unfold Zbh; (try simp only [List.append_assoc,List.cons_append,List.nil_append]); rfl)
  | 18=>fun (x:QL)=>by first | rfl | (show Zfp x=_; unfold Zfp; (try simp only [List.append_assoc,List.cons_append,List.nil_append]); rfl)
  | 19=>fun (x:ZL)=>by first | rfl | (show EC x=_; unfold EC; (try simp only [List.append_assoc,List.cons_append,List.nil_append]); rfl)
  | 20=>fun (x:XZ)=>by first | rfl | (show ED x=_; unfold ED; (try simp only [List.append_assoc,List.cons_append,List.nil_append]); rfl)
  | 21=>fun (x:XY)=>by first | rfl | (show Tz x=_; unfold Tz; (try simp only [List.append_assoc,List.cons_append,List.nil_append]); rfl) | (show Tz x=_; unfold Tz; exact congrArg (_ ++ ·) (List.append_nil (WZ x.e)).symm)
  | _ + 22=>fun (x:Int)=>rfl
 inv:=fun τ=>match τ with
  | 0=>fun p=>rfl
  | 1=>fun p=>rfl
  | 2=>fun p=>rfl
  | 3=>fun p=>rfl
  | 4=>fun p=>rfl
  | 5=>fun p=>rfl
  | 6=>fun p=>rfl
  | 7=>fun p=>rfl
  | 8=>fun p=>rfl
  | 9=>fun p=>rfl
  | 10=>fun p=>rfl
  | 11=>fun p=>rfl
  | 12=>fun p=>rfl
  | 13=>fun p=>rfl
  | 14=>fun p=>rfl
  | 15=>fun p=>rfl
  | 16=>fun p=>rfl
  | 17=>fun p=>rfl
  | 18=>fun p=>rfl
  | 19=>fun p=>rfl
  | 20=>fun p=>rfl
  | 21=>fun p=>rfl
  | _ + 22=>fun p=>rfl
 nc:=fun τ=>match τ with
  | 0=>rfl
  | 1=>rfl
  | 2=>rfl
  | 3=>rfl
  | 4=>rfl
  | 5=>rfl
  | 6=>rfl
  | 7=>rfl
  | 8=>rfl
  | 9=>rfl
  | 10=>rfl
  | 11=>rfl
  | 12=>rfl
  | 13=>rfl
  | 14=>rfl
  | 15=>rfl
  | 16=>rfl
  | 17=>rfl
  | 18=>rfl
  | 19=>rfl
  | 20=>rfl
  | 21=>rfl
  | _ + 22=>rfl
 pos:=fun τ=>match τ with
  | 0=>by decide
  | 1=>by decide
  | 2=>by decide
  | 3=>by decide
  | 4=>by decide
  | 5=>by decide
  | 6=>by decide
  | 7=>by decide
  | 8=>by decide
  | 9=>by decide
  | 10=>by decide
  | 11=>by decide
  | 12=>by decide
  | 13=>by decide
  | 14=>by decide
  | 15=>by decide
  | 16=>by decide
  | 17=>by decide
  | 18=>by decide
  | 19=>by decide
  | 20=>by decide
  | 21=>by decide
  | n + 22=>Nat.one_pos
 ck:=fun τ=>match τ with
  | 0=>rfl
  | 1=>rfl
  | 2=>rfl
  | 3=>rfl
  | 4=>rfl
  | 5=>rfl
  | 6=>rfl
  | 7=>rfl
  | 8=>rfl
  | 9=>rfl
  | 10=>rfl
  | 11=>rfl
  | 12=>rfl
  | 13=>rfl
  | 14=>rfl
  | 15=>rfl
  | 16=>rfl
  | 17=>rfl
  | 18=>rfl
  | 19=>rfl
  | 20=>rfl
  | 21=>rfl
  | n + 22=>rfl
def tEt:List (Nat×ET):=[(2,.int .i64),(3,.int .i64),(4,.bool),(5,.int .u8),(6,.int .u8),(9,.str),(10,.str),(11,.str),(12,.int .u64),(21,.int .i32),(22,.int .i64),(23,.lst 4 (.row 8)),(25,.row 8),(28,.int .i64),(32,.lst 21 (.row 9)),(36,.lst 3 (.row 0)),(37,.lst 13 (.row 14)),(38,.lst 3 (.row 15)),(40,.row 16),(57,.int .i64),(58,.int .i64),(59,.lst 1 (.int .i64)),(61,.row 2),(63,.row 9),(64,.lst 17 (.row 4)),(65,.lst 3 (.row 5)),(66,.lst 3 (.row 6)),(67,.lst 1 (.str)),(68,.lst 4 (.row 10)),(69,.lst 5 (.row 11)),(70,.lst 3 (.row 13)),(72,.row 14),(78,.lst 1 (.int .u8)),(87,.lst 2 (.row 7)),(89,.row 10),(90,.lst 2 (.row 1)),(92,.row 3),(94,.row 4),(100,.row 15),(118,.row 17),(141,.int .i64),(143,.row 0),(147,.int .i64),(149,.row 5),(152,.row 6),(156,.row 11),(158,.lst 3 (.row 12)),(160,.row 13),(180,.lst 1 (.int .i64)),(181,.int .i64),(201,.row 18),(235,.int .u64),(241,.row 1),(244,.row 7),(248,.row 12),(252,.lst 1 (.lst 1 (.str))),(270,.row 20),(271,.lst 2 (.row 20)),(272,.row 21),(273,.lst 5 (.row 21)),(277,.row 19),(294,.int .u32),(297,.int .u64),(321,.lst 1 (.lst 2 (.row 7))),(347,.int .i64),(372,.int .u8),(373,.int .u8),(375,.int .i32),(376,.int .i32)]
def ZdP:List (Nat×ET)→Nat→Option ET
 | [],_=>none
 | (t,e) :: l,u=>bif Nat.beq t u then some e else ZdP l u
@[reducible] def tF:TF tT:=mkF tI (ZdP tEt)
theorem Zv:TFok tF:=mkF_ok Zf0 _
end Go.Proofs.YtbcfddaocfpckaaGreatDoor
end
section
namespace Go.Proofs.YtbcfddaocfpckaaGreatDoor.Tl
open Go Go.Proofs.YtbcfddaocfpckaaGreatDoor.Abs
section
variable {T:TT}{F:TF T}(ok:TFok F){TG:Nat→Option (List (TV T))}
theorem orQ_ok {call:CallF}[HasP call]{Q1 Q2:QT T}(h1:QS F call Q1)(h2:QS F call Q2):QS F call (orQ Q1 Q2):=by
 intro f vs fr q h
 unfold orQ at h
 cases hq:Q1 f vs fr with
 | some q'=>simp only [hq,Option.some.injEq] at h; subst h; exact h1 f vs fr q' hq
 | none=>simp only [hq] at h; exact h2 f vs fr q h
include ok
theorem inlQ_ok {C:Cfg}[HasP (evalCall C)]{L:Nat}(hL:C.L=L + 64){Q:QT T}(hG:GR TG C.G)(hQ:QS F (evalCall C) Q){f:FuncId}{fn:AFn}(A:List LN)(d:RD)(hf:C.T f=some fn)(hk:fn.keep=false):QS F (evalCall C) (inlQ F TG Q L f fn A d):=by
 intro f' vs fr q h
 unfold inlQ at h
 cases hb:Nat.beq f f' with
 | false=>rw [hb,cond_false] at h; cases h
 | true =>
  rw [hb,cond_true] at h
  have:=Nat.eq_of_beq_eq_true hb; subst this
  cases h
  intro E J hp0 ad hp avs hh hv x hx
  exact fnT_ok ok hL hG hQ hf hk hx hh hv ad
omit ok in
theorem noOwn_nm {ad:List Nat}{d:RD}(hd:d.noOwn=true){x:d.Ty T}{a:AV}(h:VR ad (d.tv T x) a):VR ad (d.tv T x) a.nm:=by
 have:=h.nm
 cases d with
 | one d=>cases d <;> first | exact this | cases hd
 | tup l=>exact this
omit ok in
theorem _root_.Go.Proofs.YtbcfddaocfpckaaGreatDoor.Tl.SR.weakJ {N:Nat}{E:List Nat}{J J':Nat}{hp0:List AObj}{ad:List Nat}{te:TE T}{fr:FR T}{s:AState}(h:SR F N E J hp0 ad te fr s)(hJ:J≤J'):SR F N E J' hp0 ad te fr s :=
 ⟨h.hs,h.sl,h.ef,h.bs,⟨h.hp.old,h.hp.le,h.hp.al,h.hp.nd,fun j g hj=>⟨(h.hp.bd j g hj).1,fun hle=>(h.hp.bd j g hj).2 (Nat.le_trans hJ hle)⟩,h.hp.ob,h.hp.el⟩,h.un⟩
theorem decR_nm {N:Nat}{E:List Nat}{J:Nat}{hp0:List AObj}{ad:List Nat}{te:TE T}{fr:FR T}{s:AState}(hs:SR F N E J hp0 ad te fr s){rs:List ARes}{d:RD}{x:d.Ty T}(h:decR F N fr.length te fr rs d=some x)(hd:d.noOwn=true){v:AV}(hv:resultOf s rs=some v)(ad':List Nat):VR ad' (d.tv T x) v.nm:=by
 cases d with
 | one d =>
  simp only [decR] at h
  split at h
  ·rename_i q
   obtain ⟨w,h1,h2⟩:=Option.bind_eq_some_iff.1 h
   obtain ⟨a,h3,h4⟩:=resT_ok ok hs h1
   have:v=a:=by
    have h5:resVal s q=some v:=hv
    rw [h3] at h5; cases h5; rfl
   subst this
   refine noOwn_nm hd (d := .one d) ?_
   unfold arrD at h2
   split at h2
   ·rename_i k e j o len k'
    obtain ⟨h5,h6⟩:=cond_some h2
    simp only [Bool.and_eq_true] at h5
    have hJ:=Nat.le_of_ble_eq_true h5.1.2
    split at h6
    ·rename_i b hb
     have:=(List.getElem?_eq_some_iff.1 hb).1
     omega
    ·cases h6
   ·exact dec_ok ok h4 h2 ad'
  ·cases h
 | tup l =>
  simp only [decR] at h
  split at h
  ·cases h
  ·rename_i hne
   obtain ⟨vs,h1,h2⟩:=Option.bind_eq_some_iff.1 h
   obtain ⟨az,h3,h4⟩:=ressT_ok ok hs h1
   have:resultOf s rs=(resVals s rs).map .tup:=by
    unfold resultOf
    split
    ·rename_i q; exact absurd rfl (hne q)
    ·rfl
   rw [this,h3] at hv
   cases hv
   exact .tup _ _ (decL_ok ok ad' h4 h2)
omit ok in
theorem _root_.Go.Proofs.YtbcfddaocfpckaaGreatDoor.Tl.HR.after {E:List Nat}{J:Nat}{hp0:List AObj}{ad:List Nat}{fr f1:FR T}{hp hp':List AObj}(hh:HR F E J hp0 ad fr hp){E':List Nat}{J':Nat}(h:HR F E' J' hp ad f1 hp')(hE:∀ j,inN j E'=true→mayT E J j=true):HR F E J hp0 ad f1 hp' where
 old:=fun g o hg hE0=>by
  refine h.old g o (hh.old g o hg hE0) fun j hj e=>?_
  have hl:=(List.getElem?_eq_some_iff.1 hg).1
  have:=hE j hj
  unfold mayT at this
  rw [Bool.or_eq_true] at this
  rcases this with h1 | h1
  ·have:=(hh.bd j g e).2 (Nat.le_of_ble_eq_true h1); omega
  ·exact hE0 j h1 e
 le:=Nat.le_trans hh.le h.le
 al:=h.al
 nd:=h.nd
 bd:=fun j g hj=>⟨(h.bd j g hj).1,(hh.bd j g hj).2⟩
 ob:=h.ob
 el:=hh.el
omit ok in
theorem putE_wd {W:List Nat}{fr f:FR T}(h:FRel W fr f):FGrow fr f:=fun j b hb=>by
 obtain ⟨b0,i1,i2,i3,i4,i5⟩:=h.ob j b hb
 refine ⟨b0,i1,i2,i3,?_,?_⟩
 ·cases hj:inN j W with
  | true=>exact Nat.le_of_lt (i5 hj)
  | false=>rw [i4 hj]; exact Nat.le_refl _
 ·intro e
  cases hj:inN j W with
  | true=>have:=i5 hj; omega
  | false=>exact i4 hj
theorem fnE_ok {C:Cfg}[HasP (evalCall C)]{L:Nat}(hL:C.L=L + 64){Q:QT T}(hG:GR TG C.G)(hQ:QS F (evalCall C) Q){f:FuncId}{fn:AFn}{A:List LN}{d:RD}{B:LA}{vs:List (TV T)}{fr:FR T}{y:d.Ty T×Acc T B}(hf:C.T f=some fn)(hk:fn.keep=false)(h:fnE F TG Q L fn A d B vs fr=some y)
  {E0:List Nat} {J0:Nat} {hq hp:List AObj} {ad:List Nat} {avs:List AV} (hh:HR F E0 J0 hq ad fr hp) (hv:LR ad vs avs) {f1:FR T} (hf1:putF F (spoilF (cellsOf B) 0 fr) B y.2=some f1) :
  ∃ a hp' e,(∀ ad',VR ad' (d.tv T y.1) a)∧(Ev fun n=>evalCall C n f avs hp=some (a,hp',e))∧HR F (cellsOf B) fr.length hp ad f1 hp'∧EfOk (cellsOf B) ad e∧FGrow fr f1∧UnOk hp hp' e:=by
 unfold fnE at h
 obtain ⟨h0,h⟩:=cond_some h
 rw [Bool.and_eq_true] at h0
 have hE:∀ j,inN j (cellsOf B)=true→j < fr.length:=fun j hj=>by
  have:=List.all_eq_true.1 h0.1 j (inN_mem hj)
  exact Nat.lt_of_succ_le (by simpa [Nat.blt] using this)
 have hs:SR F fn.ntmps (cellsOf B) fr.length hp ad (argT vs) fr ⟨avs ++ List.replicate (fn.ntmps - avs.length) .undef,hp,none,hp.length⟩:=SR.enter hh hE hv
 letI:PanC (d.Ty T×Acc T B):=⟨fun _=>none⟩
 rcases codeT_ok ok hG hQ fn.code h hs with ⟨ex,te',fr',ad1,s',h1,h2⟩ | hp
 rotate_left
 ·obtain ⟨z,hz,_⟩:=hp
  cases hz
 have hex:∀ id,ex≠.exit id:=fun id e=>by subst e; simp [Out,lookT] at h1
 have h1:lastE F fn.ntmps fn.results d B fr (fun x a=>(x,a)) te' fr'=some y:=by
  cases ex with
  | normal=>exact h1
  | exit id=>exact absurd rfl (hex id)
  | ret=>exact h1
 ·unfold lastE at h1
  split at h1
  ·rename_i hsame
   split at h1
   ·rename_i x a hx ha
    cases h1
    obtain ⟨w,rfl⟩:=h2.gr.ad
    have hJJ:fr.length≤fr'.length:=by rw [← h2.sr.hp.al,← hs.hp.al,List.length_append]; omega
    obtain ⟨v,b,i1,i2,i3⟩:=decR_ok ok (h2.sr.weakJ hJJ) hx []
    have i3':∀ ad',VR ad' (d.tv T x) b:=fun ad'=>by
     obtain ⟨v',b',j1,j2,j3⟩:=decR_ok ok (h2.sr.weakJ hJJ) hx ad'
     rw [i1] at j1; cases j1
     rw [i2] at j2; cases j2
     exact j3
    obtain ⟨k1,k2⟩:=putF_ok ok h2.sr ha hf1 (W := cellsOf B) (fun j hj=>hj) (hs.hp.spoil ok h2.sr.hp fun j b hb=>by
     obtain ⟨b',q1,q2,q3,q4,q5⟩:=h2.gr.fr j b hb
     refine ⟨b',q1,q2,q3,fun hj=>q5 ?_⟩
     exact (sameF_ok hsame hb q1 (by rw [Nat.zero_add]; exact hj)).symm) (spoilF_rel (cellsOf B) fr)
    have hbs:s'.bs=hp.length:=h2.sr.bs
    have hle:=h2.sr.hp.le
    have back:∃ a' hp' ,finish v s' hp=(a',hp',s'.ef)∧(∀ ad',VR ad' (d.tv T x) a')∧hp.length≤hp'.length∧(∀ g,g < hp.length→hp'[g]? = s'.hp[g]?):=by
     cases he:s'.ef with
     | none =>
      refine ⟨b,hp,by simp only [finish,i2,he],i3',Nat.le_refl _,fun g hg=>?_⟩
      have:=h2.sr.un g hp[g] (List.getElem?_eq_getElem hg) fun a c hac=>by rw [he] at hac; cases hac
      rw [this,List.getElem?_eq_getElem hg]
     | some p =>
      by_cases hu:(s'.hp.take s'.bs).all (AObj.under s'.bs)=true
      ·refine ⟨b,s'.hp.take s'.bs,by simp only [finish,i2,he,hu,if_true],i3',by rw [List.length_take,hbs,Nat.min_eq_left hle]; exact Nat.le_refl _,fun g hg=>?_⟩
       rw [hbs,List.getElem?_take_of_lt hg]
      ·refine ⟨v.nm,s'.hp,by simp only [finish,i2,he,hu,Bool.false_eq_true,if_false],?_,hle,fun _ _=>rfl⟩
       exact fun ad'=>decR_nm ok h2.sr hx h0.2 i1 ad'
    obtain ⟨a',hp',b1,b2,b3,b4⟩:=back
    refine ⟨a',hp',s'.ef,b2,?_,?_,h2.sr.ef.shrink hs.hp,putE_wd k2,fun g o hg hac=>?_⟩
    ·obtain ⟨n0,hn⟩:=h2.ev
     refine ⟨n0 + 1,fun n hle=>?_⟩
     obtain ⟨m,rfl⟩:∃ m,n=m + 1:=⟨n - 1,by omega⟩
     cases ex with
     | exit id=>exact absurd rfl (hex id)
     | normal=>simp only [evalCall,hf,hL,hn m (by omega),i1,hk,Bool.false_eq_true,if_false,b1]
     | ret=>simp only [evalCall,hf,hL,hn m (by omega),i1,hk,Bool.false_eq_true,if_false,b1]
    ·refine ⟨fun g o hg hE'=>?_,b3,k1.al,k1.nd,fun j g hj=>?_,fun j c hj=>?_,k1.el⟩
     ·have hl:=(List.getElem?_eq_some_iff.1 hg).1
      rw [b4 g hl]
      exact k1.old g o hg hE'
     ·have hg:=(hh.bd j g hj).1
      refine ⟨Nat.lt_of_lt_of_le hg b3,fun hle=>?_⟩
      have:=(List.getElem?_eq_some_iff.1 hj).1
      rw [hh.al] at this
      omega
     ·obtain ⟨g,o,q1,q2,q3⟩:=k1.ob j c hj
      exact ⟨g,o,q1,by rw [b4 g (hh.bd j g q1).1]; exact q2,q3⟩
    ·have hl:=(List.getElem?_eq_some_iff.1 hg).1
     rw [b4 g hl]
     exact h2.sr.un g o hg hac
   ·cases h1
  ·cases h1
theorem inlE_ok {C:Cfg}[HasP (evalCall C)]{L:Nat}(hL:C.L=L + 64){Q:QT T}(hG:GR TG C.G)(hQ:QS F (evalCall C) Q){f:FuncId}{fn:AFn}(A:List LN)(d:RD)(B:LA)(hf:C.T f=some fn)(hk:fn.keep=false):QS F (evalCall C) (inlE F TG Q L f fn A d B):=by
 intro f' vs fr q h
 unfold inlE at h
 cases hb:Nat.beq f f' with
 | false=>rw [hb,cond_false] at h; cases h
 | true =>
  rw [hb,cond_true] at h
  have:=Nat.eq_of_beq_eq_true hb; subst this
  cases h
  intro E J hp0 ad hp avs hh hv x v fr' hx hg hE
  obtain ⟨f1,hf1,e1⟩:=Option.map_eq_some_iff.1 hg
  cases e1
  obtain ⟨a,hp',e,i1,i2,i3,i4,i5,i6⟩:=fnE_ok ok hL hG hQ hf hk hx hh hv hf1
  exact ⟨a,hp',e,i1 ad,i2,hh.after i3 hE,i4,i5,i6⟩
theorem inlsQ_ok {C:Cfg}[HasP (evalCall C)]{L:Nat}(hL:C.L=L + 64){Q:QT T}(hG:GR TG C.G)(hQ:QS F (evalCall C) Q):∀ {l:List (Inl T)},(∀ i ∈ l,C.T i.f=some i.fn∧i.fn.keep=false)→QS F (evalCall C) (inlsQ F TG Q L l)
 | [],_=>fun f vs fr q h=>by cases h
 | i :: l,hl=>by
  obtain ⟨h1,h2⟩:=hl i (List.mem_cons_self ..)
  refine orQ_ok ?_ (inlsQ_ok hL hG hQ fun j hj=>hl j (List.mem_cons_of_mem _ hj))
  intro f vs fr q h
  simp only at h
  split at h
  ·exact inlQ_ok ok hL hG hQ i.A i.d h1 h2 f vs fr q h
  ·exact inlE_ok ok hL hG hQ i.A i.d _ h1 h2 f vs fr q h
theorem stackQ_ok {C:Cfg}[HasP (evalCall C)]{L:Nat}(hL:C.L=L + 64){S:QT T}(hG:GR TG C.G)(hS:QS F (evalCall C) S){l:List (Inl T)}(hl:∀ i ∈ l,C.T i.f=some i.fn∧i.fn.keep=false):∀ k,QS F (evalCall C) (stackQ F TG S L l k)
 | 0=>hS
 | k + 1=>orQ_ok hS (inlsQ_ok ok hL hG (stackQ_ok hL hG hS hl k) hl)
end
end Go.Proofs.YtbcfddaocfpckaaGreatDoor.Tl
end
section
namespace Go.Proofs.YtbcfddaocfpckaaGreatDoor.Tl
open Go Go.Proofs.YtbcfddaocfpckaaGreatDoor.Abs
theorem Zr {α β:Type}(a:α)(k:α→Option β):bT (some a) k=k a:=rfl
theorem Zj {α:Type}(l:List α)(i:Nat):getT l (i:Int)=l[i]?:=by
 unfold getT; rw [if_pos (Int.natCast_nonneg i)]; rfl
theorem OT {α:Type}(l:List α):getT l 0=l[0]?:=Zj l 0
theorem Zcu {α:Type}(l:List α):getT l 1=l[1]?:=Zj l 1
theorem wrap_in {n:Int}(h1:-9223372036854775808≤n)(h2:n≤9223372036854775807):IntKind.i64.wrap n=n:=IntWalk.i64_in n ⟨h1,h2⟩
theorem Zk {α:Type}{l:List α}{i:Nat}(h:i < l.length):decide ((i:Int) < (l.length:Int))=true:=by simpa using h
theorem Zf (n:Nat):decide ((n:Int) < (n:Int))=false:=by simp
theorem wrap_succ {α:Type}{l:List α}{i:Nat}(h:i < l.length)(hl:l.length≤4611686018427387904):IntKind.i64.wrap ((i:Int) + 1)=(i:Int) + 1:=wrap_in (by omega) (by omega)
theorem Zn {α:Type _}{P:α→Prop}:∀ s ∈ ([]:List α),P s:=fun s h=>by cases h
theorem Za {α:Type _}{P:α→Prop}{a:α}{l:List α}(h:P a)(hl:∀ s ∈ l,P s):∀ s ∈ a :: l,P s:=fun s hs=>by
 rcases List.mem_cons.1 hs with rfl | hs
 ·exact h
 ·exact hl s hs
theorem Y4 {α:Type _}{P:α→Prop}{l m:List α}(h:∀ s ∈ l,P s)(hm:∀ s ∈ m,P s):∀ s ∈ l ++ m,P s:=fun s hs=>by
 rcases List.mem_append.1 hs with hs | hs
 ·exact h s hs
 ·exact hm s hs
theorem ZV {T:TT}{C:Cfg}(f:FuncId)(sig:List SD)(d:RD):SumOk (T := T) C ⟨f,sig,fun _=>.par (d.Ty T) none (d.tv T)⟩:=fun x hp avs hv y hy=>by cases hy
end Go.Proofs.YtbcfddaocfpckaaGreatDoor.Tl
end
section
namespace Go.Proofs.YtbcfddaocfpckaaGreatDoor.Tl
open Go Go.Proofs.YtbcfddaocfpckaaGreatDoor.Abs
def catB (l s:List UInt8):Option (List UInt8):=if l.length + s.length≤140737488355328∧l ++ s≠[] then some (l ++ s) else none
def OM.bufL (t e:TypeId)(k:Nat):OM→Option (List UInt8×List Int)
 | .buf l t' e' m=>bif Nat.beq t t' && Nat.beq e e' && Nat.beq m.length k then some (l,m) else none
 | .buf0 t' m=>bif Nat.beq t t' && Nat.beq m.length k then some ([],m) else none
 | _=>none
def bufC {T:TT}(t e:TypeId)(k:Nat)(fr:List (TO T))(j:Nat):Option (TO T×List UInt8×List Int) :=
 match fr[j]? with
 | some b=>match b.m.bufL t e k with
  | some l=>some (b,l)
  | none=>none
 | none=>none
def bufQ {T:TT}(t e:TypeId)(k:Nat)(ws wb sb ln:FuncId):QT T:=fun f vs fr =>
 bif Nat.beq ws f then (match vs with
  | [.loc j 0,.av (.str s)]=>match bufC t e k fr j with
   | some (b,l,m)=>some (.eff [j] (List UInt8) (catB l s) fun r=>some (.tup [.av (.int .i64 s.length),.av .nili],fr.set j ⟨b.s + 1,[],b.t,.buf r t e m⟩))
   | none=>none
  | _=>none)
 else bif Nat.beq wb f && Nat.blt wb 900000 then (match vs with
  | [.loc j 0,.av (.int .u8 c)]=>match bufC t e k fr j with
   | some (b,l,m)=>some (.eff [j] (List UInt8) (if 0≤c∧c < 256 then catB l [UInt8.ofNat c.toNat] else none) fun r=>some (.av .nili,fr.set j ⟨b.s + 1,[],b.t,.buf r t e m⟩))
   | none=>none
  | _=>none)
 else bif Nat.beq sb f then (match vs with
  | [.loc j 0]=>match bufC t e k fr j with
   | some (b,l,_)=>some (.eff [j] Unit (some ()) fun _=>some (.av (.str l),fr.set j ⟨b.s + 1,[],b.t,.bad⟩))
   | none=>none
  | _=>none)
 else bif Nat.beq ln f && Nat.blt ln 900000 then (match vs with
  | [.loc j 0]=>match bufC t e k fr j with
   | some (_,l,_)=>some (.tot (.av (.int .i64 l.length)))
   | none=>none
  | _=>none)
 else none
abbrev emptyB (t:TypeId)(m:List Int):AObj:=.cells (.nilp :: .nils 1 :: m.map (.int .i64)) t
abbrev fullB (l:List UInt8)(t e:TypeId)(m:List Int):AObj:=.buf l t e (m.map (.int .i64))
structure BufOk (C:Cfg)(t e:TypeId)(k:Nat)(ws wb sb ln:FuncId):Prop where
 ws0:∀ (n p:Nat) (s:List UInt8) (m:List Int) (hp:List AObj),m.length=k→hp[p]? = some (emptyB t m)→s.length≤140737488355328→evalCall C (n + 1) ws [.ptr p 0,.str s] hp=some (.tup [.int .i64 s.length,.nili],hp.set p (fullB s t e m),some (p,0))
 ws1:∀ (n p:Nat) (s l:List UInt8) (m:List Int) (hp:List AObj),m.length=k→hp[p]? = some (fullB l t e m)→l.length + s.length≤140737488355328→evalCall C (n + 1) ws [.ptr p 0,.str s] hp=some (.tup [.int .i64 s.length,.nili],hp.set p (fullB (l ++ s) t e m),some (p,0))
 wb0:wb < 900000→∀ (n p:Nat) (c:Int) (m:List Int) (hp:List AObj),m.length=k→hp[p]? = some (emptyB t m)→0≤c∧c < 256→evalCall C (n + 1) wb [.ptr p 0,.int .u8 c] hp=some (.nili,hp.set p (fullB [UInt8.ofNat c.toNat] t e m),some (p,0))
 wb1:wb < 900000→∀ (n p:Nat) (c:Int) (l:List UInt8) (m:List Int) (hp:List AObj),m.length=k→hp[p]? = some (fullB l t e m)→l.length + 1≤140737488355328→0≤c∧c < 256→evalCall C (n + 1) wb [.ptr p 0,.int .u8 c] hp=some (.nili,hp.set p (fullB (l ++ [UInt8.ofNat c.toNat]) t e m),some (p,0))
 sb0:∀ (n p:Nat) (m:List Int) (hp:List AObj),m.length=k→hp[p]? = some (emptyB t m)→evalCall C (n + 1) sb [.ptr p 0] hp=some (.str [],hp,none)
 sb1:∀ (p:Nat) (l:List UInt8) (m:List Int) (hp:List AObj),m.length=k→hp[p]? = some (fullB l t e m)→l≠[]→∃ o,∀ n,evalCall C (n + 1) sb [.ptr p 0] hp=some (.str l,hp.set p o,some (p,0))
 ln0:ln < 900000→∀ (n p:Nat) (m:List Int) (hp:List AObj),m.length=k→hp[p]? = some (emptyB t m)→evalCall C (n + 1) ln [.ptr p 0] hp=some (.int .i64 0,hp,none)
 ln1:ln < 900000→∀ (n p:Nat) (l:List UInt8) (m:List Int) (hp:List AObj),m.length=k→hp[p]? = some (fullB l t e m)→l≠[]→evalCall C (n + 1) ln [.ptr p 0] hp=some (.int .i64 l.length,hp,none)
section
variable {T:TT}{F:TF T}
theorem bufL_ok {ad:List Nat}{b:TO T}{o:AObj}{t e:TypeId}{k:Nat}{l:List UInt8}{m:List Int}(hb:OR ad b o)(h:b.m.bufL t e k=some (l,m)):m.length=k∧b.c=[]∧b.m.isNo=false∧((l=[]∧o=emptyB t m)∨(l≠[]∧o=fullB l t e m)):=by
 cases hb with
 | cells cs hm _=>rw [hm] at h; cases h
 | bad o hm _=>rw [hm] at h; cases h
 | map0 hm hc=>rw [hm] at h; cases h
 | map m l hm hc=>rw [hm] at h; cases h
 | buf0 t m hm hc =>
  rw [hm] at h
  obtain ⟨h1,h2⟩:=cond_some h
  cases h2
  simp only [Bool.and_eq_true] at h1
  have:=Nat.eq_of_beq_eq_true h1.1; subst this
  exact ⟨Nat.eq_of_beq_eq_true h1.2,hc,by rw [hm]; rfl,.inl ⟨rfl,rfl⟩⟩
 | bufN t e' m hm hc =>
  rw [hm] at h
  obtain ⟨h1,h2⟩:=cond_some h
  cases h2
  simp only [Bool.and_eq_true] at h1
  have:=Nat.eq_of_beq_eq_true h1.1.1; subst this
  exact ⟨Nat.eq_of_beq_eq_true h1.2,hc,by rw [hm]; rfl,.inl ⟨rfl,rfl⟩⟩
 | buf l t e' m hm hc hl =>
  rw [hm] at h
  obtain ⟨h1,h2⟩:=cond_some h
  cases h2
  simp only [Bool.and_eq_true] at h1
  have:=Nat.eq_of_beq_eq_true h1.1.1; subst this
  have:=Nat.eq_of_beq_eq_true h1.1.2; subst this
  exact ⟨Nat.eq_of_beq_eq_true h1.2,hc,by rw [hm]; rfl,.inr ⟨hl,rfl⟩⟩
theorem bufC_ok {E:List Nat}{J:Nat}{hp0:List AObj}{ad:List Nat}{fr:FR T}{hp:List AObj}(hh:HR F E J hp0 ad fr hp){t e:TypeId}{k j:Nat}{b:TO T}{l:List UInt8}{m:List Int}(h:bufC t e k fr j=some (b,l,m)) :
  fr[j]? = some b∧m.length=k∧b.c=[]∧b.m.isNo=false∧∃ g,ad[j]? = some g∧((l=[]∧hp[g]? = some (emptyB t m))∨(l≠[]∧hp[g]? = some (fullB l t e m))):=by
 unfold bufC at h
 split at h
 ·rename_i b' hb
  split at h
  ·rename_i l' hl
   cases h
   obtain ⟨g,o,h1,h2,h3⟩:=hh.ob j b hb
   obtain ⟨hk,hc,hn,ho⟩:=bufL_ok h3 hl
   refine ⟨hb,hk,hc,hn,g,h1,?_⟩
   rcases ho with ⟨h4,rfl⟩ | ⟨h4,rfl⟩
   ·exact .inl ⟨h4,h2⟩
   ·exact .inr ⟨h4,h2⟩
  ·cases h
 ·cases h
theorem ev_at {C:Cfg}[HasP (evalCall C)]{f:FuncId}{avs:List AV}{hp:List AObj}{r:AV×List AObj×Eff}(h:∀ n,evalCall C (n + 1) f avs hp=some r):Ev fun n=>evalCall C n f avs hp=some r:=⟨1,fun n hn=>by
 obtain ⟨k,rfl⟩:∃ k,n=k + 1:=⟨n - 1,by omega⟩
 exact h k⟩
theorem buf_args {ad:List Nat}{j:Nat}{v:TV T}{avs:List AV}(h:LR ad [.loc j 0,v] avs):∃ g a,ad[j]? = some g∧avs=[.ptr g 0,a]∧VR ad v a:=by
 cases h with | cons _ a h1 _ _ h2=>cases h2 with | cons _ b h3 _ _ h4=>cases h4 with | nil=>cases h1 with | loc _ _ g hg=>exact ⟨g,b,hg,rfl,h3⟩
theorem FGrow.cont {fr:FR T}{j:Nat}{b b':TO T}(hb:fr[j]? = some b)(ht:b'.ty=b.ty)(hw:wdL b'.c=wdL b.c)(hs:b.s < b'.s):FGrow fr (fr.set j b'):=fun i c hi=>by
 by_cases e:i=j
 ·subst e
  rw [hb] at hi; cases hi
  exact ⟨b',by rw [List.getElem?_set_self (List.getElem?_eq_some_iff.1 hb).1],ht,hw,by omega,fun e=>by omega⟩
 ·exact ⟨c,by rw [List.getElem?_set_ne (by omega)]; exact hi,rfl,rfl,Nat.le_refl _,fun _=>rfl⟩
theorem un_at {hp:List AObj}{g:Nat}{o:AObj}:UnOk hp (hp.set g o) (some (g,0)):=fun g' o' h1 h2=>by
 have:=h2 g 0 rfl
 rw [List.getElem?_set_ne (by omega)]; exact h1
theorem inN_one {j i:Nat}(h:i=j):inN i [j]=true:=by subst h; simp [inN]
theorem bufQ_ok {C:Cfg}[HasP (evalCall C)]{t e:TypeId}{k:Nat}{ws wb sb ln:FuncId}(ok:BufOk C t e k ws wb sb ln):QS F (evalCall C) (bufQ (T := T) t e k ws wb sb ln):=by
 intro f vs fr q h
 unfold bufQ at h
 have put:∀ {E:List Nat} {J:Nat} {hp0:List AObj} {ad:List Nat} {hp:List AObj} {j g:Nat} {b:TO T} {r:List UInt8} {m:List Int},HR F E J hp0 ad fr hp→fr[j]? = some b→b.c=[]→b.m.isNo=false→ad[j]? = some g→mayT E J j=true→r≠[] →
   HR F E J hp0 ad (fr.set j ⟨b.s + 1,[],b.t,.buf r t e m⟩) (hp.set g (fullB r t e m))∧EfOk [j] ad (some (g,0))∧FGrow fr (fr.set j ⟨b.s + 1,[],b.t,.buf r t e m⟩)∧UnOk hp (hp.set g (fullB r t e m)) (some (g,0)):=by
  intro E J hp0 ad hp j g b r m hh hb hc hn hg hJ hr
  refine ⟨hh.store hb hg hJ (.buf r t e m rfl rfl hr),fun a c he=>?_,FGrow.cont hb ?_ (by rw [hc]) (Nat.lt_succ_self _),un_at⟩
  ·cases he; exact ⟨j,g,inN_one rfl,hg,Nat.le_refl _⟩
  ·show (b.t,false)=(b.t,b.m.isNo); rw [hn]
 have cat:∀ {l s r:List UInt8},catB l s=some r→l.length + s.length≤140737488355328∧r=l ++ s∧r≠[]:=by
  intro l s r h
  unfold catB at h
  split at h
  ·rename_i hc; cases h; exact ⟨hc.1,rfl,hc.2⟩
  ·cases h
 cases h1:Nat.beq ws f with
 | true =>
  have:=Nat.eq_of_beq_eq_true h1; subst this
  rw [h1,cond_true] at h
  split at h <;> first | (cases h; done) | skip
  rename_i j s
  split at h <;> first | (cases h; done) | skip
  rename_i b l m hbc
  cases h
  intro E J hp0 ad hp avs hh hv r v fr' hr hg hE
  cases hg
  obtain ⟨g,a,ha,rfl,h2⟩:=buf_args hv
  have:=h2.str; subst this
  obtain ⟨hb,hk,hc,hn,g',hg',ho⟩:=bufC_ok hh hbc
  rw [ha] at hg'; cases hg'
  obtain ⟨e1,rfl,e3⟩:=cat hr
  obtain ⟨p1,p2,p3,p4⟩:=put hh hb hc hn ha (hE j (inN_one rfl)) e3
  refine ⟨.tup [.int .i64 s.length,.nili],_,_,.tup _ _ (.cons _ _ (.av _ _ (.inl rfl)) _ _ (.cons _ _ (.av _ _ (.inl rfl)) _ _ .nil)),?_,p1,p2,p3,p4⟩
  rcases ho with ⟨rfl,ho⟩ | ⟨hl,ho⟩
  ·exact ev_at fun n=>ok.ws0 n g s m hp hk ho (by simpa using e1)
  ·exact ev_at fun n=>ok.ws1 n g s l m hp hk ho e1
 | false =>
 rw [h1,cond_false] at h
 cases h1:(Nat.beq wb f && Nat.blt wb 900000) with
 | true =>
  rw [h1,cond_true] at h
  rw [Bool.and_eq_true] at h1
  have:=Nat.eq_of_beq_eq_true h1.1; subst this
  have hlt:wb < 900000:=Nat.le_of_ble_eq_true h1.2
  split at h <;> first | (cases h; done) | skip
  rename_i j c
  split at h <;> first | (cases h; done) | skip
  rename_i b l m hbc
  cases h
  intro E J hp0 ad hp avs hh hv r v fr' hr hg hE
  cases hg
  obtain ⟨g,a,ha,rfl,h2⟩:=buf_args hv
  have:=h2.int; subst this
  obtain ⟨hb,hk,hc,hn,g',hg',ho⟩:=bufC_ok hh hbc
  rw [ha] at hg'; cases hg'
  split at hr
  ·rename_i hcc
   obtain ⟨e1,rfl,e3⟩:=cat hr
   obtain ⟨p1,p2,p3,p4⟩:=put hh hb hc hn ha (hE j (inN_one rfl)) e3
   refine ⟨.nili,_,_,.av _ _ (.inl rfl),?_,p1,p2,p3,p4⟩
   rcases ho with ⟨rfl,ho⟩ | ⟨hl,ho⟩
   ·exact ev_at fun n=>ok.wb0 hlt n g c m hp hk ho hcc
   ·exact ev_at fun n=>ok.wb1 hlt n g c l m hp hk ho (by simpa using e1) hcc
  ·cases hr
 | false =>
 rw [h1,cond_false] at h
 cases h1:Nat.beq sb f with
 | true =>
  have:=Nat.eq_of_beq_eq_true h1; subst this
  rw [h1,cond_true] at h
  split at h <;> first | (cases h; done) | skip
  rename_i j
  split at h <;> first | (cases h; done) | skip
  rename_i b l m hbc
  cases h
  intro E J hp0 ad hp avs hh hv r v fr' hr hg hE
  cases hg
  cases hv with | cons _ a h2 _ _ h3=>cases h3 with | nil=>cases h2 with | loc _ _ g ha =>
   obtain ⟨hb,hk,hc,hn,g',hg',ho⟩:=bufC_ok hh hbc
   rw [ha] at hg'; cases hg'
   have ty:(⟨b.s + 1,[],b.t,.bad⟩:TO T).ty=b.ty:=by show (b.t,false)=(b.t,b.m.isNo); rw [hn]
   have gr:=FGrow.cont hb (b':=⟨b.s + 1,[],b.t,.bad⟩) ty (by rw [hc]) (Nat.lt_succ_self _)
   rcases ho with ⟨rfl,ho⟩ | ⟨hl,ho⟩
   ·exact ⟨.str [],hp,none,.av _ _ (.inl rfl),ev_at fun n=>ok.sb0 n g m hp hk ho,hh.same hb ha ho (.bad _ rfl rfl),fun a c he=>(by cases he),gr,fun _ _ h _=>h⟩
   ·obtain ⟨o,hev⟩:=ok.sb1 g l m hp hk ho hl
    exact ⟨.str l,hp.set g o,some (g,0),.av _ _ (.inl rfl),ev_at hev,hh.store hb ha (hE j (inN_one rfl)) (.bad _ rfl rfl),fun a c he=>(by cases he; exact ⟨j,g,inN_one rfl,ha,Nat.le_refl _⟩),gr,un_at⟩
 | false =>
 rw [h1,cond_false] at h
 cases h1:(Nat.beq ln f && Nat.blt ln 900000) with
 | true =>
  rw [h1,cond_true] at h
  rw [Bool.and_eq_true] at h1
  have:=Nat.eq_of_beq_eq_true h1.1; subst this
  have hlt:ln < 900000:=Nat.le_of_ble_eq_true h1.2
  split at h <;> first | (cases h; done) | skip
  rename_i j
  split at h <;> first | (cases h; done) | skip
  rename_i b l m hbc
  cases h
  intro E J hp0 ad hp avs hh hv
  cases hv with | cons _ a h2 _ _ h3=>cases h3 with | nil=>cases h2 with | loc _ _ g ha =>
   obtain ⟨hb,hk,hc,hn,g',hg',ho⟩:=bufC_ok hh hbc
   rw [ha] at hg'; cases hg'
   rcases ho with ⟨rfl,ho⟩ | ⟨hl,ho⟩
   ·exact ⟨_,.av _ _ (.inl rfl),ev_at fun n=>ok.ln0 hlt n g m hp hk ho⟩
   ·exact ⟨_,.av _ _ (.inl rfl),ev_at fun n=>ok.ln1 hlt n g l m hp hk ho hl⟩
 | false=>rw [h1,cond_false] at h; cases h
end
end Go.Proofs.YtbcfddaocfpckaaGreatDoor.Tl
end
section
namespace Go.Proofs.YtbcfddaocfpckaaGreatDoor.Tl
open Go Go.Proofs.YtbcfddaocfpckaaGreatDoor.Abs
inductive OD where
 | cells (l:List SD)
 | cont (d:MD)
def OD.Ty (T:TT):OD→Type
 | .cells l=>RTy T l
 | .cont d=>d.Ty
def oneSD:SD→Bool
 | .row _=>false
 | _=>true
def OD.ok:OD→Bool
 | .cells l=>l.all oneSD
 | .cont _=>true
def OD.get {T:TT}(F:TF T):(d:OD)→TO T→Option (d.Ty T)
 | .cells l,b=>match b.m with
  | .no=>decL F l b.c
  | _=>none
 | .cont d,b=>d.get b.m
def OD.to (T:TT)(t:TypeId)(s:Nat):(d:OD)→d.Ty T→TO T
 | .cells l,x=>⟨s,tvL T l x,t,.no⟩
 | .cont d,x=>⟨s,[],t,d.om x⟩
def cellLA:Nat→List SD→LA
 | _,[]=>[]
 | o,d :: l=>.cell 0 o d :: cellLA (o + 1) l
def OD.la:OD→LA
 | .cells l=>cellLA 0 l
 | .cont d=>[.cont 0 d]
def unL (T:TT):(o:Nat)→(l:List SD)→Acc T (cellLA o l)→RTy T l
 | _,[],_=>()
 | o,_ :: l,(x,r)=>(x,unL T (o + 1) l r)
def OD.un (T:TT):(d:OD)→Acc T d.la→d.Ty T
 | .cells l,a=>unL T 0 l a
 | .cont _,a=>a.1
structure SumE (T:TT) where
 f:FuncId
 ty:TypeId
 od:OD
 sig:List SD
 rd:RD
 y:RTy T sig→od.Ty T→Option (rd.Ty T×od.Ty T)
def eQ {T:TT}(F:TF T):List (SumE T)→QT T
 | [],_,_,_=>none
 | s :: l,f,vs,fr=>bif Nat.beq s.f f then (match vs with
  | .loc j 0 :: rest=>match fr[j]? with
   | some b=>bif Nat.beq b.t s.ty then (match s.od.get F b,decL F s.sig rest with
    | some c,some x=>some (.eff [j] _ (s.y x c) fun r=>some (s.rd.tv T r.1,fr.set j (s.od.to T b.t (b.s + 1) r.2)))
    | _,_=>none) else none
   | none=>none
  | _=>none) else eQ F l f vs fr
section
variable {T:TT}{F:TF T}
theorem dec_one {d:SD}(h:oneSD d=true){τ:Nat}{y:T.D τ}:SD.dec F d (.row τ y)=none:=by
 cases d <;> first | rfl | (cases h)
theorem CR.dec (ok:TFok F){ad:List Nat}(ad':List Nat):∀ {l:List SD} {vs:List (TV T)} {cs:List AV} {x:RTy T l},l.all oneSD=true→CR ad vs cs→decL F l vs=some x→CR ad' (tvL T l x) cs
 | [],_,_,x,_,.nil,h=>.nil
 | [],_,_,x,_,.row ..,h=>by simp [decL] at h
 | [],_,_,x,_,.one ..,h=>by simp [decL] at h
 | d :: l,_,_,x,_,.nil,h=>by simp [decL] at h
 | d :: l,_,_,x,hl,.row τ y c hc vs ds hv,h=>by
  rw [List.all_cons,Bool.and_eq_true] at hl
  simp only [decL,dec_one hl.1] at h
  cases h
 | d :: l,_,_,x,hl,.one v a hv h1 vs ds hr,h=>by
  rw [List.all_cons,Bool.and_eq_true] at hl
  simp only [decL] at h
  split at h
  ·rename_i y r hy hr'
   cases h
   exact .one _ _ (dec_ok ok hv hy ad') h1 _ _ (CR.dec ok ad' hl.2 hr hr')
  ·cases h
theorem wdL_tvL:∀ {l:List SD} (x:RTy T l),l.all oneSD=true→wdL (tvL T l x)=l.length
 | [],_,_=>rfl
 | d :: l,(x,r),hl=>by
  rw [List.all_cons,Bool.and_eq_true] at hl
  simp only [tvL,wdL,List.length_cons,wdL_tvL r hl.2]
  have:(d.tv T x).wd=1:=by cases d <;> first | rfl | (cases hl.1)
  omega
theorem OD.get_ok (ok:TFok F){d:OD}(hd:d.ok=true){ad:List Nat}{b:TO T}{ob:AObj}{c:d.Ty T}(hb:OR ad b ob)(h:d.get F b=some c)(ad':List Nat)(s:Nat):OR ad' (d.to T b.t s c) ob∧(∀ c' s',(d.to T b.t s' c').ty=b.ty∧wdL (d.to T b.t s' c').c=wdL b.c):=by
 cases d with
 | cells l =>
  have hq:b.m=.no∧decL F l b.c=some c:=by
   have h':(match b.m with | .no=>decL F l b.c | _=>none)=some c:=h
   cases hm:b.m <;> rw [hm] at h' <;> first | exact ⟨rfl,h'⟩ | (exact nomatch h')
  obtain ⟨hm,h'⟩:=hq
  cases hb with
  | cells cs _ hc =>
   refine ⟨.cells cs rfl (CR.dec ok ad' hd hc h'),fun c' s'=>⟨?_,?_⟩⟩
   ·show (b.t,true)=(b.t,b.m.isNo); rw [hm]; rfl
   ·have e1:=hc.len ok
    have e2:=(CR.dec ok ad' hd hc h').len ok
    show wdL (tvL T l c')=_
    rw [wdL_tvL c' hd,← e1,e2,wdL_tvL c hd]
  | bad _ hm'=>rw [hm] at hm'; cases hm'
  | map0 hm'=>rw [hm] at hm'; cases hm'
  | map _ _ hm'=>rw [hm] at hm'; cases hm'
  | buf0 _ _ hm'=>rw [hm] at hm'; cases hm'
  | bufN _ _ _ hm'=>rw [hm] at hm'; cases hm'
  | buf _ _ _ _ hm'=>rw [hm] at hm'; cases hm'
 | cont d =>
  obtain ⟨h1,h2,h3⟩:=MD.get_ok hb h
  refine ⟨h1.or rfl rfl,fun c' s'=>⟨?_,by rw [h2]; rfl⟩⟩
  show (b.t,(d.om c').isNo)=(b.t,b.m.isNo)
  rw [h3]
  cases d <;> rfl
theorem tv_any {ad:List Nat}(ad':List Nat){d:SD}{x:d.Ty T}{a:AV}(h:VR ad (d.tv T x) a):VR ad' (d.tv T x) a:=by
 cases d <;> cases h <;> first | exact .av _ _ (by assumption) | exact .row _ _ _ (by assumption) | exact .lst _ _ _ _ (by assumption) | exact .own _ _ _
theorem CR.any {ad:List Nat}(ad':List Nat):∀ {l:List SD} {x:RTy T l} {cs:List AV},CR ad (tvL T l x) cs→CR ad' (tvL T l x) cs
 | [],_,_,.nil=>.nil
 | d :: l,(x,r),cs,h=>by
  simp only [tvL] at h ⊢
  generalize hv:d.tv T x=v at h
  cases h with
  | row τ y c hc _ ds hl=>exact .row τ y c hc _ _ (CR.any ad' hl)
  | one _ a ha h1 _ ds hl=>subst hv; exact .one _ _ (tv_any ad' ha) h1 _ _ (CR.any ad' hl)
theorem OD.or_any {ad:List Nat}(ad':List Nat){d:OD}{t:TypeId}{s s':Nat}{c:d.Ty T}{o:AObj}(h:OR ad (d.to T t s c) o):OR ad' (d.to T t s' c) o:=by
 cases d with
 | cells l =>
  cases h with
  | cells cs _ hc=>exact .cells cs rfl (CR.any ad' hc)
  | bad _ hm'=>cases hm'
  | map0 hm'=>cases hm'
  | map _ _ hm'=>cases hm'
  | buf0 _ _ hm'=>cases hm'
  | bufN _ _ _ hm'=>cases hm'
  | buf _ _ _ _ hm'=>cases hm'
 | cont d =>
  cases h with
  | cells cs hm' hc=>cases d <;> cases hm'
  | bad _ hm' hc=>exact .bad _ hm' rfl
  | map0 hm' _=>exact .map0 hm' rfl
  | map m l hm' _=>exact .map m l hm' rfl
  | buf0 t m hm' _=>exact .buf0 t m hm' rfl
  | bufN t e m hm' _=>exact .bufN t e m hm' rfl
  | buf l t e m hm' _ hl=>exact .buf l t e m hm' rfl hl
theorem OD.to_s {d:OD}{t:TypeId}{s:Nat}{c:d.Ty T}:(d.to T t s c).s=s:=by cases d <;> rfl
theorem takeC_bads (l:List (TV T)):∀ o:Nat,takeC F (List.replicate (o + 1) .bad ++ l) o=some (List.replicate o .bad)
 | 0=>by simp [takeC]
 | o + 1=>by
  rw [List.replicate_succ,List.cons_append]
  simp only [takeC,Nat.beq_eq,TV.wd]
  rw [show Nat.beq (o + 1) 0=false from rfl,cond_false,show Nat.ble 1 (o + 1)=true from rfl,cond_true,Nat.add_sub_cancel,takeC_bads l o]
  rfl
theorem dropC_bads (l:List (TV T)):∀ o:Nat,dropC F (List.replicate o .bad ++ l) o=some l
 | 0=>by cases l <;> simp [dropC]
 | o + 1=>by
  rw [List.replicate_succ,List.cons_append]
  simp only [dropC,TV.wd]
  rw [show Nat.beq (o + 1) 0=false from rfl,cond_false,show Nat.ble 1 (o + 1)=true from rfl,cond_true,Nat.add_sub_cancel,dropC_bads l o]
theorem putF_cells (t:TypeId):∀ (l:List SD) (o s:Nat) (a:Acc T (cellLA o l)),l.all oneSD=true →
  putF F [(⟨s,List.replicate (o + l.length) .bad,t,.no⟩:TO T)] (cellLA o l) a=some [⟨s + l.length,List.replicate o .bad ++ tvL T l (unL T o l a),t,.no⟩]
 | [],o,s,a,_=>by simp [cellLA,putF,tvL]
 | d :: l,o,s,(x,r),hl=>by
  rw [List.all_cons,Bool.and_eq_true] at hl
  have ih:=putF_cells t l (o + 1) s r hl.2
  have hw:widD T d=1:=by cases d <;> first | rfl | (cases hl.1)
  simp only [cellLA,putF,List.length_cons]
  rw [show o + (l.length + 1)=o + 1 + l.length by omega,ih]
  simp only [putO,List.getElem?_cons_zero,hw,putC,takeC_bads,dropC_bads]
  simp only [tvL,unL,List.set_cons_zero,List.append_assoc,List.singleton_append]
  congr 2
theorem putF_to {d:OD}(hd:d.ok=true)(t:TypeId)(s:Nat)(c:d.Ty T)(a:Acc T d.la):∃ s',putF F (spoilF (Tl.cellsOf d.la) 0 [d.to T t s c]) d.la a=some [d.to T t s' (d.un T a)]:=by
 cases d with
 | cells l =>
  cases l with
  | nil=>exact ⟨s,rfl⟩
  | cons d l =>
   have hw:wdL (tvL T (d :: l) c)=(d :: l).length:=wdL_tvL c hd
   refine ⟨s + 1 + (d :: l).length,?_⟩
   have:=putF_cells (F := F) t (d :: l) 0 (s + 1) a hd
   rw [Nat.zero_add] at this
   show putF F [(⟨s + 1,List.replicate (wdL (tvL T (d :: l) c)) .bad,t,.no⟩:TO T)] (cellLA 0 (d :: l)) a=_
   rw [hw,this]
   rfl
 | cont d=>exact ⟨s + 1 + 1,by cases d <;> rfl⟩
theorem cellsOf_la:∀ (o:Nat) (l:List SD) (j:Nat),inN j (Tl.cellsOf (cellLA o l))=true→j=0
 | o,[],j,h=>by cases h
 | o,d :: l,j,h=>by
  simp only [cellLA,Tl.cellsOf,inN,Bool.or_eq_true] at h
  rcases h with h | h
  ·exact (Nat.eq_of_beq_eq_true h).symm
  ·exact cellsOf_la (o + 1) l j h
theorem OD.la0 {d:OD}{j:Nat}(h:inN j (Tl.cellsOf d.la)=true):j=0:=by
 cases d with
 | cells l=>exact cellsOf_la 0 l j h
 | cont d =>
  simp only [OD.la,Tl.cellsOf,inN,Bool.or_false] at h
  exact (Nat.eq_of_beq_eq_true h).symm
theorem sumE_ok (ok:TFok F){TG:Nat→Option (List (TV T))}{C:Cfg}[HasP (evalCall C)]{L:Nat}(hL:C.L=L + 64)(hG:GR TG C.G){Q:QT T}(hQ:QS F (evalCall C) Q){s:SumE T}{fn:AFn}(A:List LN)(hod:s.od.ok=true)(hf:C.T s.f=some fn)(hk:fn.keep=false)
  (h:∀ x c,(fnE F TG Q L fn A s.rd s.od.la (.loc 0 0 :: tvL T s.sig x) [s.od.to T s.ty 0 c]).map (fun p=>(p.1,s.od.un T p.2))=s.y x c):QS F (evalCall C) (eQ F [s]):=by
 intro f vs fr q hq
 simp only [eQ] at hq
 cases hb:Nat.beq s.f f with
 | false=>rw [hb,cond_false] at hq; cases hq
 | true =>
 rw [hb,cond_true] at hq
 have:=Nat.eq_of_beq_eq_true hb; subst this
 split at hq <;> first | (cases hq; done) | skip
 rename_i j rest
 split at hq <;> first | (cases hq; done) | skip
 rename_i b hbj
 obtain ⟨ht,hq⟩:=cond_some hq
 have ht:=Nat.eq_of_beq_eq_true ht
 split at hq <;> first | (cases hq; done) | skip
 rename_i c x hc hx
 cases hq
 intro E J hp0 ad hp avs hh hv r v fr' hr hg hE
 cases hg
 rw [← h x c] at hr
 obtain ⟨p,hp1,hp2⟩:=Option.map_eq_some_iff.1 hr
 cases hv with | cons _ a0 hv0 _ az hvr =>
 cases hv0 with | loc _ _ g hgj =>
 obtain ⟨g',ob,k1,k2,k3⟩:=hh.ob j b hbj
 rw [hgj] at k1; cases k1
 have hgl:=(hh.bd j g hgj).1
 obtain ⟨m1,m2⟩:=OD.get_ok ok hod k3 hc [g] 0
 rw [ht] at m1
 have h1:HR F [0] 1 hp [g] [s.od.to T s.ty 0 c] hp:=by
  refine ⟨fun _ _ h _=>h,Nat.le_refl _,rfl,fun i k g' h1 h2=>?_,fun k g' hk'=>?_,fun k b' hk'=>?_,fun k hk'=>?_⟩
  ·have e1:=(List.getElem?_eq_some_iff.1 h1).1
   have e2:=(List.getElem?_eq_some_iff.1 h2).1
   simp at e1 e2; omega
  ·have e1:=(List.getElem?_eq_some_iff.1 hk').1
   simp at e1; subst e1
   cases hk'
   exact ⟨hgl,fun h=>by omega⟩
  ·have e1:=(List.getElem?_eq_some_iff.1 hk').1
   simp at e1; subst e1
   cases hk'
   exact ⟨g,ob,rfl,k2,m1⟩
  ·have:k=0:=by
    simp only [inN,Bool.or_false] at hk'
    exact (Nat.eq_of_beq_eq_true hk').symm
   subst this
   exact ⟨g,rfl⟩
 have hv1:LR [g] (.loc 0 0 :: tvL T s.sig x) (.ptr g 0 :: az):=.cons _ _ (.loc _ _ g rfl) _ _ (decL_ok ok [g] hvr hx)
 obtain ⟨s',hf1⟩:=putF_to (F := F) hod s.ty 0 c p.2
 obtain ⟨a,hp',e,i1,i2,i3,i4,i5,i6⟩:=fnE_ok ok hL hG hQ hf hk hp1 h1 hv1 hf1
 have he:r.1=p.1∧r.2=s.od.un T p.2:=by rw [← hp2]; exact ⟨rfl,rfl⟩
 refine ⟨a,hp',e,by rw [he.1]; exact i1 ad,i2,?_,?_,?_,i6⟩
 ·
  have other:∀ (g':Nat) (o:AObj),hp[g']? = some o→g'≠g→hp'[g']? = some o:=fun g' o hg' hne=>by
   refine i3.old g' o hg' fun k hk' e'=>?_
   have:=OD.la0 hk'; subst this
   cases e'
   exact hne rfl
  refine ⟨fun g' o hg' hE0=>?_,Nat.le_trans hh.le i3.le,by rw [List.length_set]; exact hh.al,hh.nd,fun k g' hk'=>⟨Nat.lt_of_lt_of_le (hh.bd k g' hk').1 i3.le,(hh.bd k g' hk').2⟩,fun k b' hk'=>?_,hh.el⟩
  ·have h2:=hh.old g' o hg' hE0
   refine other g' o h2 fun e'=>?_
   subst e'
   have hm:=hE j (inN_one rfl)
   unfold mayT at hm
   rw [Bool.or_eq_true] at hm
   rcases hm with hm | hm
   ·have:=(hh.bd j g' hgj).2 (Nat.le_of_ble_eq_true hm)
    have:=(List.getElem?_eq_some_iff.1 hg').1
    omega
   ·exact hE0 j hm hgj
  ·by_cases hkj:k=j
   ·subst hkj
    rw [List.getElem?_set_self (List.getElem?_eq_some_iff.1 hbj).1] at hk'
    cases hk'
    obtain ⟨g',o,q1,q2,q3⟩:=i3.ob 0 _ rfl
    cases q1
    refine ⟨g,o,hgj,q2,?_⟩
    rw [he.2]
    rw [ht]
    exact OD.or_any ad q3
   ·rw [List.getElem?_set_ne (fun e=>hkj e.symm)] at hk'
    obtain ⟨g',o,q1,q2,q3⟩:=hh.ob k b' hk'
    refine ⟨g',o,q1,other g' o q2 fun e'=>?_,q3⟩
    subst e'
    exact hkj (hh.nd k j g' q1 hgj)
 ·intro x1 x2 hx'
  obtain ⟨k,g',q1,q2,q3⟩:=i4 x1 x2 hx'
  have:=OD.la0 q1; subst this
  cases q2
  exact ⟨j,g,inN_one rfl,hgj,q3⟩
 ·exact FGrow.cont hbj (m2 _ _).1 (m2 _ _).2 (by rw [OD.to_s]; exact Nat.lt_succ_self _)
theorem eQ_cons {call:CallF}[HasP call]{s:SumE T}{l:List (SumE T)}(h1:QS F call (eQ F [s]))(h2:QS F call (eQ F l)):QS F call (eQ F (s :: l)):=by
 intro f vs fr q h
 simp only [eQ] at h
 cases hb:Nat.beq s.f f with
 | false=>rw [hb,cond_false] at h; exact h2 f vs fr q h
 | true =>
  rw [hb,cond_true] at h
  refine h1 f vs fr q ?_
  simp only [eQ,hb,cond_true]
  exact h
theorem eQ_nil {call:CallF}[HasP call]:QS F call (eQ (T := T) F []):=fun f vs fr q h=>by cases h
theorem sumE_none {call:CallF}[HasP call]{f ty:Nat}{od:OD}{sig:List SD}{rd:RD}:QS F call (eQ F [⟨f,ty,od,sig,rd,fun _ _=>none⟩]):=fun f' vs fr q hq=>by
 simp only [eQ] at hq
 cases hb:Nat.beq f f' with
 | false=>rw [hb,cond_false] at hq; cases hq
 | true =>
  rw [hb,cond_true] at hq
  split at hq <;> first | (cases hq; done) | skip
  split at hq <;> first | (cases hq; done) | skip
  obtain ⟨-,hq⟩:=cond_some hq
  split at hq <;> first | (cases hq; done) | skip
  cases hq
  intro E J hp0 ad hp avs hh hv r v fr' hr
  cases hr
end
end Go.Proofs.YtbcfddaocfpckaaGreatDoor.Tl
end
