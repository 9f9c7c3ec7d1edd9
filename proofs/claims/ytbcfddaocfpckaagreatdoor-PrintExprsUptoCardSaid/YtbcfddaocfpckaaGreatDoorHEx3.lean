import Derived.IntWalk
import Derived.Test.YtbcfddaocfpckaaGreatDoorHEx2
set_option linter.all false
section
namespace Go.Proofs.YtbcfddaocfpckaaGreatDoor
open Go Go.Proofs.YtbcfddaocfpckaaGreatDoor.Abs Go.Proofs.YtbcfddaocfpckaaGreatDoor.Tl
set_option maxRecDepth 100000
set_option maxHeartbeats 0
@[reducible] def tD:Nat→Type
 | 0=>Xg
 | 1=>YX
 | 2=>ZU
 | 3=>JC
 | 4=>Zk
 | 5=>ZR
 | 6=>Yn
 | 7=>YN
 | 8=>Zc
 | 9=>Zl
 | 10=>ZO
 | 11=>VF
 | 12=>IV
 | 13=>PM
 | 14=>Zg
 | 15=>TK
 | 16=>Uz
 | 17=>ZX
 | 18=>IU
 | 19=>Zx
 | 20=>Uy
 | 21=>Ux
 | _=>Int
def tRow:(τ:Nat)→tD τ→List AV
 | 0=>Tj
 | 1=>IE
 | 2=>Lj
 | 3=>Rq
 | 4=>Wn
 | 5=>XP
 | 6=>VZ
 | 7=>Ti
 | 8=>WQ
 | 9=>II
 | 10=>Uu
 | 11=>Rt
 | 12=>NG
 | 13=>Cj
 | 14=>Ja
 | 15=>NE
 | 16=>Pv
 | 17=>Pq
 | 18=>Zak
 | 19=>Ll
 | 20=>Lm
 | 21=>KD
 | _ + 22=>fun (x:Int)=>[.int .i64 x]
def tNc:Nat→Nat
 | 0=>3
 | 1=>2
 | 2=>6
 | 3=>13
 | 4=>17
 | 5=>3
 | 6=>3
 | 7=>2
 | 8=>4
 | 9=>21
 | 10=>4
 | 11=>5
 | 12=>3
 | 13=>3
 | 14=>13
 | 15=>3
 | 16=>4
 | 17=>1
 | 18=>9
 | 19=>9
 | 20=>2
 | 21=>5
 | _ + 22=>1
@[reducible] def tT:TT:=⟨tD,tRow,tNc⟩
def Ar:TI tT 0 where
 comps:=[.str,.int .i64,.int .i64]
 to:=fun (x:Xg)=>(x.Name,x.Ty,x.N,())
 of:=fun p=>(⟨p.1,p.2.1,p.2.2.1⟩:Xg)
def Ec:TI tT 1 where
 comps:=[.int .i64,.int .i64]
 to:=fun (x:YX)=>(x.At_,x.Units,())
 of:=fun p=>(⟨p.1,p.2.1⟩:YX)
def CY:TI tT 2 where
 comps:=[.int .i64,.int .i64,.int .i64,.int .i64,.lst 1 (.int .i64),.lst 1 (.int .i64)]
 to:=fun (x:ZU)=>(x.Op,x.A,x.B,x.N,x.Values,x.Weights,())
 of:=fun p=>(⟨p.1,p.2.1,p.2.2.1,p.2.2.2.1,p.2.2.2.2.1,p.2.2.2.2.2.1⟩:ZU)
def Ak:TI tT 3 where
 comps:=[.str,.row 2,.row 2]
 to:=fun (x:JC)=>(x.Stream,x.Up,x.Down,())
 of:=fun p=>(⟨p.1,p.2.1,p.2.2.1⟩:JC)
def Ir:TI tT 4 where
 comps:=[.str,.int .i64,.lst 2 (.row 1),.int .i64,.row 3]
 to:=fun (x:Zk)=>(x.Name,x.Units,x.Shift,x.Cycle,x.Fault,())
 of:=fun p=>(⟨p.1,p.2.1,p.2.2.1,p.2.2.2.1,p.2.2.2.2.1⟩:Zk)
def Bf:TI tT 5 where
 comps:=[.str,.int .i64,.int .i64]
 to:=fun (x:ZR)=>(x.Name,x.Room,x.Policy,())
 of:=fun p=>(⟨p.1,p.2.1,p.2.2.1⟩:ZR)
def D6:TI tT 6 where
 comps:=[.str,.int .i64,.int .i64]
 to:=fun (x:Yn)=>(x.Name,x.Length,x.Step,())
 of:=fun p=>(⟨p.1,p.2.1,p.2.2.1⟩:Yn)
def Am:TI tT 7 where
 comps:=[.str,.int .i64]
 to:=fun (x:YN)=>(x.Name,x.Ty,())
 of:=fun p=>(⟨p.1,p.2.1⟩:YN)
def CZ:TI tT 8 where
 comps:=[.int .i64,.str,.int .i64,.lst 4 (.row 8)]
 to:=fun (x:Zc)=>(x.Op,x.Name,x.N,x.Kids,())
 of:=fun p=>(⟨p.1,p.2.1,p.2.2.1,p.2.2.2.1⟩:Zc)
def Zab:TI tT 9 where
 comps:=[.int .i64,.str,.str,.row 8,.row 8,.lst 4 (.row 8),.row 2,.bool,.lst 21 (.row 9),.lst 21 (.row 9)]
 to:=fun (x:Zl)=>(x.Op,x.Name,x.Of,x.E,x.F,x.Args,x.Dist,x.Flag,x.Body,x.Else,())
 of:=fun p=>(⟨p.1,p.2.1,p.2.2.1,p.2.2.2.1,p.2.2.2.2.1,p.2.2.2.2.2.1,p.2.2.2.2.2.2.1,p.2.2.2.2.2.2.2.1,p.2.2.2.2.2.2.2.2.1,p.2.2.2.2.2.2.2.2.2.1⟩:Zl)
def PZ:TI tT 10 where
 comps:=[.str,.lst 2 (.row 7),.lst 2 (.row 7),.lst 21 (.row 9)]
 to:=fun (x:ZO)=>(x.Name,x.Params,x.Locals,x.Body,())
 of:=fun p=>(⟨p.1,p.2.1,p.2.2.1,p.2.2.2.1⟩:ZO)
def Aq:TI tT 11 where
 comps:=[.str,.lst 1 (.int .i64),.int .i64,.int .i64,.int .i64]
 to:=fun (x:VF)=>(x.Routine,x.Args,x.At_,x.Every,x.Until,())
 of:=fun p=>(⟨p.1,p.2.1,p.2.2.1,p.2.2.2.1,p.2.2.2.2.1⟩:VF)
def Zac:TI tT 12 where
 comps:=[.int .i64,.str,.str]
 to:=fun (x:IV)=>(x.Coef,x.What,x.Name,())
 of:=fun p=>(⟨p.1,p.2.1,p.2.2.1⟩:IV)
def Zay:TI tT 13 where
 comps:=[.str,.lst 3 (.row 12),.int .i64]
 to:=fun (x:PM)=>(x.Name,x.Terms,x.Total,())
 of:=fun p=>(⟨p.1,p.2.1,p.2.2.1⟩:PM)
def D7:TI tT 14 where
 comps:=[.str,.lst 3 (.row 0),.lst 17 (.row 4),.lst 3 (.row 5),.lst 3 (.row 6),.lst 1 (.str),.lst 1 (.str),.lst 1 (.str),.lst 1 (.str),.lst 1 (.str),.lst 4 (.row 10),.lst 5 (.row 11),.lst 3 (.row 13)]
 to:=fun (x:Zg)=>(x.Name,x.Vars,x.Resources,x.Stores,x.Belts,x.Queues,x.Streams,x.Tallies,x.Levels,x.Counts,x.Routines,x.Starts,x.Laws,())
 of:=fun p=>(⟨p.1,p.2.1,p.2.2.1,p.2.2.2.1,p.2.2.2.2.1,p.2.2.2.2.2.1,p.2.2.2.2.2.2.1,p.2.2.2.2.2.2.2.1,p.2.2.2.2.2.2.2.2.1,p.2.2.2.2.2.2.2.2.2.1,p.2.2.2.2.2.2.2.2.2.2.1,p.2.2.2.2.2.2.2.2.2.2.2.1,p.2.2.2.2.2.2.2.2.2.2.2.2.1⟩:Zg)
def Zaa:TI tT 15 where
 comps:=[.str,.str,.int .i64]
 to:=fun (x:TK)=>(x.From,x.To,x.Delay,())
 of:=fun p=>(⟨p.1,p.2.1,p.2.2.1⟩:TK)
def Ap:TI tT 16 where
 comps:=[.str,.lst 3 (.row 0),.lst 13 (.row 14),.lst 3 (.row 15)]
 to:=fun (x:Uz)=>(x.Name,x.Params,x.Sites,x.Links,())
 of:=fun p=>(⟨p.1,p.2.1,p.2.2.1,p.2.2.2.1⟩:Uz)
def Aj:TI tT 17 where
 comps:=[.bool]
 to:=fun (x:ZX)=>(x.code,())
 of:=fun p=>(⟨p.1⟩:ZX)
def Zaz:TI tT 18 where
 comps:=[.bool,.bool,.bool,.bool,.bool,.bool,.bool,.bool,.bool]
 to:=fun (x:IU)=>(x.name,x.of,x.e,x.f,x.args,x.dist,x.flag,x.body,x.other,())
 of:=fun p=>(⟨p.1,p.2.1,p.2.2.1,p.2.2.2.1,p.2.2.2.2.1,p.2.2.2.2.2.1,p.2.2.2.2.2.2.1,p.2.2.2.2.2.2.2.1,p.2.2.2.2.2.2.2.2.1⟩:IU)
def Ed:TI tT 19 where
 comps:=[.bool,.bool,.bool,.bool,.bool,.bool,.bool,.bool,.bool]
 to:=fun (x:Zx)=>(x.Name,x.Of,x.E,x.F,x.Args,x.Dist,x.Flag,x.Body,x.Else,())
 of:=fun p=>(⟨p.1,p.2.1,p.2.2.1,p.2.2.2.1,p.2.2.2.2.1,p.2.2.2.2.2.1,p.2.2.2.2.2.2.1,p.2.2.2.2.2.2.2.1,p.2.2.2.2.2.2.2.2.1⟩:Zx)
def Ef:TI tT 20 where
 comps:=[.bool,.str]
 to:=fun (x:Uy)=>(x.is,x.name,())
 of:=fun p=>(⟨p.1,p.2.1⟩:Uy)
def Ee:TI tT 21 where
 comps:=[.bool,.row 8]
 to:=fun (x:Ux)=>(x.is,x.e,())
 of:=fun p=>(⟨p.1,p.2.1⟩:Ux)
def tI:(τ:Nat)→TI tT τ
 | 0=>Ar
 | 1=>Ec
 | 2=>CY
 | 3=>Ak
 | 4=>Ir
 | 5=>Bf
 | 6=>D6
 | 7=>Am
 | 8=>CZ
 | 9=>Zab
 | 10=>PZ
 | 11=>Aq
 | 12=>Zac
 | 13=>Zay
 | 14=>D7
 | 15=>Zaa
 | 16=>Ap
 | 17=>Aj
 | 18=>Zaz
 | 19=>Ed
 | 20=>Ef
 | 21=>Ee
 | _ + 22=>⟨[.int .i64],fun (x:Int)=>(x,()),fun p=>p.1⟩
theorem Zap:TIok tT tI where
 row:=fun τ=>match τ with
  | 0=>fun (x:Xg)=>by first | rfl | (show Tj x=_; unfold Tj; (try simp only [List.append_assoc,List.cons_append,List.nil_append]); rfl)
  | 1=>fun (x:YX)=>by first | rfl | (show IE x=_; unfold IE; (try simp only [List.append_assoc,List.cons_append,List.nil_append]); rfl)
  | 2=>fun (x:ZU)=>by first | rfl | (show Lj x=_; unfold Lj; (try simp only [List.append_assoc,List.cons_append,List.nil_append]); rfl)
  | 3=>fun (x:JC)=>by first | rfl | (show Rq x=_; unfold Rq; (try simp only [List.append_assoc,List.cons_append,List.nil_append]); rfl)
  | 4=>fun (x:Zk)=>by first | rfl | (show Wn x=_; unfold Wn; (try simp only [List.append_assoc,List.cons_append,List.nil_append]); rfl)
  | 5=>fun (x:ZR)=>by first | rfl | (show XP x=_; unfold XP; (try simp only [List.append_assoc,List.cons_append,List.nil_append]); rfl)
  | 6=>fun (x:Yn)=>by first | rfl | (show VZ x=_; unfold VZ; (try simp only [List.append_assoc,List.cons_append,List.nil_append]); rfl)
  | 7=>fun (x:YN)=>by first | rfl | (show Ti x=_; unfold Ti; (try simp only [List.append_assoc,List.cons_append,List.nil_append]); rfl)
  | 8=>fun (x:Zc)=>by first | rfl | (show WQ x=_; rw [IG]; (try simp only [List.append_assoc,List.cons_append,List.nil_append]); rfl)
  | 9=>fun (x:Zl)=>by first | rfl | (show II x=_; rw [NF]; (try simp only [List.append_assoc,List.cons_append,List.nil_append]); rfl)
  | 10=>fun (x:ZO)=>by first | rfl | (show Uu x=_; unfold Uu; (try simp only [List.append_assoc,List.cons_append,List.nil_append]); rfl)
  | 11=>fun (x:VF)=>by first | rfl | (show Rt x=_; unfold Rt; (try simp only [List.append_assoc,List.cons_append,List.nil_append]); rfl)
  | 12=>fun (x:IV)=>by first | rfl | (show NG x=_; unfold NG; (try simp only [List.append_assoc,List.cons_append,List.nil_append]); rfl)
  | 13=>fun (x:PM)=>by first | rfl | (show Cj x=_; unfold Cj; (try simp only [List.append_assoc,List.cons_append,List.nil_append]); rfl)
  | 14=>fun (x:Zg)=>by first | rfl | (show Ja x=_; unfold Ja; (try simp only [List.append_assoc,List.cons_append,List.nil_append]); rfl)
  | 15=>fun (x:TK)=>by first | rfl | (show NE x=_; unfold NE; (try simp only [List.append_assoc,List.cons_append,List.nil_append]); rfl)
  | 16=>fun (x:Uz)=>by first | rfl | (show Pv x=_; unfold Pv; (try simp only [List.append_assoc,List.cons_append,List.nil_append]); rfl)
  | 17=>fun (x:ZX)=>by first | rfl | (show Pq x=_; unfold Pq; (try simp only [List.append_assoc,List.cons_append,List.nil_append]); rfl)
  | 18=>fun (x:IU)=>by first | rfl | (show Zak x=_; unfold Zak; (try simp only [List.append_assoc,List.cons_append,List.nil_append]); rfl)
  | 19=>fun (x:Zx)=>by first | rfl | (show Ll x=_; unfold Ll; (try simp only [List.append_assoc,List.cons_append,List.nil_append]); rfl)
  | 20=>fun (x:Uy)=>by first | rfl | (show Lm x=_; unfold Lm; (try simp only [List.append_assoc,List.cons_append,List.nil_append]); rfl)
  | 21=>fun (x:Ux)=>by first | rfl | (show KD x=_; unfold KD; (try simp only [List.append_assoc,List.cons_append,List.nil_append]); rfl) | (show KD x=_; unfold KD; exact congrArg (_ ++ ·) (List.append_nil (WQ x.e)).symm)
  | _ + 22=>fun (x:Int)=>rfl
 inv:=fun τ=>match τ with
  | 0=>fun p=>rfl
  | 1=>fun p=>rfl
  | 2=>fun p=>rfl
  | 3=>fun p=>rfl
  | 4=>fun p=>rfl
  | 5=>fun p=>rfl
  | 6=>fun p=>rfl
  | 7=>fun p=>rfl
  | 8=>fun p=>rfl
  | 9=>fun p=>rfl
  | 10=>fun p=>rfl
  | 11=>fun p=>rfl
  | 12=>fun p=>rfl
  | 13=>fun p=>rfl
  | 14=>fun p=>rfl
  | 15=>fun p=>rfl
  | 16=>fun p=>rfl
  | 17=>fun p=>rfl
  | 18=>fun p=>rfl
  | 19=>fun p=>rfl
  | 20=>fun p=>rfl
  | 21=>fun p=>rfl
  | _ + 22=>fun p=>rfl
 nc:=fun τ=>match τ with
  | 0=>rfl
  | 1=>rfl
  | 2=>rfl
  | 3=>rfl
  | 4=>rfl
  | 5=>rfl
  | 6=>rfl
  | 7=>rfl
  | 8=>rfl
  | 9=>rfl
  | 10=>rfl
  | 11=>rfl
  | 12=>rfl
  | 13=>rfl
  | 14=>rfl
  | 15=>rfl
  | 16=>rfl
  | 17=>rfl
  | 18=>rfl
  | 19=>rfl
  | 20=>rfl
  | 21=>rfl
  | _ + 22=>rfl
 pos:=fun τ=>match τ with
  | 0=>by decide
  | 1=>by decide
  | 2=>by decide
  | 3=>by decide
  | 4=>by decide
  | 5=>by decide
  | 6=>by decide
  | 7=>by decide
  | 8=>by decide
  | 9=>by decide
  | 10=>by decide
  | 11=>by decide
  | 12=>by decide
  | 13=>by decide
  | 14=>by decide
  | 15=>by decide
  | 16=>by decide
  | 17=>by decide
  | 18=>by decide
  | 19=>by decide
  | 20=>by decide
  | 21=>by decide
  | n + 22=>Nat.one_pos
 ck:=fun τ=>match τ with
  | 0=>rfl
  | 1=>rfl
  | 2=>rfl
  | 3=>rfl
  | 4=>rfl
  | 5=>rfl
  | 6=>rfl
  | 7=>rfl
  | 8=>rfl
  | 9=>rfl
  | 10=>rfl
  | 11=>rfl
  | 12=>rfl
  | 13=>rfl
  | 14=>rfl
  | 15=>rfl
  | 16=>rfl
  | 17=>rfl
  | 18=>rfl
  | 19=>rfl
  | 20=>rfl
  | 21=>rfl
  | n + 22=>rfl
def tEt:List (Nat×ET):=[(2,.int .i64),(3,.int .i64),(4,.bool),(5,.int .u8),(6,.int .u8),(9,.str),(10,.str),(11,.str),(12,.int .u64),(21,.int .i32),(22,.int .i64),(23,.lst 4 (.row 8)),(25,.row 8),(28,.int .i64),(32,.lst 21 (.row 9)),(36,.lst 3 (.row 0)),(37,.lst 13 (.row 14)),(38,.lst 3 (.row 15)),(40,.row 16),(57,.int .i64),(58,.int .i64),(59,.lst 1 (.int .i64)),(61,.row 2),(63,.row 9),(64,.lst 17 (.row 4)),(65,.lst 3 (.row 5)),(66,.lst 3 (.row 6)),(67,.lst 1 (.str)),(68,.lst 4 (.row 10)),(69,.lst 5 (.row 11)),(70,.lst 3 (.row 13)),(72,.row 14),(78,.lst 1 (.int .u8)),(87,.lst 2 (.row 7)),(89,.row 10),(90,.lst 2 (.row 1)),(92,.row 3),(94,.row 4),(100,.row 15),(118,.row 17),(141,.int .i64),(143,.row 0),(147,.int .i64),(149,.row 5),(152,.row 6),(156,.row 11),(158,.lst 3 (.row 12)),(160,.row 13),(180,.lst 1 (.int .i64)),(181,.int .i64),(201,.row 18),(235,.int .u64),(241,.row 1),(244,.row 7),(248,.row 12),(252,.lst 1 (.lst 1 (.str))),(270,.row 20),(271,.lst 2 (.row 20)),(272,.row 21),(273,.lst 5 (.row 21)),(277,.row 19),(294,.int .u32),(297,.int .u64),(321,.lst 1 (.lst 2 (.row 7))),(347,.int .i64),(372,.int .u8),(373,.int .u8),(375,.int .i32),(376,.int .i32)]
def A8:List (Nat×ET)→Nat→Option ET
 | [],_=>none
 | (t,e) :: l,u=>bif Nat.beq t u then some e else A8 l u
@[reducible] def tF:TF tT:=mkF tI (A8 tEt)
theorem ZH:TFok tF:=mkF_ok Zap _
end Go.Proofs.YtbcfddaocfpckaaGreatDoor
end
section
namespace Go.Proofs.YtbcfddaocfpckaaGreatDoor.Tl
open Go Go.Proofs.YtbcfddaocfpckaaGreatDoor.Abs
section
variable {T:TT}{F:TF T}(ok:TFok F){TG:Nat→Option (List (TV T))}
theorem orQ_ok {call:CallF}[HasP call]{Q1 Q2:QT T}(h1:QS F call Q1)(h2:QS F call Q2):QS F call (orQ Q1 Q2):=by
 intro f vs fr q h
 unfold orQ at h
 cases hq:Q1 f vs fr with
 | some q'=>simp only [hq,Option.some.injEq] at h; subst h; exact h1 f vs fr q' hq
 | none=>simp only [hq] at h; exact h2 f vs fr q h
include ok
theorem inlQ_ok {C:Cfg}[HasP (evalCall C)]{L:Nat}(hL:C.L=L + 64){Q:QT T}(hG:GR TG C.G)(hQ:QS F (evalCall C) Q){f:FuncId}{fn:AFn}(A:List LN)(d:RD)(hf:C.T f=some fn)(hk:fn.keep=false):QS F (evalCall C) (inlQ F TG Q L f fn A d):=by
 intro f' vs fr q h
 unfold inlQ at h
 cases hb:Nat.beq f f' with
 | false=>rw [hb,cond_false] at h; cases h
 | true =>
  rw [hb,cond_true] at h
  have:=Nat.eq_of_beq_eq_true hb; subst this
  cases h
  intro E J hp0 ad hp avs hh hv x hx
  exact fnT_ok ok hL hG hQ hf hk hx hh hv ad
omit ok in
theorem noOwn_nm {ad:List Nat}{d:RD}(hd:d.noOwn=true){x:d.Ty T}{a:AV}(h:VR ad (d.tv T x) a):VR ad (d.tv T x) a.nm:=by
 have:=h.nm
 cases d with
 | one d=>cases d <;> first | exact this | cases hd
 | tup l=>exact this
omit ok in
theorem _root_.Go.Proofs.YtbcfddaocfpckaaGreatDoor.Tl.SR.weakJ {N:Nat}{E:List Nat}{J J':Nat}{hp0:List AObj}{ad:List Nat}{te:TE T}{fr:FR T}{s:AState}(h:SR F N E J hp0 ad te fr s)(hJ:J≤J'):SR F N E J' hp0 ad te fr s :=
 ⟨h.hs,h.sl,h.ef,h.bs,⟨h.hp.old,h.hp.le,h.hp.al,h.hp.nd,fun j g hj=>⟨(h.hp.bd j g hj).1,fun hle=>(h.hp.bd j g hj).2 (Nat.le_trans hJ hle)⟩,h.hp.ob,h.hp.el⟩,h.un⟩
theorem decR_nm {N:Nat}{E:List Nat}{J:Nat}{hp0:List AObj}{ad:List Nat}{te:TE T}{fr:FR T}{s:AState}(hs:SR F N E J hp0 ad te fr s){rs:List ARes}{d:RD}{x:d.Ty T}(h:decR F N fr.length te fr rs d=some x)(hd:d.noOwn=true){v:AV}(hv:resultOf s rs=some v)(ad':List Nat):VR ad' (d.tv T x) v.nm:=by
 cases d with
 | one d =>
  simp only [decR] at h
  split at h
  ·rename_i q
   obtain ⟨w,h1,h2⟩:=Option.bind_eq_some_iff.1 h
   obtain ⟨a,h3,h4⟩:=resT_ok ok hs h1
   have:v=a:=by
    have h5:resVal s q=some v:=hv
    rw [h3] at h5; cases h5; rfl
   subst this
   refine noOwn_nm hd (d := .one d) ?_
   unfold arrD at h2
   split at h2
   ·rename_i k e j o len k'
    obtain ⟨h5,h6⟩:=cond_some h2
    simp only [Bool.and_eq_true] at h5
    have hJ:=Nat.le_of_ble_eq_true h5.1.2
    split at h6
    ·rename_i b hb
     have:=(List.getElem?_eq_some_iff.1 hb).1
     omega
    ·cases h6
   ·exact dec_ok ok h4 h2 ad'
  ·cases h
 | tup l =>
  simp only [decR] at h
  split at h
  ·cases h
  ·rename_i hne
   obtain ⟨vs,h1,h2⟩:=Option.bind_eq_some_iff.1 h
   obtain ⟨az,h3,h4⟩:=ressT_ok ok hs h1
   have:resultOf s rs=(resVals s rs).map .tup:=by
    unfold resultOf
    split
    ·rename_i q; exact absurd rfl (hne q)
    ·rfl
   rw [this,h3] at hv
   cases hv
   exact .tup _ _ (decL_ok ok ad' h4 h2)
omit ok in
theorem _root_.Go.Proofs.YtbcfddaocfpckaaGreatDoor.Tl.HR.after {E:List Nat}{J:Nat}{hp0:List AObj}{ad:List Nat}{fr f1:FR T}{hp hp':List AObj}(hh:HR F E J hp0 ad fr hp){E':List Nat}{J':Nat}(h:HR F E' J' hp ad f1 hp')(hE:∀ j,inN j E'=true→mayT E J j=true):HR F E J hp0 ad f1 hp' where
 old:=fun g o hg hE0=>by
  refine h.old g o (hh.old g o hg hE0) fun j hj e=>?_
  have hl:=(List.getElem?_eq_some_iff.1 hg).1
  have:=hE j hj
  unfold mayT at this
  rw [Bool.or_eq_true] at this
  rcases this with h1 | h1
  ·have:=(hh.bd j g e).2 (Nat.le_of_ble_eq_true h1); omega
  ·exact hE0 j h1 e
 le:=Nat.le_trans hh.le h.le
 al:=h.al
 nd:=h.nd
 bd:=fun j g hj=>⟨(h.bd j g hj).1,(hh.bd j g hj).2⟩
 ob:=h.ob
 el:=hh.el
omit ok in
theorem putE_wd {W:List Nat}{fr f:FR T}(h:FRel W fr f):FGrow fr f:=fun j b hb=>by
 obtain ⟨b0,i1,i2,i3,i4,i5⟩:=h.ob j b hb
 refine ⟨b0,i1,i2,i3,?_,?_⟩
 ·cases hj:inN j W with
  | true=>exact Nat.le_of_lt (i5 hj)
  | false=>rw [i4 hj]; exact Nat.le_refl _
 ·intro e
  cases hj:inN j W with
  | true=>have:=i5 hj; omega
  | false=>exact i4 hj
theorem fnE_ok {C:Cfg}[HasP (evalCall C)]{L:Nat}(hL:C.L=L + 64){Q:QT T}(hG:GR TG C.G)(hQ:QS F (evalCall C) Q){f:FuncId}{fn:AFn}{A:List LN}{d:RD}{B:LA}{vs:List (TV T)}{fr:FR T}{y:d.Ty T×Acc T B}(hf:C.T f=some fn)(hk:fn.keep=false)(h:fnE F TG Q L fn A d B vs fr=some y)
  {E0:List Nat} {J0:Nat} {hq hp:List AObj} {ad:List Nat} {avs:List AV} (hh:HR F E0 J0 hq ad fr hp) (hv:LR ad vs avs) {f1:FR T} (hf1:putF F (spoilF (cellsOf B) 0 fr) B y.2=some f1) :
  ∃ a hp' e,(∀ ad',VR ad' (d.tv T y.1) a)∧(Ev fun n=>evalCall C n f avs hp=some (a,hp',e))∧HR F (cellsOf B) fr.length hp ad f1 hp'∧EfOk (cellsOf B) ad e∧FGrow fr f1∧UnOk hp hp' e:=by
 unfold fnE at h
 obtain ⟨h0,h⟩:=cond_some h
 rw [Bool.and_eq_true] at h0
 have hE:∀ j,inN j (cellsOf B)=true→j < fr.length:=fun j hj=>by
  have:=List.all_eq_true.1 h0.1 j (inN_mem hj)
  exact Nat.lt_of_succ_le (by simpa [Nat.blt] using this)
 have hs:SR F fn.ntmps (cellsOf B) fr.length hp ad (argT vs) fr ⟨avs ++ List.replicate (fn.ntmps - avs.length) .undef,hp,none,hp.length⟩:=SR.enter hh hE hv
 letI:PanC (d.Ty T×Acc T B):=⟨fun _=>none⟩
 rcases codeT_ok ok hG hQ fn.code h hs with ⟨ex,te',fr',ad1,s',h1,h2⟩ | hp
 rotate_left
 ·obtain ⟨z,hz,_⟩:=hp
  cases hz
 have hex:∀ id,ex≠.exit id:=fun id e=>by subst e; simp [Out,lookT] at h1
 have h1:lastE F fn.ntmps fn.results d B fr (fun x a=>(x,a)) te' fr'=some y:=by
  cases ex with
  | normal=>exact h1
  | exit id=>exact absurd rfl (hex id)
  | ret=>exact h1
 ·unfold lastE at h1
  split at h1
  ·rename_i hsame
   split at h1
   ·rename_i x a hx ha
    cases h1
    obtain ⟨w,rfl⟩:=h2.gr.ad
    have hJJ:fr.length≤fr'.length:=by rw [← h2.sr.hp.al,← hs.hp.al,List.length_append]; omega
    obtain ⟨v,b,i1,i2,i3⟩:=decR_ok ok (h2.sr.weakJ hJJ) hx []
    have i3':∀ ad',VR ad' (d.tv T x) b:=fun ad'=>by
     obtain ⟨v',b',j1,j2,j3⟩:=decR_ok ok (h2.sr.weakJ hJJ) hx ad'
     rw [i1] at j1; cases j1
     rw [i2] at j2; cases j2
     exact j3
    obtain ⟨k1,k2⟩:=putF_ok ok h2.sr ha hf1 (W := cellsOf B) (fun j hj=>hj) (hs.hp.spoil ok h2.sr.hp fun j b hb=>by
     obtain ⟨b',q1,q2,q3,q4,q5⟩:=h2.gr.fr j b hb
     refine ⟨b',q1,q2,q3,fun hj=>q5 ?_⟩
     exact (sameF_ok hsame hb q1 (by rw [Nat.zero_add]; exact hj)).symm) (spoilF_rel (cellsOf B) fr)
    have hbs:s'.bs=hp.length:=h2.sr.bs
    have hle:=h2.sr.hp.le
    have back:∃ a' hp' ,finish v s' hp=(a',hp',s'.ef)∧(∀ ad',VR ad' (d.tv T x) a')∧hp.length≤hp'.length∧(∀ g,g < hp.length→hp'[g]? = s'.hp[g]?):=by
     cases he:s'.ef with
     | none =>
      refine ⟨b,hp,by simp only [finish,i2,he],i3',Nat.le_refl _,fun g hg=>?_⟩
      have:=h2.sr.un g hp[g] (List.getElem?_eq_getElem hg) fun a c hac=>by rw [he] at hac; cases hac
      rw [this,List.getElem?_eq_getElem hg]
     | some p =>
      by_cases hu:(s'.hp.take s'.bs).all (AObj.under s'.bs)=true
      ·refine ⟨b,s'.hp.take s'.bs,by simp only [finish,i2,he,hu,if_true],i3',by rw [List.length_take,hbs,Nat.min_eq_left hle]; exact Nat.le_refl _,fun g hg=>?_⟩
       rw [hbs,List.getElem?_take_of_lt hg]
      ·refine ⟨v.nm,s'.hp,by simp only [finish,i2,he,hu,Bool.false_eq_true,if_false],?_,hle,fun _ _=>rfl⟩
       exact fun ad'=>decR_nm ok h2.sr hx h0.2 i1 ad'
    obtain ⟨a',hp',b1,b2,b3,b4⟩:=back
    refine ⟨a',hp',s'.ef,b2,?_,?_,h2.sr.ef.shrink hs.hp,putE_wd k2,fun g o hg hac=>?_⟩
    ·obtain ⟨n0,hn⟩:=h2.ev
     refine ⟨n0 + 1,fun n hle=>?_⟩
     obtain ⟨m,rfl⟩:∃ m,n=m + 1:=⟨n - 1,by omega⟩
     cases ex with
     | exit id=>exact absurd rfl (hex id)
     | normal=>simp only [evalCall,hf,hL,hn m (by omega),i1,hk,Bool.false_eq_true,if_false,b1]
     | ret=>simp only [evalCall,hf,hL,hn m (by omega),i1,hk,Bool.false_eq_true,if_false,b1]
    ·refine ⟨fun g o hg hE'=>?_,b3,k1.al,k1.nd,fun j g hj=>?_,fun j c hj=>?_,k1.el⟩
     ·have hl:=(List.getElem?_eq_some_iff.1 hg).1
      rw [b4 g hl]
      exact k1.old g o hg hE'
     ·have hg:=(hh.bd j g hj).1
      refine ⟨Nat.lt_of_lt_of_le hg b3,fun hle=>?_⟩
      have:=(List.getElem?_eq_some_iff.1 hj).1
      rw [hh.al] at this
      omega
     ·obtain ⟨g,o,q1,q2,q3⟩:=k1.ob j c hj
      exact ⟨g,o,q1,by rw [b4 g (hh.bd j g q1).1]; exact q2,q3⟩
    ·have hl:=(List.getElem?_eq_some_iff.1 hg).1
     rw [b4 g hl]
     exact h2.sr.un g o hg hac
   ·cases h1
  ·cases h1
theorem inlE_ok {C:Cfg}[HasP (evalCall C)]{L:Nat}(hL:C.L=L + 64){Q:QT T}(hG:GR TG C.G)(hQ:QS F (evalCall C) Q){f:FuncId}{fn:AFn}(A:List LN)(d:RD)(B:LA)(hf:C.T f=some fn)(hk:fn.keep=false):QS F (evalCall C) (inlE F TG Q L f fn A d B):=by
 intro f' vs fr q h
 unfold inlE at h
 cases hb:Nat.beq f f' with
 | false=>rw [hb,cond_false] at h; cases h
 | true =>
  rw [hb,cond_true] at h
  have:=Nat.eq_of_beq_eq_true hb; subst this
  cases h
  intro E J hp0 ad hp avs hh hv x v fr' hx hg hE
  obtain ⟨f1,hf1,e1⟩:=Option.map_eq_some_iff.1 hg
  cases e1
  obtain ⟨a,hp',e,i1,i2,i3,i4,i5,i6⟩:=fnE_ok ok hL hG hQ hf hk hx hh hv hf1
  exact ⟨a,hp',e,i1 ad,i2,hh.after i3 hE,i4,i5,i6⟩
theorem inlsQ_ok {C:Cfg}[HasP (evalCall C)]{L:Nat}(hL:C.L=L + 64){Q:QT T}(hG:GR TG C.G)(hQ:QS F (evalCall C) Q):∀ {l:List (Inl T)},(∀ i ∈ l,C.T i.f=some i.fn∧i.fn.keep=false)→QS F (evalCall C) (inlsQ F TG Q L l)
 | [],_=>fun f vs fr q h=>by cases h
 | i :: l,hl=>by
  obtain ⟨h1,h2⟩:=hl i (List.mem_cons_self ..)
  refine orQ_ok ?_ (inlsQ_ok hL hG hQ fun j hj=>hl j (List.mem_cons_of_mem _ hj))
  intro f vs fr q h
  simp only at h
  split at h
  ·exact inlQ_ok ok hL hG hQ i.A i.d h1 h2 f vs fr q h
  ·exact inlE_ok ok hL hG hQ i.A i.d _ h1 h2 f vs fr q h
theorem stackQ_ok {C:Cfg}[HasP (evalCall C)]{L:Nat}(hL:C.L=L + 64){S:QT T}(hG:GR TG C.G)(hS:QS F (evalCall C) S){l:List (Inl T)}(hl:∀ i ∈ l,C.T i.f=some i.fn∧i.fn.keep=false):∀ k,QS F (evalCall C) (stackQ F TG S L l k)
 | 0=>hS
 | k + 1=>orQ_ok hS (inlsQ_ok ok hL hG (stackQ_ok hL hG hS hl k) hl)
end
end Go.Proofs.YtbcfddaocfpckaaGreatDoor.Tl
end
section
namespace Go.Proofs.YtbcfddaocfpckaaGreatDoor.Tl
open Go Go.Proofs.YtbcfddaocfpckaaGreatDoor.Abs
theorem Zq {α β:Type}(a:α)(k:α→Option β):bT (some a) k=k a:=rfl
theorem Zf {α:Type}(l:List α)(i:Nat):getT l (i:Int)=l[i]?:=by
 unfold getT; rw [if_pos (Int.natCast_nonneg i)]; rfl
theorem UZ {α:Type}(l:List α):getT l 0=l[0]?:=Zf l 0
theorem NV {α:Type}(l:List α):getT l 1=l[1]?:=Zf l 1
theorem wrap_in {n:Int}(h1:-9223372036854775808≤n)(h2:n≤9223372036854775807):IntKind.i64.wrap n=n:=IntWalk.i64_in n ⟨h1,h2⟩
theorem Zh {α:Type}{l:List α}{i:Nat}(h:i < l.length):decide ((i:Int) < (l.length:Int))=true:=by simpa using h
theorem Ze (n:Nat):decide ((n:Int) < (n:Int))=false:=by simp
theorem wrap_succ {α:Type}{l:List α}{i:Nat}(h:i < l.length)(hl:l.length≤4611686018427387904):IntKind.i64.wrap ((i:Int) + 1)=(i:Int) + 1:=wrap_in (by omega) (by omega)
theorem Zp {α:Type _}{P:α→Prop}:∀ s ∈ ([]:List α),P s:=fun s h=>by cases h
theorem Zd {α:Type _}{P:α→Prop}{a:α}{l:List α}(h:P a)(hl:∀ s ∈ l,P s):∀ s ∈ a :: l,P s:=fun s hs=>by
 rcases List.mem_cons.1 hs with rfl | hs
 ·exact h
 ·exact hl s hs
theorem Qx {α:Type _}{P:α→Prop}{l m:List α}(h:∀ s ∈ l,P s)(hm:∀ s ∈ m,P s):∀ s ∈ l ++ m,P s:=fun s hs=>by
 rcases List.mem_append.1 hs with hs | hs
 ·exact h s hs
 ·exact hm s hs
theorem Yt {T:TT}{C:Cfg}(f:FuncId)(sig:List SD)(d:RD):SumOk (T := T) C ⟨f,sig,fun _=>.par (d.Ty T) none (d.tv T)⟩:=fun x hp avs hv y hy=>by cases hy
end Go.Proofs.YtbcfddaocfpckaaGreatDoor.Tl
end
section
namespace Go.Proofs.YtbcfddaocfpckaaGreatDoor.Tl
open Go Go.Proofs.YtbcfddaocfpckaaGreatDoor.Abs
abbrev emptyB (t:TypeId)(m:List Int):AObj:=.cells (.nilp :: .nils 1 :: m.map (.int .i64)) t
abbrev fullB (l:List UInt8)(t e:TypeId)(m:List Int):AObj:=.buf l t e (m.map (.int .i64))
structure BufOk (C:Cfg)(t e:TypeId)(k:Nat)(ws wb sb ln:FuncId):Prop where
 ws0:∀ (n p:Nat) (s:List UInt8) (m:List Int) (hp:List AObj),m.length=k→hp[p]? = some (emptyB t m)→s.length≤140737488355328→evalCall C (n + 1) ws [.ptr p 0,.str s] hp=some (.tup [.int .i64 s.length,.nili],hp.set p (fullB s t e m),some (p,0))
 ws1:∀ (n p:Nat) (s l:List UInt8) (m:List Int) (hp:List AObj),m.length=k→hp[p]? = some (fullB l t e m)→l.length + s.length≤140737488355328→evalCall C (n + 1) ws [.ptr p 0,.str s] hp=some (.tup [.int .i64 s.length,.nili],hp.set p (fullB (l ++ s) t e m),some (p,0))
 wb0:wb < 900000→∀ (n p:Nat) (c:Int) (m:List Int) (hp:List AObj),m.length=k→hp[p]? = some (emptyB t m)→0≤c∧c < 256→evalCall C (n + 1) wb [.ptr p 0,.int .u8 c] hp=some (.nili,hp.set p (fullB [UInt8.ofNat c.toNat] t e m),some (p,0))
 wb1:wb < 900000→∀ (n p:Nat) (c:Int) (l:List UInt8) (m:List Int) (hp:List AObj),m.length=k→hp[p]? = some (fullB l t e m)→l.length + 1≤140737488355328→0≤c∧c < 256→evalCall C (n + 1) wb [.ptr p 0,.int .u8 c] hp=some (.nili,hp.set p (fullB (l ++ [UInt8.ofNat c.toNat]) t e m),some (p,0))
 sb0:∀ (n p:Nat) (m:List Int) (hp:List AObj),m.length=k→hp[p]? = some (emptyB t m)→evalCall C (n + 1) sb [.ptr p 0] hp=some (.str [],hp,none)
 sb1:∀ (p:Nat) (l:List UInt8) (m:List Int) (hp:List AObj),m.length=k→hp[p]? = some (fullB l t e m)→l≠[]→∃ o,∀ n,evalCall C (n + 1) sb [.ptr p 0] hp=some (.str l,hp.set p o,some (p,0))
 ln0:ln < 900000→∀ (n p:Nat) (m:List Int) (hp:List AObj),m.length=k→hp[p]? = some (emptyB t m)→evalCall C (n + 1) ln [.ptr p 0] hp=some (.int .i64 0,hp,none)
 ln1:ln < 900000→∀ (n p:Nat) (l:List UInt8) (m:List Int) (hp:List AObj),m.length=k→hp[p]? = some (fullB l t e m)→l≠[]→evalCall C (n + 1) ln [.ptr p 0] hp=some (.int .i64 l.length,hp,none)
section
variable {T:TT}{F:TF T}
theorem ev_at {C:Cfg}[HasP (evalCall C)]{f:FuncId}{avs:List AV}{hp:List AObj}{r:AV×List AObj×Eff}(h:∀ n,evalCall C (n + 1) f avs hp=some r):Ev fun n=>evalCall C n f avs hp=some r:=⟨1,fun n hn=>by
 obtain ⟨k,rfl⟩:∃ k,n=k + 1:=⟨n - 1,by omega⟩
 exact h k⟩
theorem FGrow.cont {fr:FR T}{j:Nat}{b b':TO T}(hb:fr[j]? = some b)(ht:b'.ty=b.ty)(hw:wdL b'.c=wdL b.c)(hs:b.s < b'.s):FGrow fr (fr.set j b'):=fun i c hi=>by
 by_cases e:i=j
 ·subst e
  rw [hb] at hi; cases hi
  exact ⟨b',by rw [List.getElem?_set_self (List.getElem?_eq_some_iff.1 hb).1],ht,hw,by omega,fun e=>by omega⟩
 ·exact ⟨c,by rw [List.getElem?_set_ne (by omega)]; exact hi,rfl,rfl,Nat.le_refl _,fun _=>rfl⟩
end
end Go.Proofs.YtbcfddaocfpckaaGreatDoor.Tl
end
section
namespace Go.Proofs.YtbcfddaocfpckaaGreatDoor.Tl
open Go Go.Proofs.YtbcfddaocfpckaaGreatDoor.Abs
inductive OD where
 | cells (l:List SD)
 | cont (d:MD)
def OD.Ty (T:TT):OD→Type
 | .cells l=>RTy T l
 | .cont d=>d.Ty
def oneSD:SD→Bool
 | .row _=>false
 | _=>true
def OD.ok:OD→Bool
 | .cells l=>l.all oneSD
 | .cont _=>true
def OD.get {T:TT}(F:TF T):(d:OD)→TO T→Option (d.Ty T)
 | .cells l,b=>match b.m with
  | .no=>decL F l b.c
  | _=>none
 | .cont d,b=>d.get b.m
def OD.to (T:TT)(t:TypeId)(s:Nat):(d:OD)→d.Ty T→TO T
 | .cells l,x=>⟨s,tvL T l x,t,.no⟩
 | .cont d,x=>⟨s,[],t,d.om x⟩
def cellLA:Nat→List SD→LA
 | _,[]=>[]
 | o,d :: l=>.cell 0 o d :: cellLA (o + 1) l
def OD.la:OD→LA
 | .cells l=>cellLA 0 l
 | .cont d=>[.cont 0 d]
def unL (T:TT):(o:Nat)→(l:List SD)→Acc T (cellLA o l)→RTy T l
 | _,[],_=>()
 | o,_ :: l,(x,r)=>(x,unL T (o + 1) l r)
def OD.un (T:TT):(d:OD)→Acc T d.la→d.Ty T
 | .cells l,a=>unL T 0 l a
 | .cont _,a=>a.1
section
variable {T:TT}{F:TF T}
theorem dec_one {d:SD}(h:oneSD d=true){τ:Nat}{y:T.D τ}:SD.dec F d (.row τ y)=none:=by
 cases d <;> first | rfl | (cases h)
theorem CR.dec (ok:TFok F){ad:List Nat}(ad':List Nat):∀ {l:List SD} {vs:List (TV T)} {cs:List AV} {x:RTy T l},l.all oneSD=true→CR ad vs cs→decL F l vs=some x→CR ad' (tvL T l x) cs
 | [],_,_,x,_,.nil,h=>.nil
 | [],_,_,x,_,.row ..,h=>by simp [decL] at h
 | [],_,_,x,_,.one ..,h=>by simp [decL] at h
 | d :: l,_,_,x,_,.nil,h=>by simp [decL] at h
 | d :: l,_,_,x,hl,.row τ y c hc vs ds hv,h=>by
  rw [List.all_cons,Bool.and_eq_true] at hl
  simp only [decL,dec_one hl.1] at h
  cases h
 | d :: l,_,_,x,hl,.one v a hv h1 vs ds hr,h=>by
  rw [List.all_cons,Bool.and_eq_true] at hl
  simp only [decL] at h
  split at h
  ·rename_i y r hy hr'
   cases h
   exact .one _ _ (dec_ok ok hv hy ad') h1 _ _ (CR.dec ok ad' hl.2 hr hr')
  ·cases h
theorem wdL_tvL:∀ {l:List SD} (x:RTy T l),l.all oneSD=true→wdL (tvL T l x)=l.length
 | [],_,_=>rfl
 | d :: l,(x,r),hl=>by
  rw [List.all_cons,Bool.and_eq_true] at hl
  simp only [tvL,wdL,List.length_cons,wdL_tvL r hl.2]
  have:(d.tv T x).wd=1:=by cases d <;> first | rfl | (cases hl.1)
  omega
theorem OD.get_ok (ok:TFok F){d:OD}(hd:d.ok=true){ad:List Nat}{b:TO T}{ob:AObj}{c:d.Ty T}(hb:OR ad b ob)(h:d.get F b=some c)(ad':List Nat)(s:Nat):OR ad' (d.to T b.t s c) ob∧(∀ c' s',(d.to T b.t s' c').ty=b.ty∧wdL (d.to T b.t s' c').c=wdL b.c):=by
 cases d with
 | cells l =>
  have hq:b.m=.no∧decL F l b.c=some c:=by
   have h':(match b.m with | .no=>decL F l b.c | _=>none)=some c:=h
   cases hm:b.m <;> rw [hm] at h' <;> first | exact ⟨rfl,h'⟩ | (exact nomatch h')
  obtain ⟨hm,h'⟩:=hq
  cases hb with
  | cells cs _ hc =>
   refine ⟨.cells cs rfl (CR.dec ok ad' hd hc h'),fun c' s'=>⟨?_,?_⟩⟩
   ·show (b.t,true)=(b.t,b.m.isNo); rw [hm]; rfl
   ·have e1:=hc.len ok
    have e2:=(CR.dec ok ad' hd hc h').len ok
    show wdL (tvL T l c')=_
    rw [wdL_tvL c' hd,← e1,e2,wdL_tvL c hd]
  | bad _ hm'=>rw [hm] at hm'; cases hm'
  | map0 hm'=>rw [hm] at hm'; cases hm'
  | map _ _ hm'=>rw [hm] at hm'; cases hm'
  | buf0 _ _ hm'=>rw [hm] at hm'; cases hm'
  | bufN _ _ _ hm'=>rw [hm] at hm'; cases hm'
  | buf _ _ _ _ hm'=>rw [hm] at hm'; cases hm'
 | cont d =>
  obtain ⟨h1,h2,h3⟩:=MD.get_ok hb h
  refine ⟨h1.or rfl rfl,fun c' s'=>⟨?_,by rw [h2]; rfl⟩⟩
  show (b.t,(d.om c').isNo)=(b.t,b.m.isNo)
  rw [h3]
  cases d <;> rfl
theorem tv_any {ad:List Nat}(ad':List Nat){d:SD}{x:d.Ty T}{a:AV}(h:VR ad (d.tv T x) a):VR ad' (d.tv T x) a:=by
 cases d <;> cases h <;> first | exact .av _ _ (by assumption) | exact .row _ _ _ (by assumption) | exact .lst _ _ _ _ (by assumption) | exact .own _ _ _
theorem CR.any {ad:List Nat}(ad':List Nat):∀ {l:List SD} {x:RTy T l} {cs:List AV},CR ad (tvL T l x) cs→CR ad' (tvL T l x) cs
 | [],_,_,.nil=>.nil
 | d :: l,(x,r),cs,h=>by
  simp only [tvL] at h ⊢
  generalize hv:d.tv T x=v at h
  cases h with
  | row τ y c hc _ ds hl=>exact .row τ y c hc _ _ (CR.any ad' hl)
  | one _ a ha h1 _ ds hl=>subst hv; exact .one _ _ (tv_any ad' ha) h1 _ _ (CR.any ad' hl)
end
end Go.Proofs.YtbcfddaocfpckaaGreatDoor.Tl
end
