import Derived.Shelf.Strconv.Itoa0
import Derived.Shelf.Strconv.Itoa1
import Derived.Shelf.Strconv.Itoa2
import Derived.Shelf.Strconv.Itoa3
import Derived.Test.YtleomfgijkapfaaGreatDoorProg
import Derived.WalkKit
import Derived.WalkSmall
import Derived.Deep.Slices
import Derived.ChangeArms
import Derived.DataReads
import Derived.WideKeyArgs
import Derived.SizedLaws
import Derived.Test.YtleomfgijkapfaaGreatDoorR7
set_option linter.all false
section
namespace Go.Proofs
open Go.Shelf
def Tryz.lays171_ren:Go.Shelf.Ren:=⟨fun | 171=>89 | 243=>169 | 246=>209 | 283=>240 | 284=>241 | 285=>242 | 286=>243 | 129=>259 | 317=>258 | 318=>260 | 319=>261 | 320=>262 | 337=>269 | 338=>270 | n=>n,fun | 3=>3 | 9=>9 | 2=>2 | 4=>4 | 171=>273 | 0=>0 | 53=>274 | 37=>91 | 5=>5 | 173=>277 | 212=>292 | 51=>293 | 20=>20 | 213=>294 | 46=>295 | 232=>311 | 233=>312 | n=>n,fun | 17=>2 | 18=>3 | 19=>4 | n=>n⟩
theorem Tryz.lays171:Go.Proofs.Lays.n171 Tryz.prog Tryz.lays171_ren:={
 mixed := by kernel_rfl
 f129:=Tryz.func259.trans (congrArg some (by kernel_rfl))
 f171:=Tryz.func89.trans (congrArg some (by kernel_rfl))
 f243:=Tryz.func169.trans (congrArg some (by kernel_rfl))
 f246:=Tryz.func209.trans (congrArg some (by kernel_rfl))
 f283:=Tryz.func240.trans (congrArg some (by kernel_rfl))
 f284:=Tryz.func241.trans (congrArg some (by kernel_rfl))
 f285:=Tryz.func242.trans (congrArg some (by kernel_rfl))
 f286:=Tryz.func243.trans (congrArg some (by kernel_rfl))
 f317:=Tryz.func258.trans (congrArg some (by kernel_rfl))
 f318:=Tryz.func260.trans (congrArg some (by kernel_rfl))
 f319:=Tryz.func261.trans (congrArg some (by kernel_rfl))
 f320:=Tryz.func262.trans (congrArg some (by kernel_rfl))
 f337:=Tryz.func269.trans (congrArg some (by kernel_rfl))
 f338:=Tryz.func270.trans (congrArg some (by kernel_rfl))
 t0:=Tryz.underlying0
 a0:=Tryz.isAgg0
 z0:=Tryz.sizeOf0
 v0:=Tryz.zeroValue0
 t2:=Tryz.underlying2
 a2:=Tryz.isAgg2
 z2:=Tryz.sizeOf2
 v2:=Tryz.zeroValue2
 t3:=Tryz.underlying3
 a3:=Tryz.isAgg3
 z3:=Tryz.sizeOf3
 v3:=Tryz.zeroValue3
 t4:=Tryz.underlying4
 a4:=Tryz.isAgg4
 z4:=Tryz.sizeOf4
 v4:=Tryz.zeroValue4
 t5:=Tryz.underlying5
 a5:=Tryz.isAgg5
 z5:=Tryz.sizeOf5
 v5:=Tryz.zeroValue5
 t9:=Tryz.underlying9
 a9:=Tryz.isAgg9
 z9:=Tryz.sizeOf9
 v9:=Tryz.zeroValue9
 t20:=Tryz.underlying20
 a20:=Tryz.isAgg20
 z20:=Tryz.sizeOf20
 v20:=Tryz.zeroValue20
 t37:=Tryz.underlying91
 a37:=Tryz.isAgg91
 z37:=Tryz.sizeOf91
 v37:=Tryz.zeroValue91
 t46:=Tryz.underlying295
 a46:=Tryz.isAgg295
 z46:=Tryz.sizeOf295
 v46:=Tryz.zeroValue295
 t51:=Tryz.underlying293
 a51:=Tryz.isAgg293
 z51:=Tryz.sizeOf293
 v51:=Tryz.zeroValue293
 t53:=Tryz.underlying274
 a53:=Tryz.isAgg274
 z53:=Tryz.sizeOf274
 v53:=Tryz.zeroValue274
 t171:=Tryz.underlying273
 a171:=Tryz.isAgg273
 z171:=Tryz.sizeOf273
 v171:=Tryz.zeroValue273
 t173:=Tryz.underlying277
 a173:=Tryz.isAgg277
 z173:=Tryz.sizeOf277
 v173:=Tryz.zeroValue277
 t212:=Tryz.underlying292
 a212:=Tryz.isAgg292
 z212:=Tryz.sizeOf292
 v212:=Tryz.zeroValue292
 t213:=Tryz.underlying294
 a213:=Tryz.isAgg294
 z213:=Tryz.sizeOf294
 t232:=Tryz.underlying311
 a232:=Tryz.isAgg311
 z232:=Tryz.sizeOf311
 v232:=Tryz.zeroValue311
 t233:=Tryz.underlying312
 a233:=Tryz.isAgg312
 z233:=Tryz.sizeOf312
 v233:=Tryz.zeroValue312
 g17:=by kernel_rfl
 g18:=by kernel_rfl
 g19:=by kernel_rfl }
open Go.RowKit Go.Sort Go.Lib in
theorem Tryz.strconv_Itoa_small (i:Nat) (hi:i < 100) (w:World) :
  Calls Tryz.prog 89 #[.int .i64 i] w fun e w'=>e=.returned (.string ⟨(Lib.decDigits i).toArray⟩)∧w'=w:=Any.strconv_Itoa_small Tryz.lays171 i hi w
open Go.RowKit in
theorem Tryz.text_small (i:Nat) (hi:i < 100) (w:World) :
  Calls Tryz.prog 40 #[.int .i64 i] w fun e w'=>e=.returned (.string ⟨(Lib.decDigits i).toArray⟩)∧w'=w:=by
 go_enter Tryz.func40,Tryz.ntmps40
 go_wp2_with (go_at_call 89; refine (Tryz.strconv_Itoa_small i hi w).mono ?_; rintro e w' ⟨rfl,rfl⟩)
 go_wp2
 go_ret
 exact ⟨rfl,rfl⟩
end Go.Proofs
end
section
namespace Go.Proofs.YtleomfgijkapfaaGreatDoor
open Go Go.RowKit Go.Shelf Go.Proofs.YtleomfgijkapfaaGreatDoor.Abs
open Nat (reduceAdd reduceLeDiff)
set_option maxRecDepth 100000
set_option maxHeartbeats 0
abbrev Tryz.grow_ren:Ren:=⟨fun | 4=>223 | n=>n,fun | 22=>62 | 25=>126 | n=>n,fun | n=>n⟩
theorem Tryz.grow_lays:Lays8.n4 Tryz.prog Tryz.grow_ren where
 mixed:=by kernel_rfl
 f4:=⟨ "slices.Grow[[]simulator/api.Field,simulator/api.Field]",by decide,Tryz.func223.trans (congrArg some (by kernel_rfl))⟩
 t0:=Tryz.underlying0
 a0:=Tryz.isAgg0
 z0:=Tryz.sizeOf0
 v0:=Tryz.zeroValue0
 t3:=Tryz.underlying3
 a3:=Tryz.isAgg3
 z3:=Tryz.sizeOf3
 v3:=Tryz.zeroValue3
 t4:=Tryz.underlying4
 a4:=Tryz.isAgg4
 z4:=Tryz.sizeOf4
 v4:=Tryz.zeroValue4
 t9:=Tryz.underlying9
 a9:=Tryz.isAgg9
 z9:=Tryz.sizeOf9
 v9:=Tryz.zeroValue9
 t20:=Tryz.underlying20
 a20:=Tryz.isAgg20
 z20:=Tryz.sizeOf20
 v20:=Tryz.zeroValue20
 t22:=Tryz.underlying62
 a22:=Tryz.isAgg62
 z22:=Tryz.sizeOf62
 v22:=Tryz.zeroValue62
theorem Zws (W0:World):YS Tryz.prog W0 (Zrj 223 2 24):=by
 obtain ⟨i,h1,h2⟩:∃ i:TypeInfo,Tryz.prog.info? 126=some i∧i.size=2∧i.bytes=24∧∃ z,i.zero=some z∧z.cells.size=2:=⟨_,rfl,rfl,rfl,_,rfl,rfl⟩
 obtain ⟨h2,h3,z,h4,h5⟩:=h2
 have:=Zs6 (W0 := W0) Tryz.grow_lays (i0 := i) (z := z) h1 h4 (by rw [h5,h2]) (by omega)
 rw [h2,h3] at this
 exact this
theorem ZwU {i:Nat}(h:i < 100):Lib.decDigits i=Z0b i:=by
 unfold Z0b
 by_cases h1:i < 10
 ·rw [if_pos h1,Lib.decDigits_one h1]
 ·rw [if_neg h1,Lib.decDigits_two h1 h]
theorem ZvO (W0:World):∀ f args v,textS f args=some v→Zbi Tryz.prog W0 f args v:=by
 intro f args v h
 unfold textS at h
 split at h
 ·rename_i e; subst e
  split at h
  ·rename_i n
   split at h <;> cases h
   rename_i hn
   refine ⟨fun _ _ h=>(by cases h),fun Γ w xs hb hΓ hs hx=>?_⟩
   have h0:xs.getD 0 Go.undef=.int .i64 (n.toNat:Int):=by
    have:=hx 0 _ rfl
    rw [show ((n.toNat:Nat):Int)=n by omega]
    generalize xs.getD 0 Go.undef=u at this
    cases this; rfl
   have hxs:xs=#[.int .i64 (n.toNat:Int)]:=by
    refine Array.ext (by simpa using hs) fun i h2 h3=>?_
    have:i=0:=by simp at h3; omega
    subst this
    rw [Array.getD_eq_getD_getElem?,Array.getElem?_eq_getElem h2] at h0; simpa using h0
   subst hxs
   refine Rx Tryz.func40 (by kernel_rfl) rfl ((Tryz.text_small n.toNat (by omega) w).mono ?_)
   rintro e w' ⟨rfl,rfl⟩
   exact ⟨_,rfl,Below.refl _ _,by rw [ZwU (by omega)]; exact .str _⟩
  ·cases h
 ·cases h
theorem Zyu (W0:World):YS Tryz.prog W0 O17:=by
 intro f args hp v hp' e h Γ w xs hr ht hs hx
 unfold O17 at h
 split at h
 ·exact ZzM W0 _ _ _ _ _ _ h Γ w xs hr ht hs hx
 ·exact ZzJ W0 _ _ _ _ _ _ h Γ w xs hr ht hs hx
 ·exact Zyh W0 _ _ _ _ _ _ h Γ w xs hr ht hs hx
 ·exact Zu5 W0 _ _ _ _ _ _ h Γ w xs hr ht hs hx
 ·exact Bo (ZvO W0) _ _ _ _ _ _ h Γ w xs hr ht hs hx
 ·exact Zws W0 _ _ _ _ _ _ h Γ w xs hr ht hs hx
def GF:Nat→Option (List AV):=fun g=>if g=0 then some [.lst 9 (KW.map Jp)] else none
theorem ZmO {G:Nat→Option (List AV)}{w w':World}(h:GOk G w)(hb:Below w.heap.size w w'):GOk G w':=by
 intro g cells hg
 obtain ⟨h1,h2⟩:=h g cells hg
 refine ⟨Nat.lt_of_lt_of_le h1 hb.size,fun j c hc=>?_⟩
 obtain ⟨u,k1,k2,k3⟩:=h2 j c hc
 exact ⟨u,(GV (hb.block g h1)).trans k1,k2,k3.mono (Γ':=fun _=>.imm) (fun b o v _ h=>⟨trivial,(GV (hb.block b (lt_of_cell h))).trans h⟩) (fun b g h=>h)⟩
theorem ZzW {w:World}(h:GOk GF w):ZlI Tryz.prog w CW where
 mixed:=by kernel_rfl
 globals:=h
 table:=fun f af h=>by
  have h:(ZzF.find? (·.1 == f)).map (·.2)=some af:=h
  obtain ⟨p,hp,rfl⟩:=Option.map_eq_some_iff.1 h
  have hf:=List.find?_some hp
  have:p.1=f:=by simpa using hf
  subst this
  exact ZtR p (List.mem_of_find?_eq_some hp)
 oracle:=Zyu w
theorem ZuC {f:FuncId}{args:List AV}{v:AV}(h:isR f args v=true):Zb CW 60 f args []=some (v,[],none):=by
 unfold isR at h
 split at h
 ·rename_i u he
  rw [ZvY _ _ _ h]; exact he
 ·cases h
theorem ran {W0:World}(hG:GOk GF W0){f:FuncId}{args:List AV}{v:AV}(h:isR f args v=true)(hv:v.flat1=true)(ha:args.all AV.apart=true)(ho:args.all (fun x=>!Z0k x)=true){fn:Func}{c:Code}(hf:Tryz.prog.funcs[f]? = some fn)
  (hn:(fn.name == "runtime.NumGoroutine")=false) (hb:fn.body=some c):Zbi Tryz.prog W0 f args v:=by
 refine ⟨fun k r h=>(by subst h; cases hv),fun Γ w xs hb0 _ hs hx=>?_⟩
 refine Rx hf hn hb ((Zuq (ZzW (ZmO hG hb0)) (ZuC h) hv hs fun j x hj=>⟨(hx j x hj).still' (List.all_eq_true.1 ha x (List.mem_of_getElem? hj)),fun k r e=>?_⟩).mono ?_)
 ·have:=List.all_eq_true.1 ho x (List.mem_of_getElem? hj)
  rw [e] at this
  cases this
 ·rintro e w' ⟨cv,rfl,hb',hr⟩
  exact ⟨cv,rfl,hb',Pz hr hv⟩
theorem Zxk {W0:World}(hG:GOk GF W0):∀ f args v,Zxj f args=some v→Zbi Tryz.prog W0 f args v:=by
 intro f args v h
 unfold Zxj at h
 obtain ⟨e,he,rfl⟩:=Option.map_eq_some_iff.1 h
 have hm:=List.mem_of_find?_eq_some he
 have hq:=List.find?_some he
 simp only [Bool.and_eq_true,beq_iff_eq] at hq
 obtain ⟨rfl,hq⟩:=hq
 have ha:=Zbp (ZvY 12) hq
 rw [← ha]
 simp only [ZyY,List.mem_cons,List.not_mem_nil,or_false] at hm
 rcases hm with rfl | rfl | rfl | rfl | rfl | rfl | rfl
 ·exact ran hG Zz8 rfl rfl rfl Tryz.func11 (by kernel_rfl) rfl
 ·exact ran hG Zz9 rfl rfl rfl Tryz.func11 (by kernel_rfl) rfl
 ·exact ran hG ZzA rfl rfl rfl Tryz.func14 (by kernel_rfl) rfl
 ·exact ran hG ZzB rfl rfl rfl Tryz.func14 (by kernel_rfl) rfl
 ·exact ran hG run_text rfl rfl rfl Tryz.func18 (by kernel_rfl) rfl
 ·exact ran hG ZzC rfl rfl rfl Tryz.func21 (by kernel_rfl) rfl
 ·exact ran hG ZzD rfl rfl rfl Tryz.func21 (by kernel_rfl) rfl
theorem ZzV {W0:World}(hG:GOk GF W0):ZlI Tryz.prog W0 CM where
 mixed:=by kernel_rfl
 globals:=fun g cells h=>by cases h
 table:=fun f af h=>by
  have h:(if [11,14,18,21].contains f then none else (ZzF.find? (·.1 == f)).map (·.2))=some af:=h
  split at h
  ·cases h
  obtain ⟨p,hp,rfl⟩:=Option.map_eq_some_iff.1 h
  have hf:=List.find?_some hp
  have:p.1=f:=by simpa using hf
  subst this
  exact ZtR p (List.mem_of_find?_eq_some hp)
 oracle:=Bo (Zxk hG)
theorem ZuF {r:Option (AV×List Zw×Eff)}(h:isT r=true):∃ hp e,r=some (.bool true,hp,e):=by
 unfold isT at h
 split at h
 ·exact ⟨_,_,rfl⟩
 ·cases h
theorem ZwS {w:World}(hG:GOk GF w):Calls Tryz.prog J5 #[] w fun e w'=>e=.returned (.bool true)∧Below w.heap.size w w':=by
 obtain ⟨hp,e,h⟩:=ZuF Zyd
 exact ZzG (ZzV hG) Tryz.func10 Zla ZlB h
end Go.Proofs.YtleomfgijkapfaaGreatDoor
end
section
namespace Go.Proofs.YtleomfgijkapfaaGreatDoor
open Go Go.RowKit Go.Proofs.YtleomfgijkapfaaGreatDoor.Abs
open Nat (reduceAdd reduceLeDiff)
set_option maxRecDepth 100000
set_option maxHeartbeats 0
def Z7 (x0:YP)(x1:Int)(x2:Int):Option Int :=
 Yq (Iw x0.p.Sites x0.site) fun y3=>if (decide (x1=1))=true then some x0.c.Slots else if (decide (x1=2))=true then some (y3.Decl.Vars.length:Int) else if (decide (x1=3))=true then some (y3.Decl.Streams.length:Int) else if (decide (x1=4))=true then some (x0.c.Instrs.length:Int) else if (decide (x1=5))=true then some (y3.Decl.Resources.length:Int) else if (decide (x1=6))=true then some (y3.Decl.Stores.length:Int) else if (decide (x1=7))=true then some (y3.Decl.Belts.length:Int) else if (decide (x1=8))=true then some (y3.Decl.Queues.length:Int) else if (decide (x1=9))=true then some (x0.p.Sites.length:Int) else if (decide (x1=10))=true then (Yq (Iw x0.p.Sites x2) fun y4=>some (y4.Routines.length:Int)) else if (decide (x1=11))=true then some (y3.Decl.Tallies.length:Int) else if (decide (x1=12))=true then some (y3.Decl.Levels.length:Int) else if (decide (x1=13))=true then some (y3.Decl.Counts.length:Int) else some 1
theorem Og {C:Cfg}(hC:LH C)(N:Nat)(x0:YP)(x1:Int)(x2:Int)(hN:1≤N)(hp0:HP)(okx0:UG x0){res}(hres:Z7 x0 x1 x2=some res):Zb C N Jc [(.agg (WS x0)),(.int .i64 x1),(.int .i64 x2)] hp0=some ((AV.int .i64 res),hp0,none):=by
 obtain ⟨M,rfl,hh⟩:=exM hp0 (by omega:1≤N)
 refine SQ (by rw [hC.T]; rfl) ?_
 obtain ⟨h72,hh3,g4,l5⟩:=mkH hp0 (Zw.cells (WS x0) Yr)
 cases q7:Iw x0.p.Sites x0.site with
 | none =>
  simp only [Z7,IFJ,Yc,q7] at hres; cases hres
 | some y6 =>
  have y6e:YN (.slice 14) (.lst 14 (x0.p.Sites.map ZF)) (.int .i64 x0.site)=some (.ref (ZF y6)):=Tz (row := ZF) q7
  have oky6:=(okx0.p.Sites).2 _ (Wj q7)
  have memy6:=Wj q7
  have e8:Zx h72 13 (.ref (List.drop 0 (ZF y6)))=some (.agg (Yh y6.Decl)):=ZeZ (by simp only [List.length_drop,TF]; omega) (by first | exact Uy _ | rfl | (simp only [rSiteCode_eq]; rfl)) (by exact Ou _)
  obtain ⟨h9,hh9,g10,l11⟩:=mkH h72 (Zw.cells [(.str []),(.own 3 []),(.own 17 []),(.own 3 []),(.own 3 []),(.own 1 []),(.own 1 []),(.own 1 []),(.own 1 []),(.own 1 []),(.own 4 []),(.own 5 []),(.own 3 [])] Yz)
  have g12:=keA hh9 g4
  obtain ⟨h13,hh13,g14,l15⟩:=seH g10 (Zw.cells (Yh y6.Decl) Yz)
  have g16:=keS hh13 g12 (by omega)
  have e17:stV hp0.length 13 (.ptr h72.length 0) (.agg (Yh y6.Decl)) h9 none=some (h13,none):=by rw [← hh13]; exact Hq g10 (by first | rfl | exact VV _) (by simp) rfl (by omega) (by rw [XW]; exact Xn (by exact VV _) (by rfl))
  rcases Bool.eq_false_or_eq_true ((decide (x1=1))) with b18 | b18
  ·simp only [Z7,IFJ,q7,Ze,b18] at hres
   cases hres
   simp only [Yy,COL,Zk,ZK,ZG,reduceAdd,reduceLeDiff,Nat.reduceBEq,hh3,LG g4,y6e,e8,hh9,e17,b18,LG g16]
   try rfl
  ·rcases Bool.eq_false_or_eq_true ((decide (x1=2))) with b19 | b19
   ·simp only [Z7,IFJ,q7,Ze,b18,b19] at hres
    cases hres
    simp only [Yy,COL,Zk,ZK,ZG,reduceAdd,reduceLeDiff,Nat.reduceBEq,hh3,LG g4,y6e,e8,hh9,e17,b18,b19,LG g14]
    try rfl
   ·rcases Bool.eq_false_or_eq_true ((decide (x1=3))) with b20 | b20
    ·simp only [Z7,IFJ,q7,Ze,b18,b19,b20] at hres
     cases hres
     simp only [Yy,COL,Zk,ZK,ZG,reduceAdd,reduceLeDiff,Nat.reduceBEq,hh3,LG g4,y6e,e8,hh9,e17,b18,b19,b20,LG g14]
     try rfl
    ·rcases Bool.eq_false_or_eq_true ((decide (x1=4))) with b21 | b21
     ·simp only [Z7,IFJ,q7,Ze,b18,b19,b20,b21] at hres
      cases hres
      simp only [Yy,COL,Zk,ZK,ZG,reduceAdd,reduceLeDiff,Nat.reduceBEq,hh3,LG g4,y6e,e8,hh9,e17,b18,b19,b20,b21,LG g16]
      try rfl
     ·rcases Bool.eq_false_or_eq_true ((decide (x1=5))) with b22 | b22
      ·simp only [Z7,IFJ,q7,Ze,b18,b19,b20,b21,b22] at hres
       cases hres
       simp only [Yy,COL,Zk,ZK,ZG,reduceAdd,reduceLeDiff,Nat.reduceBEq,hh3,LG g4,y6e,e8,hh9,e17,b18,b19,b20,b21,b22,LG g14]
       try rfl
      ·rcases Bool.eq_false_or_eq_true ((decide (x1=6))) with b23 | b23
       ·simp only [Z7,IFJ,q7,Ze,b18,b19,b20,b21,b22,b23] at hres
        cases hres
        simp only [Yy,COL,Zk,ZK,ZG,reduceAdd,reduceLeDiff,Nat.reduceBEq,hh3,LG g4,y6e,e8,hh9,e17,b18,b19,b20,b21,b22,b23,LG g14]
        try rfl
       ·rcases Bool.eq_false_or_eq_true ((decide (x1=7))) with b24 | b24
        ·simp only [Z7,IFJ,q7,Ze,b18,b19,b20,b21,b22,b23,b24] at hres
         cases hres
         simp only [Yy,COL,Zk,ZK,ZG,reduceAdd,reduceLeDiff,Nat.reduceBEq,hh3,LG g4,y6e,e8,hh9,e17,b18,b19,b20,b21,b22,b23,b24,LG g14]
         try rfl
        ·rcases Bool.eq_false_or_eq_true ((decide (x1=8))) with b25 | b25
         ·simp only [Z7,IFJ,q7,Ze,b18,b19,b20,b21,b22,b23,b24,b25] at hres
          cases hres
          simp only [Yy,COL,Zk,ZK,ZG,reduceAdd,reduceLeDiff,Nat.reduceBEq,hh3,LG g4,y6e,e8,hh9,e17,b18,b19,b20,b21,b22,b23,b24,b25,LG g14]
          try rfl
         ·rcases Bool.eq_false_or_eq_true ((decide (x1=9))) with b26 | b26
          ·simp only [Z7,IFJ,q7,Ze,b18,b19,b20,b21,b22,b23,b24,b25,b26] at hres
           cases hres
           simp only [Yy,COL,Zk,ZK,ZG,reduceAdd,reduceLeDiff,Nat.reduceBEq,hh3,LG g4,y6e,e8,hh9,e17,b18,b19,b20,b21,b22,b23,b24,b25,b26,LG g16]
           try rfl
          ·rcases Bool.eq_false_or_eq_true ((decide (x1=10))) with b27 | b27
           ·cases q29:Iw x0.p.Sites x2 with
            | none =>
             simp only [Z7,IFJ,Yc,q7,Ze,b18,b19,b20,b21,b22,b23,b24,b25,b26,b27,q29] at hres; cases hres
            | some y28 =>
             have y28e:YN (.slice 14) (.lst 14 (x0.p.Sites.map ZF)) (.int .i64 x2)=some (.ref (ZF y28)):=Tz (row := ZF) q29
             have oky28:=(okx0.p.Sites).2 _ (Wj q29)
             have memy28:=Wj q29
             simp only [Z7,IFJ,q7,Ze,b18,b19,b20,b21,b22,b23,b24,b25,b26,b27,q29] at hres
             cases hres
             simp only [Yy,COL,Zk,ZK,ZG,reduceAdd,reduceLeDiff,Nat.reduceBEq,hh3,LG g4,y6e,e8,hh9,e17,b18,b19,b20,b21,b22,b23,b24,b25,b26,b27,LG g16,y28e]
             try rfl
           ·rcases Bool.eq_false_or_eq_true ((decide (x1=11))) with b30 | b30
            ·simp only [Z7,IFJ,q7,Ze,b18,b19,b20,b21,b22,b23,b24,b25,b26,b27,b30] at hres
             cases hres
             simp only [Yy,COL,Zk,ZK,ZG,reduceAdd,reduceLeDiff,Nat.reduceBEq,hh3,LG g4,y6e,e8,hh9,e17,b18,b19,b20,b21,b22,b23,b24,b25,b26,b27,b30,LG g14]
             try rfl
            ·rcases Bool.eq_false_or_eq_true ((decide (x1=12))) with b31 | b31
             ·simp only [Z7,IFJ,q7,Ze,b18,b19,b20,b21,b22,b23,b24,b25,b26,b27,b30,b31] at hres
              cases hres
              simp only [Yy,COL,Zk,ZK,ZG,reduceAdd,reduceLeDiff,Nat.reduceBEq,hh3,LG g4,y6e,e8,hh9,e17,b18,b19,b20,b21,b22,b23,b24,b25,b26,b27,b30,b31,LG g14]
              try rfl
             ·rcases Bool.eq_false_or_eq_true ((decide (x1=13))) with b32 | b32
              ·simp only [Z7,IFJ,q7,Ze,b18,b19,b20,b21,b22,b23,b24,b25,b26,b27,b30,b31,b32] at hres
               cases hres
               simp only [Yy,COL,Zk,ZK,ZG,reduceAdd,reduceLeDiff,Nat.reduceBEq,hh3,LG g4,y6e,e8,hh9,e17,b18,b19,b20,b21,b22,b23,b24,b25,b26,b27,b30,b31,b32,LG g14]
               try rfl
              ·simp only [Z7,IFJ,q7,Ze,b18,b19,b20,b21,b22,b23,b24,b25,b26,b27,b30,b31,b32] at hres
               cases hres
               simp only [Yy,COL,Zk,ZK,ZG,reduceAdd,reduceLeDiff,Nat.reduceBEq,hh3,LG g4,y6e,e8,hh9,e17,b18,b19,b20,b21,b22,b23,b24,b25,b26,b27,b30,b31,b32]
               try rfl
def Z8 (x0:YP)(x1:Int)(x2:Int)(x3:Int):Option Bool :=
 if (decide (0≤x2))=true then (Yq ((Z7 x0 x1 x3)) fun v124=>some (decide (x2 < v124))) else some false
theorem QP {C:Cfg}(hC:LH C)(N:Nat)(x0:YP)(x1:Int)(x2:Int)(x3:Int)(hN:2≤N)(hp0:HP)(okx0:UG x0){res}(hres:Z8 x0 x1 x2 x3=some res):Zb C N Qa [(.agg (WS x0)),(.int .i64 x1),(.int .i64 x2),(.int .i64 x3)] hp0=some ((AV.bool res),hp0,none):=by
 obtain ⟨M,rfl,hh⟩:=exM hp0 (by omega:1≤N)
 refine Am (by rw [hC.T]; rfl) ?_
 obtain ⟨h4,hh4,g5,l6⟩:=mkH hp0 (Zw.cells (WS x0) Yr)
 rcases Bool.eq_false_or_eq_true ((decide (0≤x2))) with b7 | b7
 ·cases q9:(Z7 x0 x1 x3) with
  | none =>
   simp only [Z8,IFJ,Yc,b7,q9] at hres; cases hres
  | some v124 =>
   have c8:=fun hp:HP=>Og hC M x0 x1 x3 (by omega) hp okx0 q9
   simp only [Z8,IFJ,b7,q9,Ze] at hres
   cases hres
   simp only [Tn,COL,ZG,reduceAdd,reduceLeDiff,Nat.reduceBEq,hh4,b7,LG g5,c8]
   try rfl
 ·simp only [Z8,IFJ,b7] at hres
  cases hres
  simp only [Tn,COL,ZG,reduceAdd,reduceLeDiff,Nat.reduceBEq,hh4,b7]
  try rfl
def Xo (r__code_place__sees:YP→ZH→Option Bool)(x0:ZH)(x1:YP):Option Bool :=
 Yq ((r__code_place__sees x1 x0)) fun v138=>some (!v138)
theorem Ad {C:Cfg}(hC:LH C)(kr:Nat)(r__code_place__sees:YP→ZH→Option Bool)(hr__code_place__sees:∀ (N:Nat) (a0:YP) (a1:ZH),kr≤N→∀ (hp:HP),UG a0→Y2 a1→∀ {res},r__code_place__sees a0 a1=some res→Zb C N YT [(.agg (WS a0)),(.agg (Zt a1))] hp=some ((AV.bool res),hp,none))(N:Nat)(x0:ZH)(x1:YP)(hN:kr + 1≤N)(hp0:HP)(okx0:Y2 x0)(okx1:UG x1)(gx1:Nat)(tgx1:TypeId)(hgx1:hp0[gx1]? = some (.cells (WS x1) tgx1)){res}(hres:Xo r__code_place__sees x0 x1=some res):Zb C N WI [(.agg (Zt x0)),(.ptr gx1 0)] hp0=some ((AV.bool res),hp0,none):=by
 obtain ⟨M,rfl,hh⟩:=exM hp0 (by omega:1≤N)
 refine PR (by rw [hC.T]; rfl) ?_
 have lt_hgx1:=(List.getElem?_eq_some_iff.1 hgx1).1
 obtain ⟨h2,hh2,g3,l4⟩:=mkH hp0 (Zw.cells (Zt x0) Zv)
 have g5:=keA hh2 hgx1
 cases q7:(r__code_place__sees x1 x0) with
 | none =>
  simp only [Xo,IFJ,Yc,q7] at hres; cases hres
 | some v138 =>
  have c6:=fun hp:HP=>(hr__code_place__sees) M x1 x0 (by omega) hp okx1 okx0 q7
  simp only [Xo,IFJ,q7,Ze] at hres
  cases hres
  simp only [Lp,COL,ZE,ZG,reduceAdd,reduceLeDiff,Nat.reduceBEq,hh2,LG g5,LG g3,c6]
  try rfl
def Zp (r__code_place__sees:YP→ZH→Option Bool)(x1_0:YP)(k0T:Option Int):List ZH→List ZH→Option Int
 | [],q0=>k0T
 | x152 :: r0,q0=>Yq ((Xo r__code_place__sees x152 x1_0)) fun v1=>if v1=true then some (q0.length:Int) else (Zp r__code_place__sees x1_0 k0T r0) (q0 ++ [x152])
theorem Ws {C:Cfg}(hC:LH C)(kr:Nat)(r__code_place__sees:YP→ZH→Option Bool)(hr__code_place__sees:∀ (N:Nat) (a0:YP) (a1:ZH),kr≤N→∀ (hp:HP),UG a0→Y2 a1→∀ {res},r__code_place__sees a0 a1=some res→Zb C N YT [(.agg (WS a0)),(.agg (Zt a1))] hp=some ((AV.bool res),hp,none))(M:Nat)(x0:List ZH)(x1_0:YP)(hM:kr + 1≤M)(hp0:HP)(okx0:OkL 56 Y2 x0)(okx1_0:UG x1_0)(g_152_0:Nat)(tgx1_0:TypeId)(hb:x0.length≤4611686018427387)(k0:HP→Eff→KR)(k0T:Option Int)(hk0:∀ (hp:HP),hp0.length≤hp.length→hp[g_152_0]? = some (.cells (WS x1_0) tgx1_0)→∀ res,k0T=some res→k0 hp none=some ((AV.int .i64 res),hp0,none)):∀ (r6 q6:List ZH) (m:Nat) (hp:HP),x0=q6 ++ r6→r6.length < m→hp0.length≤hp.length→hp[g_152_0]? = some (.cells (WS x1_0) tgx1_0)→∀ res,Zp r__code_place__sees x1_0 k0T r6 q6=some res→ZU C.G (Zb C M) C.L hp0 k0 m (.lst 4 (x0.map Zt)) (.fn WI [] [(.ptr g_152_0 0)]) (.int .i64 (x0.length:Int)) (.int .i64 (q6.length:Int)) hp none=some ((AV.int .i64 res),hp0,none)
 | _,_,0,_,_,h,_,_,_,_=>by omega
 | [],q6,m + 1,hp,h,hr,hh,f152_0,res,hres=>by
  have l0:=lp0 h
  have lt_f152_0:=(List.getElem?_eq_some_iff.1 f152_0).1
  simp only [Zp,IFJ] at hres
  have hx:=hk0  hp (by omega) f152_0 res hres
  simp only [ZU,COL,ZE,ZG,reduceAdd,reduceLeDiff,Nat.reduceBEq,l0,hx]
  try rfl
 | x152 :: r6,q6,m + 1,hp,h,hr,hh,f152_0,res,hres=>by
  obtain ⟨a1,-,a3,a4,a5⟩:=lp (Zt) h hb
  have me6:=a5
  have a2:(x0.map Zt)[q6.length]? = some (Zt x152):=(lp (Zt) h hb).2.1
  have okx6:=(okx0).2 _ a5
  have lt_f152_0:=(List.getElem?_eq_some_iff.1 f152_0).1
  have ix6:YN (.slice 4) (.lst 4 (x0.map Zt)) (.int .i64 (q6.length:Int))=some (.ref (Zt x152)):=by rw [Jn,a2]; rfl
  have e153:ZkC (Zb C M) (.fn WI [] [(.ptr g_152_0 0)]) [(.agg (Zt x152))] hp=Zb C M WI [(.agg (Zt x152)),(.ptr g_152_0 0)] hp:=rfl
  cases q8:(Xo r__code_place__sees x152 x1_0) with
  | none =>
   simp only [Zp,IFJ,Yc,q8] at hres; cases hres
  | some v7 =>
   have c154:=Ad hC kr r__code_place__sees hr__code_place__sees M x152 x1_0 (by omega) hp okx6 okx1_0 g_152_0 _ f152_0 q8
   rcases Bool.eq_false_or_eq_true (v7) with b9 | b9
   ·simp only [Zp,IFJ,q8,Ze,b9] at hres
    cases hres
    simp only [ZU,COL,ZE,ZG,reduceAdd,reduceLeDiff,Nat.reduceBEq,a1,a3,ix6,e153,c154,b9]
    try rfl
   ·simp only [Zp,IFJ,q8,Ze,b9] at hres
    have hx:=Ws hC kr r__code_place__sees hr__code_place__sees M x0 x1_0 hM hp0 okx0 okx1_0 g_152_0 tgx1_0 hb k0 k0T hk0 r6 (q6 ++ [x152]) m hp a4 (by simpa using hr) (by omega) f152_0 res hres
    simp only [ZU,COL,ZE,ZG,reduceAdd,reduceLeDiff,Nat.reduceBEq,a1,a3,ix6,e153,c154,b9,hx]
    try rfl
def ZR:Option Int :=
 some (-1)
def ZV (r__code_place__sees:YP→ZH→Option Bool)(x0:List ZH)(x1_0:YP):Option Int :=
 Zp r__code_place__sees x1_0 (ZR) x0 []
theorem Vd {C:Cfg}(hC:LH C)(kr:Nat)(r__code_place__sees:YP→ZH→Option Bool)(hr__code_place__sees:∀ (N:Nat) (a0:YP) (a1:ZH),kr≤N→∀ (hp:HP),UG a0→Y2 a1→∀ {res},r__code_place__sees a0 a1=some res→Zb C N YT [(.agg (WS a0)),(.agg (Zt a1))] hp=some ((AV.bool res),hp,none))(N:Nat)(x0:List ZH)(x1_0:YP)(hN:kr + 2≤N)(hp0:HP)(okx0:OkL 56 Y2 x0)(okx1_0:UG x1_0)(gx1_0:Nat)(tgx1_0:TypeId)(hgx1_0:hp0[gx1_0]? = some (.cells (WS x1_0) tgx1_0)){res}(hres:ZV r__code_place__sees x0 x1_0=some res):Zb C N Q4 [(.lst 4 (x0.map Zt)),(.fn WI [] [(.ptr gx1_0 0)])] hp0=some ((AV.int .i64 res),hp0,none):=by
 obtain ⟨M,rfl,hh⟩:=exM hp0 (by omega:1≤N)
 refine Gs (by rw [hC.T]; rfl) ?_
 have lt_hgx1_0:=(List.getElem?_eq_some_iff.1 hgx1_0).1
 simp only [ZV,IFJ] at hres
 have hk2:∀ (hp2:HP),hp0.length≤hp2.length→hp2[gx1_0]? = some (.cells (WS x1_0) tgx1_0)→∀ res,ZR=some res→(Yd C.G (Zb C M) C.L hp0) hp2 none=some ((AV.int .i64 res),hp0,none):=by
  intro hp2 hh2 fz158_0 res hres
  have lt_fz158_0:=(List.getElem?_eq_some_iff.1 fz158_0).1
  simp only [ZR,IFJ] at hres
  cases hres
  simp only [Wv,Yd,COL,ZE,ZG,reduceAdd,reduceLeDiff,Nat.reduceBEq]
  try rfl
 have hb':x0.length≤4611686018427387:=(by have:=(okx0).1; omega)
 have hx:=Ws hC kr r__code_place__sees hr__code_place__sees M x0 x1_0 (by omega) hp0 okx0 okx1_0 gx1_0 tgx1_0 hb' (Yd C.G (Zb C M) C.L hp0) (ZR) hk2 x0 [] C.L hp0 rfl (by have:=hC.L; omega) (by omega) hgx1_0 res hres
 try simp only [NIL] at hx
 simp only [Wv,Yd,COL,ZE,ZG,reduceAdd,reduceLeDiff,Nat.reduceBEq,hx]
 try rfl
def Zc (r__code_place__sees:YP→ZH→Option Bool)(x0:List ZH)(x1_0:YP):Option Bool :=
 Yq ((ZV r__code_place__sees x0 x1_0)) fun v160=>some (decide (0≤v160))
theorem ZI {C:Cfg}(hC:LH C)(kr:Nat)(r__code_place__sees:YP→ZH→Option Bool)(hr__code_place__sees:∀ (N:Nat) (a0:YP) (a1:ZH),kr≤N→∀ (hp:HP),UG a0→Y2 a1→∀ {res},r__code_place__sees a0 a1=some res→Zb C N YT [(.agg (WS a0)),(.agg (Zt a1))] hp=some ((AV.bool res),hp,none))(N:Nat)(x0:List ZH)(x1_0:YP)(hN:kr + 3≤N)(hp0:HP)(okx0:OkL 56 Y2 x0)(okx1_0:UG x1_0)(gx1_0:Nat)(tgx1_0:TypeId)(hgx1_0:hp0[gx1_0]? = some (.cells (WS x1_0) tgx1_0)){res}(hres:Zc r__code_place__sees x0 x1_0=some res):Zb C N WY [(.lst 4 (x0.map Zt)),(.fn WI [] [(.ptr gx1_0 0)])] hp0=some ((AV.bool res),hp0,none):=by
 obtain ⟨M,rfl,hh⟩:=exM hp0 (by omega:1≤N)
 refine UW (by rw [hC.T]; rfl) ?_
 have lt_hgx1_0:=(List.getElem?_eq_some_iff.1 hgx1_0).1
 cases q2:(ZV r__code_place__sees x0 x1_0) with
 | none =>
  simp only [Zc,IFJ,Yc,q2] at hres; cases hres
 | some v160 =>
  have c159:=Vd hC kr r__code_place__sees hr__code_place__sees M x0 x1_0 (by omega) hp0 okx0 okx1_0 gx1_0 _ hgx1_0 q2
  simp only [Zc,IFJ,q2,Ze] at hres
  cases hres
  simp only [XY,COL,ZE,ZG,reduceAdd,reduceLeDiff,Nat.reduceBEq,c159]
  try rfl
def ZC (r__code_place__sees:YP→ZH→Option Bool)(x0:YP)(x1:ZH):Option Bool :=
 if (decide (x1.Op=25))=true then (Yq ((Z8 x0 1 x1.N 0)) fun v127=>if v127=true then (Yq ((Zc r__code_place__sees x1.Kids x0)) fun v2=>some (!v2)) else some false) else if (decide (x1.Op=26))=true then (Yq ((Z8 x0 2 x1.N 0)) fun v3=>if v3=true then (Yq ((Zc r__code_place__sees x1.Kids x0)) fun v4=>some (!v4)) else some false) else if (decide (x1.Op=22))=true then (Yq ((Z8 x0 5 x1.N 0)) fun v5=>if v5=true then (Yq ((Zc r__code_place__sees x1.Kids x0)) fun v6=>some (!v6)) else some false) else if (decide (x1.Op=23))=true then (Yq ((Z8 x0 6 x1.N 0)) fun v7=>if v7=true then (Yq ((Zc r__code_place__sees x1.Kids x0)) fun v196=>some (!v196)) else some false) else if (decide (x1.Op=24))=true then (Yq ((Z7 x0 5 0)) fun v8=>Yq ((Z7 x0 8 0)) fun v203=>if (decide (x1.N < (IntKind.i64.wrap (v8 + v203))))=true then (Yq ((Zc r__code_place__sees x1.Kids x0)) fun v9=>some (!v9)) else some false) else Yq ((Zc r__code_place__sees x1.Kids x0)) fun v212=>some (!v212)
theorem Zbc {C:Cfg}(hC:LH C)(kr:Nat)(r__code_place__sees:YP→ZH→Option Bool)(hr__code_place__sees:∀ (N:Nat) (a0:YP) (a1:ZH),kr≤N→∀ (hp:HP),UG a0→Y2 a1→∀ {res},r__code_place__sees a0 a1=some res→Zb C N YT [(.agg (WS a0)),(.agg (Zt a1))] hp=some ((AV.bool res),hp,none))(N:Nat)(x0:YP)(x1:ZH)(hN:kr + 4≤N)(hp0:HP)(okx0:UG x0)(okx1:Y2 x1){res}(hres:ZC r__code_place__sees x0 x1=some res):Zb C N YT [(.agg (WS x0)),(.agg (Zt x1))] hp0=some ((AV.bool res),hp0,none):=by
 obtain ⟨M,rfl,hh⟩:=exM hp0 (by omega:1≤N)
 refine SS (by rw [hC.T]; rfl) ?_
 obtain ⟨h1,hh1,g2,l3⟩:=mkH hp0 (Zw.cells (WS x0) Yr)
 obtain ⟨h4,hh4,g5,l6⟩:=mkH h1 (Zw.cells (Zt x1) Zv)
 have g7:=keA hh4 g2
 rcases Bool.eq_false_or_eq_true ((decide (x1.Op=25))) with b8 | b8
 ·cases q10:(Z8 x0 1 x1.N 0) with
  | none =>
   simp only [ZC,IFJ,Yc,b8,q10] at hres; cases hres
  | some v127 =>
   have c9:=fun hp:HP=>QP hC M x0 1 x1.N 0 (by omega) hp okx0 q10
   rcases Bool.eq_false_or_eq_true (v127) with b11 | b11
   ·cases q14:(Zc r__code_place__sees x1.Kids x0) with
    | none =>
     simp only [ZC,IFJ,Yc,b8,q10,Ze,b11,q14] at hres; cases hres
    | some v13 =>
     have c12:=ZI hC kr r__code_place__sees hr__code_place__sees M x1.Kids x0 (by omega) h4 okx1.Kids okx0 hp0.length _ g7 q14
     simp only [ZC,IFJ,b8,q10,Ze,b11,q14] at hres
     cases hres
     simp only [YD,ZP,COL,ZE,ZG,reduceAdd,reduceLeDiff,Nat.reduceBEq,hh1,hh4,LG g5,b8,LG g7,c9,b11,c12]
     try rfl
   ·simp only [ZC,IFJ,b8,q10,Ze,b11] at hres
    cases hres
    simp only [YD,ZP,COL,ZE,ZG,reduceAdd,reduceLeDiff,Nat.reduceBEq,hh1,hh4,LG g5,b8,LG g7,c9,b11]
    try rfl
 ·rcases Bool.eq_false_or_eq_true ((decide (x1.Op=26))) with b15 | b15
  ·cases q18:(Z8 x0 2 x1.N 0) with
   | none =>
    simp only [ZC,IFJ,Yc,b8,b15,q18] at hres; cases hres
   | some v17 =>
    have c16:=fun hp:HP=>QP hC M x0 2 x1.N 0 (by omega) hp okx0 q18
    rcases Bool.eq_false_or_eq_true (v17) with b19 | b19
    ·cases q21:(Zc r__code_place__sees x1.Kids x0) with
     | none =>
      simp only [ZC,IFJ,Yc,b8,b15,q18,Ze,b19,q21] at hres; cases hres
     | some v20 =>
      have c175:=ZI hC kr r__code_place__sees hr__code_place__sees M x1.Kids x0 (by omega) h4 okx1.Kids okx0 hp0.length _ g7 q21
      simp only [ZC,IFJ,b8,b15,q18,Ze,b19,q21] at hres
      cases hres
      simp only [YD,ZP,COL,ZE,ZG,reduceAdd,reduceLeDiff,Nat.reduceBEq,hh1,hh4,LG g5,b8,b15,LG g7,c16,b19,c175]
      try rfl
    ·simp only [ZC,IFJ,b8,b15,q18,Ze,b19] at hres
     cases hres
     simp only [YD,ZP,COL,ZE,ZG,reduceAdd,reduceLeDiff,Nat.reduceBEq,hh1,hh4,LG g5,b8,b15,LG g7,c16,b19]
     try rfl
  ·rcases Bool.eq_false_or_eq_true ((decide (x1.Op=22))) with b22 | b22
   ·cases q25:(Z8 x0 5 x1.N 0) with
    | none =>
     simp only [ZC,IFJ,Yc,b8,b15,b22,q25] at hres; cases hres
    | some v24 =>
     have c23:=fun hp:HP=>QP hC M x0 5 x1.N 0 (by omega) hp okx0 q25
     rcases Bool.eq_false_or_eq_true (v24) with b26 | b26
     ·cases q29:(Zc r__code_place__sees x1.Kids x0) with
      | none =>
       simp only [ZC,IFJ,Yc,b8,b15,b22,q25,Ze,b26,q29] at hres; cases hres
      | some v28 =>
       have c27:=ZI hC kr r__code_place__sees hr__code_place__sees M x1.Kids x0 (by omega) h4 okx1.Kids okx0 hp0.length _ g7 q29
       simp only [ZC,IFJ,b8,b15,b22,q25,Ze,b26,q29] at hres
       cases hres
       simp only [YD,ZP,COL,ZE,ZG,reduceAdd,reduceLeDiff,Nat.reduceBEq,hh1,hh4,LG g5,b8,b15,b22,LG g7,c23,b26,c27]
       try rfl
     ·simp only [ZC,IFJ,b8,b15,b22,q25,Ze,b26] at hres
      cases hres
      simp only [YD,ZP,COL,ZE,ZG,reduceAdd,reduceLeDiff,Nat.reduceBEq,hh1,hh4,LG g5,b8,b15,b22,LG g7,c23,b26]
      try rfl
   ·rcases Bool.eq_false_or_eq_true ((decide (x1.Op=23))) with b30 | b30
    ·cases q33:(Z8 x0 6 x1.N 0) with
     | none =>
      simp only [ZC,IFJ,Yc,b8,b15,b22,b30,q33] at hres; cases hres
     | some v32 =>
      have c31:=fun hp:HP=>QP hC M x0 6 x1.N 0 (by omega) hp okx0 q33
      rcases Bool.eq_false_or_eq_true (v32) with b34 | b34
      ·cases q36:(Zc r__code_place__sees x1.Kids x0) with
       | none =>
        simp only [ZC,IFJ,Yc,b8,b15,b22,b30,q33,Ze,b34,q36] at hres; cases hres
       | some v196 =>
        have c35:=ZI hC kr r__code_place__sees hr__code_place__sees M x1.Kids x0 (by omega) h4 okx1.Kids okx0 hp0.length _ g7 q36
        simp only [ZC,IFJ,b8,b15,b22,b30,q33,Ze,b34,q36] at hres
        cases hres
        simp only [YD,ZP,COL,ZE,ZG,reduceAdd,reduceLeDiff,Nat.reduceBEq,hh1,hh4,LG g5,b8,b15,b22,b30,LG g7,c31,b34,c35]
        try rfl
      ·simp only [ZC,IFJ,b8,b15,b22,b30,q33,Ze,b34] at hres
       cases hres
       simp only [YD,ZP,COL,ZE,ZG,reduceAdd,reduceLeDiff,Nat.reduceBEq,hh1,hh4,LG g5,b8,b15,b22,b30,LG g7,c31,b34]
       try rfl
    ·rcases Bool.eq_false_or_eq_true ((decide (x1.Op=24))) with b37 | b37
     ·cases q40:(Z7 x0 5 0) with
      | none =>
       simp only [ZC,IFJ,Yc,b8,b15,b22,b30,b37,q40] at hres; cases hres
      | some v39 =>
       have c38:=fun hp:HP=>Og hC M x0 5 0 (by omega) hp okx0 q40
       cases q42:(Z7 x0 8 0) with
       | none =>
        simp only [ZC,IFJ,Yc,b8,b15,b22,b30,b37,q40,Ze,q42] at hres; cases hres
       | some v203 =>
        have c41:=fun hp:HP=>Og hC M x0 8 0 (by omega) hp okx0 q42
        rcases Bool.eq_false_or_eq_true ((decide (x1.N < (IntKind.i64.wrap (v39 + v203))))) with b43 | b43
        ·cases q45:(Zc r__code_place__sees x1.Kids x0) with
         | none =>
          simp only [ZC,IFJ,Yc,b8,b15,b22,b30,b37,q40,Ze,q42,Ze,b43,q45] at hres; cases hres
         | some v44 =>
          have c208:=ZI hC kr r__code_place__sees hr__code_place__sees M x1.Kids x0 (by omega) h4 okx1.Kids okx0 hp0.length _ g7 q45
          simp only [ZC,IFJ,b8,b15,b22,b30,b37,q40,Ze,q42,b43,q45] at hres
          cases hres
          simp only [YD,ZP,COL,ZE,ZG,reduceAdd,reduceLeDiff,Nat.reduceBEq,hh1,hh4,LG g5,b8,b15,b22,b30,b37,LG g7,c38,c41,b43,c208]
          try rfl
        ·simp only [ZC,IFJ,b8,b15,b22,b30,b37,q40,Ze,q42,b43] at hres
         cases hres
         simp only [YD,ZP,COL,ZE,ZG,reduceAdd,reduceLeDiff,Nat.reduceBEq,hh1,hh4,LG g5,b8,b15,b22,b30,b37,LG g7,c38,c41,b43]
         try rfl
     ·cases q47:(Zc r__code_place__sees x1.Kids x0) with
      | none =>
       simp only [ZC,IFJ,Yc,b8,b15,b22,b30,b37,q47] at hres; cases hres
      | some v212 =>
       have c46:=ZI hC kr r__code_place__sees hr__code_place__sees M x1.Kids x0 (by omega) h4 okx1.Kids okx0 hp0.length _ g7 q47
       simp only [ZC,IFJ,b8,b15,b22,b30,b37,q47,Ze] at hres
       cases hres
       simp only [YD,ZP,COL,ZE,ZG,reduceAdd,reduceLeDiff,Nat.reduceBEq,hh1,hh4,LG g5,b8,b15,b22,b30,b37,c46]
       try rfl
def YC:Nat→YP→ZH→Option Bool
 | 0,_,_=>none
 | n + 1,x0,x1=>ZC (YC n) x0 x1
theorem Bq {C:Cfg}(hC:LH C):∀ (n:Nat),(∀ (N:Nat) (a0:YP) (a1:ZH),n * 4≤N→∀ (hp:HP),UG a0→Y2 a1→∀ {res},YC n a0 a1=some res→Zb C N YT [(.agg (WS a0)),(.agg (Zt a1))] hp=some ((AV.bool res),hp,none))
 | 0=>fun N a0 a1 _ hp _ _ _ h=>by simp [YC] at h
 | n + 1=>fun N a0 a1 hN hp o0 o1 _ h=>Zbc hC (n * 4) (YC n) (Bq hC n) N a0 a1 (by omega) hp o0 o1 (by simpa only [YC] using h)
def Vk (r_r17_seen:ZN→Int→Q3→ZH→Option Bool)(x0:ZN)(x1:Int)(x2:Q3)(k1T:Option Bool):List ZH→List ZH→Option Bool
 | [],q3=>k1T
 | x3 :: r3,q3=>Yq ((r_r17_seen x0 x1 x2 x3)) fun v4=>if (!v4)=true then some false else (Vk r_r17_seen x0 x1 x2 k1T r3) (q3 ++ [x3])
theorem Zcj {C:Cfg}(hC:LH C)(kr:Nat)(r_r17_seen:ZN→Int→Q3→ZH→Option Bool)(hr_r17_seen:∀ (N:Nat) (a0:ZN) (a1:Int) (a2:Q3) (a3:ZH),kr≤N→∀ (hp:HP),Qn a0→OH a2→Y2 a3→∀ {res},r_r17_seen a0 a1 a2 a3=some res→Zb C N Oi [(.agg (ZX a0)),(.int .i64 a1),(.agg (Qr a2)),(.agg (Zt a3))] hp=some ((AV.bool res),hp,none))(M:Nat)(x0:ZN)(x1:Int)(x2:Q3)(x3:ZH)(hM:kr + 0≤M)(hp0:HP)(okx0:Qn x0)(okx2:OH x2)(okx3:Y2 x3)(g_261_0:Nat)(g_261_1:Nat)(g_261_2:Nat)(hb:x3.Kids.length≤4611686018427387)(k1:HP→Eff→KR)(k1T:Option Bool)(hk1:∀ (hp:HP),hp0.length≤hp.length→hp[g_261_0]? = some (.cells (ZX x0) Zy)→hp[g_261_1]? = some (.cells (Qr x2) Yp)→hp[g_261_2]? = some (.cells (Zt x3) Zv)→∀ res,k1T=some res→k1 hp none=some ((AV.bool res),hp0,none)):∀ (r6 q6:List ZH) (m:Nat) (hp:HP),x3.Kids=q6 ++ r6→r6.length < m→hp0.length≤hp.length→hp[g_261_0]? = some (.cells (ZX x0) Zy)→hp[g_261_1]? = some (.cells (Qr x2) Yp)→hp[g_261_2]? = some (.cells (Zt x3) Zv)→∀ res,Vk r_r17_seen x0 x1 x2 k1T r6 q6=some res→JG C.G (Zb C M) C.L hp0 k1 m (.int .i64 x1) (.ptr g_261_0 0) (.ptr g_261_1 0) (.ptr g_261_2 0) (.int .i64 (q6.length:Int)) hp none=some ((AV.bool res),hp0,none)
 | _,_,0,_,_,h,_,_,_,_,_,_=>by omega
 | [],q6,m + 1,hp,h,hr,hh,f261_0,f261_1,f261_2,res,hres=>by
  have l0:=lp0 h
  have lt_f261_0:=(List.getElem?_eq_some_iff.1 f261_0).1
  have lt_f261_1:=(List.getElem?_eq_some_iff.1 f261_1).1
  have lt_f261_2:=(List.getElem?_eq_some_iff.1 f261_2).1
  simp only [Vk,IFJ] at hres
  have hx:=hk1  hp (by omega) f261_0 f261_1 f261_2 res hres
  simp only [QD,QE,WA,JG,COL,Zz,ZE,Zh,Zk,ZK,reduceAdd,reduceLeDiff,Nat.reduceBEq,l0,LG f261_2,hx]
  try rfl
 | x6 :: r6,q6,m + 1,hp,h,hr,hh,f261_0,f261_1,f261_2,res,hres=>by
  obtain ⟨a1,-,a3,a4,a5⟩:=lp (Zt) h hb
  have me6:=a5
  have a2:(x3.Kids.map Zt)[q6.length]? = some (Zt x6):=(lp (Zt) h hb).2.1
  have okx6:=(okx3.Kids).2 _ a5
  have lt_f261_0:=(List.getElem?_eq_some_iff.1 f261_0).1
  have lt_f261_1:=(List.getElem?_eq_some_iff.1 f261_1).1
  have lt_f261_2:=(List.getElem?_eq_some_iff.1 f261_2).1
  have ix6:YN (.slice 4) (.lst 4 (x3.Kids.map Zt)) (.int .i64 (q6.length:Int))=some (.ref (Zt x6)):=by rw [Jn,a2]; rfl
  cases q9:(r_r17_seen x0 x1 x2 x6) with
  | none =>
   simp only [Vk,IFJ,Yc,q9] at hres; cases hres
  | some v8 =>
   have c7:=fun hp:HP=>(hr_r17_seen) M x0 x1 x2 x6 (by omega) hp okx0 okx2 okx6 q9
   rcases Bool.eq_false_or_eq_true ((!v8)) with b10 | b10
   ·simp only [Vk,IFJ,q9,Ze,b10] at hres
    cases hres
    simp only [QD,QE,WA,JG,COL,Zz,ZE,Zh,Zk,ZK,reduceAdd,reduceLeDiff,Nat.reduceBEq,a1,a3,LG f261_2,LG f261_0,LG f261_1,ix6,c7,b10]
    try rfl
   ·simp only [Vk,IFJ,q9,Ze,b10] at hres
    have hx:=Zcj hC kr r_r17_seen hr_r17_seen M x0 x1 x2 x3 hM hp0 okx0 okx2 okx3 g_261_0 g_261_1 g_261_2 hb k1 k1T hk1 r6 (q6 ++ [x6]) m hp a4 (by simpa using hr) (by omega) f261_0 f261_1 f261_2 res hres
    simp only [QD,QE,WA,JG,COL,Zz,ZE,Zh,Zk,ZK,reduceAdd,reduceLeDiff,Nat.reduceBEq,a1,a3,LG f261_2,LG f261_0,LG f261_1,ix6,c7,b10,hx]
    try rfl
def TK:Option Bool :=
 some true
def KH (r_r17_seen:ZN→Int→Q3→ZH→Option Bool)(x0:ZN)(x1:Int)(x2:Q3)(x3:ZH):Option Bool :=
 Yq (Iw x0.Sites x1) fun y4=>if ((decide (x3.Op=25)) && (decide (x2.Slots≤x3.N)))=true then some false else if ((decide (x3.Op=26)) && (decide ((y4.Decl.Vars.length:Int)≤x3.N)))=true then some false else if ((decide (x3.Op=22)) && (decide ((y4.Decl.Resources.length:Int)≤x3.N)))=true then some false else if ((decide (x3.Op=23)) && (decide ((y4.Decl.Stores.length:Int)≤x3.N)))=true then some false else if ((decide (x3.Op=24)) && (decide ((IntKind.i64.wrap ((y4.Decl.Resources.length:Int) + (y4.Decl.Queues.length:Int)))≤x3.N)))=true then some false else Vk r_r17_seen x0 x1 x2 (TK) x3.Kids []
theorem ZrI {C:Cfg}(hC:LH C)(kr:Nat)(r_r17_seen:ZN→Int→Q3→ZH→Option Bool)(hr_r17_seen:∀ (N:Nat) (a0:ZN) (a1:Int) (a2:Q3) (a3:ZH),kr≤N→∀ (hp:HP),Qn a0→OH a2→Y2 a3→∀ {res},r_r17_seen a0 a1 a2 a3=some res→Zb C N Oi [(.agg (ZX a0)),(.int .i64 a1),(.agg (Qr a2)),(.agg (Zt a3))] hp=some ((AV.bool res),hp,none))(N:Nat)(x0:ZN)(x1:Int)(x2:Q3)(x3:ZH)(hN:kr + 1≤N)(hp0:HP)(okx0:Qn x0)(okx2:OH x2)(okx3:Y2 x3){res}(hres:KH r_r17_seen x0 x1 x2 x3=some res):Zb C N Oi [(.agg (ZX x0)),(.int .i64 x1),(.agg (Qr x2)),(.agg (Zt x3))] hp0=some ((AV.bool res),hp0,none):=by
 obtain ⟨M,rfl,hh⟩:=exM hp0 (by omega:1≤N)
 refine Znp (by rw [hC.T]; rfl) ?_
 obtain ⟨h4,hh4,g5,l6⟩:=mkH hp0 (Zw.cells (ZX x0) Zy)
 obtain ⟨h7,hh7,g8,l9⟩:=mkH h4 (Zw.cells (Qr x2) Yp)
 have g10:=keA hh7 g5
 obtain ⟨h11,hh11,g12,l13⟩:=mkH h7 (Zw.cells (Zt x3) Zv)
 have g14:=keA hh11 g10
 have g15:=keA hh11 g8
 cases q17:Iw x0.Sites x1 with
 | none =>
  simp only [KH,IFJ,Yc,q17] at hres; cases hres
 | some y16 =>
  have y16e:YN (.slice 14) (.lst 14 (x0.Sites.map ZF)) (.int .i64 x1)=some (.ref (ZF y16)):=Tz (row := ZF) q17
  have oky16:=(okx0.Sites).2 _ (Wj q17)
  have memy16:=Wj q17
  have e228:Zx h11 13 (.ref (List.drop 0 (ZF y16)))=some (.agg (Yh y16.Decl)):=ZeZ (by simp only [List.length_drop,TF]; omega) (by first | exact Uy _ | rfl | (simp only [rSiteCode_eq]; rfl)) (by exact Ou _)
  obtain ⟨h18,hh18,g19,l20⟩:=mkH h11 (Zw.cells [(.str []),(.own 3 []),(.own 17 []),(.own 3 []),(.own 3 []),(.own 1 []),(.own 1 []),(.own 1 []),(.own 1 []),(.own 1 []),(.own 4 []),(.own 5 []),(.own 3 [])] Yz)
  have g21:=keA hh18 g14
  have g22:=keA hh18 g15
  have g23:=keA hh18 g12
  obtain ⟨h24,hh24,g25,l237⟩:=seH g19 (Zw.cells (Yh y16.Decl) Yz)
  have g26:=keS hh24 g21 (by omega)
  have g27:=keS hh24 g22 (by omega)
  have g28:=keS hh24 g23 (by omega)
  have e241:stV hp0.length 13 (.ptr h11.length 0) (.agg (Yh y16.Decl)) h18 none=some (h24,none):=by rw [← hh24]; exact Hq g19 (by first | rfl | exact VV _) (by simp) rfl (by omega) (by rw [XW]; exact Xn (by exact VV _) (by rfl))
  rcases Bool.eq_false_or_eq_true (((decide (x3.Op=25)) && (decide (x2.Slots≤x3.N)))) with b29 | b29
  ·simp only [KH,IFJ,q17,Ze,b29] at hres
   cases hres
   simp only [H8,QD,QE,WA,Xb,COL,Zz,ZE,Zh,Zk,ZK,reduceAdd,reduceLeDiff,Nat.reduceBEq,hh4,hh7,hh11,LG g14,y16e,e228,hh18,e241,LG g28,LG g27,b29]
   try rfl
  ·rcases Bool.eq_false_or_eq_true (((decide (x3.Op=26)) && (decide ((y16.Decl.Vars.length:Int)≤x3.N)))) with b30 | b30
   ·simp only [KH,IFJ,q17,Ze,b29,b30] at hres
    cases hres
    simp only [H8,QD,QE,WA,Xb,COL,Zz,ZE,Zh,Zk,ZK,reduceAdd,reduceLeDiff,Nat.reduceBEq,hh4,hh7,hh11,LG g14,y16e,e228,hh18,e241,LG g28,LG g27,b29,LG g25,b30]
    try rfl
   ·rcases Bool.eq_false_or_eq_true (((decide (x3.Op=22)) && (decide ((y16.Decl.Resources.length:Int)≤x3.N)))) with b31 | b31
    ·simp only [KH,IFJ,q17,Ze,b29,b30,b31] at hres
     cases hres
     simp only [H8,QD,QE,WA,Xb,COL,Zz,ZE,Zh,Zk,ZK,reduceAdd,reduceLeDiff,Nat.reduceBEq,hh4,hh7,hh11,LG g14,y16e,e228,hh18,e241,LG g28,LG g27,b29,LG g25,b30,b31]
     try rfl
    ·rcases Bool.eq_false_or_eq_true (((decide (x3.Op=23)) && (decide ((y16.Decl.Stores.length:Int)≤x3.N)))) with b32 | b32
     ·simp only [KH,IFJ,q17,Ze,b29,b30,b31,b32] at hres
      cases hres
      simp only [H8,QD,QE,WA,Xb,COL,Zz,ZE,Zh,Zk,ZK,reduceAdd,reduceLeDiff,Nat.reduceBEq,hh4,hh7,hh11,LG g14,y16e,e228,hh18,e241,LG g28,LG g27,b29,LG g25,b30,b31,b32]
      try rfl
     ·rcases Bool.eq_false_or_eq_true (((decide (x3.Op=24)) && (decide ((IntKind.i64.wrap ((y16.Decl.Resources.length:Int) + (y16.Decl.Queues.length:Int)))≤x3.N)))) with b33 | b33
      ·simp only [KH,IFJ,q17,Ze,b29,b30,b31,b32,b33] at hres
       cases hres
       simp only [H8,QD,QE,WA,Xb,COL,Zz,ZE,Zh,Zk,ZK,reduceAdd,reduceLeDiff,Nat.reduceBEq,hh4,hh7,hh11,LG g14,y16e,e228,hh18,e241,LG g28,LG g27,b29,LG g25,b30,b31,b32,b33]
       try rfl
      ·simp only [KH,IFJ,q17,Ze,b29,b30,b31,b32,b33] at hres
       have hk34:∀ (hp34:HP),hp0.length≤hp34.length→hp34[hp0.length]? = some (.cells (ZX x0) Zy)→hp34[h4.length]? = some (.cells (Qr x2) Yp)→hp34[h7.length]? = some (.cells (Zt x3) Zv)→∀ res,TK=some res→(Xb C.G (Zb C M) C.L hp0) hp34 none=some ((AV.bool res),hp0,none):=by
        intro hp34 hh34 fz266_0 fz266_1 fz266_2 res hres
        have lt_fz266_0:=(List.getElem?_eq_some_iff.1 fz266_0).1
        have lt_fz266_1:=(List.getElem?_eq_some_iff.1 fz266_1).1
        have lt_fz266_2:=(List.getElem?_eq_some_iff.1 fz266_2).1
        simp only [TK,IFJ] at hres
        cases hres
        simp only [H8,QD,QE,WA,Xb,COL,Zz,ZE,Zh,Zk,ZK,reduceAdd,reduceLeDiff,Nat.reduceBEq,hh4,hh7,hh11,LG g14,y16e,e228,hh18,e241,LG g28,LG g27,b29,LG g25,b30,b31,b32,b33]
        try rfl
       have hb':x3.Kids.length≤4611686018427387:=(by have:=(okx3.Kids).1; omega)
       have hx:=Zcj hC kr r_r17_seen hr_r17_seen M x0 x1 x2 x3 (by omega) hp0 okx0 okx2 okx3 hp0.length h4.length h7.length hb' (Xb C.G (Zb C M) C.L hp0) (TK) hk34 x3.Kids [] C.L h24 rfl (by have:=hC.L; omega) (by omega) g26 g27 g28 res hres
       try simp only [NIL] at hx
       simp only [H8,QD,QE,WA,Xb,COL,Zz,ZE,Zh,Zk,ZK,reduceAdd,reduceLeDiff,Nat.reduceBEq,hh4,hh7,hh11,LG g14,y16e,e228,hh18,e241,LG g28,LG g27,b29,LG g25,b30,b31,b32,b33,hx]
       try rfl
def KD:Nat→ZN→Int→Q3→ZH→Option Bool
 | 0,_,_,_,_=>none
 | n + 1,x0,x1,x2,x3=>KH (KD n) x0 x1 x2 x3
theorem Zki {C:Cfg}(hC:LH C):∀ (n:Nat),(∀ (N:Nat) (a0:ZN) (a1:Int) (a2:Q3) (a3:ZH),n * 1≤N→∀ (hp:HP),Qn a0→OH a2→Y2 a3→∀ {res},KD n a0 a1 a2 a3=some res→Zb C N Oi [(.agg (ZX a0)),(.int .i64 a1),(.agg (Qr a2)),(.agg (Zt a3))] hp=some ((AV.bool res),hp,none))
 | 0=>fun N a0 a1 a2 a3 _ hp _ _ _ _ h=>by simp [KD] at h
 | n + 1=>fun N a0 a1 a2 a3 hN hp o0 o2 o3 _ h=>ZrI hC (n * 1) (KD n) (Zki hC n) N a0 a1 a2 a3 (by omega) hp o0 o2 o3 (by simpa only [KD] using h)
end Go.Proofs.YtleomfgijkapfaaGreatDoor
end
section
namespace Go.Proofs.YtleomfgijkapfaaGreatDoor
open Go Go.RowKit Go.Proofs.YtleomfgijkapfaaGreatDoor.Abs
open Nat (reduceAdd reduceLeDiff)
set_option maxRecDepth 100000
set_option maxHeartbeats 0
def WX (x1:Int)(x2:Int)(k0T:Int×Bool):List Zff→List Zff→Int×Bool
 | [],q0=>k0T
 | x0 :: r0,q0=>if ((decide (x0.From=x1)) && (decide (x0.To=x2)))=true then (x0.Delay,true) else (WX x1 x2 k0T r0) (q0 ++ [x0])
theorem ZdT {C:Cfg}(hC:LH C)(M:Nat)(x0:ZN)(x1:Int)(x2:Int)(hM:0≤M)(hp0:HP)(g_278_0:Nat)(hb:x0.Links.length≤4611686018427387)(k0:HP→Eff→KR)(k0T:Int×Bool)(hk0:∀ (hp:HP),hp0.length≤hp.length→hp[g_278_0]? = some (.cells (ZX x0) Zy)→k0 hp none=some ((AV.tup [(AV.int .i64 k0T.1),(AV.bool k0T.2)]),hp0,none)):∀ (r6 q6:List Zff) (m:Nat) (hp:HP),x0.Links=q6 ++ r6→r6.length < m→hp0.length≤hp.length→hp[g_278_0]? = some (.cells (ZX x0) Zy)→Vw C.G (Zb C M) C.L hp0 k0 m (.int .i64 x1) (.int .i64 x2) (.ptr g_278_0 0) (.int .i64 (q6.length:Int)) hp none=some ((AV.tup [(AV.int .i64 ((WX x1 x2 k0T r6 q6).1)),(AV.bool ((WX x1 x2 k0T r6 q6).2))]),hp0,none)
 | _,_,0,_,_,h,_,_=>by omega
 | [],q6,m + 1,hp,h,hr,hh,f278_0=>by
  have l0:=lp0 h
  have lt_f278_0:=(List.getElem?_eq_some_iff.1 f278_0).1
  have ht:WX x1 x2 k0T [] q6=k0T:=by simp only [Vw,WX,IFJ]
  rw [ht]
  have hx:=hk0  hp (by omega) f278_0
  simp only [Vw,COL,KY,Zh,reduceAdd,reduceLeDiff,Nat.reduceBEq,l0,LG f278_0,hx]
  try rfl
 | x6 :: r6,q6,m + 1,hp,h,hr,hh,f278_0=>by
  obtain ⟨a1,-,a3,a4,a5⟩:=lp (DU) h hb
  have me6:=a5
  have a2:(x0.Links.map DU)[q6.length]? = some (DU x6):=(lp (DU) h hb).2.1
  have lt_f278_0:=(List.getElem?_eq_some_iff.1 f278_0).1
  have ix6:YN (.slice 3) (.lst 3 (x0.Links.map DU)) (.int .i64 (q6.length:Int))=some (.ref (DU x6)):=by rw [Jn,a2]; rfl
  rcases Bool.eq_false_or_eq_true (((decide (x6.From=x1)) && (decide (x6.To=x2)))) with b7 | b7
  ·have ht:WX x1 x2 k0T (x6 :: r6) q6=(x6.Delay,true):=by simp only [Vw,WX,IFJ,b7]
   rw [ht]
   simp only [Vw,COL,KY,Zh,reduceAdd,reduceLeDiff,Nat.reduceBEq,a1,a3,LG f278_0,ix6,b7]
   try rfl
  ·have ht:WX x1 x2 k0T (x6 :: r6) q6=(WX x1 x2 k0T r6) (q6 ++ [x6]):=by simp only [Vw,WX,IFJ,b7]
   rw [ht]
   have hx:=ZdT hC M x0 x1 x2 hM hp0 g_278_0 hb k0 k0T hk0 r6 (q6 ++ [x6]) m hp a4 (by simpa using hr) (by omega) f278_0
   simp only [Vw,COL,KY,Zh,reduceAdd,reduceLeDiff,Nat.reduceBEq,a1,a3,LG f278_0,ix6,b7,hx]
   try rfl
def UD:Int×Bool :=
 (0,false)
def KA (x0:ZN)(x1:Int)(x2:Int):Int×Bool :=
 WX x1 x2 (UD) x0.Links []
theorem ZtU {C:Cfg}(hC:LH C)(N:Nat)(x0:ZN)(x1:Int)(x2:Int)(hN:1≤N)(hp0:HP)(okx0:Qn x0):Zb C N Zfh [(.agg (ZX x0)),(.int .i64 x1),(.int .i64 x2)] hp0=some ((AV.tup [(AV.int .i64 ((KA x0 x1 x2).1)),(AV.bool ((KA x0 x1 x2).2))]),hp0,none):=by
 obtain ⟨M,rfl,hh⟩:=exM hp0 (by omega:1≤N)
 refine Zpj (by rw [hC.T]; rfl) ?_
 obtain ⟨h3,hh3,g4,l5⟩:=mkH hp0 (Zw.cells (ZX x0) Zy)
 have ht:KA x0 x1 x2=WX x1 x2 (UD) x0.Links []:=by simp only [KA,IFJ]
 rw [ht]
 have hk6:∀ (hp6:HP),hp0.length≤hp6.length→hp6[hp0.length]? = some (.cells (ZX x0) Zy)→(Ha C.G (Zb C M) C.L hp0) hp6 none=some ((AV.tup [(AV.int .i64 UD.1),(AV.bool UD.2)]),hp0,none):=by
  intro hp6 hh6 fz280_0
  have lt_fz280_0:=(List.getElem?_eq_some_iff.1 fz280_0).1
  have ht:UD=(0,false):=by simp only [UD,IFJ]
  rw [ht]
  simp only [ZbK,Ha,COL,KY,Zh,reduceAdd,reduceLeDiff,Nat.reduceBEq,hh3]
  try rfl
 have hb':x0.Links.length≤4611686018427387:=(by have:=(okx0.Links).1; omega)
 have hx:=ZdT hC M x0 x1 x2 (by omega) hp0 hp0.length hb' (Ha C.G (Zb C M) C.L hp0) (UD) hk6 x0.Links [] C.L h3 rfl (by have:=hC.L; omega) (by omega) g4
 try simp only [NIL] at hx
 simp only [ZbK,Ha,COL,KY,Zh,reduceAdd,reduceLeDiff,Nat.reduceBEq,hh3,hx]
 try rfl
def Ht (x0:Zff)(x1:Int)(x2:Int):Bool :=
 ((decide (x0.From=x1)) && (decide (x0.To=x2)))
theorem ZnH {C:Cfg}(hC:LH C)(N:Nat)(x0:Zff)(x1:Int)(x2:Int)(hN:1≤N)(hp0:HP)(gx1:Nat)(tgx1:TypeId)(hgx1:hp0[gx1]? = some (.cells [(.int .i64 x1)] tgx1))(gx2:Nat)(tgx2:TypeId)(hgx2:hp0[gx2]? = some (.cells [(.int .i64 x2)] tgx2)):Zb C N Gu [(.agg (DU x0)),(.ptr gx1 0),(.ptr gx2 0)] hp0=some ((AV.bool (Ht x0 x1 x2)),hp0,none):=by
 obtain ⟨M,rfl,hh⟩:=exM hp0 (by omega:1≤N)
 refine ZiO (by rw [hC.T]; rfl) ?_
 have lt_hgx1:=(List.getElem?_eq_some_iff.1 hgx1).1
 have lt_hgx2:=(List.getElem?_eq_some_iff.1 hgx2).1
 obtain ⟨h3,hh3,g4,l5⟩:=mkH hp0 (Zw.cells (DU x0) Zkh)
 have g6:=keA hh3 hgx1
 have g7:=keA hh3 hgx2
 have ht:Ht x0 x1 x2=((decide (x0.From=x1)) && (decide (x0.To=x2))):=by simp only [Ht,IFJ]
 rw [ht]
 simp only [ZdA,COL,KY,reduceAdd,reduceLeDiff,Nat.reduceBEq,hh3,LG g4,LG g6,LG g7]
 try rfl
def Zl (x1_0:Int)(x1_1:Int)(k0T:Int):List Zff→List Zff→Int
 | [],q0=>k0T
 | x0 :: r0,q0=>if (Ht x0 x1_0 x1_1)=true then (q0.length:Int) else (Zl x1_0 x1_1 k0T r0) (q0 ++ [x0])
theorem Qs {C:Cfg}(hC:LH C)(M:Nat)(x0:List Zff)(x1_0:Int)(x1_1:Int)(hM:1≤M)(hp0:HP)(g_310_0:Nat)(g_310_1:Nat)(tgx1_0:TypeId)(tgx1_1:TypeId)(hb:x0.length≤4611686018427387)(k0:HP→Eff→KR)(k0T:Int)(hk0:∀ (hp:HP),hp0.length≤hp.length→hp[g_310_0]? = some (.cells [(.int .i64 x1_0)] tgx1_0)→hp[g_310_1]? = some (.cells [(.int .i64 x1_1)] tgx1_1)→k0 hp none=some ((AV.int .i64 k0T),hp0,none)):∀ (r6 q6:List Zff) (m:Nat) (hp:HP),x0=q6 ++ r6→r6.length < m→hp0.length≤hp.length→hp[g_310_0]? = some (.cells [(.int .i64 x1_0)] tgx1_0)→hp[g_310_1]? = some (.cells [(.int .i64 x1_1)] tgx1_1)→ZB C.G (Zb C M) C.L hp0 k0 m (.lst 3 (x0.map DU)) (.fn Gu [] [(.ptr g_310_0 0),(.ptr g_310_1 0)]) (.int .i64 (x0.length:Int)) (.int .i64 (q6.length:Int)) hp none=some ((AV.int .i64 (Zl x1_0 x1_1 k0T r6 q6)),hp0,none)
 | _,_,0,_,_,h,_,_,_=>by omega
 | [],q6,m + 1,hp,h,hr,hh,f310_0,f310_1=>by
  have l0:=lp0 h
  have lt_f310_0:=(List.getElem?_eq_some_iff.1 f310_0).1
  have lt_f310_1:=(List.getElem?_eq_some_iff.1 f310_1).1
  have ht:Zl x1_0 x1_1 k0T [] q6=k0T:=by simp only [ZB,Zl,IFJ]
  rw [ht]
  have hx:=hk0  hp (by omega) f310_0 f310_1
  simp only [ZB,COL,KY,reduceAdd,reduceLeDiff,Nat.reduceBEq,l0,hx]
  try rfl
 | x6 :: r6,q6,m + 1,hp,h,hr,hh,f310_0,f310_1=>by
  obtain ⟨a1,-,a3,a4,a5⟩:=lp (DU) h hb
  have me6:=a5
  have a2:(x0.map DU)[q6.length]? = some (DU x6):=(lp (DU) h hb).2.1
  have lt_f310_0:=(List.getElem?_eq_some_iff.1 f310_0).1
  have lt_f310_1:=(List.getElem?_eq_some_iff.1 f310_1).1
  have ix6:YN (.slice 3) (.lst 3 (x0.map DU)) (.int .i64 (q6.length:Int))=some (.ref (DU x6)):=by rw [Jn,a2]; rfl
  have e311:ZkC (Zb C M) (.fn Gu [] [(.ptr g_310_0 0),(.ptr g_310_1 0)]) [(.agg (DU x6))] hp=Zb C M Gu [(.agg (DU x6)),(.ptr g_310_0 0),(.ptr g_310_1 0)] hp:=rfl
  have c7:=ZnH hC M x6 x1_0 x1_1 (by omega) hp g_310_0 _ f310_0 g_310_1 _ f310_1
  rcases Bool.eq_false_or_eq_true ((Ht x6 x1_0 x1_1)) with b8 | b8
  ·have ht:Zl x1_0 x1_1 k0T (x6 :: r6) q6=(q6.length:Int):=by simp only [ZB,Zl,IFJ,b8]
   rw [ht]
   simp only [ZB,COL,KY,reduceAdd,reduceLeDiff,Nat.reduceBEq,a1,a3,ix6,e311,c7,b8]
   try rfl
  ·have ht:Zl x1_0 x1_1 k0T (x6 :: r6) q6=(Zl x1_0 x1_1 k0T r6) (q6 ++ [x6]):=by simp only [ZB,Zl,IFJ,b8]
   rw [ht]
   have hx:=Qs hC M x0 x1_0 x1_1 hM hp0 g_310_0 g_310_1 tgx1_0 tgx1_1 hb k0 k0T hk0 r6 (q6 ++ [x6]) m hp a4 (by simpa using hr) (by omega) f310_0 f310_1
   simp only [ZB,COL,KY,reduceAdd,reduceLeDiff,Nat.reduceBEq,a1,a3,ix6,e311,c7,b8,hx]
   try rfl
def ZM:Int :=
 (-1)
def Z9 (x0:List Zff)(x1_0:Int)(x1_1:Int):Int :=
 Zl x1_0 x1_1 (ZM) x0 []
theorem JO {C:Cfg}(hC:LH C)(N:Nat)(x0:List Zff)(x1_0:Int)(x1_1:Int)(hN:2≤N)(hp0:HP)(okx0:OkL 24 ZwK x0)(gx1_0:Nat)(tgx1_0:TypeId)(hgx1_0:hp0[gx1_0]? = some (.cells [(.int .i64 x1_0)] tgx1_0))(gx1_1:Nat)(tgx1_1:TypeId)(hgx1_1:hp0[gx1_1]? = some (.cells [(.int .i64 x1_1)] tgx1_1)):Zb C N QQ [(.lst 3 (x0.map DU)),(.fn Gu [] [(.ptr gx1_0 0),(.ptr gx1_1 0)])] hp0=some ((AV.int .i64 (Z9 x0 x1_0 x1_1)),hp0,none):=by
 obtain ⟨M,rfl,hh⟩:=exM hp0 (by omega:1≤N)
 refine Ie (by rw [hC.T]; rfl) ?_
 have lt_hgx1_0:=(List.getElem?_eq_some_iff.1 hgx1_0).1
 have lt_hgx1_1:=(List.getElem?_eq_some_iff.1 hgx1_1).1
 have ht:Z9 x0 x1_0 x1_1=Zl x1_0 x1_1 (ZM) x0 []:=by simp only [Z9,IFJ]
 rw [ht]
 have hk1:∀ (hp1:HP),hp0.length≤hp1.length→hp1[gx1_0]? = some (.cells [(.int .i64 x1_0)] tgx1_0)→hp1[gx1_1]? = some (.cells [(.int .i64 x1_1)] tgx1_1)→(Yg C.G (Zb C M) C.L hp0) hp1 none=some ((AV.int .i64 ZM),hp0,none):=by
  intro hp1 hh1 fz314_0 fz314_1
  have lt_fz314_0:=(List.getElem?_eq_some_iff.1 fz314_0).1
  have lt_fz314_1:=(List.getElem?_eq_some_iff.1 fz314_1).1
  have ht:ZM=(-1):=by simp only [ZM,IFJ]
  rw [ht]
  simp only [WF,Yg,COL,KY,reduceAdd,reduceLeDiff,Nat.reduceBEq]
  try rfl
 have hb':x0.length≤4611686018427387:=(by have:=(okx0).1; omega)
 have hx:=Qs hC M x0 x1_0 x1_1 (by omega) hp0 gx1_0 gx1_1 tgx1_0 tgx1_1 hb' (Yg C.G (Zb C M) C.L hp0) (ZM) hk1 x0 [] C.L hp0 rfl (by have:=hC.L; omega) (by omega) hgx1_0 hgx1_1
 try simp only [NIL] at hx
 simp only [WF,Yg,COL,KY,reduceAdd,reduceLeDiff,Nat.reduceBEq,hx]
 try rfl
def Ox (x0:ZN)(x1:Int)(x2:Int):Option (Int×Bool) :=
 if (decide ((Z9 x0.Links x1 x2) < 0))=true then some (0,false) else Yq (Iw x0.Links (Z9 x0.Links x1 x2)) fun y3=>some (y3.Delay,true)
theorem ZrH {C:Cfg}(hC:LH C)(N:Nat)(x0:ZN)(x1:Int)(x2:Int)(hN:3≤N)(hp0:HP)(okx0:Qn x0){res}(hres:Ox x0 x1 x2=some res):Zb C N Zcn [(.agg (ZX x0)),(.int .i64 x1),(.int .i64 x2)] hp0=some ((AV.tup [(AV.int .i64 res.1),(AV.bool res.2)]),hp0,none):=by
 obtain ⟨M,rfl,hh⟩:=exM hp0 (by omega:1≤N)
 refine Zm5 (by rw [hC.T]; rfl) ?_
 obtain ⟨h3,hh3,g4,l5⟩:=mkH hp0 (Zw.cells (ZX x0) Zy)
 obtain ⟨h6,hh6,g7,l8⟩:=mkH h3 (Zw.cells [(.int .i64 x1)] Dv)
 have g9:=keA hh6 g4
 obtain ⟨h10,hh10,g11,l12⟩:=mkH h6 (Zw.cells [(.int .i64 x2)] Dv)
 have g13:=keA hh10 g9
 have g14:=keA hh10 g7
 have c15:=JO hC M x0.Links x1 x2 (by omega) h10 okx0.Links h3.length _ g14 h6.length _ g11
 rcases Bool.eq_false_or_eq_true ((decide ((Z9 x0.Links x1 x2) < 0))) with b16 | b16
 ·simp only [Ox,IFJ,b16] at hres
  cases hres
  simp only [ZcK,COL,KY,Zh,reduceAdd,reduceLeDiff,Nat.reduceBEq,hh3,hh6,hh10,LG g13,c15,b16]
  try rfl
 ·cases q18:Iw x0.Links (Z9 x0.Links x1 x2) with
  | none =>
   simp only [Ox,IFJ,Yc,b16,q18] at hres; cases hres
  | some y17 =>
   have y17e:YN (.slice 3) (.lst 3 (x0.Links.map DU)) (.int .i64 (Z9 x0.Links x1 x2))=some (.ref (DU y17)):=Tz (row := DU) q18
   have oky17:=(okx0.Links).2 _ (Wj q18)
   have memy17:=Wj q18
   simp only [Ox,IFJ,b16,q18,Ze] at hres
   cases hres
   simp only [ZcK,COL,KY,Zh,reduceAdd,reduceLeDiff,Nat.reduceBEq,hh3,hh6,hh10,LG g13,c15,b16,y17e]
   try rfl
def WO:List YO :=
 [(⟨[],[],[],false,false,false,false,false,false⟩:YO),(⟨[115,108,111,116],[115,108,111,116],[],false,true,false,false,false,false⟩:YO),(⟨[118,97,114],[118,97,114],[],false,true,false,false,false,false⟩:YO),(⟨[100,114,97,119],[115,108,111,116],[115,116,114,101,97,109],false,false,false,false,false,true⟩:YO),(⟨[106,117,109,112],[105,110,115,116,114],[],false,false,false,false,false,false⟩:YO),(⟨[98,114,97,110,99,104],[105,110,115,116,114],[],false,true,false,false,false,false⟩:YO),(⟨[104,111,108,100],[],[],false,true,false,false,false,false⟩:YO),(⟨[115,101,105,122,101],[114,101,115,111,117,114,99,101],[],false,true,true,true,false,false⟩:YO),(⟨[114,101,108,101,97,115,101],[114,101,115,111,117,114,99,101],[],false,true,false,false,false,false⟩:YO),(⟨[112,117,116],[115,116,111,114,101],[],false,true,false,false,false,false⟩:YO),(⟨[103,101,116],[115,116,111,114,101],[115,108,111,116],false,false,false,false,false,false⟩:YO),(⟨[114,105,100,101],[98,101,108,116],[],false,false,false,false,false,false⟩:YO),(⟨[119,97,105,116],[113,117,101,117,101],[],false,false,false,false,false,false⟩:YO),(⟨[115,105,103,110,97,108],[113,117,101,117,101],[],false,true,false,false,false,false⟩:YO),(⟨[115,101,110,100],[115,105,116,101],[114,111,117,116,105,110,101],true,true,false,false,true,false⟩:YO),(⟨[115,112,97,119,110],[],[114,111,117,116,105,110,101],false,true,false,false,true,false⟩:YO),(⟨[111,98,115,101,114,118,101],[116,97,108,108,121],[],false,true,false,false,false,false⟩:YO),(⟨[108,101,118,101,108],[108,101,118,101,108],[],false,true,false,false,false,false⟩:YO),(⟨[99,111,117,110,116],[99,111,117,110,116],[],false,true,false,false,false,false⟩:YO),(⟨[101,110,100],[],[],false,false,false,false,false,false⟩:YO)]
theorem Zbd {C:Cfg}(hC:LH C)(N:Nat)(hN:1≤N)(hp0:HP):Zb C N UF [] hp0=some ((AV.own 9 (WO.map Gq)),hp0,none):=by
 obtain ⟨M,rfl,hh⟩:=exM hp0 (by omega:1≤N)
 refine Zlx (by rw [hC.T]; rfl) ?_
 have e1:fill [(.str []),(.str []),(.str []),(.bool false),(.bool false),(.bool false),(.bool false),(.bool false),(.bool false)] []=some [(.str []),(.str []),(.str []),(.bool false),(.bool false),(.bool false),(.bool false),(.bool false),(.bool false)]:=rfl
 have e2:fill [(.str []),(.str []),(.str []),(.bool false),(.bool false),(.bool false),(.bool false),(.bool false),(.bool false)] [(0,1,(.str [115,108,111,116])),(1,1,(.str [115,108,111,116])),(4,1,(.bool true))]=some [(.str [115,108,111,116]),(.str [115,108,111,116]),(.str []),(.bool false),(.bool true),(.bool false),(.bool false),(.bool false),(.bool false)]:=rfl
 have e3:fill [(.str []),(.str []),(.str []),(.bool false),(.bool false),(.bool false),(.bool false),(.bool false),(.bool false)] [(0,1,(.str [118,97,114])),(1,1,(.str [118,97,114])),(4,1,(.bool true))]=some [(.str [118,97,114]),(.str [118,97,114]),(.str []),(.bool false),(.bool true),(.bool false),(.bool false),(.bool false),(.bool false)]:=rfl
 have e4:fill [(.str []),(.str []),(.str []),(.bool false),(.bool false),(.bool false),(.bool false),(.bool false),(.bool false)] [(0,1,(.str [100,114,97,119])),(1,1,(.str [115,108,111,116])),(2,1,(.str [115,116,114,101,97,109])),(8,1,(.bool true))]=some [(.str [100,114,97,119]),(.str [115,108,111,116]),(.str [115,116,114,101,97,109]),(.bool false),(.bool false),(.bool false),(.bool false),(.bool false),(.bool true)]:=rfl
 have e5:fill [(.str []),(.str []),(.str []),(.bool false),(.bool false),(.bool false),(.bool false),(.bool false),(.bool false)] [(0,1,(.str [106,117,109,112])),(1,1,(.str [105,110,115,116,114]))]=some [(.str [106,117,109,112]),(.str [105,110,115,116,114]),(.str []),(.bool false),(.bool false),(.bool false),(.bool false),(.bool false),(.bool false)]:=rfl
 have e6:fill [(.str []),(.str []),(.str []),(.bool false),(.bool false),(.bool false),(.bool false),(.bool false),(.bool false)] [(0,1,(.str [98,114,97,110,99,104])),(1,1,(.str [105,110,115,116,114])),(4,1,(.bool true))]=some [(.str [98,114,97,110,99,104]),(.str [105,110,115,116,114]),(.str []),(.bool false),(.bool true),(.bool false),(.bool false),(.bool false),(.bool false)]:=rfl
 have e7:fill [(.str []),(.str []),(.str []),(.bool false),(.bool false),(.bool false),(.bool false),(.bool false),(.bool false)] [(0,1,(.str [104,111,108,100])),(4,1,(.bool true))]=some [(.str [104,111,108,100]),(.str []),(.str []),(.bool false),(.bool true),(.bool false),(.bool false),(.bool false),(.bool false)]:=rfl
 have e8:fill [(.str []),(.str []),(.str []),(.bool false),(.bool false),(.bool false),(.bool false),(.bool false),(.bool false)] [(0,1,(.str [115,101,105,122,101])),(1,1,(.str [114,101,115,111,117,114,99,101])),(4,1,(.bool true)),(5,1,(.bool true)),(6,1,(.bool true))]=some [(.str [115,101,105,122,101]),(.str [114,101,115,111,117,114,99,101]),(.str []),(.bool false),(.bool true),(.bool true),(.bool true),(.bool false),(.bool false)]:=rfl
 have e9:fill [(.str []),(.str []),(.str []),(.bool false),(.bool false),(.bool false),(.bool false),(.bool false),(.bool false)] [(0,1,(.str [114,101,108,101,97,115,101])),(1,1,(.str [114,101,115,111,117,114,99,101])),(4,1,(.bool true))]=some [(.str [114,101,108,101,97,115,101]),(.str [114,101,115,111,117,114,99,101]),(.str []),(.bool false),(.bool true),(.bool false),(.bool false),(.bool false),(.bool false)]:=rfl
 have e10:fill [(.str []),(.str []),(.str []),(.bool false),(.bool false),(.bool false),(.bool false),(.bool false),(.bool false)] [(0,1,(.str [112,117,116])),(1,1,(.str [115,116,111,114,101])),(4,1,(.bool true))]=some [(.str [112,117,116]),(.str [115,116,111,114,101]),(.str []),(.bool false),(.bool true),(.bool false),(.bool false),(.bool false),(.bool false)]:=rfl
 have e11:fill [(.str []),(.str []),(.str []),(.bool false),(.bool false),(.bool false),(.bool false),(.bool false),(.bool false)] [(0,1,(.str [103,101,116])),(1,1,(.str [115,116,111,114,101])),(2,1,(.str [115,108,111,116]))]=some [(.str [103,101,116]),(.str [115,116,111,114,101]),(.str [115,108,111,116]),(.bool false),(.bool false),(.bool false),(.bool false),(.bool false),(.bool false)]:=rfl
 have e12:fill [(.str []),(.str []),(.str []),(.bool false),(.bool false),(.bool false),(.bool false),(.bool false),(.bool false)] [(0,1,(.str [114,105,100,101])),(1,1,(.str [98,101,108,116]))]=some [(.str [114,105,100,101]),(.str [98,101,108,116]),(.str []),(.bool false),(.bool false),(.bool false),(.bool false),(.bool false),(.bool false)]:=rfl
 have e13:fill [(.str []),(.str []),(.str []),(.bool false),(.bool false),(.bool false),(.bool false),(.bool false),(.bool false)] [(0,1,(.str [119,97,105,116])),(1,1,(.str [113,117,101,117,101]))]=some [(.str [119,97,105,116]),(.str [113,117,101,117,101]),(.str []),(.bool false),(.bool false),(.bool false),(.bool false),(.bool false),(.bool false)]:=rfl
 have e14:fill [(.str []),(.str []),(.str []),(.bool false),(.bool false),(.bool false),(.bool false),(.bool false),(.bool false)] [(0,1,(.str [115,105,103,110,97,108])),(1,1,(.str [113,117,101,117,101])),(4,1,(.bool true))]=some [(.str [115,105,103,110,97,108]),(.str [113,117,101,117,101]),(.str []),(.bool false),(.bool true),(.bool false),(.bool false),(.bool false),(.bool false)]:=rfl
 have e15:fill [(.str []),(.str []),(.str []),(.bool false),(.bool false),(.bool false),(.bool false),(.bool false),(.bool false)] [(0,1,(.str [115,101,110,100])),(1,1,(.str [115,105,116,101])),(2,1,(.str [114,111,117,116,105,110,101])),(3,1,(.bool true)),(4,1,(.bool true)),(7,1,(.bool true))]=some [(.str [115,101,110,100]),(.str [115,105,116,101]),(.str [114,111,117,116,105,110,101]),(.bool true),(.bool true),(.bool false),(.bool false),(.bool true),(.bool false)]:=rfl
 have e16:fill [(.str []),(.str []),(.str []),(.bool false),(.bool false),(.bool false),(.bool false),(.bool false),(.bool false)] [(0,1,(.str [115,112,97,119,110])),(2,1,(.str [114,111,117,116,105,110,101])),(4,1,(.bool true)),(7,1,(.bool true))]=some [(.str [115,112,97,119,110]),(.str []),(.str [114,111,117,116,105,110,101]),(.bool false),(.bool true),(.bool false),(.bool false),(.bool true),(.bool false)]:=rfl
 have e17:fill [(.str []),(.str []),(.str []),(.bool false),(.bool false),(.bool false),(.bool false),(.bool false),(.bool false)] [(0,1,(.str [111,98,115,101,114,118,101])),(1,1,(.str [116,97,108,108,121])),(4,1,(.bool true))]=some [(.str [111,98,115,101,114,118,101]),(.str [116,97,108,108,121]),(.str []),(.bool false),(.bool true),(.bool false),(.bool false),(.bool false),(.bool false)]:=rfl
 have e18:fill [(.str []),(.str []),(.str []),(.bool false),(.bool false),(.bool false),(.bool false),(.bool false),(.bool false)] [(0,1,(.str [108,101,118,101,108])),(1,1,(.str [108,101,118,101,108])),(4,1,(.bool true))]=some [(.str [108,101,118,101,108]),(.str [108,101,118,101,108]),(.str []),(.bool false),(.bool true),(.bool false),(.bool false),(.bool false),(.bool false)]:=rfl
 have e19:fill [(.str []),(.str []),(.str []),(.bool false),(.bool false),(.bool false),(.bool false),(.bool false),(.bool false)] [(0,1,(.str [99,111,117,110,116])),(1,1,(.str [99,111,117,110,116])),(4,1,(.bool true))]=some [(.str [99,111,117,110,116]),(.str [99,111,117,110,116]),(.str []),(.bool false),(.bool true),(.bool false),(.bool false),(.bool false),(.bool false)]:=rfl
 have e20:fill [(.str []),(.str []),(.str []),(.bool false),(.bool false),(.bool false),(.bool false),(.bool false),(.bool false)] [(0,1,(.str [101,110,100]))]=some [(.str [101,110,100]),(.str []),(.str []),(.bool false),(.bool false),(.bool false),(.bool false),(.bool false),(.bool false)]:=rfl
 have e21:ZeN YA 9 [(.agg [(.str []),(.str []),(.str []),(.bool false),(.bool false),(.bool false),(.bool false),(.bool false),(.bool false)]),(.agg [(.str [115,108,111,116]),(.str [115,108,111,116]),(.str []),(.bool false),(.bool true),(.bool false),(.bool false),(.bool false),(.bool false)]),(.agg [(.str [118,97,114]),(.str [118,97,114]),(.str []),(.bool false),(.bool true),(.bool false),(.bool false),(.bool false),(.bool false)]),(.agg [(.str [100,114,97,119]),(.str [115,108,111,116]),(.str [115,116,114,101,97,109]),(.bool false),(.bool false),(.bool false),(.bool false),(.bool false),(.bool true)]),(.agg [(.str [106,117,109,112]),(.str [105,110,115,116,114]),(.str []),(.bool false),(.bool false),(.bool false),(.bool false),(.bool false),(.bool false)]),(.agg [(.str [98,114,97,110,99,104]),(.str [105,110,115,116,114]),(.str []),(.bool false),(.bool true),(.bool false),(.bool false),(.bool false),(.bool false)]),(.agg [(.str [104,111,108,100]),(.str []),(.str []),(.bool false),(.bool true),(.bool false),(.bool false),(.bool false),(.bool false)]),(.agg [(.str [115,101,105,122,101]),(.str [114,101,115,111,117,114,99,101]),(.str []),(.bool false),(.bool true),(.bool true),(.bool true),(.bool false),(.bool false)]),(.agg [(.str [114,101,108,101,97,115,101]),(.str [114,101,115,111,117,114,99,101]),(.str []),(.bool false),(.bool true),(.bool false),(.bool false),(.bool false),(.bool false)]),(.agg [(.str [112,117,116]),(.str [115,116,111,114,101]),(.str []),(.bool false),(.bool true),(.bool false),(.bool false),(.bool false),(.bool false)]),(.agg [(.str [103,101,116]),(.str [115,116,111,114,101]),(.str [115,108,111,116]),(.bool false),(.bool false),(.bool false),(.bool false),(.bool false),(.bool false)]),(.agg [(.str [114,105,100,101]),(.str [98,101,108,116]),(.str []),(.bool false),(.bool false),(.bool false),(.bool false),(.bool false),(.bool false)]),(.agg [(.str [119,97,105,116]),(.str [113,117,101,117,101]),(.str []),(.bool false),(.bool false),(.bool false),(.bool false),(.bool false),(.bool false)]),(.agg [(.str [115,105,103,110,97,108]),(.str [113,117,101,117,101]),(.str []),(.bool false),(.bool true),(.bool false),(.bool false),(.bool false),(.bool false)]),(.agg [(.str [115,101,110,100]),(.str [115,105,116,101]),(.str [114,111,117,116,105,110,101]),(.bool true),(.bool true),(.bool false),(.bool false),(.bool true),(.bool false)]),(.agg [(.str [115,112,97,119,110]),(.str []),(.str [114,111,117,116,105,110,101]),(.bool false),(.bool true),(.bool false),(.bool false),(.bool true),(.bool false)]),(.agg [(.str [111,98,115,101,114,118,101]),(.str [116,97,108,108,121]),(.str []),(.bool false),(.bool true),(.bool false),(.bool false),(.bool false),(.bool false)]),(.agg [(.str [108,101,118,101,108]),(.str [108,101,118,101,108]),(.str []),(.bool false),(.bool true),(.bool false),(.bool false),(.bool false),(.bool false)]),(.agg [(.str [99,111,117,110,116]),(.str [99,111,117,110,116]),(.str []),(.bool false),(.bool true),(.bool false),(.bool false),(.bool false),(.bool false)]),(.agg [(.str [101,110,100]),(.str []),(.str []),(.bool false),(.bool false),(.bool false),(.bool false),(.bool false),(.bool false)])] hp0=some (.own 9 ([(⟨[],[],[],false,false,false,false,false,false⟩:YO),(⟨[115,108,111,116],[115,108,111,116],[],false,true,false,false,false,false⟩:YO),(⟨[118,97,114],[118,97,114],[],false,true,false,false,false,false⟩:YO),(⟨[100,114,97,119],[115,108,111,116],[115,116,114,101,97,109],false,false,false,false,false,true⟩:YO),(⟨[106,117,109,112],[105,110,115,116,114],[],false,false,false,false,false,false⟩:YO),(⟨[98,114,97,110,99,104],[105,110,115,116,114],[],false,true,false,false,false,false⟩:YO),(⟨[104,111,108,100],[],[],false,true,false,false,false,false⟩:YO),(⟨[115,101,105,122,101],[114,101,115,111,117,114,99,101],[],false,true,true,true,false,false⟩:YO),(⟨[114,101,108,101,97,115,101],[114,101,115,111,117,114,99,101],[],false,true,false,false,false,false⟩:YO),(⟨[112,117,116],[115,116,111,114,101],[],false,true,false,false,false,false⟩:YO),(⟨[103,101,116],[115,116,111,114,101],[115,108,111,116],false,false,false,false,false,false⟩:YO),(⟨[114,105,100,101],[98,101,108,116],[],false,false,false,false,false,false⟩:YO),(⟨[119,97,105,116],[113,117,101,117,101],[],false,false,false,false,false,false⟩:YO),(⟨[115,105,103,110,97,108],[113,117,101,117,101],[],false,true,false,false,false,false⟩:YO),(⟨[115,101,110,100],[115,105,116,101],[114,111,117,116,105,110,101],true,true,false,false,true,false⟩:YO),(⟨[115,112,97,119,110],[],[114,111,117,116,105,110,101],false,true,false,false,true,false⟩:YO),(⟨[111,98,115,101,114,118,101],[116,97,108,108,121],[],false,true,false,false,false,false⟩:YO),(⟨[108,101,118,101,108],[108,101,118,101,108],[],false,true,false,false,false,false⟩:YO),(⟨[99,111,117,110,116],[99,111,117,110,116],[],false,true,false,false,false,false⟩:YO),(⟨[101,110,100],[],[],false,false,false,false,false,false⟩:YO)].map Gq),hp0):=by first | rfl | exact ZaT (row := Gq) (fun x=>by exact L8 x) (fun x=>by exact Zq8 x) (fun x=>by exact Zl3 x) [(⟨[],[],[],false,false,false,false,false,false⟩:YO),(⟨[115,108,111,116],[115,108,111,116],[],false,true,false,false,false,false⟩:YO),(⟨[118,97,114],[118,97,114],[],false,true,false,false,false,false⟩:YO),(⟨[100,114,97,119],[115,108,111,116],[115,116,114,101,97,109],false,false,false,false,false,true⟩:YO),(⟨[106,117,109,112],[105,110,115,116,114],[],false,false,false,false,false,false⟩:YO),(⟨[98,114,97,110,99,104],[105,110,115,116,114],[],false,true,false,false,false,false⟩:YO),(⟨[104,111,108,100],[],[],false,true,false,false,false,false⟩:YO),(⟨[115,101,105,122,101],[114,101,115,111,117,114,99,101],[],false,true,true,true,false,false⟩:YO),(⟨[114,101,108,101,97,115,101],[114,101,115,111,117,114,99,101],[],false,true,false,false,false,false⟩:YO),(⟨[112,117,116],[115,116,111,114,101],[],false,true,false,false,false,false⟩:YO),(⟨[103,101,116],[115,116,111,114,101],[115,108,111,116],false,false,false,false,false,false⟩:YO),(⟨[114,105,100,101],[98,101,108,116],[],false,false,false,false,false,false⟩:YO),(⟨[119,97,105,116],[113,117,101,117,101],[],false,false,false,false,false,false⟩:YO),(⟨[115,105,103,110,97,108],[113,117,101,117,101],[],false,true,false,false,false,false⟩:YO),(⟨[115,101,110,100],[115,105,116,101],[114,111,117,116,105,110,101],true,true,false,false,true,false⟩:YO),(⟨[115,112,97,119,110],[],[114,111,117,116,105,110,101],false,true,false,false,true,false⟩:YO),(⟨[111,98,115,101,114,118,101],[116,97,108,108,121],[],false,true,false,false,false,false⟩:YO),(⟨[108,101,118,101,108],[108,101,118,101,108],[],false,true,false,false,false,false⟩:YO),(⟨[99,111,117,110,116],[99,111,117,110,116],[],false,true,false,false,false,false⟩:YO),(⟨[101,110,100],[],[],false,false,false,false,false,false⟩:YO)]
 have ht:WO=[(⟨[],[],[],false,false,false,false,false,false⟩:YO),(⟨[115,108,111,116],[115,108,111,116],[],false,true,false,false,false,false⟩:YO),(⟨[118,97,114],[118,97,114],[],false,true,false,false,false,false⟩:YO),(⟨[100,114,97,119],[115,108,111,116],[115,116,114,101,97,109],false,false,false,false,false,true⟩:YO),(⟨[106,117,109,112],[105,110,115,116,114],[],false,false,false,false,false,false⟩:YO),(⟨[98,114,97,110,99,104],[105,110,115,116,114],[],false,true,false,false,false,false⟩:YO),(⟨[104,111,108,100],[],[],false,true,false,false,false,false⟩:YO),(⟨[115,101,105,122,101],[114,101,115,111,117,114,99,101],[],false,true,true,true,false,false⟩:YO),(⟨[114,101,108,101,97,115,101],[114,101,115,111,117,114,99,101],[],false,true,false,false,false,false⟩:YO),(⟨[112,117,116],[115,116,111,114,101],[],false,true,false,false,false,false⟩:YO),(⟨[103,101,116],[115,116,111,114,101],[115,108,111,116],false,false,false,false,false,false⟩:YO),(⟨[114,105,100,101],[98,101,108,116],[],false,false,false,false,false,false⟩:YO),(⟨[119,97,105,116],[113,117,101,117,101],[],false,false,false,false,false,false⟩:YO),(⟨[115,105,103,110,97,108],[113,117,101,117,101],[],false,true,false,false,false,false⟩:YO),(⟨[115,101,110,100],[115,105,116,101],[114,111,117,116,105,110,101],true,true,false,false,true,false⟩:YO),(⟨[115,112,97,119,110],[],[114,111,117,116,105,110,101],false,true,false,false,true,false⟩:YO),(⟨[111,98,115,101,114,118,101],[116,97,108,108,121],[],false,true,false,false,false,false⟩:YO),(⟨[108,101,118,101,108],[108,101,118,101,108],[],false,true,false,false,false,false⟩:YO),(⟨[99,111,117,110,116],[99,111,117,110,116],[],false,true,false,false,false,false⟩:YO),(⟨[101,110,100],[],[],false,false,false,false,false,false⟩:YO)]:=by simp only [WO,IFJ]
 rw [ht]
 simp only [ZaF,COL,VS,reduceAdd,reduceLeDiff,Nat.reduceBEq,e1,e2,e3,e4,e5,e6,e7,e8,e9,e10,e11,e12,e13,e14,e15,e16,e17,e18,e19,e20,e21]
 try rfl
def VC (x0:Int):Bool :=
 ((decide (1≤x0)) && (decide (x0≤19)))
theorem ZhO {C:Cfg}(hC:LH C)(N:Nat)(x0:Int)(hN:1≤N)(hp0:HP):Zb C N PP [(.int .i64 x0)] hp0=some ((AV.bool (VC x0)),hp0,none):=by
 obtain ⟨M,rfl,hh⟩:=exM hp0 (by omega:1≤N)
 refine Zl1 (by rw [hC.T]; rfl) ?_
 have ht:VC x0=((decide (1≤x0)) && (decide (x0≤19))):=by simp only [VC,IFJ]
 rw [ht]
 simp only [ZgL,COL,reduceAdd,reduceLeDiff,Nat.reduceBEq]
 try rfl
def YI (x0:Yo):Option (List ZH) :=
 if (!(VC x0.Op))=true then some [] else Yq (Iw WO x0.Op) fun y1=>if y1.E=true then (Yq (Rj 56 [] [x0.E]) fun a2=>if y1.F=true then (Yq (Rj 56 a2 [x0.F]) fun a3=>if y1.Args=true then (Yq (Rj 56 a3 x0.Args) fun a4=>some a4) else some a3) else if y1.Args=true then (Yq (Rj 56 a2 x0.Args) fun a5=>some a5) else some a2) else if y1.F=true then (Yq (Rj 56 [] [x0.F]) fun a6=>if y1.Args=true then (Yq (Rj 56 a6 x0.Args) fun a7=>some a7) else some a6) else if y1.Args=true then (Yq (Rj 56 [] x0.Args) fun a8=>some a8) else some []
theorem ZpE {C:Cfg}(hC:LH C)(N:Nat)(x0:Yo)(hN:2≤N)(hp0:HP){res}(hres:YI x0=some res):Zb C N CX [(.agg (ZL x0))] hp0=some ((AV.own 4 (res.map Zt)),hp0,none):=by
 obtain ⟨M,rfl,hh⟩:=exM hp0 (by omega:1≤N)
 refine Zlw (by rw [hC.T]; rfl) ?_
 obtain ⟨h1,hh1,g2,l3⟩:=mkH hp0 (Zw.cells (ZL x0) Yb)
 have c4:=fun hp:HP=>ZhO hC M x0.Op (by omega) hp
 rcases Bool.eq_false_or_eq_true ((!(VC x0.Op))) with b5 | b5
 ·simp only [YI,IFJ,b5] at hres
  cases hres
  simp only [Jm,Qw,Qx,COL,ZE,VS,Zu,reduceAdd,reduceLeDiff,Nat.reduceBEq,hh1,LG g2,c4,b5]
  try rfl
 ·have c6:=fun hp:HP=>Zbd hC M (by omega) hp
  have e7:We (Zb C M) UF [] h1=some ((AV.own 9 (WO.map Gq)),h1,none):=Zku (c6 []) rfl
  cases q9:Iw WO x0.Op with
  | none =>
   simp only [YI,IFJ,Yc,b5,q9] at hres; cases hres
  | some y8 =>
   have y8e:YN (.slice 9) (.lst 9 (WO.map Gq)) (.int .i64 x0.Op)=some (.ref (Gq y8)):=Tz (row := Gq) q9
   have memy8:=Wj q9
   obtain ⟨h10,hh10,g11,l12⟩:=mkH h1 (Zw.cells [(.str []),(.str []),(.str []),(.bool false),(.bool false),(.bool false),(.bool false),(.bool false),(.bool false)] YA)
   have g13:=keA hh10 g2
   obtain ⟨h14,hh14,g15,l16⟩:=seH g11 (Zw.cells (Gq y8) YA)
   have g17:=keS hh14 g13 (by omega)
   have e18:stV hp0.length 9 (.ptr h1.length 0) (.agg (Gq y8)) h10 none=some (h14,none):=by rw [← hh14]; exact Hq g11 (by first | rfl | exact L8 _) (by simp) rfl (by omega) (by rw [XW]; exact Xn (by exact L8 _) (by rfl))
   rcases Bool.eq_false_or_eq_true (y8.E) with b19 | b19
   ·have e20:Zx h14 4 (.ptr hp0.length 4)=some (.agg (Zt x0.E)):=Js g17 (by rw [Qi]; omega) (by first | exact Bj _ | rfl | (simp only [rInstr_eq]; rfl)) (by exact VU _)
    have e21:ZeN Zv 4 [(.agg (Zt x0.E))] h14=some (.own 4 ([x0.E].map Zt),h14):=by first | rfl | exact ZaT (row := Zt) (fun x=>by exact X5 x) (fun x=>by exact XL x) (fun x=>by exact VU x) [x0.E]
    cases q23:Rj 56 [] [x0.E] with
    | none =>
     simp only [YI,IFJ,Yc,b5,q9,Ze,b19,q23] at hres; cases hres
    | some a22 =>
     have a22e:ZeY 4 56 (.own 4 []) (.lst 4 ([x0.E].map Zt)) h14=some (.own 4 (a22.map Zt)):=Di (row := Zt) (fun x=>by exact XL _) q23
     rcases Bool.eq_false_or_eq_true (y8.F) with b24 | b24
     ·have e25:Zx h14 4 (.ptr hp0.length 8)=some (.agg (Zt x0.F)):=Js g17 (by rw [Qi]; omega) (by first | exact Oe _ | rfl | (simp only [rInstr_eq]; rfl)) (by exact VU _)
      have e26:ZeN Zv 4 [(.agg (Zt x0.F))] h14=some (.own 4 ([x0.F].map Zt),h14):=by first | rfl | exact ZaT (row := Zt) (fun x=>by exact X5 x) (fun x=>by exact XL x) (fun x=>by exact VU x) [x0.F]
      cases q28:Rj 56 a22 [x0.F] with
      | none =>
       simp only [YI,IFJ,Yc,b5,q9,Ze,b19,q23,Ze,b24,q28] at hres; cases hres
      | some a27 =>
       have a27e:ZeY 4 56 (.own 4 (a22.map Zt)) (.lst 4 ([x0.F].map Zt)) h14=some (.own 4 (a27.map Zt)):=Di (row := Zt) (fun x=>by exact XL _) q28
       rcases Bool.eq_false_or_eq_true (y8.Args) with b29 | b29
       ·cases q31:Rj 56 a27 x0.Args with
        | none =>
         simp only [YI,IFJ,Yc,b5,q9,Ze,b19,q23,Ze,b24,q28,Ze,b29,q31] at hres; cases hres
        | some a30 =>
         have a30e:ZeY 4 56 (.own 4 (a27.map Zt)) (.lst 4 (x0.Args.map Zt)) h14=some (.own 4 (a30.map Zt)):=Di (row := Zt) (fun x=>by exact XL _) q31
         simp only [YI,IFJ,b5,q9,Ze,b19,q23,b24,q28,b29,q31] at hres
         cases hres
         simp only [Jm,Qw,Qx,COL,ZE,VS,Zu,reduceAdd,reduceLeDiff,Nat.reduceBEq,hh1,LG g2,c4,b5,e7,y8e,hh10,e18,LG g15,b19,e20,e21,a22e,b24,e25,e26,a27e,b29,LG g17,a30e]
         try rfl
       ·simp only [YI,IFJ,b5,q9,Ze,b19,q23,b24,q28,b29] at hres
        cases hres
        simp only [Jm,Qw,Qx,COL,ZE,VS,Zu,reduceAdd,reduceLeDiff,Nat.reduceBEq,hh1,LG g2,c4,b5,e7,y8e,hh10,e18,LG g15,b19,e20,e21,a22e,b24,e25,e26,a27e,b29]
        try rfl
     ·rcases Bool.eq_false_or_eq_true (y8.Args) with b32 | b32
      ·cases q34:Rj 56 a22 x0.Args with
       | none =>
        simp only [YI,IFJ,Yc,b5,q9,Ze,b19,q23,Ze,b24,b32,q34] at hres; cases hres
       | some a33 =>
        have a33e:ZeY 4 56 (.own 4 (a22.map Zt)) (.lst 4 (x0.Args.map Zt)) h14=some (.own 4 (a33.map Zt)):=Di (row := Zt) (fun x=>by exact XL _) q34
        simp only [YI,IFJ,b5,q9,Ze,b19,q23,b24,b32,q34] at hres
        cases hres
        simp only [Jm,Qw,Qx,COL,ZE,VS,Zu,reduceAdd,reduceLeDiff,Nat.reduceBEq,hh1,LG g2,c4,b5,e7,y8e,hh10,e18,LG g15,b19,e20,e21,a22e,b24,b32,LG g17,a33e]
        try rfl
      ·simp only [YI,IFJ,b5,q9,Ze,b19,q23,b24,b32] at hres
       cases hres
       simp only [Jm,Qw,Qx,COL,ZE,VS,Zu,reduceAdd,reduceLeDiff,Nat.reduceBEq,hh1,LG g2,c4,b5,e7,y8e,hh10,e18,LG g15,b19,e20,e21,a22e,b24,b32]
       try rfl
   ·rcases Bool.eq_false_or_eq_true (y8.F) with b35 | b35
    ·have e36:Zx h14 4 (.ptr hp0.length 8)=some (.agg (Zt x0.F)):=Js g17 (by rw [Qi]; omega) (by first | exact Oe _ | rfl | (simp only [rInstr_eq]; rfl)) (by exact VU _)
     have e37:ZeN Zv 4 [(.agg (Zt x0.F))] h14=some (.own 4 ([x0.F].map Zt),h14):=by first | rfl | exact ZaT (row := Zt) (fun x=>by exact X5 x) (fun x=>by exact XL x) (fun x=>by exact VU x) [x0.F]
     cases q39:Rj 56 [] [x0.F] with
     | none =>
      simp only [YI,IFJ,Yc,b5,q9,Ze,b19,b35,q39] at hres; cases hres
     | some a38 =>
      have a38e:ZeY 4 56 (.own 4 []) (.lst 4 ([x0.F].map Zt)) h14=some (.own 4 (a38.map Zt)):=Di (row := Zt) (fun x=>by exact XL _) q39
      rcases Bool.eq_false_or_eq_true (y8.Args) with b40 | b40
      ·cases q42:Rj 56 a38 x0.Args with
       | none =>
        simp only [YI,IFJ,Yc,b5,q9,Ze,b19,b35,q39,Ze,b40,q42] at hres; cases hres
       | some a41 =>
        have a41e:ZeY 4 56 (.own 4 (a38.map Zt)) (.lst 4 (x0.Args.map Zt)) h14=some (.own 4 (a41.map Zt)):=Di (row := Zt) (fun x=>by exact XL _) q42
        simp only [YI,IFJ,b5,q9,Ze,b19,b35,q39,b40,q42] at hres
        cases hres
        simp only [Jm,Qw,Qx,COL,ZE,VS,Zu,reduceAdd,reduceLeDiff,Nat.reduceBEq,hh1,LG g2,c4,b5,e7,y8e,hh10,e18,LG g15,b19,b35,e36,e37,a38e,b40,LG g17,a41e]
        try rfl
      ·simp only [YI,IFJ,b5,q9,Ze,b19,b35,q39,b40] at hres
       cases hres
       simp only [Jm,Qw,Qx,COL,ZE,VS,Zu,reduceAdd,reduceLeDiff,Nat.reduceBEq,hh1,LG g2,c4,b5,e7,y8e,hh10,e18,LG g15,b19,b35,e36,e37,a38e,b40]
       try rfl
    ·rcases Bool.eq_false_or_eq_true (y8.Args) with b43 | b43
     ·cases q45:Rj 56 [] x0.Args with
      | none =>
       simp only [YI,IFJ,Yc,b5,q9,Ze,b19,b35,b43,q45] at hres; cases hres
      | some a44 =>
       have a44e:ZeY 4 56 (.own 4 []) (.lst 4 (x0.Args.map Zt)) h14=some (.own 4 (a44.map Zt)):=Di (row := Zt) (fun x=>by exact XL _) q45
       simp only [YI,IFJ,b5,q9,Ze,b19,b35,b43,q45] at hres
       cases hres
       simp only [Jm,Qw,Qx,COL,ZE,VS,Zu,reduceAdd,reduceLeDiff,Nat.reduceBEq,hh1,LG g2,c4,b5,e7,y8e,hh10,e18,LG g15,b19,b35,b43,LG g17,a44e]
       try rfl
     ·simp only [YI,IFJ,b5,q9,Ze,b19,b35,b43] at hres
      cases hres
      simp only [Jm,Qw,Qx,COL,ZE,VS,Zu,reduceAdd,reduceLeDiff,Nat.reduceBEq,hh1,LG g2,c4,b5,e7,y8e,hh10,e18,LG g15,b19,b35,b43]
      try rfl
def XC (x0:Int):Bool :=
 ((decide (1≤x0)) && (decide (x0≤19)))
theorem ZdS {C:Cfg}(hC:LH C)(N:Nat)(x0:Int)(hN:1≤N)(hp0:HP):Zb C N BV [(.int .i64 x0)] hp0=some ((AV.bool (XC x0)),hp0,none):=by
 obtain ⟨M,rfl,hh⟩:=exM hp0 (by omega:1≤N)
 refine ZiQ (by rw [hC.T]; rfl) ?_
 have ht:XC x0=((decide (1≤x0)) && (decide (x0≤19))):=by simp only [XC,IFJ]
 rw [ht]
 simp only [ZdC,COL,reduceAdd,reduceLeDiff,Nat.reduceBEq]
 try rfl
def Z5 (x0:Yo):Option (List ZH) :=
 if (!(XC x0.Op))=true then some [] else Yq (Iw KW x0.Op) fun y1=>if y1.e=true then (Yq (Rj 56 [] [x0.E]) fun a2=>if y1.f=true then (Yq (Rj 56 a2 [x0.F]) fun a3=>if y1.args=true then (Yq (Rj 56 a3 x0.Args) fun a4=>some a4) else some a3) else if y1.args=true then (Yq (Rj 56 a2 x0.Args) fun a5=>some a5) else some a2) else if y1.f=true then (Yq (Rj 56 [] [x0.F]) fun a6=>if y1.args=true then (Yq (Rj 56 a6 x0.Args) fun a7=>some a7) else some a6) else if y1.args=true then (Yq (Rj 56 [] x0.Args) fun a8=>some a8) else some []
theorem Gf {C:Cfg}(hC:LH C)(N:Nat)(x0:Yo)(hN:2≤N)(hp0:HP){res}(hres:Z5 x0=some res):Zb C N OD [(.agg (ZL x0))] hp0=some ((AV.own 4 (res.map Zt)),hp0,none):=by
 obtain ⟨M,rfl,hh⟩:=exM hp0 (by omega:1≤N)
 refine AB (by rw [hC.T]; rfl) ?_
 obtain ⟨h1,hh1,g2,l3⟩:=mkH hp0 (Zw.cells (ZL x0) Yb)
 have c4:=fun hp:HP=>ZdS hC M x0.Op (by omega) hp
 rcases Bool.eq_false_or_eq_true ((!(XC x0.Op))) with b5 | b5
 ·simp only [Z5,IFJ,b5] at hres
  cases hres
  simp only [Wi,Y7,Y8,COL,ZE,Zu,YU,reduceAdd,reduceLeDiff,Nat.reduceBEq,hh1,LG g2,c4,b5]
  try rfl
 ·cases q7:Iw KW x0.Op with
  | none =>
   simp only [Z5,IFJ,Yc,b5,q7] at hres; cases hres
  | some y6 =>
   have y6e:YN (.slice 9) (.lst 9 (KW.map Jp)) (.int .i64 x0.Op)=some (.ref (Jp y6)):=Tz (row := Jp) q7
   have oky6:=(ZoQ).2 _ (Wj q7)
   have memy6:=Wj q7
   obtain ⟨h8,hh8,g9,l10⟩:=mkH h1 (Zw.cells [(.str []),(.int .i64 0),(.int .i64 0),(.bool false),(.bool false),(.bool false),(.bool false),(.bool false),(.bool false)] YQ)
   have g11:=keA hh8 g2
   obtain ⟨h12,hh12,g13,l14⟩:=seH g9 (Zw.cells (Jp y6) YQ)
   have g15:=keS hh12 g11 (by omega)
   have e16:stV hp0.length 9 (.ptr h1.length 0) (.agg (Jp y6)) h8 none=some (h12,none):=by rw [← hh12]; exact Hq g9 (by first | rfl | exact Bl _) (by simp) rfl (by omega) (by rw [XW]; exact Xn (by exact Bl _) (by rfl))
   rcases Bool.eq_false_or_eq_true (y6.e) with b17 | b17
   ·have e18:Zx h12 4 (.ptr hp0.length 4)=some (.agg (Zt x0.E)):=Js g15 (by rw [Qi]; omega) (by first | exact Bj _ | rfl | (simp only [rInstr_eq]; rfl)) (by exact VU _)
    have e19:ZeN Zv 4 [(.agg (Zt x0.E))] h12=some (.own 4 ([x0.E].map Zt),h12):=by first | rfl | exact ZaT (row := Zt) (fun x=>by exact X5 x) (fun x=>by exact XL x) (fun x=>by exact VU x) [x0.E]
    cases q21:Rj 56 [] [x0.E] with
    | none =>
     simp only [Z5,IFJ,Yc,b5,q7,Ze,b17,q21] at hres; cases hres
    | some a20 =>
     have a20e:ZeY 4 56 (.own 4 []) (.lst 4 ([x0.E].map Zt)) h12=some (.own 4 (a20.map Zt)):=Di (row := Zt) (fun x=>by exact XL _) q21
     rcases Bool.eq_false_or_eq_true (y6.f) with b22 | b22
     ·have e23:Zx h12 4 (.ptr hp0.length 8)=some (.agg (Zt x0.F)):=Js g15 (by rw [Qi]; omega) (by first | exact Oe _ | rfl | (simp only [rInstr_eq]; rfl)) (by exact VU _)
      have e24:ZeN Zv 4 [(.agg (Zt x0.F))] h12=some (.own 4 ([x0.F].map Zt),h12):=by first | rfl | exact ZaT (row := Zt) (fun x=>by exact X5 x) (fun x=>by exact XL x) (fun x=>by exact VU x) [x0.F]
      cases q26:Rj 56 a20 [x0.F] with
      | none =>
       simp only [Z5,IFJ,Yc,b5,q7,Ze,b17,q21,Ze,b22,q26] at hres; cases hres
      | some a25 =>
       have a25e:ZeY 4 56 (.own 4 (a20.map Zt)) (.lst 4 ([x0.F].map Zt)) h12=some (.own 4 (a25.map Zt)):=Di (row := Zt) (fun x=>by exact XL _) q26
       rcases Bool.eq_false_or_eq_true (y6.args) with b27 | b27
       ·cases q29:Rj 56 a25 x0.Args with
        | none =>
         simp only [Z5,IFJ,Yc,b5,q7,Ze,b17,q21,Ze,b22,q26,Ze,b27,q29] at hres; cases hres
        | some a28 =>
         have a28e:ZeY 4 56 (.own 4 (a25.map Zt)) (.lst 4 (x0.Args.map Zt)) h12=some (.own 4 (a28.map Zt)):=Di (row := Zt) (fun x=>by exact XL _) q29
         simp only [Z5,IFJ,b5,q7,Ze,b17,q21,b22,q26,b27,q29] at hres
         cases hres
         simp only [Wi,Y7,Y8,COL,ZE,Zu,YU,reduceAdd,reduceLeDiff,Nat.reduceBEq,hh1,LG g2,c4,b5,hC.F0,y6e,hh8,e16,LG g13,b17,e18,e19,a20e,b22,e23,e24,a25e,b27,LG g15,a28e]
         try rfl
       ·simp only [Z5,IFJ,b5,q7,Ze,b17,q21,b22,q26,b27] at hres
        cases hres
        simp only [Wi,Y7,Y8,COL,ZE,Zu,YU,reduceAdd,reduceLeDiff,Nat.reduceBEq,hh1,LG g2,c4,b5,hC.F0,y6e,hh8,e16,LG g13,b17,e18,e19,a20e,b22,e23,e24,a25e,b27]
        try rfl
     ·rcases Bool.eq_false_or_eq_true (y6.args) with b30 | b30
      ·cases q32:Rj 56 a20 x0.Args with
       | none =>
        simp only [Z5,IFJ,Yc,b5,q7,Ze,b17,q21,Ze,b22,b30,q32] at hres; cases hres
       | some a31 =>
        have a31e:ZeY 4 56 (.own 4 (a20.map Zt)) (.lst 4 (x0.Args.map Zt)) h12=some (.own 4 (a31.map Zt)):=Di (row := Zt) (fun x=>by exact XL _) q32
        simp only [Z5,IFJ,b5,q7,Ze,b17,q21,b22,b30,q32] at hres
        cases hres
        simp only [Wi,Y7,Y8,COL,ZE,Zu,YU,reduceAdd,reduceLeDiff,Nat.reduceBEq,hh1,LG g2,c4,b5,hC.F0,y6e,hh8,e16,LG g13,b17,e18,e19,a20e,b22,b30,LG g15,a31e]
        try rfl
      ·simp only [Z5,IFJ,b5,q7,Ze,b17,q21,b22,b30] at hres
       cases hres
       simp only [Wi,Y7,Y8,COL,ZE,Zu,YU,reduceAdd,reduceLeDiff,Nat.reduceBEq,hh1,LG g2,c4,b5,hC.F0,y6e,hh8,e16,LG g13,b17,e18,e19,a20e,b22,b30]
       try rfl
   ·rcases Bool.eq_false_or_eq_true (y6.f) with b33 | b33
    ·have e34:Zx h12 4 (.ptr hp0.length 8)=some (.agg (Zt x0.F)):=Js g15 (by rw [Qi]; omega) (by first | exact Oe _ | rfl | (simp only [rInstr_eq]; rfl)) (by exact VU _)
     have e35:ZeN Zv 4 [(.agg (Zt x0.F))] h12=some (.own 4 ([x0.F].map Zt),h12):=by first | rfl | exact ZaT (row := Zt) (fun x=>by exact X5 x) (fun x=>by exact XL x) (fun x=>by exact VU x) [x0.F]
     cases q37:Rj 56 [] [x0.F] with
     | none =>
      simp only [Z5,IFJ,Yc,b5,q7,Ze,b17,b33,q37] at hres; cases hres
     | some a36 =>
      have a36e:ZeY 4 56 (.own 4 []) (.lst 4 ([x0.F].map Zt)) h12=some (.own 4 (a36.map Zt)):=Di (row := Zt) (fun x=>by exact XL _) q37
      rcases Bool.eq_false_or_eq_true (y6.args) with b38 | b38
      ·cases q40:Rj 56 a36 x0.Args with
       | none =>
        simp only [Z5,IFJ,Yc,b5,q7,Ze,b17,b33,q37,Ze,b38,q40] at hres; cases hres
       | some a39 =>
        have a39e:ZeY 4 56 (.own 4 (a36.map Zt)) (.lst 4 (x0.Args.map Zt)) h12=some (.own 4 (a39.map Zt)):=Di (row := Zt) (fun x=>by exact XL _) q40
        simp only [Z5,IFJ,b5,q7,Ze,b17,b33,q37,b38,q40] at hres
        cases hres
        simp only [Wi,Y7,Y8,COL,ZE,Zu,YU,reduceAdd,reduceLeDiff,Nat.reduceBEq,hh1,LG g2,c4,b5,hC.F0,y6e,hh8,e16,LG g13,b17,b33,e34,e35,a36e,b38,LG g15,a39e]
        try rfl
      ·simp only [Z5,IFJ,b5,q7,Ze,b17,b33,q37,b38] at hres
       cases hres
       simp only [Wi,Y7,Y8,COL,ZE,Zu,YU,reduceAdd,reduceLeDiff,Nat.reduceBEq,hh1,LG g2,c4,b5,hC.F0,y6e,hh8,e16,LG g13,b17,b33,e34,e35,a36e,b38]
       try rfl
    ·rcases Bool.eq_false_or_eq_true (y6.args) with b41 | b41
     ·cases q43:Rj 56 [] x0.Args with
      | none =>
       simp only [Z5,IFJ,Yc,b5,q7,Ze,b17,b33,b41,q43] at hres; cases hres
      | some a42 =>
       have a42e:ZeY 4 56 (.own 4 []) (.lst 4 (x0.Args.map Zt)) h12=some (.own 4 (a42.map Zt)):=Di (row := Zt) (fun x=>by exact XL _) q43
       simp only [Z5,IFJ,b5,q7,Ze,b17,b33,b41,q43] at hres
       cases hres
       simp only [Wi,Y7,Y8,COL,ZE,Zu,YU,reduceAdd,reduceLeDiff,Nat.reduceBEq,hh1,LG g2,c4,b5,hC.F0,y6e,hh8,e16,LG g13,b17,b33,b41,LG g15,a42e]
       try rfl
     ·simp only [Z5,IFJ,b5,q7,Ze,b17,b33,b41] at hres
      cases hres
      simp only [Wi,Y7,Y8,COL,ZE,Zu,YU,reduceAdd,reduceLeDiff,Nat.reduceBEq,hh1,LG g2,c4,b5,hC.F0,y6e,hh8,e16,LG g13,b17,b33,b41]
      try rfl
def X8 (x0:Yo):Option Bool :=
 Yq (Iw WO x0.Op) fun y1=>if ((decide (y1.A=[])) && (decide (x0.A≠0)))=true then some false else if ((decide (y1.B=[])) && (decide (x0.B≠0)))=true then some false else if ((!y1.C) && (decide (x0.C≠0)))=true then some false else if ((!y1.Flag) && x0.Flag)=true then some false else if ((!y1.E) && (!(PE x0.E (⟨0,[],0,[]⟩:ZH))))=true then some false else if ((!y1.F) && (!(PE x0.F (⟨0,[],0,[]⟩:ZH))))=true then some false else if ((!y1.Args) && (decide (0 < (x0.Args.length:Int))))=true then some false else some (y1.Dist || (ZhT x0.Dist))
theorem ZpH {C:Cfg}(hC:LH C)(N:Nat)(x0:Yo)(hN:2 * SizeOf.sizeOf x0 + 3≤N)(hp0:HP)(okx0:LK x0){res}(hres:X8 x0=some res):Zb C N Zaa [(.agg (ZL x0))] hp0=some ((AV.bool res),hp0,none):=by
 obtain ⟨M,rfl,hh⟩:=exM hp0 (by omega:1≤N)
 refine Zl2 (by rw [hC.T]; rfl) ?_
 obtain ⟨h1,hh1,g2,l3⟩:=mkH hp0 (Zw.cells (ZL x0) Yb)
 have c4:=fun hp:HP=>Zbd hC M (by omega) hp
 have e5:We (Zb C M) UF [] h1=some ((AV.own 9 (WO.map Gq)),h1,none):=Zku (c4 []) rfl
 cases q7:Iw WO x0.Op with
 | none =>
  simp only [X8,IFJ,Yc,q7] at hres; cases hres
 | some y6 =>
  have y6e:YN (.slice 9) (.lst 9 (WO.map Gq)) (.int .i64 x0.Op)=some (.ref (Gq y6)):=Tz (row := Gq) q7
  have memy6:=Wj q7
  obtain ⟨h8,hh8,g9,l1257⟩:=mkH h1 (Zw.cells [(.str []),(.str []),(.str []),(.bool false),(.bool false),(.bool false),(.bool false),(.bool false),(.bool false)] YA)
  have g10:=keA hh8 g2
  obtain ⟨h11,hh11,g12,l13⟩:=seH g9 (Zw.cells (Gq y6) YA)
  have g14:=keS hh11 g10 (by omega)
  have e15:stV hp0.length 9 (.ptr h1.length 0) (.agg (Gq y6)) h8 none=some (h11,none):=by rw [← hh11]; exact Hq g9 (by first | rfl | exact L8 _) (by simp) rfl (by omega) (by rw [XW]; exact Xn (by exact L8 _) (by rfl))
  have e16:fill [(.int .i64 0),(.str []),(.int .i64 0),(.own 4 [])] []=some [(.int .i64 0),(.str []),(.int .i64 0),(.own 4 [])]:=rfl
  obtain ⟨h17,hh17,g18,l19⟩:=mkH h11 (Zw.cells [(.int .i64 0),(.str []),(.int .i64 0),(.own 4 [])] Zv)
  have g20:=keA hh17 g14
  have g21:=keA hh17 g12
  obtain ⟨h22,hh22,g23,l24⟩:=seH g18 (Zw.cells [(.int .i64 0),(.str []),(.int .i64 0),(.own 4 [])] Zv)
  have g25:=keS hh22 g20 (by omega)
  have g26:=keS hh22 g21 (by omega)
  have e27:stV hp0.length 4 (.ptr h11.length 0) (.agg [(.int .i64 0),(.str []),(.int .i64 0),(.own 4 [])]) h17 none=some (h22,none):=by rw [← hh22]; exact Hq g18 (rfl) (by simp) rfl (by omega) (by rw [XW]; exact Xn (by rfl) (by rfl))
  rcases Bool.eq_false_or_eq_true (((decide (y6.A=[])) && (decide (x0.A≠0)))) with b28 | b28
  ·simp only [X8,IFJ,q7,Ze,b28] at hres
   cases hres
   simp only [Ua,WU,WE,COL,Y6,ZE,VS,Zu,reduceAdd,reduceLeDiff,Nat.reduceBEq,hh1,e5,LG g2,y6e,hh8,e15,e16,hh17,e27,LG g26,LG g25,b28]
   try rfl
  ·rcases Bool.eq_false_or_eq_true (((decide (y6.B=[])) && (decide (x0.B≠0)))) with b29 | b29
   ·simp only [X8,IFJ,q7,Ze,b28,b29] at hres
    cases hres
    simp only [Ua,WU,WE,COL,Y6,ZE,VS,Zu,reduceAdd,reduceLeDiff,Nat.reduceBEq,hh1,e5,LG g2,y6e,hh8,e15,e16,hh17,e27,LG g26,LG g25,b28,b29]
    try rfl
   ·rcases Bool.eq_false_or_eq_true (((!y6.C) && (decide (x0.C≠0)))) with b30 | b30
    ·simp only [X8,IFJ,q7,Ze,b28,b29,b30] at hres
     cases hres
     simp only [Ua,WU,WE,COL,Y6,ZE,VS,Zu,reduceAdd,reduceLeDiff,Nat.reduceBEq,hh1,e5,LG g2,y6e,hh8,e15,e16,hh17,e27,LG g26,LG g25,b28,b29,b30]
     try rfl
    ·rcases Bool.eq_false_or_eq_true (((!y6.Flag) && x0.Flag)) with b31 | b31
     ·simp only [X8,IFJ,q7,Ze,b28,b29,b30,b31] at hres
      cases hres
      simp only [Ua,WU,WE,COL,Y6,ZE,VS,Zu,reduceAdd,reduceLeDiff,Nat.reduceBEq,hh1,e5,LG g2,y6e,hh8,e15,e16,hh17,e27,LG g26,LG g25,b28,b29,b30,b31]
      try rfl
     ·have e32:Zx h22 4 (.ptr hp0.length 4)=some (.agg (Zt x0.E)):=Js g25 (by rw [Qi]; omega) (by first | exact Bj _ | rfl | (simp only [rInstr_eq]; rfl)) (by exact VU _)
      have e33:Zx h22 4 (.ptr h11.length 0)=some (.agg [(.int .i64 0),(.str []),(.int .i64 0),(.lst 4 [])]):=by rw [Zhj g23 4 0 (by simp)]; rfl
      have e35:(.agg [(.int .i64 0),(.str []),(.int .i64 0),(.lst 4 [])])=AV.agg (Zt (⟨0,[],0,[]⟩:ZH)):=by first | rfl | (rw [Y1]; rfl)
      have c34:=fun hp:HP=>ZjH hC.toOB M hp x0.E (⟨0,[],0,[]⟩:ZH) (by have:=Zkf x0; omega) okx0.E (Y2.mk _ (by simp) (by simp) (by simp) (by simp) (by simp))
      rcases Bool.eq_false_or_eq_true (((!y6.E) && (!(PE x0.E (⟨0,[],0,[]⟩:ZH))))) with b36 | b36
      ·simp only [X8,IFJ,q7,Ze,b28,b29,b30,b31,b36] at hres
       cases hres
       simp only [Ua,WU,WE,COL,Y6,ZE,VS,Zu,reduceAdd,reduceLeDiff,Nat.reduceBEq,hh1,e5,LG g2,y6e,hh8,e15,e16,hh17,e27,LG g26,LG g25,b28,b29,b30,b31,e32,e33,e35,c34,b36]
       try rfl
      ·have e37:Zx h22 4 (.ptr hp0.length 8)=some (.agg (Zt x0.F)):=Js g25 (by rw [Qi]; omega) (by first | exact Oe _ | rfl | (simp only [rInstr_eq]; rfl)) (by exact VU _)
       have e38:Zx h22 4 (.ptr h11.length 0)=some (.agg [(.int .i64 0),(.str []),(.int .i64 0),(.lst 4 [])]):=by rw [Zhj g23 4 0 (by simp)]; rfl
       have e40:(.agg [(.int .i64 0),(.str []),(.int .i64 0),(.lst 4 [])])=AV.agg (Zt (⟨0,[],0,[]⟩:ZH)):=by first | rfl | (rw [Y1]; rfl)
       have c39:=fun hp:HP=>ZjH hC.toOB M hp x0.F (⟨0,[],0,[]⟩:ZH) (by have:=Zkg x0; omega) okx0.F (Y2.mk _ (by simp) (by simp) (by simp) (by simp) (by simp))
       rcases Bool.eq_false_or_eq_true (((!y6.F) && (!(PE x0.F (⟨0,[],0,[]⟩:ZH))))) with b41 | b41
       ·simp only [X8,IFJ,q7,Ze,b28,b29,b30,b31,b36,b41] at hres
        cases hres
        simp only [Ua,WU,WE,COL,Y6,ZE,VS,Zu,reduceAdd,reduceLeDiff,Nat.reduceBEq,hh1,e5,LG g2,y6e,hh8,e15,e16,hh17,e27,LG g26,LG g25,b28,b29,b30,b31,e32,e33,e35,c34,b36,e37,e38,e40,c39,b41]
        try rfl
       ·rcases Bool.eq_false_or_eq_true (((!y6.Args) && (decide (0 < (x0.Args.length:Int))))) with b42 | b42
        ·simp only [X8,IFJ,q7,Ze,b28,b29,b30,b31,b36,b41,b42] at hres
         cases hres
         simp only [Ua,WU,WE,COL,Y6,ZE,VS,Zu,reduceAdd,reduceLeDiff,Nat.reduceBEq,hh1,e5,LG g2,y6e,hh8,e15,e16,hh17,e27,LG g26,LG g25,b28,b29,b30,b31,e32,e33,e35,c34,b36,e37,e38,e40,c39,b41,b42]
         try rfl
        ·have e43:Zx h22 6 (.ptr hp0.length 13)=some (.agg (Jv x0.Dist)):=Js g25 (by rw [Qi]; omega) (by first | exact VZ _ | rfl | (simp only [rInstr_eq]; rfl)) (by exact MQ _)
         have e44:fill [(.int .i64 0),(.int .i64 0),(.int .i64 0),(.int .i64 0),(.own 1 []),(.own 1 [])] []=some [(.int .i64 0),(.int .i64 0),(.int .i64 0),(.int .i64 0),(.own 1 []),(.own 1 [])]:=rfl
         have c45:=fun hp:HP=>ZgR hC.toOB M (by omega) hp x0.Dist okx0.Dist
         simp only [X8,IFJ,q7,Ze,b28,b29,b30,b31,b36,b41,b42] at hres
         cases hres
         simp only [Ua,WU,WE,COL,Y6,ZE,VS,Zu,reduceAdd,reduceLeDiff,Nat.reduceBEq,hh1,e5,LG g2,y6e,hh8,e15,e16,hh17,e27,LG g26,LG g25,b28,b29,b30,b31,e32,e33,e35,c34,b36,e37,e38,e40,c39,b41,b42,e43,e44,c45]
         try rfl
def MK (x0:ZH):Bool :=
 (Zju x0)
theorem ZhM {C:Cfg}(hC:LH C)(N:Nat)(x0:ZH)(hN:2≤N)(hp0:HP)(okx0:Y2 x0):Zb C N PH [(.agg (Zt x0))] hp0=some ((AV.bool (MK x0)),hp0,none):=by
 obtain ⟨M,rfl,hh⟩:=exM hp0 (by omega:1≤N)
 refine ZkE (by rw [hC.T]; rfl) ?_
 obtain ⟨h1,hh1,g2,l3⟩:=mkH hp0 (Zw.cells (Zt x0) Zv)
 have e4:fill [(.int .i64 0),(.str []),(.int .i64 0),(.own 4 [])] []=some [(.int .i64 0),(.str []),(.int .i64 0),(.own 4 [])]:=rfl
 have c5:=fun hp:HP=>ZeM hC.toOB M (by omega) hp x0 okx0
 have ht:MK x0=(Zju x0):=by simp only [MK,IFJ]
 rw [ht]
 simp only [ZgA,COL,ZE,reduceAdd,reduceLeDiff,Nat.reduceBEq,hh1,LG g2,e4,c5]
 try rfl
def Hu (x0:Yo):Option Bool :=
 Yq (Iw KW x0.Op) fun y1=>some (((((((((decide (y1.a≠0)) || (decide (x0.A=0))) && ((decide (y1.b≠0)) || (decide (x0.B=0)))) && (y1.c || (decide (x0.C=0)))) && (y1.e || (MK x0.E))) && (y1.f || (MK x0.F))) && (y1.args || (decide ((x0.Args.length:Int)=0)))) && (y1.dist || (ZhT x0.Dist))) && (y1.preempt || (!x0.Flag)))
theorem ZnI {C:Cfg}(hC:LH C)(N:Nat)(x0:Yo)(hN:3≤N)(hp0:HP)(okx0:LK x0){res}(hres:Hu x0=some res):Zb C N SG [(.agg (ZL x0))] hp0=some ((AV.bool res),hp0,none):=by
 obtain ⟨M,rfl,hh⟩:=exM hp0 (by omega:1≤N)
 refine ZiP (by rw [hC.T]; rfl) ?_
 obtain ⟨h1,hh1,g2,l3⟩:=mkH hp0 (Zw.cells (ZL x0) Yb)
 cases q5:Iw KW x0.Op with
 | none =>
  simp only [Hu,IFJ,Yc,q5] at hres; cases hres
 | some y4 =>
  have y4e:YN (.slice 9) (.lst 9 (KW.map Jp)) (.int .i64 x0.Op)=some (.ref (Jp y4)):=Tz (row := Jp) q5
  have oky4:=(ZoQ).2 _ (Wj q5)
  have memy4:=Wj q5
  obtain ⟨h6,hh6,g7,l8⟩:=mkH h1 (Zw.cells [(.str []),(.int .i64 0),(.int .i64 0),(.bool false),(.bool false),(.bool false),(.bool false),(.bool false),(.bool false)] YQ)
  have g9:=keA hh6 g2
  obtain ⟨h10,hh10,g11,l12⟩:=seH g7 (Zw.cells (Jp y4) YQ)
  have g13:=keS hh10 g9 (by omega)
  have e14:stV hp0.length 9 (.ptr h1.length 0) (.agg (Jp y4)) h6 none=some (h10,none):=by rw [← hh10]; exact Hq g7 (by first | rfl | exact Bl _) (by simp) rfl (by omega) (by rw [XW]; exact Xn (by exact Bl _) (by rfl))
  have e15:Zx h10 4 (.ptr hp0.length 4)=some (.agg (Zt x0.E)):=Js g13 (by rw [Qi]; omega) (by first | exact Bj _ | rfl | (simp only [rInstr_eq]; rfl)) (by exact VU _)
  have c16:=fun hp:HP=>ZhM hC M x0.E (by omega) hp okx0.E
  have e17:Zx h10 4 (.ptr hp0.length 8)=some (.agg (Zt x0.F)):=Js g13 (by rw [Qi]; omega) (by first | exact Oe _ | rfl | (simp only [rInstr_eq]; rfl)) (by exact VU _)
  have c18:=fun hp:HP=>ZhM hC M x0.F (by omega) hp okx0.F
  have e19:Zx h10 6 (.ptr hp0.length 13)=some (.agg (Jv x0.Dist)):=Js g13 (by rw [Qi]; omega) (by first | exact VZ _ | rfl | (simp only [rInstr_eq]; rfl)) (by exact MQ _)
  have e20:fill [(.int .i64 0),(.int .i64 0),(.int .i64 0),(.int .i64 0),(.own 1 []),(.own 1 [])] []=some [(.int .i64 0),(.int .i64 0),(.int .i64 0),(.int .i64 0),(.own 1 []),(.own 1 [])]:=rfl
  have c21:=fun hp:HP=>ZeL hC.toOB M (by omega) hp x0.Dist okx0.Dist
  simp only [Hu,IFJ,q5,Ze] at hres
  cases hres
  simp only [ZdB,COL,Y6,ZE,Zu,YU,reduceAdd,reduceLeDiff,Nat.reduceBEq,hh1,hC.F0,LG g2,y4e,hh6,e14,LG g11,LG g13,e15,c16,e17,c18,e19,e20,c21]
  try rfl
end Go.Proofs.YtleomfgijkapfaaGreatDoor
end
section
namespace Go.Proofs.YtleomfgijkapfaaGreatDoor
open Go Go.RowKit Go.Proofs.YtleomfgijkapfaaGreatDoor.Abs
open Nat (reduceAdd reduceLeDiff)
set_option maxRecDepth 100000
theorem PV {α:Type}{b:Nat}{l m c:List α}(h:Rj b l m=some c):c=l ++ m∧c.length * b≤140737488355328:=by
 unfold Rj at h
 split at h
 ·rename_i hc; cases h; exact ⟨rfl,by rw [List.length_append]; exact hc⟩
 ·cases h
theorem Zqc {x:Yo}{l:List ZH}{e f a:Bool}
  (q:(if e=true then (Yq (Rj 56 [] [x.E]) fun a0=>if f=true then (Yq (Rj 56 a0 [x.F]) fun a11=>if a=true then (Yq (Rj 56 a11 x.Args) fun a12=>some a12) else some a11) else if a=true then (Yq (Rj 56 a0 x.Args) fun a13=>some a13) else some a0) else if f=true then (Yq (Rj 56 [] [x.F]) fun a14=>if a=true then (Yq (Rj 56 a14 x.Args) fun a15=>some a15) else some a14) else if a=true then (Yq (Rj 56 [] x.Args) fun a16=>some a16) else some [])=some l) :
  l=(if e=true then [x.E] else []) ++ (if f=true then [x.F] else []) ++ (if a=true then x.Args else [])∧l.length * 56≤140737488355328:=by
 have k:∀ {m n:List ZH} {r:List ZH},(Yq (Rj 56 m n) fun c=>some c)=some r→r=m ++ n∧r.length * 56≤140737488355328:=by
  intro m n r h
  obtain ⟨c,h1,h2⟩:=Un h
  cases h2; exact PV h1
 cases e <;> cases f <;> cases a <;> simp only [Bool.false_eq_true,if_false,if_true] at q ⊢
 ·cases q; simp
 ·obtain ⟨h1,h2⟩:=k q; exact ⟨by simpa using h1,h2⟩
 ·obtain ⟨c,h1,h2⟩:=Un q; cases h2; obtain ⟨h3,h4⟩:=PV h1; exact ⟨by simpa using h3,h4⟩
 ·obtain ⟨c,h1,h2⟩:=Un q; obtain ⟨h3,h4⟩:=PV h1; obtain ⟨h5,h6⟩:=k h2; exact ⟨by simp [h5,h3],h6⟩
 ·obtain ⟨c,h1,h2⟩:=Un q; cases h2; obtain ⟨h3,h4⟩:=PV h1; exact ⟨by simpa using h3,h4⟩
 ·obtain ⟨c,h1,h2⟩:=Un q; obtain ⟨h3,h4⟩:=PV h1; obtain ⟨h5,h6⟩:=k h2; exact ⟨by simp [h5,h3],h6⟩
 ·obtain ⟨c,h1,h2⟩:=Un q; obtain ⟨h3,h4⟩:=PV h1; obtain ⟨c',h5,h6⟩:=Un h2; cases h6; obtain ⟨h7,h8⟩:=PV h5; exact ⟨by simp [h7,h3],h8⟩
 ·obtain ⟨c,h1,h2⟩:=Un q; obtain ⟨h3,h4⟩:=PV h1; obtain ⟨c',h5,h6⟩:=Un h2; obtain ⟨h7,h8⟩:=PV h5; obtain ⟨h9,h10⟩:=k h6; exact ⟨by simp [h9,h7,h3],h10⟩
theorem ZbV {x:Yo}{e f a:Bool}{y:ZH}(h:y ∈ (if e=true then [x.E] else []) ++ (if f=true then [x.F] else []) ++ (if a=true then x.Args else [])):y=x.E∨y=x.F∨y ∈ x.Args:=by
 cases e <;> cases f <;> cases a <;> simp at h <;> first | exact .inr (.inr h) | exact .inr (.inl h) | exact .inl h | exact .inr h | exact h | (rcases h with h | h; exact .inl h; exact .inr (.inr h)) | (rcases h with h | h; exact .inl h; exact .inr (.inl h))
theorem Zqd {x:Yo}(ok:LK x){y:ZH}(h:y=x.E∨y=x.F∨y ∈ x.Args):Y2 y:=by
 rcases h with rfl | rfl | h
 ·exact ok.E
 ·exact ok.F
 ·exact ok.Args.2 y h
theorem Zqe {x:Yo}{y:ZH}(h:y=x.E∨y=x.F∨y ∈ x.Args):SizeOf.sizeOf y < SizeOf.sizeOf x:=by
 rcases h with rfl | rfl | h
 ·exact Zkf x
 ·exact Zkg x
 ·have h1:=List.sizeOf_lt_of_mem h
  have h2:=ZlA x
  omega
def ZyH (x:Yo)(f:O9):List ZH:=(if f.e=true then [x.E] else []) ++ (if f.f=true then [x.F] else []) ++ (if f.args=true then x.Args else [])
theorem Ce {x:Yo}{l:List ZH}(q:Z5 x=some l):(l=[]∧(XC x.Op)=false)∨((XC x.Op)=true∧∃ f,Iw KW x.Op=some f∧l=ZyH x f∧l.length * 56≤140737488355328):=by
 unfold Z5 at q
 split at q
 ·rename_i h; cases q; exact .inl ⟨rfl,by simpa using h⟩
 ·rename_i h
  obtain ⟨f,h1,h2⟩:=Un q
  obtain ⟨h3,h4⟩:=Zqc h2
  exact .inr ⟨by simpa using h,f,h1,h3,h4⟩
theorem TC {x:Yo}(ok:LK x){l:List ZH}(q:Z5 x=some l):l.length * 56≤140737488355328∧∀ y ∈ l,Y2 y:=by
 rcases Ce q with ⟨rfl,_⟩ | ⟨_,f,_,h1,h2⟩
 ·simp
 ·exact ⟨h2,fun y hy=>Zqd ok (ZbV (by rw [h1] at hy; exact hy))⟩
theorem TI {x:Yo}{l:List ZH}(q:Z5 x=some l):∀ y ∈ l,SizeOf.sizeOf y < SizeOf.sizeOf x:=by
 rcases Ce q with ⟨rfl,_⟩ | ⟨_,f,_,h1,h2⟩
 ·simp
 ·exact fun y hy=>Zqe (ZbV (by rw [h1] at hy; exact hy))
def ZyI (x:Yo)(f:YO):List ZH:=(if f.E=true then [x.E] else []) ++ (if f.F=true then [x.F] else []) ++ (if f.Args=true then x.Args else [])
theorem ZpK {x:Yo}{l:List ZH}(q:YI x=some l):(l=[]∧(VC x.Op)=false)∨((VC x.Op)=true∧∃ f,Iw WO x.Op=some f∧l=ZyI x f∧l.length * 56≤140737488355328):=by
 unfold YI at q
 split at q
 ·rename_i h; cases q; exact .inl ⟨rfl,by simpa using h⟩
 ·rename_i h
  obtain ⟨f,h1,h2⟩:=Un q
  obtain ⟨h3,h4⟩:=Zqc h2
  exact .inr ⟨by simpa using h,f,h1,h3,h4⟩
theorem ZsZ {x:Yo}(ok:LK x){l:List ZH}(q:YI x=some l):l.length * 56≤140737488355328∧∀ y ∈ l,Y2 y:=by
 rcases ZpK q with ⟨rfl,_⟩ | ⟨_,f,_,h1,h2⟩
 ·simp
 ·exact ⟨h2,fun y hy=>Zqd ok (ZbV (by rw [h1] at hy; exact hy))⟩
theorem ZtQ {x:Yo}{l:List ZH}(q:YI x=some l):∀ y ∈ l,SizeOf.sizeOf y < SizeOf.sizeOf x:=by
 rcases ZpK q with ⟨rfl,_⟩ | ⟨_,f,_,h1,h2⟩
 ·simp
 ·exact fun y hy=>Zqe (ZbV (by rw [h1] at hy; exact hy))
noncomputable def Zjr (x:YP)(e:ZH):Option Bool:=YC (SizeOf.sizeOf e) x e
noncomputable def ZvJ (p:ZN)(s:Int)(c:Q3)(e:ZH):Option Bool:=KD (SizeOf.sizeOf e) p s c e
theorem Zqb {C:Cfg}(hC:LH C)(N:Nat)(x:YP)(e:ZH)(hN:4 * SizeOf.sizeOf e + 4≤N)(hp:HP)(o1:UG x)(o2:Y2 e){res}(h:Zjr x e=some res):Zb C N YT [.agg (WS x),.agg (Zt e)] hp=some (.bool res,hp,none) :=
 Bq hC (SizeOf.sizeOf e) N x e (by omega) hp o1 o2 h
theorem ZyG {C:Cfg}(hC:LH C)(N:Nat)(p:ZN)(s:Int)(c:Q3)(e:ZH)(hN:4 * SizeOf.sizeOf e + 4≤N)(hp:HP)(o1:Qn p)(o2:OH c)(o3:Y2 e){res}(h:ZvJ p s c e=some res):Zb C N Oi [.agg (ZX p),.int .i64 s,.agg (Qr c),.agg (Zt e)] hp=some (.bool res,hp,none) :=
 Zki hC (SizeOf.sizeOf e) N p s c e (by omega) hp o1 o2 o3 h
def Z0a (l:List VH):Int:=Za2 l 0
theorem ZpI {C:Cfg}(hC:OB C)(N:Nat)(l:List VH)(hN:SizeOf.sizeOf l + 1≤N)(hp:HP)(ok:l.length * 312≤140737488351232∧∀ y ∈ l,XA y):Zb C N Jd [.lst 21 (l.map XZ)] hp=some (.int .i64 (Z0a l),hp,none):=Zo5 hC N hp l hN ⟨by omega,ok.2⟩
end Go.Proofs.YtleomfgijkapfaaGreatDoor
end
section
namespace Go.Proofs.YtleomfgijkapfaaGreatDoor
open Go Go.RowKit Go.Proofs.YtleomfgijkapfaaGreatDoor.Abs
open Nat (reduceAdd reduceLeDiff)
set_option maxRecDepth 100000
set_option maxHeartbeats 0
def Qu (x0:ZN)(x1:Int)(x2:Q3)(x3:List UInt8):Option Int :=
 Yq (Iw x0.Sites x1) fun y4=>if (decide (x3=[115,108,111,116]))=true then some x2.Slots else if (decide (x3=[105,110,115,116,114]))=true then some (x2.Instrs.length:Int) else if (decide (x3=[115,105,116,101]))=true then some (x0.Sites.length:Int) else if (decide (x3=[118,97,114]))=true then some (y4.Decl.Vars.length:Int) else if (decide (x3=[114,101,115,111,117,114,99,101]))=true then some (y4.Decl.Resources.length:Int) else if (decide (x3=[115,116,111,114,101]))=true then some (y4.Decl.Stores.length:Int) else if (decide (x3=[98,101,108,116]))=true then some (y4.Decl.Belts.length:Int) else if (decide (x3=[113,117,101,117,101]))=true then some (y4.Decl.Queues.length:Int) else if (decide (x3=[115,116,114,101,97,109]))=true then some (y4.Decl.Streams.length:Int) else if (decide (x3=[116,97,108,108,121]))=true then some (y4.Decl.Tallies.length:Int) else if (decide (x3=[108,101,118,101,108]))=true then some (y4.Decl.Levels.length:Int) else some (y4.Decl.Counts.length:Int)
theorem ZpF {C:Cfg}(hC:LH C)(N:Nat)(x0:ZN)(x1:Int)(x2:Q3)(x3:List UInt8)(hN:1≤N)(hp0:HP)(okx0:Qn x0){res}(hres:Qu x0 x1 x2 x3=some res):Zb C N CY [(.agg (ZX x0)),(.int .i64 x1),(.agg (Qr x2)),(.str x3)] hp0=some ((AV.int .i64 res),hp0,none):=by
 obtain ⟨M,rfl,hh⟩:=exM hp0 (by omega:1≤N)
 refine Zlz (by rw [hC.T]; rfl) ?_
 obtain ⟨h4,hh4,g5,l6⟩:=mkH hp0 (Zw.cells (ZX x0) Zy)
 obtain ⟨h7,hh7,g8,l9⟩:=mkH h4 (Zw.cells (Qr x2) Yp)
 have g10:=keA hh7 g5
 cases q12:Iw x0.Sites x1 with
 | none =>
  simp only [Qu,IFJ,Yc,q12] at hres; cases hres
 | some y11 =>
  have y11e:YN (.slice 14) (.lst 14 (x0.Sites.map ZF)) (.int .i64 x1)=some (.ref (ZF y11)):=Tz (row := ZF) q12
  have oky11:=(okx0.Sites).2 _ (Wj q12)
  have memy11:=Wj q12
  have e13:Zx h7 13 (.ref (List.drop 0 (ZF y11)))=some (.agg (Yh y11.Decl)):=ZeZ (by simp only [List.length_drop,TF]; omega) (by first | exact Uy _ | rfl | (simp only [rSiteCode_eq]; rfl)) (by exact Ou _)
  obtain ⟨h14,hh14,g15,l16⟩:=mkH h7 (Zw.cells [(.str []),(.own 3 []),(.own 17 []),(.own 3 []),(.own 3 []),(.own 1 []),(.own 1 []),(.own 1 []),(.own 1 []),(.own 1 []),(.own 4 []),(.own 5 []),(.own 3 [])] Yz)
  have g17:=keA hh14 g10
  have g18:=keA hh14 g8
  obtain ⟨h19,hh19,g20,l21⟩:=seH g15 (Zw.cells (Yh y11.Decl) Yz)
  have g22:=keS hh19 g17 (by omega)
  have g23:=keS hh19 g18 (by omega)
  have e24:stV hp0.length 13 (.ptr h7.length 0) (.agg (Yh y11.Decl)) h14 none=some (h19,none):=by rw [← hh19]; exact Hq g15 (by first | rfl | exact VV _) (by simp) rfl (by omega) (by rw [XW]; exact Xn (by exact VV _) (by rfl))
  rcases Bool.eq_false_or_eq_true ((decide (x3=[115,108,111,116]))) with b25 | b25
  ·simp only [Qu,IFJ,q12,Ze,b25] at hres
   cases hres
   simp only [Vb,COL,Zz,Zh,Zk,ZK,reduceAdd,reduceLeDiff,Nat.reduceBEq,hh4,hh7,LG g10,y11e,e13,hh14,e24,b25,LG g23]
   try rfl
  ·rcases Bool.eq_false_or_eq_true ((decide (x3=[105,110,115,116,114]))) with b26 | b26
   ·simp only [Qu,IFJ,q12,Ze,b25,b26] at hres
    cases hres
    simp only [Vb,COL,Zz,Zh,Zk,ZK,reduceAdd,reduceLeDiff,Nat.reduceBEq,hh4,hh7,LG g10,y11e,e13,hh14,e24,b25,b26,LG g23]
    try rfl
   ·rcases Bool.eq_false_or_eq_true ((decide (x3=[115,105,116,101]))) with b27 | b27
    ·simp only [Qu,IFJ,q12,Ze,b25,b26,b27] at hres
     cases hres
     simp only [Vb,COL,Zz,Zh,Zk,ZK,reduceAdd,reduceLeDiff,Nat.reduceBEq,hh4,hh7,LG g10,y11e,e13,hh14,e24,b25,b26,b27,LG g22]
     try rfl
    ·rcases Bool.eq_false_or_eq_true ((decide (x3=[118,97,114]))) with b28 | b28
     ·simp only [Qu,IFJ,q12,Ze,b25,b26,b27,b28] at hres
      cases hres
      simp only [Vb,COL,Zz,Zh,Zk,ZK,reduceAdd,reduceLeDiff,Nat.reduceBEq,hh4,hh7,LG g10,y11e,e13,hh14,e24,b25,b26,b27,b28,LG g20]
      try rfl
     ·rcases Bool.eq_false_or_eq_true ((decide (x3=[114,101,115,111,117,114,99,101]))) with b29 | b29
      ·simp only [Qu,IFJ,q12,Ze,b25,b26,b27,b28,b29] at hres
       cases hres
       simp only [Vb,COL,Zz,Zh,Zk,ZK,reduceAdd,reduceLeDiff,Nat.reduceBEq,hh4,hh7,LG g10,y11e,e13,hh14,e24,b25,b26,b27,b28,b29,LG g20]
       try rfl
      ·rcases Bool.eq_false_or_eq_true ((decide (x3=[115,116,111,114,101]))) with b30 | b30
       ·simp only [Qu,IFJ,q12,Ze,b25,b26,b27,b28,b29,b30] at hres
        cases hres
        simp only [Vb,COL,Zz,Zh,Zk,ZK,reduceAdd,reduceLeDiff,Nat.reduceBEq,hh4,hh7,LG g10,y11e,e13,hh14,e24,b25,b26,b27,b28,b29,b30,LG g20]
        try rfl
       ·rcases Bool.eq_false_or_eq_true ((decide (x3=[98,101,108,116]))) with b31 | b31
        ·simp only [Qu,IFJ,q12,Ze,b25,b26,b27,b28,b29,b30,b31] at hres
         cases hres
         simp only [Vb,COL,Zz,Zh,Zk,ZK,reduceAdd,reduceLeDiff,Nat.reduceBEq,hh4,hh7,LG g10,y11e,e13,hh14,e24,b25,b26,b27,b28,b29,b30,b31,LG g20]
         try rfl
        ·rcases Bool.eq_false_or_eq_true ((decide (x3=[113,117,101,117,101]))) with b32 | b32
         ·simp only [Qu,IFJ,q12,Ze,b25,b26,b27,b28,b29,b30,b31,b32] at hres
          cases hres
          simp only [Vb,COL,Zz,Zh,Zk,ZK,reduceAdd,reduceLeDiff,Nat.reduceBEq,hh4,hh7,LG g10,y11e,e13,hh14,e24,b25,b26,b27,b28,b29,b30,b31,b32,LG g20]
          try rfl
         ·rcases Bool.eq_false_or_eq_true ((decide (x3=[115,116,114,101,97,109]))) with b33 | b33
          ·simp only [Qu,IFJ,q12,Ze,b25,b26,b27,b28,b29,b30,b31,b32,b33] at hres
           cases hres
           simp only [Vb,COL,Zz,Zh,Zk,ZK,reduceAdd,reduceLeDiff,Nat.reduceBEq,hh4,hh7,LG g10,y11e,e13,hh14,e24,b25,b26,b27,b28,b29,b30,b31,b32,b33,LG g20]
           try rfl
          ·rcases Bool.eq_false_or_eq_true ((decide (x3=[116,97,108,108,121]))) with b34 | b34
           ·simp only [Qu,IFJ,q12,Ze,b25,b26,b27,b28,b29,b30,b31,b32,b33,b34] at hres
            cases hres
            simp only [Vb,COL,Zz,Zh,Zk,ZK,reduceAdd,reduceLeDiff,Nat.reduceBEq,hh4,hh7,LG g10,y11e,e13,hh14,e24,b25,b26,b27,b28,b29,b30,b31,b32,b33,b34,LG g20]
            try rfl
           ·rcases Bool.eq_false_or_eq_true ((decide (x3=[108,101,118,101,108]))) with b35 | b35
            ·simp only [Qu,IFJ,q12,Ze,b25,b26,b27,b28,b29,b30,b31,b32,b33,b34,b35] at hres
             cases hres
             simp only [Vb,COL,Zz,Zh,Zk,ZK,reduceAdd,reduceLeDiff,Nat.reduceBEq,hh4,hh7,LG g10,y11e,e13,hh14,e24,b25,b26,b27,b28,b29,b30,b31,b32,b33,b34,b35,LG g20]
             try rfl
            ·simp only [Qu,IFJ,q12,Ze,b25,b26,b27,b28,b29,b30,b31,b32,b33,b34,b35] at hres
             cases hres
             simp only [Vb,COL,Zz,Zh,Zk,ZK,reduceAdd,reduceLeDiff,Nat.reduceBEq,hh4,hh7,LG g10,y11e,e13,hh14,e24,b25,b26,b27,b28,b29,b30,b31,b32,b33,b34,b35,LG g20]
             try rfl
def Qv (x0:ZN)(x1:Int)(x2:Q3)(x3:List UInt8)(x4:Int):Option Bool :=
 if (decide (x3=[]))=true then some true else if (decide (0≤x4))=true then (Yq ((Qu x0 x1 x2 x3)) fun v5=>some (decide (x4 < v5))) else some false
theorem ZdU {C:Cfg}(hC:LH C)(N:Nat)(x0:ZN)(x1:Int)(x2:Q3)(x3:List UInt8)(x4:Int)(hN:2≤N)(hp0:HP)(okx0:Qn x0){res}(hres:Qv x0 x1 x2 x3 x4=some res):Zb C N Dc [(.agg (ZX x0)),(.int .i64 x1),(.agg (Qr x2)),(.str x3),(.int .i64 x4)] hp0=some ((AV.bool res),hp0,none):=by
 obtain ⟨M,rfl,hh⟩:=exM hp0 (by omega:1≤N)
 refine Zjq (by rw [hC.T]; rfl) ?_
 obtain ⟨h5,hh5,g6,l7⟩:=mkH hp0 (Zw.cells (ZX x0) Zy)
 obtain ⟨h8,hh8,g9,l10⟩:=mkH h5 (Zw.cells (Qr x2) Yp)
 have g11:=keA hh8 g6
 rcases Bool.eq_false_or_eq_true ((decide (x3=[]))) with b12 | b12
 ·simp only [Qv,IFJ,b12] at hres
  cases hres
  simp only [Dn,COL,Zz,Zh,reduceAdd,reduceLeDiff,Nat.reduceBEq,hh5,hh8,b12]
  try rfl
 ·rcases Bool.eq_false_or_eq_true ((decide (0≤x4))) with b13 | b13
  ·cases q16:(Qu x0 x1 x2 x3) with
   | none =>
    simp only [Qv,IFJ,Yc,b12,b13,q16] at hres; cases hres
   | some v15 =>
    have c14:=fun hp:HP=>ZpF hC M x0 x1 x2 x3 (by omega) hp okx0 q16
    simp only [Qv,IFJ,b12,b13,q16,Ze] at hres
    cases hres
    simp only [Dn,COL,Zz,Zh,reduceAdd,reduceLeDiff,Nat.reduceBEq,hh5,hh8,b12,b13,LG g11,LG g9,c14]
    try rfl
  ·simp only [Qv,IFJ,b12,b13] at hres
   cases hres
   simp only [Dn,COL,Zz,Zh,reduceAdd,reduceLeDiff,Nat.reduceBEq,hh5,hh8,b12,b13]
   try rfl
def Ve (x0:ZN)(x1:Int)(x2:Yo):Option Int :=
 Yq (Iw x0.Sites x1) fun y3=>if ((decide (x2.B < 0)) || (decide ((y3.Routines.length:Int)≤x2.B)))=true then some 2 else Yq (Iw y3.Routines x2.B) fun y4=>if (decide ((x2.Args.length:Int)≠y4.Params))=true then some 8 else some 0
theorem ZhN {C:Cfg}(hC:LH C)(N:Nat)(x0:ZN)(x1:Int)(x2:Yo)(hN:1≤N)(hp0:HP)(okx0:Qn x0){res}(hres:Ve x0 x1 x2=some res):Zb C N PO [(.agg (ZX x0)),(.int .i64 x1),(.agg (ZL x2))] hp0=some ((AV.int .i64 res),hp0,none):=by
 obtain ⟨M,rfl,hh⟩:=exM hp0 (by omega:1≤N)
 refine Zly (by rw [hC.T]; rfl) ?_
 obtain ⟨h3,hh3,g4,l5⟩:=mkH hp0 (Zw.cells (ZX x0) Zy)
 obtain ⟨h6,hh6,g7,l8⟩:=mkH h3 (Zw.cells (ZL x2) Yb)
 have g9:=keA hh6 g4
 cases q11:Iw x0.Sites x1 with
 | none =>
  simp only [Ve,IFJ,Yc,q11] at hres; cases hres
 | some y10 =>
  have y10e:YN (.slice 14) (.lst 14 (x0.Sites.map ZF)) (.int .i64 x1)=some (.ref (ZF y10)):=Tz (row := ZF) q11
  have oky10:=(okx0.Sites).2 _ (Wj q11)
  have memy10:=Wj q11
  rcases Bool.eq_false_or_eq_true (((decide (x2.B < 0)) || (decide ((y10.Routines.length:Int)≤x2.B)))) with b12 | b12
  ·simp only [Ve,IFJ,q11,Ze,b12] at hres
   cases hres
   simp only [Ny,COL,Zz,Zu,Zh,Zk,reduceAdd,reduceLeDiff,Nat.reduceBEq,hh3,hh6,LG g9,y10e,LG g7,b12]
   try rfl
  ·cases q14:Iw y10.Routines x2.B with
   | none =>
    simp only [Ve,IFJ,Yc,q11,Ze,b12,q14] at hres; cases hres
   | some y13 =>
    have y13e:YN (.slice 4) (.lst 4 (y10.Routines.map Qr)) (.int .i64 x2.B)=some (.ref (Qr y13)):=Tz (row := Qr) q14
    have oky13:=(oky10.Routines).2 _ (Wj q14)
    have memy13:=Wj q14
    rcases Bool.eq_false_or_eq_true ((decide ((x2.Args.length:Int)≠y13.Params))) with b15 | b15
    ·simp only [Ve,IFJ,q11,Ze,b12,q14,b15] at hres
     cases hres
     simp only [Ny,COL,Zz,Zu,Zh,Zk,reduceAdd,reduceLeDiff,Nat.reduceBEq,hh3,hh6,LG g9,y10e,LG g7,b12,y13e,b15]
     try rfl
    ·simp only [Ve,IFJ,q11,Ze,b12,q14,b15] at hres
     cases hres
     simp only [Ny,COL,Zz,Zu,Zh,Zk,reduceAdd,reduceLeDiff,Nat.reduceBEq,hh3,hh6,LG g9,y10e,LG g7,b12,y13e,b15]
     try rfl
def WP (x0:ZN)(x1:Int)(x2:Q3)(x3:Yo):Option Int :=
 Yq (Iw WO x3.Op) fun y4=>Yq ((Qv x0 x1 x2 y4.A x3.A)) fun v5=>if (!v5)=true then some 2 else if (decide (x3.Op=15))=true then (Yq ((Ve x0 x1 x3)) fun v6=>some v6) else if (decide (x3.Op=14))=true then (if ((!((KA x0 x1 x3.A).2)) || (decide (((KA x0 x1 x3.A).1)≠x3.C)))=true then some 16 else Yq ((Ve x0 x3.A x3)) fun v7=>some v7) else Yq ((Qv x0 x1 x2 y4.B x3.B)) fun v8=>if (!v8)=true then some 2 else some 0
theorem ZlD {C:Cfg}(hC:LH C)(N:Nat)(x0:ZN)(x1:Int)(x2:Q3)(x3:Yo)(hN:3≤N)(hp0:HP)(okx0:Qn x0){res}(hres:WP x0 x1 x2 x3=some res):Zb C N PQ [(.agg (ZX x0)),(.int .i64 x1),(.agg (Qr x2)),(.agg (ZL x3))] hp0=some ((AV.int .i64 res),hp0,none):=by
 obtain ⟨M,rfl,hh⟩:=exM hp0 (by omega:1≤N)
 refine Zh5 (by rw [hC.T]; rfl) ?_
 obtain ⟨h4,hh4,g5,l6⟩:=mkH hp0 (Zw.cells (ZX x0) Zy)
 obtain ⟨h7,hh7,g8,l9⟩:=mkH h4 (Zw.cells (Qr x2) Yp)
 have g10:=keA hh7 g5
 obtain ⟨h11,hh11,g12,l13⟩:=mkH h7 (Zw.cells (ZL x3) Yb)
 have g14:=keA hh11 g10
 have g15:=keA hh11 g8
 have c16:=fun hp:HP=>Zbd hC M (by omega) hp
 have e17:We (Zb C M) UF [] h11=some ((AV.own 9 (WO.map Gq)),h11,none):=Zku (c16 []) rfl
 cases q19:Iw WO x3.Op with
 | none =>
  simp only [WP,IFJ,Yc,q19] at hres; cases hres
 | some y18 =>
  have y18e:YN (.slice 9) (.lst 9 (WO.map Gq)) (.int .i64 x3.Op)=some (.ref (Gq y18)):=Tz (row := Gq) q19
  have memy18:=Wj q19
  obtain ⟨h20,hh20,g21,l22⟩:=mkH h11 (Zw.cells [(.str []),(.str []),(.str []),(.bool false),(.bool false),(.bool false),(.bool false),(.bool false),(.bool false)] YA)
  have g23:=keA hh20 g14
  have g24:=keA hh20 g15
  have g25:=keA hh20 g12
  obtain ⟨h26,hh26,g27,l28⟩:=seH g21 (Zw.cells (Gq y18) YA)
  have g29:=keS hh26 g23 (by omega)
  have g30:=keS hh26 g24 (by omega)
  have g31:=keS hh26 g25 (by omega)
  have e32:stV hp0.length 9 (.ptr h11.length 0) (.agg (Gq y18)) h20 none=some (h26,none):=by rw [← hh26]; exact Hq g21 (by first | rfl | exact L8 _) (by simp) rfl (by omega) (by rw [XW]; exact Xn (by exact L8 _) (by rfl))
  cases q35:(Qv x0 x1 x2 y18.A x3.A) with
  | none =>
   simp only [WP,IFJ,Yc,q19,Ze,q35] at hres; cases hres
  | some v34 =>
   have c33:=fun hp:HP=>ZdU hC M x0 x1 x2 y18.A x3.A (by omega) hp okx0 q35
   rcases Bool.eq_false_or_eq_true ((!v34)) with b36 | b36
   ·simp only [WP,IFJ,q19,Ze,q35,b36] at hres
    cases hres
    simp only [UL,COL,Zz,VS,Zu,Zh,reduceAdd,reduceLeDiff,Nat.reduceBEq,hh4,hh7,hh11,e17,LG g12,y18e,hh20,e32,LG g29,LG g30,LG g27,LG g31,c33,b36]
    try rfl
   ·rcases Bool.eq_false_or_eq_true ((decide (x3.Op=15))) with b37 | b37
    ·cases q40:(Ve x0 x1 x3) with
     | none =>
      simp only [WP,IFJ,Yc,q19,Ze,q35,Ze,b36,b37,q40] at hres; cases hres
     | some v39 =>
      have c38:=fun hp:HP=>ZhN hC M x0 x1 x3 (by omega) hp okx0 q40
      simp only [WP,IFJ,q19,Ze,q35,b36,b37,q40] at hres
      cases hres
      simp only [UL,COL,Zz,VS,Zu,Zh,reduceAdd,reduceLeDiff,Nat.reduceBEq,hh4,hh7,hh11,e17,LG g12,y18e,hh20,e32,LG g29,LG g30,LG g27,LG g31,c33,b36,b37,c38]
      try rfl
    ·rcases Bool.eq_false_or_eq_true ((decide (x3.Op=14))) with b41 | b41
     ·have c42:=fun hp:HP=>ZtU hC M x0 x1 x3.A (by omega) hp okx0
      rcases Bool.eq_false_or_eq_true (((!((KA x0 x1 x3.A).2)) || (decide (((KA x0 x1 x3.A).1)≠x3.C)))) with b43 | b43
      ·simp only [WP,IFJ,q19,Ze,q35,b36,b37,b41,b43] at hres
       cases hres
       simp only [UL,COL,Zz,VS,Zu,Zh,reduceAdd,reduceLeDiff,Nat.reduceBEq,hh4,hh7,hh11,e17,LG g12,y18e,hh20,e32,LG g29,LG g30,LG g27,LG g31,c33,b36,b37,b41,c42,b43]
       try rfl
      ·cases q46:(Ve x0 x3.A x3) with
       | none =>
        simp only [WP,IFJ,Yc,q19,Ze,q35,Ze,b36,b37,b41,b43,q46] at hres; cases hres
       | some v45 =>
        have c44:=fun hp:HP=>ZhN hC M x0 x3.A x3 (by omega) hp okx0 q46
        simp only [WP,IFJ,q19,Ze,q35,b36,b37,b41,b43,q46] at hres
        cases hres
        simp only [UL,COL,Zz,VS,Zu,Zh,reduceAdd,reduceLeDiff,Nat.reduceBEq,hh4,hh7,hh11,e17,LG g12,y18e,hh20,e32,LG g29,LG g30,LG g27,LG g31,c33,b36,b37,b41,c42,b43,c44]
        try rfl
     ·cases q49:(Qv x0 x1 x2 y18.B x3.B) with
      | none =>
       simp only [WP,IFJ,Yc,q19,Ze,q35,Ze,b36,b37,b41,q49] at hres; cases hres
      | some v48 =>
       have c47:=fun hp:HP=>ZdU hC M x0 x1 x2 y18.B x3.B (by omega) hp okx0 q49
       rcases Bool.eq_false_or_eq_true ((!v48)) with b50 | b50
       ·simp only [WP,IFJ,q19,Ze,q35,b36,b37,b41,q49,b50] at hres
        cases hres
        simp only [UL,COL,Zz,VS,Zu,Zh,reduceAdd,reduceLeDiff,Nat.reduceBEq,hh4,hh7,hh11,e17,LG g12,y18e,hh20,e32,LG g29,LG g30,LG g27,LG g31,c33,b36,b37,b41,c47,b50]
        try rfl
       ·simp only [WP,IFJ,q19,Ze,q35,b36,b37,b41,q49,b50] at hres
        cases hres
        simp only [UL,COL,Zz,VS,Zu,Zh,reduceAdd,reduceLeDiff,Nat.reduceBEq,hh4,hh7,hh11,e17,LG g12,y18e,hh20,e32,LG g29,LG g30,LG g27,LG g31,c33,b36,b37,b41,c47,b50]
        try rfl
noncomputable def WH (x0:ZN)(x1:Int)(x2:Q3)(k0T:Option Int):List ZH→List ZH→Option Int
 | [],q3=>k0T
 | x3 :: r3,q3=>if (decide ((Jj true x3)=0))=true then (Yq ((ZvJ x0 x1 x2 x3)) fun v4=>if (!v4)=true then some 2 else if (decide ((Jj true x3)≠0))=true then some (Jj true x3) else (WH x0 x1 x2 k0T r3) (q3 ++ [x3])) else if (decide ((Jj true x3)≠0))=true then some (Jj true x3) else (WH x0 x1 x2 k0T r3) (q3 ++ [x3])
theorem DY {C:Cfg}(hC:LH C)(M:Nat)(x0:ZN)(x1:Int)(x2:Q3)(x3:Yo)(v6:List ZH)(hM:4 * SizeOf.sizeOf x3 + 6≤M)(hp0:HP)(okx0:Qn x0)(okx2:OH x2)(okv6:OkM 56 Y2 v6)(szv6:∀ y ∈ v6,SizeOf.sizeOf y < SizeOf.sizeOf x3)(g_1754_0:Nat)(g_1754_1:Nat)(g_1754_2:Nat)(hb:v6.length≤4611686018427387)(k0:AV→HP→Eff→KR)(k0T:Option Int)(hk0:∀ (hp:HP),hp0.length≤hp.length→hp[g_1754_0]? = some (.cells (ZX x0) Zy)→hp[g_1754_1]? = some (.cells (Qr x2) Yp)→hp[g_1754_2]? = some (.cells (ZL x3) Yb)→∀ res,k0T=some res→k0 (.ptr g_1754_2 0) hp none=some ((AV.int .i64 res),hp0,none)):∀ (r7 q7:List ZH) (m:Nat) (hp:HP),v6=q7 ++ r7→r7.length < m→hp0.length≤hp.length→hp[g_1754_0]? = some (.cells (ZX x0) Zy)→hp[g_1754_1]? = some (.cells (Qr x2) Yp)→hp[g_1754_2]? = some (.cells (ZL x3) Yb)→∀ res,WH x0 x1 x2 k0T r7 q7=some res→Qy C.G (Zb C M) C.L hp0 k0 m (.int .i64 x1) (.ptr g_1754_0 0) (.ptr g_1754_1 0) (.ptr g_1754_2 0) (.lst 4 (v6.map Zt)) (.int .i64 (q7.length:Int)) hp none=some ((AV.int .i64 res),hp0,none)
 | _,_,0,_,_,h,_,_,_,_,_,_=>by omega
 | [],q7,m + 1,hp,h,hr,hh,f1754_0,f1754_1,f1754_2,res,hres=>by
  have l0:=lp0 h
  have lt_f1754_0:=(List.getElem?_eq_some_iff.1 f1754_0).1
  have lt_f1754_1:=(List.getElem?_eq_some_iff.1 f1754_1).1
  have lt_f1754_2:=(List.getElem?_eq_some_iff.1 f1754_2).1
  simp only [WH,IFJ] at hres
  have hx:=hk0  hp (by omega) f1754_0 f1754_1 f1754_2 res hres
  simp only [Qy,COL,Zz,Y6,ZE,Zu,Zh,reduceAdd,reduceLeDiff,Nat.reduceBEq,l0,hx]
  try rfl
 | x7 :: r7,q7,m + 1,hp,h,hr,hh,f1754_0,f1754_1,f1754_2,res,hres=>by
  obtain ⟨a1,-,a3,a4,a5⟩:=lp (Zt) h hb
  have me7:=a5
  have a2:(v6.map Zt)[q7.length]? = some (Zt x7):=(lp (Zt) h hb).2.1
  have okx7:=(okv6).2 _ a5
  have lt_f1754_0:=(List.getElem?_eq_some_iff.1 f1754_0).1
  have lt_f1754_1:=(List.getElem?_eq_some_iff.1 f1754_1).1
  have lt_f1754_2:=(List.getElem?_eq_some_iff.1 f1754_2).1
  have ix7:YN (.slice 4) (.lst 4 (v6.map Zt)) (.int .i64 (q7.length:Int))=some (.ref (Zt x7)):=by rw [Jn,a2]; rfl
  have c8:=fun hp:HP=>ZgT hC.toOB M hp x7 (by have:=szv6 _ me7; omega) okx7
  rcases Bool.eq_false_or_eq_true ((decide ((Jj true x7)=0))) with b9 | b9
  ·cases q12:(ZvJ x0 x1 x2 x7) with
   | none =>
    simp only [WH,IFJ,Yc,b9,q12] at hres; cases hres
   | some v11 =>
    have c10:=fun hp:HP=>ZyG hC M x0 x1 x2 x7 (by have:=szv6 _ me7; omega) hp okx0 okx2 okx7 q12
    rcases Bool.eq_false_or_eq_true ((!v11)) with b13 | b13
    ·have e14:decide (2≠0)=true:=by decide
     simp only [WH,IFJ,b9,q12,Ze,b13] at hres
     cases hres
     simp only [Qy,COL,Zz,Y6,ZE,Zu,Zh,reduceAdd,reduceLeDiff,Nat.reduceBEq,a1,a3,ix7,c8,b9,LG f1754_0,LG f1754_1,c10,b13,e14]
     try rfl
    ·rcases Bool.eq_false_or_eq_true ((decide ((Jj true x7)≠0))) with b15 | b15
     ·simp only [WH,IFJ,b9,q12,Ze,b13,b15] at hres
      cases hres
      simp only [Qy,COL,Zz,Y6,ZE,Zu,Zh,reduceAdd,reduceLeDiff,Nat.reduceBEq,a1,a3,ix7,c8,b9,LG f1754_0,LG f1754_1,c10,b13,b15]
      try rfl
     ·simp only [WH,IFJ,b9,q12,Ze,b13,b15] at hres
      have hx:=DY hC M x0 x1 x2 x3 v6 hM hp0 okx0 okx2 okv6 szv6 g_1754_0 g_1754_1 g_1754_2 hb k0 k0T hk0 r7 (q7 ++ [x7]) m hp a4 (by simpa using hr) (by omega) f1754_0 f1754_1 f1754_2 res hres
      simp only [Qy,COL,Zz,Y6,ZE,Zu,Zh,reduceAdd,reduceLeDiff,Nat.reduceBEq,a1,a3,ix7,c8,b9,LG f1754_0,LG f1754_1,c10,b13,b15,hx]
      try rfl
  ·rcases Bool.eq_false_or_eq_true ((decide ((Jj true x7)≠0))) with b16 | b16
   ·simp only [WH,IFJ,b9,b16] at hres
    cases hres
    simp only [Qy,COL,Zz,Y6,ZE,Zu,Zh,reduceAdd,reduceLeDiff,Nat.reduceBEq,a1,a3,ix7,c8,b9,b16]
    try rfl
   ·simp only [WH,IFJ,b9,b16] at hres
    have hx:=DY hC M x0 x1 x2 x3 v6 hM hp0 okx0 okx2 okv6 szv6 g_1754_0 g_1754_1 g_1754_2 hb k0 k0T hk0 r7 (q7 ++ [x7]) m hp a4 (by simpa using hr) (by omega) f1754_0 f1754_1 f1754_2 res hres
    simp only [Qy,COL,Zz,Y6,ZE,Zu,Zh,reduceAdd,reduceLeDiff,Nat.reduceBEq,a1,a3,ix7,c8,b9,b16,hx]
    try rfl
def Ue (x3:Yo):Option Int :=
 if (decide (x3.Op=3))=true then some (Zsr x3.Dist) else some 0
noncomputable def VB (x0:ZN)(x1:Int)(x2:Q3)(x3:Yo):Option Int :=
 if (!(VC x3.Op))=true then some 1 else Yq ((X8 x3)) fun v4=>if (!v4)=true then some 1 else Yq ((WP x0 x1 x2 x3)) fun v5=>if (decide (v5≠0))=true then some v5 else Yq ((YI x3)) fun v6=>WH x0 x1 x2 (Ue x3) v6 []
theorem ZpG {C:Cfg}(hC:LH C)(N:Nat)(x0:ZN)(x1:Int)(x2:Q3)(x3:Yo)(hN:4 * SizeOf.sizeOf x3 + 7≤N)(hp0:HP)(okx0:Qn x0)(okx2:OH x2)(okx3:LK x3){res}(hres:VB x0 x1 x2 x3=some res):Zb C N CZ [(.agg (ZX x0)),(.int .i64 x1),(.agg (Qr x2)),(.agg (ZL x3))] hp0=some ((AV.int .i64 res),hp0,none):=by
 obtain ⟨M,rfl,hh⟩:=exM hp0 (by omega:1≤N)
 refine Zl0 (by rw [hC.T]; rfl) ?_
 obtain ⟨h4,hh4,g5,l6⟩:=mkH hp0 (Zw.cells (ZX x0) Zy)
 obtain ⟨h7,hh7,g8,l9⟩:=mkH h4 (Zw.cells (Qr x2) Yp)
 have g10:=keA hh7 g5
 obtain ⟨h11,hh11,g12,l13⟩:=mkH h7 (Zw.cells (ZL x3) Yb)
 have g14:=keA hh11 g10
 have g15:=keA hh11 g8
 have c16:=fun hp:HP=>ZhO hC M x3.Op (by omega) hp
 rcases Bool.eq_false_or_eq_true ((!(VC x3.Op))) with b17 | b17
 ·simp only [VB,IFJ,b17] at hres
  cases hres
  simp only [He,QW,COL,Zz,Y6,ZE,Zu,Zh,reduceAdd,reduceLeDiff,Nat.reduceBEq,hh4,hh7,hh11,LG g12,c16,b17]
  try rfl
 ·cases q20:(X8 x3) with
  | none =>
   simp only [VB,IFJ,Yc,b17,q20] at hres; cases hres
  | some v19 =>
   have c18:=fun hp:HP=>ZpH hC M x3 (by omega) hp okx3 q20
   rcases Bool.eq_false_or_eq_true ((!v19)) with b21 | b21
   ·simp only [VB,IFJ,b17,q20,Ze,b21] at hres
    cases hres
    simp only [He,QW,COL,Zz,Y6,ZE,Zu,Zh,reduceAdd,reduceLeDiff,Nat.reduceBEq,hh4,hh7,hh11,LG g12,c16,b17,c18,b21]
    try rfl
   ·cases q24:(WP x0 x1 x2 x3) with
    | none =>
     simp only [VB,IFJ,Yc,b17,q20,Ze,b21,q24] at hres; cases hres
    | some v23 =>
     have c22:=fun hp:HP=>ZlD hC M x0 x1 x2 x3 (by omega) hp okx0 q24
     rcases Bool.eq_false_or_eq_true ((decide (v23≠0))) with b25 | b25
     ·simp only [VB,IFJ,b17,q20,Ze,b21,q24,b25] at hres
      cases hres
      simp only [He,QW,COL,Zz,Y6,ZE,Zu,Zh,reduceAdd,reduceLeDiff,Nat.reduceBEq,hh4,hh7,hh11,LG g12,c16,b17,c18,b21,LG g14,LG g15,c22,b25]
      try rfl
     ·cases q28:(YI x3) with
      | none =>
       simp only [VB,IFJ,Yc,b17,q20,Ze,b21,q24,Ze,b25,q28] at hres; cases hres
      | some v27 =>
       have c26:=fun hp:HP=>ZpE hC M x3 (by omega) hp q28
       have okv27:=ZsZ okx3 q28
       have szv27:=ZtQ q28
       simp only [VB,IFJ,b17,q20,Ze,b21,q24,b25,q28] at hres
       have hk29:∀ (hp29:HP),hp0.length≤hp29.length→hp29[hp0.length]? = some (.cells (ZX x0) Zy)→hp29[h4.length]? = some (.cells (Qr x2) Yp)→hp29[h7.length]? = some (.cells (ZL x3) Yb)→∀ res,Ue x3=some res→(QW C.G (Zb C M) C.L hp0) (.ptr h7.length 0) hp29 none=some ((AV.int .i64 res),hp0,none):=by
        intro hp29 hh29 fz1766_0 fz1766_1 fz1766_2 res hres
        have lt_fz1766_0:=(List.getElem?_eq_some_iff.1 fz1766_0).1
        have lt_fz1766_1:=(List.getElem?_eq_some_iff.1 fz1766_1).1
        have lt_fz1766_2:=(List.getElem?_eq_some_iff.1 fz1766_2).1
        rcases Bool.eq_false_or_eq_true ((decide (x3.Op=3))) with b30 | b30
        ·have e31:Zx hp29 6 (.ptr h7.length 13)=some (.agg (Jv x3.Dist)):=Js fz1766_2 (by rw [Qi]; omega) (by first | exact VZ _ | rfl | (simp only [rInstr_eq]; rfl)) (by exact MQ _)
         have c32:=fun hp:HP=>Zoz hC.toOB M (by omega) hp x3.Dist okx3.Dist
         simp only [Ue,IFJ,b30] at hres
         cases hres
         simp only [He,QW,COL,Zz,Y6,ZE,Zu,Zh,reduceAdd,reduceLeDiff,Nat.reduceBEq,hh4,hh7,hh11,LG g12,c16,b17,c18,b21,LG g14,LG g15,c22,b25,c26,LG fz1766_2,b30,e31,c32]
         try rfl
        ·simp only [Ue,IFJ,b30] at hres
         cases hres
         simp only [He,QW,COL,Zz,Y6,ZE,Zu,Zh,reduceAdd,reduceLeDiff,Nat.reduceBEq,hh4,hh7,hh11,LG g12,c16,b17,c18,b21,LG g14,LG g15,c22,b25,c26,LG fz1766_2,b30]
         try rfl
       have hb':v27.length≤4611686018427387:=(by have:=(okv27).1; omega)
       have hx:=DY hC M x0 x1 x2 x3 v27 (by omega) hp0 okx0 okx2 okv27 szv27 hp0.length h4.length h7.length hb' (QW C.G (Zb C M) C.L hp0) (Ue x3) hk29 v27 [] C.L h11 rfl (by have:=hC.L; omega) (by omega) g14 g15 g12 res hres
       try simp only [NIL] at hx
       simp only [He,QW,COL,Zz,Y6,ZE,Zu,Zh,reduceAdd,reduceLeDiff,Nat.reduceBEq,hh4,hh7,hh11,LG g12,c16,b17,c18,b21,LG g14,LG g15,c22,b25,c26,hx]
       try rfl
noncomputable def Y5 (x0:YP)(k4T:Option Int):List ZH→List ZH→Option Int
 | [],q1=>k4T
 | x1 :: r1,q1=>if (decide ((Jj true x1)≠0))=true then some (Jj true x1) else Yq ((Zjr x0 x1)) fun v2=>if (!v2)=true then some 2 else (Y5 x0 k4T r1) (q1 ++ [x1])
theorem TJ {C:Cfg}(hC:LH C)(M:Nat)(x0:YP)(x1:Yo)(y6:O9)(v7:List ZH)(hM:4 * SizeOf.sizeOf x1 + 6≤M)(hp0:HP)(okx0:UG x0)(okv7:OkM 56 Y2 v7)(szv7:∀ y ∈ v7,SizeOf.sizeOf y < SizeOf.sizeOf x1)(g_2560_0:Nat)(g_2560_1:Nat)(g_2560_2:Nat)(hb:v7.length≤4611686018427387)(k4:AV→AV→HP→Eff→KR)(k4T:Option Int)(hk4:∀ (hp:HP),hp0.length≤hp.length→hp[g_2560_0]? = some (.cells (WS x0) Yr)→hp[g_2560_1]? = some (.cells (ZL x1) Yb)→hp[g_2560_2]? = some (.cells (Jp y6) YQ)→∀ res,k4T=some res→k4 (.ptr g_2560_1 0) (.ptr g_2560_2 0) hp none=some ((AV.int .i64 res),hp0,none)):∀ (r8 q8:List ZH) (m:Nat) (hp:HP),v7=q8 ++ r8→r8.length < m→hp0.length≤hp.length→hp[g_2560_0]? = some (.cells (WS x0) Yr)→hp[g_2560_1]? = some (.cells (ZL x1) Yb)→hp[g_2560_2]? = some (.cells (Jp y6) YQ)→∀ res,Y5 x0 k4T r8 q8=some res→Z4 C.G (Zb C M) C.L hp0 k4 m (.ptr g_2560_0 0) (.ptr g_2560_1 0) (.ptr g_2560_2 0) (.lst 4 (v7.map Zt)) (.int .i64 (v7.length:Int)) (.int .i64 (q8.length:Int)) hp none=some ((AV.int .i64 res),hp0,none)
 | _,_,0,_,_,h,_,_,_,_,_,_=>by omega
 | [],q8,m + 1,hp,h,hr,hh,f2560_0,f2560_1,f2560_2,res,hres=>by
  have l0:=lp0 h
  have lt_f2560_0:=(List.getElem?_eq_some_iff.1 f2560_0).1
  have lt_f2560_1:=(List.getElem?_eq_some_iff.1 f2560_1).1
  have lt_f2560_2:=(List.getElem?_eq_some_iff.1 f2560_2).1
  simp only [Y5,IFJ] at hres
  have hx:=hk4  hp (by omega) f2560_0 f2560_1 f2560_2 res hres
  simp only [Zj,Zi,Z4,COL,Zz,Y6,ZE,Zu,Zh,Zk,YU,ZG,reduceAdd,reduceLeDiff,Nat.reduceBEq,l0,hx]
  try rfl
 | x8 :: r8,q8,m + 1,hp,h,hr,hh,f2560_0,f2560_1,f2560_2,res,hres=>by
  obtain ⟨a1,-,a3,a4,a5⟩:=lp (Zt) h hb
  have me8:=a5
  have a2:(v7.map Zt)[q8.length]? = some (Zt x8):=(lp (Zt) h hb).2.1
  have okx8:=(okv7).2 _ a5
  have lt_f2560_0:=(List.getElem?_eq_some_iff.1 f2560_0).1
  have lt_f2560_1:=(List.getElem?_eq_some_iff.1 f2560_1).1
  have lt_f2560_2:=(List.getElem?_eq_some_iff.1 f2560_2).1
  have ix8:YN (.slice 4) (.lst 4 (v7.map Zt)) (.int .i64 (q8.length:Int))=some (.ref (Zt x8)):=by rw [Jn,a2]; rfl
  obtain ⟨h9,hh9,g10,l11⟩:=mkH hp (Zw.cells [(.int .i64 0),(.str []),(.int .i64 0),(.own 4 [])] Zv)
  have g12:=keA hh9 f2560_0
  have g13:=keA hh9 f2560_1
  have g14:=keA hh9 f2560_2
  obtain ⟨h15,hh15,g16,l17⟩:=seH g10 (Zw.cells (Zt x8) Zv)
  have g18:=keS hh15 g12 (by omega)
  have g19:=keS hh15 g13 (by omega)
  have g20:=keS hh15 g14 (by omega)
  have e21:stV hp0.length 4 (.ptr hp.length 0) (.agg (Zt x8)) h9 none=some (h15,none):=by rw [← hh15]; exact Hq g10 (by first | rfl | exact X5 _) (by simp) rfl (by omega) (by rw [XW]; exact Xn (by exact X5 _) (by rfl))
  have c22:=fun hp:HP=>IQ hC.toOB M hp x8 (by have:=szv7 _ me8; omega) okx8
  rcases Bool.eq_false_or_eq_true ((decide ((Jj true x8)≠0))) with b23 | b23
  ·simp only [Y5,IFJ,b23] at hres
   cases hres
   simp only [Zj,Zi,Z4,COL,Zz,Y6,ZE,Zu,Zh,Zk,YU,ZG,reduceAdd,reduceLeDiff,Nat.reduceBEq,a1,a3,ix8,hh9,e21,LG g16,c22,b23]
   try rfl
  ·cases q26:(Zjr x0 x8) with
   | none =>
    simp only [Y5,IFJ,Yc,b23,q26] at hres; cases hres
   | some v25 =>
    have c24:=fun hp:HP=>Zqb hC M x0 x8 (by have:=szv7 _ me8; omega) hp okx0 okx8 q26
    rcases Bool.eq_false_or_eq_true ((!v25)) with b27 | b27
    ·simp only [Y5,IFJ,b23,q26,Ze,b27] at hres
     cases hres
     simp only [Zj,Zi,Z4,COL,Zz,Y6,ZE,Zu,Zh,Zk,YU,ZG,reduceAdd,reduceLeDiff,Nat.reduceBEq,a1,a3,ix8,hh9,e21,LG g16,c22,b23,LG g18,c24,b27]
     try rfl
    ·simp only [Y5,IFJ,b23,q26,Ze,b27] at hres
     have hx:=TJ hC M x0 x1 y6 v7 hM hp0 okx0 okv7 szv7 g_2560_0 g_2560_1 g_2560_2 hb k4 k4T hk4 r8 (q8 ++ [x8]) m h15 a4 (by simpa using hr) (by omega) g18 g19 g20 res hres
     simp only [Zj,Zi,Z4,COL,Zz,Y6,ZE,Zu,Zh,Zk,YU,ZG,reduceAdd,reduceLeDiff,Nat.reduceBEq,a1,a3,ix8,hh9,e21,LG g16,c22,b23,LG g18,c24,b27,hx]
     try rfl
def WN (x1:Yo)(y0:O9):Option Int :=
 if y0.dist=true then some (ZbL x1.Dist) else some 0
noncomputable def Yv (x0:YP)(k4T:Option Int):List ZH→List ZH→Option Int
 | [],q1=>k4T
 | x1 :: r1,q1=>if (decide ((Jj true x1)≠0))=true then some (Jj true x1) else Yq ((Zjr x0 x1)) fun v2=>if (!v2)=true then some 2 else (Yv x0 k4T r1) (q1 ++ [x1])
theorem IK {C:Cfg}(hC:LH C)(M:Nat)(x0:YP)(x1:Yo)(y6:O9)(v7:List ZH)(hM:4 * SizeOf.sizeOf x1 + 6≤M)(hp0:HP)(okx0:UG x0)(okv7:OkM 56 Y2 v7)(szv7:∀ y ∈ v7,SizeOf.sizeOf y < SizeOf.sizeOf x1)(g_2641_0:Nat)(g_2641_1:Nat)(g_2641_2:Nat)(hb:v7.length≤4611686018427387)(k4:AV→AV→HP→Eff→KR)(k4T:Option Int)(hk4:∀ (hp:HP),hp0.length≤hp.length→hp[g_2641_0]? = some (.cells (WS x0) Yr)→hp[g_2641_1]? = some (.cells (ZL x1) Yb)→hp[g_2641_2]? = some (.cells (Jp y6) YQ)→∀ res,k4T=some res→k4 (.ptr g_2641_1 0) (.ptr g_2641_2 0) hp none=some ((AV.int .i64 res),hp0,none)):∀ (r8 q8:List ZH) (m:Nat) (hp:HP),v7=q8 ++ r8→r8.length < m→hp0.length≤hp.length→hp[g_2641_0]? = some (.cells (WS x0) Yr)→hp[g_2641_1]? = some (.cells (ZL x1) Yb)→hp[g_2641_2]? = some (.cells (Jp y6) YQ)→∀ res,Yv x0 k4T r8 q8=some res→Z4 C.G (Zb C M) C.L hp0 k4 m (.ptr g_2641_0 0) (.ptr g_2641_1 0) (.ptr g_2641_2 0) (.lst 4 (v7.map Zt)) (.int .i64 (v7.length:Int)) (.int .i64 (q8.length:Int)) hp none=some ((AV.int .i64 res),hp0,none)
 | _,_,0,_,_,h,_,_,_,_,_,_=>by omega
 | [],q8,m + 1,hp,h,hr,hh,f2641_0,f2641_1,f2641_2,res,hres=>by
  have l0:=lp0 h
  have lt_f2641_0:=(List.getElem?_eq_some_iff.1 f2641_0).1
  have lt_f2641_1:=(List.getElem?_eq_some_iff.1 f2641_1).1
  have lt_f2641_2:=(List.getElem?_eq_some_iff.1 f2641_2).1
  simp only [Yv,IFJ] at hres
  have hx:=hk4  hp (by omega) f2641_0 f2641_1 f2641_2 res hres
  simp only [Zj,Zi,Zg,Z4,COL,Zz,Y6,ZE,Zu,Zh,Zk,YU,ZG,reduceAdd,reduceLeDiff,Nat.reduceBEq,l0,hx]
  try rfl
 | x8 :: r8,q8,m + 1,hp,h,hr,hh,f2641_0,f2641_1,f2641_2,res,hres=>by
  obtain ⟨a1,-,a3,a4,a5⟩:=lp (Zt) h hb
  have me8:=a5
  have a2:(v7.map Zt)[q8.length]? = some (Zt x8):=(lp (Zt) h hb).2.1
  have okx8:=(okv7).2 _ a5
  have lt_f2641_0:=(List.getElem?_eq_some_iff.1 f2641_0).1
  have lt_f2641_1:=(List.getElem?_eq_some_iff.1 f2641_1).1
  have lt_f2641_2:=(List.getElem?_eq_some_iff.1 f2641_2).1
  have ix8:YN (.slice 4) (.lst 4 (v7.map Zt)) (.int .i64 (q8.length:Int))=some (.ref (Zt x8)):=by rw [Jn,a2]; rfl
  obtain ⟨h9,hh9,g10,l11⟩:=mkH hp (Zw.cells [(.int .i64 0),(.str []),(.int .i64 0),(.own 4 [])] Zv)
  have g12:=keA hh9 f2641_0
  have g13:=keA hh9 f2641_1
  have g14:=keA hh9 f2641_2
  obtain ⟨h15,hh15,g16,l17⟩:=seH g10 (Zw.cells (Zt x8) Zv)
  have g18:=keS hh15 g12 (by omega)
  have g19:=keS hh15 g13 (by omega)
  have g20:=keS hh15 g14 (by omega)
  have e21:stV hp0.length 4 (.ptr hp.length 0) (.agg (Zt x8)) h9 none=some (h15,none):=by rw [← hh15]; exact Hq g10 (by first | rfl | exact X5 _) (by simp) rfl (by omega) (by rw [XW]; exact Xn (by exact X5 _) (by rfl))
  have c22:=fun hp:HP=>IQ hC.toOB M hp x8 (by have:=szv7 _ me8; omega) okx8
  rcases Bool.eq_false_or_eq_true ((decide ((Jj true x8)≠0))) with b23 | b23
  ·simp only [Yv,IFJ,b23] at hres
   cases hres
   simp only [Zj,Zi,Zg,Z4,COL,Zz,Y6,ZE,Zu,Zh,Zk,YU,ZG,reduceAdd,reduceLeDiff,Nat.reduceBEq,a1,a3,ix8,hh9,e21,LG g16,c22,b23]
   try rfl
  ·cases q26:(Zjr x0 x8) with
   | none =>
    simp only [Yv,IFJ,Yc,b23,q26] at hres; cases hres
   | some v25 =>
    have c24:=fun hp:HP=>Zqb hC M x0 x8 (by have:=szv7 _ me8; omega) hp okx0 okx8 q26
    rcases Bool.eq_false_or_eq_true ((!v25)) with b27 | b27
    ·simp only [Yv,IFJ,b23,q26,Ze,b27] at hres
     cases hres
     simp only [Zj,Zi,Zg,Z4,COL,Zz,Y6,ZE,Zu,Zh,Zk,YU,ZG,reduceAdd,reduceLeDiff,Nat.reduceBEq,a1,a3,ix8,hh9,e21,LG g16,c22,b23,LG g18,c24,b27]
     try rfl
    ·simp only [Yv,IFJ,b23,q26,Ze,b27] at hres
     have hx:=IK hC M x0 x1 y6 v7 hM hp0 okx0 okv7 szv7 g_2641_0 g_2641_1 g_2641_2 hb k4 k4T hk4 r8 (q8 ++ [x8]) m h15 a4 (by simpa using hr) (by omega) g18 g19 g20 res hres
     simp only [Zj,Zi,Zg,Z4,COL,Zz,Y6,ZE,Zu,Zh,Zk,YU,ZG,reduceAdd,reduceLeDiff,Nat.reduceBEq,a1,a3,ix8,hh9,e21,LG g16,c22,b23,LG g18,c24,b27,hx]
     try rfl
def QF (x1:Yo)(y0:O9):Option Int :=
 if y0.dist=true then some (ZbL x1.Dist) else some 0
noncomputable def Yw (x0:YP)(k4T:Option Int):List ZH→List ZH→Option Int
 | [],q1=>k4T
 | x1 :: r1,q1=>if (decide ((Jj true x1)≠0))=true then some (Jj true x1) else Yq ((Zjr x0 x1)) fun v2=>if (!v2)=true then some 2 else (Yw x0 k4T r1) (q1 ++ [x1])
theorem IL {C:Cfg}(hC:LH C)(M:Nat)(x0:YP)(x1:Yo)(y6:O9)(v7:List ZH)(hM:4 * SizeOf.sizeOf x1 + 6≤M)(hp0:HP)(okx0:UG x0)(okv7:OkM 56 Y2 v7)(szv7:∀ y ∈ v7,SizeOf.sizeOf y < SizeOf.sizeOf x1)(g_2719_0:Nat)(g_2719_1:Nat)(g_2719_2:Nat)(hb:v7.length≤4611686018427387)(k4:AV→AV→HP→Eff→KR)(k4T:Option Int)(hk4:∀ (hp:HP),hp0.length≤hp.length→hp[g_2719_0]? = some (.cells (WS x0) Yr)→hp[g_2719_1]? = some (.cells (ZL x1) Yb)→hp[g_2719_2]? = some (.cells (Jp y6) YQ)→∀ res,k4T=some res→k4 (.ptr g_2719_1 0) (.ptr g_2719_2 0) hp none=some ((AV.int .i64 res),hp0,none)):∀ (r8 q8:List ZH) (m:Nat) (hp:HP),v7=q8 ++ r8→r8.length < m→hp0.length≤hp.length→hp[g_2719_0]? = some (.cells (WS x0) Yr)→hp[g_2719_1]? = some (.cells (ZL x1) Yb)→hp[g_2719_2]? = some (.cells (Jp y6) YQ)→∀ res,Yw x0 k4T r8 q8=some res→Z4 C.G (Zb C M) C.L hp0 k4 m (.ptr g_2719_0 0) (.ptr g_2719_1 0) (.ptr g_2719_2 0) (.lst 4 (v7.map Zt)) (.int .i64 (v7.length:Int)) (.int .i64 (q8.length:Int)) hp none=some ((AV.int .i64 res),hp0,none)
 | _,_,0,_,_,h,_,_,_,_,_,_=>by omega
 | [],q8,m + 1,hp,h,hr,hh,f2719_0,f2719_1,f2719_2,res,hres=>by
  have l0:=lp0 h
  have lt_f2719_0:=(List.getElem?_eq_some_iff.1 f2719_0).1
  have lt_f2719_1:=(List.getElem?_eq_some_iff.1 f2719_1).1
  have lt_f2719_2:=(List.getElem?_eq_some_iff.1 f2719_2).1
  simp only [Yw,IFJ] at hres
  have hx:=hk4  hp (by omega) f2719_0 f2719_1 f2719_2 res hres
  simp only [Zj,Zo,Zi,Zg,Z4,COL,Zz,Y6,ZE,Zu,Zh,Zk,YU,ZG,reduceAdd,reduceLeDiff,Nat.reduceBEq,l0,hx]
  try rfl
 | x8 :: r8,q8,m + 1,hp,h,hr,hh,f2719_0,f2719_1,f2719_2,res,hres=>by
  obtain ⟨a1,-,a3,a4,a5⟩:=lp (Zt) h hb
  have me8:=a5
  have a2:(v7.map Zt)[q8.length]? = some (Zt x8):=(lp (Zt) h hb).2.1
  have okx8:=(okv7).2 _ a5
  have lt_f2719_0:=(List.getElem?_eq_some_iff.1 f2719_0).1
  have lt_f2719_1:=(List.getElem?_eq_some_iff.1 f2719_1).1
  have lt_f2719_2:=(List.getElem?_eq_some_iff.1 f2719_2).1
  have ix8:YN (.slice 4) (.lst 4 (v7.map Zt)) (.int .i64 (q8.length:Int))=some (.ref (Zt x8)):=by rw [Jn,a2]; rfl
  obtain ⟨h9,hh9,g10,l11⟩:=mkH hp (Zw.cells [(.int .i64 0),(.str []),(.int .i64 0),(.own 4 [])] Zv)
  have g12:=keA hh9 f2719_0
  have g13:=keA hh9 f2719_1
  have g14:=keA hh9 f2719_2
  obtain ⟨h15,hh15,g16,l17⟩:=seH g10 (Zw.cells (Zt x8) Zv)
  have g18:=keS hh15 g12 (by omega)
  have g19:=keS hh15 g13 (by omega)
  have g20:=keS hh15 g14 (by omega)
  have e21:stV hp0.length 4 (.ptr hp.length 0) (.agg (Zt x8)) h9 none=some (h15,none):=by rw [← hh15]; exact Hq g10 (by first | rfl | exact X5 _) (by simp) rfl (by omega) (by rw [XW]; exact Xn (by exact X5 _) (by rfl))
  have c22:=fun hp:HP=>IQ hC.toOB M hp x8 (by have:=szv7 _ me8; omega) okx8
  rcases Bool.eq_false_or_eq_true ((decide ((Jj true x8)≠0))) with b23 | b23
  ·simp only [Yw,IFJ,b23] at hres
   cases hres
   simp only [Zj,Zo,Zi,Zg,Z4,COL,Zz,Y6,ZE,Zu,Zh,Zk,YU,ZG,reduceAdd,reduceLeDiff,Nat.reduceBEq,a1,a3,ix8,hh9,e21,LG g16,c22,b23]
   try rfl
  ·cases q26:(Zjr x0 x8) with
   | none =>
    simp only [Yw,IFJ,Yc,b23,q26] at hres; cases hres
   | some v25 =>
    have c24:=fun hp:HP=>Zqb hC M x0 x8 (by have:=szv7 _ me8; omega) hp okx0 okx8 q26
    rcases Bool.eq_false_or_eq_true ((!v25)) with b27 | b27
    ·simp only [Yw,IFJ,b23,q26,Ze,b27] at hres
     cases hres
     simp only [Zj,Zo,Zi,Zg,Z4,COL,Zz,Y6,ZE,Zu,Zh,Zk,YU,ZG,reduceAdd,reduceLeDiff,Nat.reduceBEq,a1,a3,ix8,hh9,e21,LG g16,c22,b23,LG g18,c24,b27]
     try rfl
    ·simp only [Yw,IFJ,b23,q26,Ze,b27] at hres
     have hx:=IL hC M x0 x1 y6 v7 hM hp0 okx0 okv7 szv7 g_2719_0 g_2719_1 g_2719_2 hb k4 k4T hk4 r8 (q8 ++ [x8]) m h15 a4 (by simpa using hr) (by omega) g18 g19 g20 res hres
     simp only [Zj,Zo,Zi,Zg,Z4,COL,Zz,Y6,ZE,Zu,Zh,Zk,YU,ZG,reduceAdd,reduceLeDiff,Nat.reduceBEq,a1,a3,ix8,hh9,e21,LG g16,c22,b23,LG g18,c24,b27,hx]
     try rfl
def QG (x1:Yo)(y0:O9):Option Int :=
 if y0.dist=true then some (ZbL x1.Dist) else some 0
noncomputable def Yx (x0:YP)(k4T:Option Int):List ZH→List ZH→Option Int
 | [],q1=>k4T
 | x1 :: r1,q1=>if (decide ((Jj true x1)≠0))=true then some (Jj true x1) else Yq ((Zjr x0 x1)) fun v2=>if (!v2)=true then some 2 else (Yx x0 k4T r1) (q1 ++ [x1])
theorem IM {C:Cfg}(hC:LH C)(M:Nat)(x0:YP)(x1:Yo)(y6:O9)(v7:List ZH)(hM:4 * SizeOf.sizeOf x1 + 6≤M)(hp0:HP)(okx0:UG x0)(okv7:OkM 56 Y2 v7)(szv7:∀ y ∈ v7,SizeOf.sizeOf y < SizeOf.sizeOf x1)(g_2790_0:Nat)(g_2790_1:Nat)(g_2790_2:Nat)(hb:v7.length≤4611686018427387)(k4:AV→AV→HP→Eff→KR)(k4T:Option Int)(hk4:∀ (hp:HP),hp0.length≤hp.length→hp[g_2790_0]? = some (.cells (WS x0) Yr)→hp[g_2790_1]? = some (.cells (ZL x1) Yb)→hp[g_2790_2]? = some (.cells (Jp y6) YQ)→∀ res,k4T=some res→k4 (.ptr g_2790_1 0) (.ptr g_2790_2 0) hp none=some ((AV.int .i64 res),hp0,none)):∀ (r8 q8:List ZH) (m:Nat) (hp:HP),v7=q8 ++ r8→r8.length < m→hp0.length≤hp.length→hp[g_2790_0]? = some (.cells (WS x0) Yr)→hp[g_2790_1]? = some (.cells (ZL x1) Yb)→hp[g_2790_2]? = some (.cells (Jp y6) YQ)→∀ res,Yx x0 k4T r8 q8=some res→Z4 C.G (Zb C M) C.L hp0 k4 m (.ptr g_2790_0 0) (.ptr g_2790_1 0) (.ptr g_2790_2 0) (.lst 4 (v7.map Zt)) (.int .i64 (v7.length:Int)) (.int .i64 (q8.length:Int)) hp none=some ((AV.int .i64 res),hp0,none)
 | _,_,0,_,_,h,_,_,_,_,_,_=>by omega
 | [],q8,m + 1,hp,h,hr,hh,f2790_0,f2790_1,f2790_2,res,hres=>by
  have l0:=lp0 h
  have lt_f2790_0:=(List.getElem?_eq_some_iff.1 f2790_0).1
  have lt_f2790_1:=(List.getElem?_eq_some_iff.1 f2790_1).1
  have lt_f2790_2:=(List.getElem?_eq_some_iff.1 f2790_2).1
  simp only [Yx,IFJ] at hres
  have hx:=hk4  hp (by omega) f2790_0 f2790_1 f2790_2 res hres
  simp only [Zj,Zo,Zi,Zg,Z4,COL,Zz,Y6,ZE,Zu,Zh,Zk,YU,ZG,reduceAdd,reduceLeDiff,Nat.reduceBEq,l0,hx]
  try rfl
 | x8 :: r8,q8,m + 1,hp,h,hr,hh,f2790_0,f2790_1,f2790_2,res,hres=>by
  obtain ⟨a1,-,a3,a4,a5⟩:=lp (Zt) h hb
  have me8:=a5
  have a2:(v7.map Zt)[q8.length]? = some (Zt x8):=(lp (Zt) h hb).2.1
  have okx8:=(okv7).2 _ a5
  have lt_f2790_0:=(List.getElem?_eq_some_iff.1 f2790_0).1
  have lt_f2790_1:=(List.getElem?_eq_some_iff.1 f2790_1).1
  have lt_f2790_2:=(List.getElem?_eq_some_iff.1 f2790_2).1
  have ix8:YN (.slice 4) (.lst 4 (v7.map Zt)) (.int .i64 (q8.length:Int))=some (.ref (Zt x8)):=by rw [Jn,a2]; rfl
  obtain ⟨h9,hh9,g10,l11⟩:=mkH hp (Zw.cells [(.int .i64 0),(.str []),(.int .i64 0),(.own 4 [])] Zv)
  have g12:=keA hh9 f2790_0
  have g13:=keA hh9 f2790_1
  have g14:=keA hh9 f2790_2
  obtain ⟨h15,hh15,g16,l17⟩:=seH g10 (Zw.cells (Zt x8) Zv)
  have g18:=keS hh15 g12 (by omega)
  have g19:=keS hh15 g13 (by omega)
  have g20:=keS hh15 g14 (by omega)
  have e21:stV hp0.length 4 (.ptr hp.length 0) (.agg (Zt x8)) h9 none=some (h15,none):=by rw [← hh15]; exact Hq g10 (by first | rfl | exact X5 _) (by simp) rfl (by omega) (by rw [XW]; exact Xn (by exact X5 _) (by rfl))
  have c22:=fun hp:HP=>IQ hC.toOB M hp x8 (by have:=szv7 _ me8; omega) okx8
  rcases Bool.eq_false_or_eq_true ((decide ((Jj true x8)≠0))) with b23 | b23
  ·simp only [Yx,IFJ,b23] at hres
   cases hres
   simp only [Zj,Zo,Zi,Zg,Z4,COL,Zz,Y6,ZE,Zu,Zh,Zk,YU,ZG,reduceAdd,reduceLeDiff,Nat.reduceBEq,a1,a3,ix8,hh9,e21,LG g16,c22,b23]
   try rfl
  ·cases q26:(Zjr x0 x8) with
   | none =>
    simp only [Yx,IFJ,Yc,b23,q26] at hres; cases hres
   | some v25 =>
    have c24:=fun hp:HP=>Zqb hC M x0 x8 (by have:=szv7 _ me8; omega) hp okx0 okx8 q26
    rcases Bool.eq_false_or_eq_true ((!v25)) with b27 | b27
    ·simp only [Yx,IFJ,b23,q26,Ze,b27] at hres
     cases hres
     simp only [Zj,Zo,Zi,Zg,Z4,COL,Zz,Y6,ZE,Zu,Zh,Zk,YU,ZG,reduceAdd,reduceLeDiff,Nat.reduceBEq,a1,a3,ix8,hh9,e21,LG g16,c22,b23,LG g18,c24,b27]
     try rfl
    ·simp only [Yx,IFJ,b23,q26,Ze,b27] at hres
     have hx:=IM hC M x0 x1 y6 v7 hM hp0 okx0 okv7 szv7 g_2790_0 g_2790_1 g_2790_2 hb k4 k4T hk4 r8 (q8 ++ [x8]) m h15 a4 (by simpa using hr) (by omega) g18 g19 g20 res hres
     simp only [Zj,Zo,Zi,Zg,Z4,COL,Zz,Y6,ZE,Zu,Zh,Zk,YU,ZG,reduceAdd,reduceLeDiff,Nat.reduceBEq,a1,a3,ix8,hh9,e21,LG g16,c22,b23,LG g18,c24,b27,hx]
     try rfl
def QH (x1:Yo)(y0:O9):Option Int :=
 if y0.dist=true then some (ZbL x1.Dist) else some 0
noncomputable def Zr (x0:YP)(x1:Yo):Option Int :=
 if (!(XC x1.Op))=true then some 1 else Yq ((Hu x1)) fun v2=>if (!v2)=true then some 1 else Yq (Iw KW x1.Op) fun y3=>Yq ((Z8 x0 y3.a x1.A 0)) fun v4=>if ((!v4) && (decide (y3.a≠0)))=true then some 2 else if (decide (x1.Op=14))=true then (Yq ((Ox x0.p x0.site x1.A)) fun v5=>if ((!v5.2) || (decide (v5.1≠x1.C)))=true then some 16 else Yq ((Z8 x0 10 x1.B x1.A)) fun v6=>if (!v6)=true then some 2 else Yq (Iw x0.p.Sites x1.A) fun y7=>Yq (Iw y7.Routines x1.B) fun y8=>if (decide ((x1.Args.length:Int)≠y8.Params))=true then some 8 else Yq ((Z5 x1)) fun v9=>Y5 x0 (WN x1 y3) v9 []) else if (decide (x1.Op=15))=true then (Yq ((Z8 x0 10 x1.B x0.site)) fun v10=>if (!v10)=true then some 2 else Yq (Iw x0.p.Sites x0.site) fun y11=>Yq (Iw y11.Routines x1.B) fun y12=>if (decide ((x1.Args.length:Int)≠y12.Params))=true then some 8 else Yq ((Z5 x1)) fun v13=>Yv x0 (QF x1 y3) v13 []) else if (decide (y3.b≠0))=true then (Yq ((Z8 x0 y3.b x1.B 0)) fun v14=>if (!v14)=true then some 2 else Yq ((Z5 x1)) fun v15=>Yw x0 (QG x1 y3) v15 []) else Yq ((Z5 x1)) fun v16=>Yx x0 (QH x1 y3) v16 []
theorem AY {C:Cfg}(hC:LH C)(N:Nat)(x0:YP)(x1:Yo)(hN:4 * SizeOf.sizeOf x1 + 7≤N)(hp0:HP)(okx0:UG x0)(okx1:LK x1){res}(hres:Zr x0 x1=some res):Zb C N Ih [(.agg (WS x0)),(.agg (ZL x1))] hp0=some ((AV.int .i64 res),hp0,none):=by
 obtain ⟨M,rfl,hh⟩:=exM hp0 (by omega:1≤N)
 refine Si (by rw [hC.T]; rfl) ?_
 obtain ⟨h2,hh2,g3,l4⟩:=mkH hp0 (Zw.cells (WS x0) Yr)
 obtain ⟨h5,hh5,g6,l7⟩:=mkH h2 (Zw.cells (ZL x1) Yb)
 have g8:=keA hh5 g3
 have c9:=fun hp:HP=>ZdS hC M x1.Op (by omega) hp
 rcases Bool.eq_false_or_eq_true ((!(XC x1.Op))) with b10 | b10
 ·simp only [Zr,IFJ,b10] at hres
  cases hres
  simp only [ZJ,Zj,Zo,Zi,Zg,COL,Zz,Y6,ZE,Zu,Zh,Zk,YU,ZG,reduceAdd,reduceLeDiff,Nat.reduceBEq,hh2,hh5,LG g6,c9,b10]
  try rfl
 ·cases q13:(Hu x1) with
  | none =>
   simp only [Zr,IFJ,Yc,b10,q13] at hres; cases hres
  | some v12 =>
   have c11:=fun hp:HP=>ZnI hC M x1 (by omega) hp okx1 q13
   rcases Bool.eq_false_or_eq_true ((!v12)) with b14 | b14
   ·simp only [Zr,IFJ,b10,q13,Ze,b14] at hres
    cases hres
    simp only [ZJ,Zj,Zo,Zi,Zg,COL,Zz,Y6,ZE,Zu,Zh,Zk,YU,ZG,reduceAdd,reduceLeDiff,Nat.reduceBEq,hh2,hh5,LG g6,c9,b10,c11,b14]
    try rfl
   ·cases q16:Iw KW x1.Op with
    | none =>
     simp only [Zr,IFJ,Yc,b10,q13,Ze,b14,q16] at hres; cases hres
    | some y15 =>
     have y15e:YN (.slice 9) (.lst 9 (KW.map Jp)) (.int .i64 x1.Op)=some (.ref (Jp y15)):=Tz (row := Jp) q16
     have oky15:=(ZoQ).2 _ (Wj q16)
     have memy15:=Wj q16
     obtain ⟨h17,hh17,g18,l19⟩:=mkH h5 (Zw.cells [(.str []),(.int .i64 0),(.int .i64 0),(.bool false),(.bool false),(.bool false),(.bool false),(.bool false),(.bool false)] YQ)
     have g20:=keA hh17 g8
     have g21:=keA hh17 g6
     obtain ⟨h22,hh22,g23,l24⟩:=seH g18 (Zw.cells (Jp y15) YQ)
     have g25:=keS hh22 g20 (by omega)
     have g26:=keS hh22 g21 (by omega)
     have e27:stV hp0.length 9 (.ptr h5.length 0) (.agg (Jp y15)) h17 none=some (h22,none):=by rw [← hh22]; exact Hq g18 (by first | rfl | exact Bl _) (by simp) rfl (by omega) (by rw [XW]; exact Xn (by exact Bl _) (by rfl))
     cases q30:(Z8 x0 y15.a x1.A 0) with
     | none =>
      simp only [Zr,IFJ,Yc,b10,q13,Ze,b14,q16,Ze,q30] at hres; cases hres
     | some v29 =>
      have c28:=fun hp:HP=>QP hC M x0 y15.a x1.A 0 (by omega) hp okx0 q30
      rcases Bool.eq_false_or_eq_true (((!v29) && (decide (y15.a≠0)))) with b31 | b31
      ·simp only [Zr,IFJ,b10,q13,Ze,b14,q16,q30,b31] at hres
       cases hres
       simp only [ZJ,Zj,Zo,Zi,Zg,COL,Zz,Y6,ZE,Zu,Zh,Zk,YU,ZG,reduceAdd,reduceLeDiff,Nat.reduceBEq,hh2,hh5,LG g6,c9,b10,c11,b14,hC.F0,y15e,hh17,e27,LG g25,LG g23,LG g26,c28,b31]
       try rfl
      ·rcases Bool.eq_false_or_eq_true ((decide (x1.Op=14))) with b32 | b32
       ·have e33:Zx h22 3 (.ptr hp0.length 0)=some (.agg (ZX x0.p)):=Js g25 (by rw [Zkd]; omega) (by first | exact ZhD _ | rfl | (simp only [rplace_eq]; rfl)) (by exact Zbb _)
        cases q36:(Ox x0.p x0.site x1.A) with
        | none =>
         simp only [Zr,IFJ,Yc,b10,q13,Ze,b14,q16,Ze,q30,Ze,b31,b32,q36] at hres; cases hres
        | some v35 =>
         have c34:=fun hp:HP=>ZrH hC M x0.p x0.site x1.A (by omega) hp okx0.p q36
         rcases Bool.eq_false_or_eq_true (((!v35.2) || (decide (v35.1≠x1.C)))) with b37 | b37
         ·simp only [Zr,IFJ,b10,q13,Ze,b14,q16,q30,b31,b32,q36,b37] at hres
          cases hres
          simp only [ZJ,Zj,Zo,Zi,Zg,COL,Zz,Y6,ZE,Zu,Zh,Zk,YU,ZG,reduceAdd,reduceLeDiff,Nat.reduceBEq,hh2,hh5,LG g6,c9,b10,c11,b14,hC.F0,y15e,hh17,e27,LG g25,LG g23,LG g26,c28,b31,b32,e33,c34,b37]
          try rfl
         ·cases q40:(Z8 x0 10 x1.B x1.A) with
          | none =>
           simp only [Zr,IFJ,Yc,b10,q13,Ze,b14,q16,Ze,q30,Ze,b31,b32,q36,Ze,b37,q40] at hres; cases hres
          | some v39 =>
           have c38:=fun hp:HP=>QP hC M x0 10 x1.B x1.A (by omega) hp okx0 q40
           rcases Bool.eq_false_or_eq_true ((!v39)) with b41 | b41
           ·simp only [Zr,IFJ,b10,q13,Ze,b14,q16,q30,b31,b32,q36,b37,q40,b41] at hres
            cases hres
            simp only [ZJ,Zj,Zo,Zi,Zg,COL,Zz,Y6,ZE,Zu,Zh,Zk,YU,ZG,reduceAdd,reduceLeDiff,Nat.reduceBEq,hh2,hh5,LG g6,c9,b10,c11,b14,hC.F0,y15e,hh17,e27,LG g25,LG g23,LG g26,c28,b31,b32,e33,c34,b37,c38,b41]
            try rfl
           ·cases q43:Iw x0.p.Sites x1.A with
            | none =>
             simp only [Zr,IFJ,Yc,b10,q13,Ze,b14,q16,Ze,q30,Ze,b31,b32,q36,Ze,b37,q40,Ze,b41,q43] at hres; cases hres
            | some y42 =>
             have y42e:YN (.slice 14) (.lst 14 (x0.p.Sites.map ZF)) (.int .i64 x1.A)=some (.ref (ZF y42)):=Tz (row := ZF) q43
             have oky42:=(okx0.p.Sites).2 _ (Wj q43)
             have memy42:=Wj q43
             cases q45:Iw y42.Routines x1.B with
             | none =>
              simp only [Zr,IFJ,Yc,b10,q13,Ze,b14,q16,Ze,q30,Ze,b31,b32,q36,Ze,b37,q40,Ze,b41,q43,Ze,q45] at hres; cases hres
             | some y44 =>
              have y44e:YN (.slice 4) (.lst 4 (y42.Routines.map Qr)) (.int .i64 x1.B)=some (.ref (Qr y44)):=Tz (row := Qr) q45
              have oky44:=(oky42.Routines).2 _ (Wj q45)
              have memy44:=Wj q45
              rcases Bool.eq_false_or_eq_true ((decide ((x1.Args.length:Int)≠y44.Params))) with b46 | b46
              ·simp only [Zr,IFJ,b10,q13,Ze,b14,q16,q30,b31,b32,q36,b37,q40,b41,q43,q45,b46] at hres
               cases hres
               simp only [ZJ,Zj,Zo,Zi,Zg,COL,Zz,Y6,ZE,Zu,Zh,Zk,YU,ZG,reduceAdd,reduceLeDiff,Nat.reduceBEq,hh2,hh5,LG g6,c9,b10,c11,b14,hC.F0,y15e,hh17,e27,LG g25,LG g23,LG g26,c28,b31,b32,e33,c34,b37,c38,b41,y42e,y44e,b46]
               try rfl
              ·cases q49:(Z5 x1) with
               | none =>
                simp only [Zr,IFJ,Yc,b10,q13,Ze,b14,q16,Ze,q30,Ze,b31,b32,q36,Ze,b37,q40,Ze,b41,q43,Ze,q45,Ze,b46,q49] at hres; cases hres
               | some v48 =>
                have c47:=fun hp:HP=>Gf hC M x1 (by omega) hp q49
                have okv48:=TC okx1 q49
                have szv48:=TI q49
                simp only [Zr,IFJ,b10,q13,Ze,b14,q16,q30,b31,b32,q36,b37,q40,b41,q43,q45,b46,q49] at hres
                have hk50:∀ (hp50:HP),hp0.length≤hp50.length→hp50[hp0.length]? = some (.cells (WS x0) Yr)→hp50[h2.length]? = some (.cells (ZL x1) Yb)→hp50[h5.length]? = some (.cells (Jp y15) YQ)→∀ res,WN x1 y15=some res→(Zg C.G (Zb C M) C.L hp0) (.ptr h2.length 0) (.ptr h5.length 0) hp50 none=some ((AV.int .i64 res),hp0,none):=by
                 intro hp50 hh50 fz2580_0 fz2580_1 fz2580_2 res hres
                 have lt_fz2580_0:=(List.getElem?_eq_some_iff.1 fz2580_0).1
                 have lt_fz2580_1:=(List.getElem?_eq_some_iff.1 fz2580_1).1
                 have lt_fz2580_2:=(List.getElem?_eq_some_iff.1 fz2580_2).1
                 rcases Bool.eq_false_or_eq_true (y15.dist) with b51 | b51
                 ·have e52:Zx hp50 6 (.ptr h2.length 13)=some (.agg (Jv x1.Dist)):=Js fz2580_1 (by rw [Qi]; omega) (by first | exact VZ _ | rfl | (simp only [rInstr_eq]; rfl)) (by exact MQ _)
                  have c53:=fun hp:HP=>Dp hC.toOB M (by omega) hp x1.Dist okx1.Dist
                  simp only [WN,IFJ,b51] at hres
                  cases hres
                  simp only [ZJ,Zj,Zo,Zi,Zg,COL,Zz,Y6,ZE,Zu,Zh,Zk,YU,ZG,reduceAdd,reduceLeDiff,Nat.reduceBEq,hh2,hh5,LG g6,c9,b10,c11,b14,hC.F0,y15e,hh17,e27,LG g25,LG g23,LG g26,c28,b31,b32,e33,c34,b37,c38,b41,y42e,y44e,b46,c47,LG fz2580_2,b51,e52,c53]
                  try rfl
                 ·simp only [WN,IFJ,b51] at hres
                  cases hres
                  simp only [ZJ,Zj,Zo,Zi,Zg,COL,Zz,Y6,ZE,Zu,Zh,Zk,YU,ZG,reduceAdd,reduceLeDiff,Nat.reduceBEq,hh2,hh5,LG g6,c9,b10,c11,b14,hC.F0,y15e,hh17,e27,LG g25,LG g23,LG g26,c28,b31,b32,e33,c34,b37,c38,b41,y42e,y44e,b46,c47,LG fz2580_2,b51]
                  try rfl
                have hb':v48.length≤4611686018427387:=(by have:=(okv48).1; omega)
                have hx:=TJ hC M x0 x1 y15 v48 (by omega) hp0 okx0 okv48 szv48 hp0.length h2.length h5.length hb' (Zg C.G (Zb C M) C.L hp0) (WN x1 y15) hk50 v48 [] C.L h22 rfl (by have:=hC.L; omega) (by omega) g25 g26 g23 res hres
                try simp only [NIL] at hx
                simp only [ZJ,Zj,Zo,Zi,Zg,COL,Zz,Y6,ZE,Zu,Zh,Zk,YU,ZG,reduceAdd,reduceLeDiff,Nat.reduceBEq,hh2,hh5,LG g6,c9,b10,c11,b14,hC.F0,y15e,hh17,e27,LG g25,LG g23,LG g26,c28,b31,b32,e33,c34,b37,c38,b41,y42e,y44e,b46,c47,hx]
                try rfl
       ·rcases Bool.eq_false_or_eq_true ((decide (x1.Op=15))) with b54 | b54
        ·cases q57:(Z8 x0 10 x1.B x0.site) with
         | none =>
          simp only [Zr,IFJ,Yc,b10,q13,Ze,b14,q16,Ze,q30,Ze,b31,b32,b54,q57] at hres; cases hres
         | some v56 =>
          have c55:=fun hp:HP=>QP hC M x0 10 x1.B x0.site (by omega) hp okx0 q57
          rcases Bool.eq_false_or_eq_true ((!v56)) with b58 | b58
          ·simp only [Zr,IFJ,b10,q13,Ze,b14,q16,q30,b31,b32,b54,q57,b58] at hres
           cases hres
           simp only [ZJ,Zj,Zo,Zi,Zg,COL,Zz,Y6,ZE,Zu,Zh,Zk,YU,ZG,reduceAdd,reduceLeDiff,Nat.reduceBEq,hh2,hh5,LG g6,c9,b10,c11,b14,hC.F0,y15e,hh17,e27,LG g25,LG g23,LG g26,c28,b31,b32,b54,c55,b58]
           try rfl
          ·cases q60:Iw x0.p.Sites x0.site with
           | none =>
            simp only [Zr,IFJ,Yc,b10,q13,Ze,b14,q16,Ze,q30,Ze,b31,b32,b54,q57,Ze,b58,q60] at hres; cases hres
           | some y59 =>
            have y59e:YN (.slice 14) (.lst 14 (x0.p.Sites.map ZF)) (.int .i64 x0.site)=some (.ref (ZF y59)):=Tz (row := ZF) q60
            have oky59:=(okx0.p.Sites).2 _ (Wj q60)
            have memy59:=Wj q60
            cases q62:Iw y59.Routines x1.B with
            | none =>
             simp only [Zr,IFJ,Yc,b10,q13,Ze,b14,q16,Ze,q30,Ze,b31,b32,b54,q57,Ze,b58,q60,Ze,q62] at hres; cases hres
            | some y61 =>
             have y61e:YN (.slice 4) (.lst 4 (y59.Routines.map Qr)) (.int .i64 x1.B)=some (.ref (Qr y61)):=Tz (row := Qr) q62
             have oky61:=(oky59.Routines).2 _ (Wj q62)
             have memy61:=Wj q62
             rcases Bool.eq_false_or_eq_true ((decide ((x1.Args.length:Int)≠y61.Params))) with b63 | b63
             ·simp only [Zr,IFJ,b10,q13,Ze,b14,q16,q30,b31,b32,b54,q57,b58,q60,q62,b63] at hres
              cases hres
              simp only [ZJ,Zj,Zo,Zi,Zg,COL,Zz,Y6,ZE,Zu,Zh,Zk,YU,ZG,reduceAdd,reduceLeDiff,Nat.reduceBEq,hh2,hh5,LG g6,c9,b10,c11,b14,hC.F0,y15e,hh17,e27,LG g25,LG g23,LG g26,c28,b31,b32,b54,c55,b58,y59e,y61e,b63]
              try rfl
             ·cases q66:(Z5 x1) with
              | none =>
               simp only [Zr,IFJ,Yc,b10,q13,Ze,b14,q16,Ze,q30,Ze,b31,b32,b54,q57,Ze,b58,q60,Ze,q62,Ze,b63,q66] at hres; cases hres
              | some v65 =>
               have c64:=fun hp:HP=>Gf hC M x1 (by omega) hp q66
               have okv65:=TC okx1 q66
               have szv65:=TI q66
               simp only [Zr,IFJ,b10,q13,Ze,b14,q16,q30,b31,b32,b54,q57,b58,q60,q62,b63,q66] at hres
               have hk67:∀ (hp67:HP),hp0.length≤hp67.length→hp67[hp0.length]? = some (.cells (WS x0) Yr)→hp67[h2.length]? = some (.cells (ZL x1) Yb)→hp67[h5.length]? = some (.cells (Jp y15) YQ)→∀ res,QF x1 y15=some res→(Zg C.G (Zb C M) C.L hp0) (.ptr h2.length 0) (.ptr h5.length 0) hp67 none=some ((AV.int .i64 res),hp0,none):=by
                intro hp67 hh67 fz2661_0 fz2661_1 fz2661_2 res hres
                have lt_fz2661_0:=(List.getElem?_eq_some_iff.1 fz2661_0).1
                have lt_fz2661_1:=(List.getElem?_eq_some_iff.1 fz2661_1).1
                have lt_fz2661_2:=(List.getElem?_eq_some_iff.1 fz2661_2).1
                rcases Bool.eq_false_or_eq_true (y15.dist) with b68 | b68
                ·have e69:Zx hp67 6 (.ptr h2.length 13)=some (.agg (Jv x1.Dist)):=Js fz2661_1 (by rw [Qi]; omega) (by first | exact VZ _ | rfl | (simp only [rInstr_eq]; rfl)) (by exact MQ _)
                 have c70:=fun hp:HP=>Dp hC.toOB M (by omega) hp x1.Dist okx1.Dist
                 simp only [QF,IFJ,b68] at hres
                 cases hres
                 simp only [ZJ,Zj,Zo,Zi,Zg,COL,Zz,Y6,ZE,Zu,Zh,Zk,YU,ZG,reduceAdd,reduceLeDiff,Nat.reduceBEq,hh2,hh5,LG g6,c9,b10,c11,b14,hC.F0,y15e,hh17,e27,LG g25,LG g23,LG g26,c28,b31,b32,b54,c55,b58,y59e,y61e,b63,c64,LG fz2661_2,b68,e69,c70]
                 try rfl
                ·simp only [QF,IFJ,b68] at hres
                 cases hres
                 simp only [ZJ,Zj,Zo,Zi,Zg,COL,Zz,Y6,ZE,Zu,Zh,Zk,YU,ZG,reduceAdd,reduceLeDiff,Nat.reduceBEq,hh2,hh5,LG g6,c9,b10,c11,b14,hC.F0,y15e,hh17,e27,LG g25,LG g23,LG g26,c28,b31,b32,b54,c55,b58,y59e,y61e,b63,c64,LG fz2661_2,b68]
                 try rfl
               have hb':v65.length≤4611686018427387:=(by have:=(okv65).1; omega)
               have hx:=IK hC M x0 x1 y15 v65 (by omega) hp0 okx0 okv65 szv65 hp0.length h2.length h5.length hb' (Zg C.G (Zb C M) C.L hp0) (QF x1 y15) hk67 v65 [] C.L h22 rfl (by have:=hC.L; omega) (by omega) g25 g26 g23 res hres
               try simp only [NIL] at hx
               simp only [ZJ,Zj,Zo,Zi,Zg,COL,Zz,Y6,ZE,Zu,Zh,Zk,YU,ZG,reduceAdd,reduceLeDiff,Nat.reduceBEq,hh2,hh5,LG g6,c9,b10,c11,b14,hC.F0,y15e,hh17,e27,LG g25,LG g23,LG g26,c28,b31,b32,b54,c55,b58,y59e,y61e,b63,c64,hx]
               try rfl
        ·rcases Bool.eq_false_or_eq_true ((decide (y15.b≠0))) with b71 | b71
         ·cases q74:(Z8 x0 y15.b x1.B 0) with
          | none =>
           simp only [Zr,IFJ,Yc,b10,q13,Ze,b14,q16,Ze,q30,Ze,b31,b32,b54,b71,q74] at hres; cases hres
          | some v73 =>
           have c72:=fun hp:HP=>QP hC M x0 y15.b x1.B 0 (by omega) hp okx0 q74
           rcases Bool.eq_false_or_eq_true ((!v73)) with b75 | b75
           ·simp only [Zr,IFJ,b10,q13,Ze,b14,q16,q30,b31,b32,b54,b71,q74,b75] at hres
            cases hres
            simp only [ZJ,Zj,Zo,Zi,Zg,COL,Zz,Y6,ZE,Zu,Zh,Zk,YU,ZG,reduceAdd,reduceLeDiff,Nat.reduceBEq,hh2,hh5,LG g6,c9,b10,c11,b14,hC.F0,y15e,hh17,e27,LG g25,LG g23,LG g26,c28,b31,b32,b54,b71,c72,b75]
            try rfl
           ·cases q78:(Z5 x1) with
            | none =>
             simp only [Zr,IFJ,Yc,b10,q13,Ze,b14,q16,Ze,q30,Ze,b31,b32,b54,b71,q74,Ze,b75,q78] at hres; cases hres
            | some v77 =>
             have c76:=fun hp:HP=>Gf hC M x1 (by omega) hp q78
             have okv77:=TC okx1 q78
             have szv77:=TI q78
             simp only [Zr,IFJ,b10,q13,Ze,b14,q16,q30,b31,b32,b54,b71,q74,b75,q78] at hres
             have hk79:∀ (hp79:HP),hp0.length≤hp79.length→hp79[hp0.length]? = some (.cells (WS x0) Yr)→hp79[h2.length]? = some (.cells (ZL x1) Yb)→hp79[h5.length]? = some (.cells (Jp y15) YQ)→∀ res,QG x1 y15=some res→(Zg C.G (Zb C M) C.L hp0) (.ptr h2.length 0) (.ptr h5.length 0) hp79 none=some ((AV.int .i64 res),hp0,none):=by
              intro hp79 hh79 fz2739_0 fz2739_1 fz2739_2 res hres
              have lt_fz2739_0:=(List.getElem?_eq_some_iff.1 fz2739_0).1
              have lt_fz2739_1:=(List.getElem?_eq_some_iff.1 fz2739_1).1
              have lt_fz2739_2:=(List.getElem?_eq_some_iff.1 fz2739_2).1
              rcases Bool.eq_false_or_eq_true (y15.dist) with b80 | b80
              ·have e81:Zx hp79 6 (.ptr h2.length 13)=some (.agg (Jv x1.Dist)):=Js fz2739_1 (by rw [Qi]; omega) (by first | exact VZ _ | rfl | (simp only [rInstr_eq]; rfl)) (by exact MQ _)
               have c82:=fun hp:HP=>Dp hC.toOB M (by omega) hp x1.Dist okx1.Dist
               simp only [QG,IFJ,b80] at hres
               cases hres
               simp only [ZJ,Zj,Zo,Zi,Zg,COL,Zz,Y6,ZE,Zu,Zh,Zk,YU,ZG,reduceAdd,reduceLeDiff,Nat.reduceBEq,hh2,hh5,LG g6,c9,b10,c11,b14,hC.F0,y15e,hh17,e27,LG g25,LG g23,LG g26,c28,b31,b32,b54,b71,c72,b75,c76,LG fz2739_2,b80,e81,c82]
               try rfl
              ·simp only [QG,IFJ,b80] at hres
               cases hres
               simp only [ZJ,Zj,Zo,Zi,Zg,COL,Zz,Y6,ZE,Zu,Zh,Zk,YU,ZG,reduceAdd,reduceLeDiff,Nat.reduceBEq,hh2,hh5,LG g6,c9,b10,c11,b14,hC.F0,y15e,hh17,e27,LG g25,LG g23,LG g26,c28,b31,b32,b54,b71,c72,b75,c76,LG fz2739_2,b80]
               try rfl
             have hb':v77.length≤4611686018427387:=(by have:=(okv77).1; omega)
             have hx:=IL hC M x0 x1 y15 v77 (by omega) hp0 okx0 okv77 szv77 hp0.length h2.length h5.length hb' (Zg C.G (Zb C M) C.L hp0) (QG x1 y15) hk79 v77 [] C.L h22 rfl (by have:=hC.L; omega) (by omega) g25 g26 g23 res hres
             try simp only [NIL] at hx
             simp only [ZJ,Zj,Zo,Zi,Zg,COL,Zz,Y6,ZE,Zu,Zh,Zk,YU,ZG,reduceAdd,reduceLeDiff,Nat.reduceBEq,hh2,hh5,LG g6,c9,b10,c11,b14,hC.F0,y15e,hh17,e27,LG g25,LG g23,LG g26,c28,b31,b32,b54,b71,c72,b75,c76,hx]
             try rfl
         ·cases q85:(Z5 x1) with
          | none =>
           simp only [Zr,IFJ,Yc,b10,q13,Ze,b14,q16,Ze,q30,Ze,b31,b32,b54,b71,q85] at hres; cases hres
          | some v84 =>
           have c83:=fun hp:HP=>Gf hC M x1 (by omega) hp q85
           have okv84:=TC okx1 q85
           have szv84:=TI q85
           simp only [Zr,IFJ,b10,q13,Ze,b14,q16,q30,b31,b32,b54,b71,q85] at hres
           have hk86:∀ (hp86:HP),hp0.length≤hp86.length→hp86[hp0.length]? = some (.cells (WS x0) Yr)→hp86[h2.length]? = some (.cells (ZL x1) Yb)→hp86[h5.length]? = some (.cells (Jp y15) YQ)→∀ res,QH x1 y15=some res→(Zg C.G (Zb C M) C.L hp0) (.ptr h2.length 0) (.ptr h5.length 0) hp86 none=some ((AV.int .i64 res),hp0,none):=by
            intro hp86 hh86 fz2810_0 fz2810_1 fz2810_2 res hres
            have lt_fz2810_0:=(List.getElem?_eq_some_iff.1 fz2810_0).1
            have lt_fz2810_1:=(List.getElem?_eq_some_iff.1 fz2810_1).1
            have lt_fz2810_2:=(List.getElem?_eq_some_iff.1 fz2810_2).1
            rcases Bool.eq_false_or_eq_true (y15.dist) with b87 | b87
            ·have e88:Zx hp86 6 (.ptr h2.length 13)=some (.agg (Jv x1.Dist)):=Js fz2810_1 (by rw [Qi]; omega) (by first | exact VZ _ | rfl | (simp only [rInstr_eq]; rfl)) (by exact MQ _)
             have c89:=fun hp:HP=>Dp hC.toOB M (by omega) hp x1.Dist okx1.Dist
             simp only [QH,IFJ,b87] at hres
             cases hres
             simp only [ZJ,Zj,Zo,Zi,Zg,COL,Zz,Y6,ZE,Zu,Zh,Zk,YU,ZG,reduceAdd,reduceLeDiff,Nat.reduceBEq,hh2,hh5,LG g6,c9,b10,c11,b14,hC.F0,y15e,hh17,e27,LG g25,LG g23,LG g26,c28,b31,b32,b54,b71,c83,LG fz2810_2,b87,e88,c89]
             try rfl
            ·simp only [QH,IFJ,b87] at hres
             cases hres
             simp only [ZJ,Zj,Zo,Zi,Zg,COL,Zz,Y6,ZE,Zu,Zh,Zk,YU,ZG,reduceAdd,reduceLeDiff,Nat.reduceBEq,hh2,hh5,LG g6,c9,b10,c11,b14,hC.F0,y15e,hh17,e27,LG g25,LG g23,LG g26,c28,b31,b32,b54,b71,c83,LG fz2810_2,b87]
             try rfl
           have hb':v84.length≤4611686018427387:=(by have:=(okv84).1; omega)
           have hx:=IM hC M x0 x1 y15 v84 (by omega) hp0 okx0 okv84 szv84 hp0.length h2.length h5.length hb' (Zg C.G (Zb C M) C.L hp0) (QH x1 y15) hk86 v84 [] C.L h22 rfl (by have:=hC.L; omega) (by omega) g25 g26 g23 res hres
           try simp only [NIL] at hx
           simp only [ZJ,Zj,Zo,Zi,Zg,COL,Zz,Y6,ZE,Zu,Zh,Zk,YU,ZG,reduceAdd,reduceLeDiff,Nat.reduceBEq,hh2,hh5,LG g6,c9,b10,c11,b14,hC.F0,y15e,hh17,e27,LG g25,LG g23,LG g26,c28,b31,b32,b54,b71,c83,hx]
           try rfl
noncomputable def Qz (x0:ZN)(x1:Int)(x2:Q3)(k1T:Option Int):List Yo→List Yo→Option Int
 | [],q3=>k1T
 | x3 :: r3,q3=>Yq ((VB x0 x1 x2 x3)) fun v4=>if (decide (v4≠0))=true then some v4 else (Qz x0 x1 x2 k1T r3) (q3 ++ [x3])
theorem NY {C:Cfg}(hC:LH C)(M:Nat)(x0:ZN)(x1:Int)(x2:Q3)(hM:4 * SizeOf.sizeOf x2 + 7≤M)(hp0:HP)(okx0:Qn x0)(okx2:OH x2)(g_2913_0:Nat)(g_2913_1:Nat)(hb:x2.Instrs.length≤4611686018427387)(k1:AV→HP→Eff→KR)(k1T:Option Int)(hk1:∀ (hp:HP),hp0.length≤hp.length→hp[g_2913_0]? = some (.cells (ZX x0) Zy)→hp[g_2913_1]? = some (.cells (Qr x2) Yp)→∀ res,k1T=some res→k1 (.ptr g_2913_1 0) hp none=some ((AV.int .i64 res),hp0,none)):∀ (r6 q6:List Yo) (m:Nat) (hp:HP),x2.Instrs=q6 ++ r6→r6.length < m→hp0.length≤hp.length→hp[g_2913_0]? = some (.cells (ZX x0) Zy)→hp[g_2913_1]? = some (.cells (Qr x2) Yp)→∀ res,Qz x0 x1 x2 k1T r6 q6=some res→XB C.G (Zb C M) C.L hp0 k1 m (.int .i64 x1) (.ptr g_2913_0 0) (.ptr g_2913_1 0) (.int .i64 (q6.length:Int)) hp none=some ((AV.int .i64 res),hp0,none)
 | _,_,0,_,_,h,_,_,_,_,_=>by omega
 | [],q6,m + 1,hp,h,hr,hh,f2913_0,f2913_1,res,hres=>by
  have l0:=lp0 h
  have lt_f2913_0:=(List.getElem?_eq_some_iff.1 f2913_0).1
  have lt_f2913_1:=(List.getElem?_eq_some_iff.1 f2913_1).1
  simp only [Qz,IFJ] at hres
  have hx:=hk1  hp (by omega) f2913_0 f2913_1 res hres
  simp only [XB,COL,Zz,Zu,Zh,reduceAdd,reduceLeDiff,Nat.reduceBEq,l0,LG f2913_1,hx]
  try rfl
 | x6 :: r6,q6,m + 1,hp,h,hr,hh,f2913_0,f2913_1,res,hres=>by
  obtain ⟨a1,-,a3,a4,a5⟩:=lp (ZL) h hb
  have me6:=a5
  have a2:(x2.Instrs.map ZL)[q6.length]? = some (ZL x6):=(lp (ZL) h hb).2.1
  have okx6:=(okx2.Instrs).2 _ a5
  have lt_f2913_0:=(List.getElem?_eq_some_iff.1 f2913_0).1
  have lt_f2913_1:=(List.getElem?_eq_some_iff.1 f2913_1).1
  have ix6:YN (.slice 20) (.lst 20 (x2.Instrs.map ZL)) (.int .i64 (q6.length:Int))=some (.ref (ZL x6)):=by rw [Jn,a2]; rfl
  cases q9:(VB x0 x1 x2 x6) with
  | none =>
   simp only [Qz,IFJ,Yc,q9] at hres; cases hres
  | some v8 =>
   have c7:=fun hp:HP=>ZpG hC M x0 x1 x2 x6 (by have:=C9 x2; have:=List.sizeOf_lt_of_mem me6; omega) hp okx0 okx2 okx6 q9
   rcases Bool.eq_false_or_eq_true ((decide (v8≠0))) with b10 | b10
   ·simp only [Qz,IFJ,q9,Ze,b10] at hres
    cases hres
    simp only [XB,COL,Zz,Zu,Zh,reduceAdd,reduceLeDiff,Nat.reduceBEq,a1,a3,LG f2913_1,LG f2913_0,ix6,c7,b10]
    try rfl
   ·simp only [Qz,IFJ,q9,Ze,b10] at hres
    have hx:=NY hC M x0 x1 x2 hM hp0 okx0 okx2 g_2913_0 g_2913_1 hb k1 k1T hk1 r6 (q6 ++ [x6]) m hp a4 (by simpa using hr) (by omega) f2913_0 f2913_1 res hres
    simp only [XB,COL,Zz,Zu,Zh,reduceAdd,reduceLeDiff,Nat.reduceBEq,a1,a3,LG f2913_1,LG f2913_0,ix6,c7,b10,hx]
    try rfl
def VA (x2:Q3):Option Int :=
 Yq (Iw x2.Instrs (IntKind.i64.wrap ((x2.Instrs.length:Int) - 1))) fun y0=>if ((decide (y0.Op≠19)) && (decide (y0.Op≠4)))=true then some 8 else some 0
noncomputable def X7 (x0:ZN)(x1:Int)(x2:Q3):Option Int :=
 if ((decide (x1 < 0)) || (decide ((x0.Sites.length:Int)≤x1)))=true then some 2 else if (decide ((LW x2.Name)≠0))=true then some (LW x2.Name) else if ((((decide (x2.Params < 0)) || (decide (x2.Slots < x2.Params))) || (decide (6 < x2.Params))) || (decide (16 < x2.Slots)))=true then some 2 else if (decide ((x2.Instrs.length:Int)=0))=true then some 7 else if (decide (1000 < (x2.Instrs.length:Int)))=true then some 6 else Qz x0 x1 x2 (VA x2) x2.Instrs []
theorem ZlC {C:Cfg}(hC:LH C)(N:Nat)(x0:ZN)(x1:Int)(x2:Q3)(hN:4 * SizeOf.sizeOf x2 + 8≤N)(hp0:HP)(okx0:Qn x0)(okx2:OH x2){res}(hres:X7 x0 x1 x2=some res):Zb C N PN [(.agg (ZX x0)),(.int .i64 x1),(.agg (Qr x2))] hp0=some ((AV.int .i64 res),hp0,none):=by
 obtain ⟨M,rfl,hh⟩:=exM hp0 (by omega:1≤N)
 refine Zh4 (by rw [hC.T]; rfl) ?_
 obtain ⟨h3,hh3,g4,l5⟩:=mkH hp0 (Zw.cells (ZX x0) Zy)
 obtain ⟨h6,hh6,g7,l8⟩:=mkH h3 (Zw.cells (Qr x2) Yp)
 have g9:=keA hh6 g4
 rcases Bool.eq_false_or_eq_true (((decide (x1 < 0)) || (decide ((x0.Sites.length:Int)≤x1)))) with b10 | b10
 ·simp only [X7,IFJ,b10] at hres
  cases hres
  simp only [Vf,YY,COL,Zz,Zu,Zh,reduceAdd,reduceLeDiff,Nat.reduceBEq,hh3,hh6,LG g9,b10]
  try rfl
 ·have c11:=fun hp:HP=>ZgS hC.toOB M (by omega) hp x2.Name okx2.Name
  rcases Bool.eq_false_or_eq_true ((decide ((LW x2.Name)≠0))) with b12 | b12
  ·simp only [X7,IFJ,b10,b12] at hres
   cases hres
   simp only [Vf,YY,COL,Zz,Zu,Zh,reduceAdd,reduceLeDiff,Nat.reduceBEq,hh3,hh6,LG g9,b10,LG g7,c11,b12]
   try rfl
  ·rcases Bool.eq_false_or_eq_true (((((decide (x2.Params < 0)) || (decide (x2.Slots < x2.Params))) || (decide (6 < x2.Params))) || (decide (16 < x2.Slots)))) with b13 | b13
   ·simp only [X7,IFJ,b10,b12,b13] at hres
    cases hres
    simp only [Vf,YY,COL,Zz,Zu,Zh,reduceAdd,reduceLeDiff,Nat.reduceBEq,hh3,hh6,LG g9,b10,LG g7,c11,b12,b13]
    try rfl
   ·rcases Bool.eq_false_or_eq_true ((decide ((x2.Instrs.length:Int)=0))) with b14 | b14
    ·simp only [X7,IFJ,b10,b12,b13,b14] at hres
     cases hres
     simp only [Vf,YY,COL,Zz,Zu,Zh,reduceAdd,reduceLeDiff,Nat.reduceBEq,hh3,hh6,LG g9,b10,LG g7,c11,b12,b13,b14]
     try rfl
    ·rcases Bool.eq_false_or_eq_true ((decide (1000 < (x2.Instrs.length:Int)))) with b15 | b15
     ·simp only [X7,IFJ,b10,b12,b13,b14,b15] at hres
      cases hres
      simp only [Vf,YY,COL,Zz,Zu,Zh,reduceAdd,reduceLeDiff,Nat.reduceBEq,hh3,hh6,LG g9,b10,LG g7,c11,b12,b13,b14,b15]
      try rfl
     ·simp only [X7,IFJ,b10,b12,b13,b14,b15] at hres
      have hk16:∀ (hp16:HP),hp0.length≤hp16.length→hp16[hp0.length]? = some (.cells (ZX x0) Zy)→hp16[h3.length]? = some (.cells (Qr x2) Yp)→∀ res,VA x2=some res→(YY C.G (Zb C M) C.L hp0) (.ptr h3.length 0) hp16 none=some ((AV.int .i64 res),hp0,none):=by
       intro hp16 hh16 fz2918_0 fz2918_1 res hres
       have lt_fz2918_0:=(List.getElem?_eq_some_iff.1 fz2918_0).1
       have lt_fz2918_1:=(List.getElem?_eq_some_iff.1 fz2918_1).1
       cases q18:Iw x2.Instrs (IntKind.i64.wrap ((x2.Instrs.length:Int) - 1)) with
       | none =>
        simp only [VA,IFJ,Yc,q18] at hres; cases hres
       | some y17 =>
        have y17e:YN (.slice 20) (.lst 20 (x2.Instrs.map ZL)) (.int .i64 (IntKind.i64.wrap ((x2.Instrs.length:Int) - 1)))=some (.ref (ZL y17)):=Tz (row := ZL) q18
        have oky17:=(okx2.Instrs).2 _ (Wj q18)
        have memy17:=Wj q18
        rcases Bool.eq_false_or_eq_true (((decide (y17.Op≠19)) && (decide (y17.Op≠4)))) with b19 | b19
        ·simp only [VA,IFJ,q18,Ze,b19] at hres
         cases hres
         simp only [Vf,YY,COL,Zz,Zu,Zh,reduceAdd,reduceLeDiff,Nat.reduceBEq,hh3,hh6,LG g9,b10,LG g7,c11,b12,b13,b14,b15,LG fz2918_1,y17e,b19]
         try rfl
        ·simp only [VA,IFJ,q18,Ze,b19] at hres
         cases hres
         simp only [Vf,YY,COL,Zz,Zu,Zh,reduceAdd,reduceLeDiff,Nat.reduceBEq,hh3,hh6,LG g9,b10,LG g7,c11,b12,b13,b14,b15,LG fz2918_1,y17e,b19]
         try rfl
      have hb':x2.Instrs.length≤4611686018427387:=(by have:=(okx2.Instrs).1; omega)
      have hx:=NY hC M x0 x1 x2 (by omega) hp0 okx0 okx2 hp0.length h3.length hb' (YY C.G (Zb C M) C.L hp0) (VA x2) hk16 x2.Instrs [] C.L h6 rfl (by have:=hC.L; omega) (by omega) g9 g7 res hres
      try simp only [NIL] at hx
      simp only [Vf,YY,COL,Zz,Zu,Zh,reduceAdd,reduceLeDiff,Nat.reduceBEq,hh3,hh6,LG g9,b10,LG g7,c11,b12,b13,b14,b15,hx]
      try rfl
noncomputable def WW (x0:ZN)(x1:Int)(x2:Q3)(k1T:Option Int):List Yo→List Yo→Option Int
 | [],q3=>k1T
 | x3 :: r3,q3=>Yq ((Zr (⟨x0,x1,x2⟩:YP) x3)) fun v4=>if (decide (v4≠0))=true then some v4 else (WW x0 x1 x2 k1T r3) (q3 ++ [x3])
theorem PG {C:Cfg}(hC:LH C)(M:Nat)(x0:ZN)(x1:Int)(x2:Q3)(hM:4 * SizeOf.sizeOf x2 + 7≤M)(hp0:HP)(okx0:Qn x0)(okx1:-9223372036854775808≤x1∧x1≤9223372036854775807)(okx2:OH x2)(g_3161_0:Nat)(g_3161_1:Nat)(hb:x2.Instrs.length≤4611686018427387)(k1:AV→HP→Eff→KR)(k1T:Option Int)(hk1:∀ (hp:HP),hp0.length≤hp.length→hp[g_3161_0]? = some (.cells (Qr x2) Yp)→hp[g_3161_1]? = some (.cells [(.str x0.Name),(.lst 14 (x0.Sites.map ZF)),(.lst 3 (x0.Links.map DU)),(.int .i64 x1),(.str x2.Name),(.int .i64 x2.Params),(.int .i64 x2.Slots),(.lst 20 (x2.Instrs.map ZL))] Yr)→∀ res,k1T=some res→k1 (.ptr g_3161_0 0) hp none=some ((AV.int .i64 res),hp0,none)):∀ (r6 q6:List Yo) (m:Nat) (hp:HP),x2.Instrs=q6 ++ r6→r6.length < m→hp0.length≤hp.length→hp[g_3161_0]? = some (.cells (Qr x2) Yp)→hp[g_3161_1]? = some (.cells [(.str x0.Name),(.lst 14 (x0.Sites.map ZF)),(.lst 3 (x0.Links.map DU)),(.int .i64 x1),(.str x2.Name),(.int .i64 x2.Params),(.int .i64 x2.Slots),(.lst 20 (x2.Instrs.map ZL))] Yr)→∀ res,WW x0 x1 x2 k1T r6 q6=some res→Xj C.G (Zb C M) C.L hp0 k1 m (.ptr g_3161_0 0) (.ptr g_3161_1 0) (.lst 20 (x2.Instrs.map ZL)) (.int .i64 (x2.Instrs.length:Int)) (.int .i64 (q6.length:Int)) hp none=some ((AV.int .i64 res),hp0,none)
 | _,_,0,_,_,h,_,_,_,_,_=>by omega
 | [],q6,m + 1,hp,h,hr,hh,f3161_0,f3161_1,res,hres=>by
  have l0:=lp0 h
  have lt_f3161_0:=(List.getElem?_eq_some_iff.1 f3161_0).1
  have lt_f3161_1:=(List.getElem?_eq_some_iff.1 f3161_1).1
  simp only [WW,IFJ] at hres
  have hx:=hk1  hp (by omega) f3161_0 f3161_1 res hres
  simp only [Xj,COL,KY,Zz,Zu,Zh,Zk,ZG,reduceAdd,reduceLeDiff,Nat.reduceBEq,l0,hx]
  try rfl
 | x6 :: r6,q6,m + 1,hp,h,hr,hh,f3161_0,f3161_1,res,hres=>by
  obtain ⟨a1,-,a3,a4,a5⟩:=lp (ZL) h hb
  have me6:=a5
  have a2:(x2.Instrs.map ZL)[q6.length]? = some (ZL x6):=(lp (ZL) h hb).2.1
  have okx6:=(okx2.Instrs).2 _ a5
  have lt_f3161_0:=(List.getElem?_eq_some_iff.1 f3161_0).1
  have lt_f3161_1:=(List.getElem?_eq_some_iff.1 f3161_1).1
  have ix6:YN (.slice 20) (.lst 20 (x2.Instrs.map ZL)) (.int .i64 (q6.length:Int))=some (.ref (ZL x6)):=by rw [Jn,a2]; rfl
  obtain ⟨h7,hh7,g8,l9⟩:=mkH hp (Zw.cells [(.int .i64 0),(.int .i64 0),(.int .i64 0),(.int .i64 0),(.int .i64 0),(.str []),(.int .i64 0),(.own 4 []),(.int .i64 0),(.str []),(.int .i64 0),(.own 4 []),(.own 4 []),(.int .i64 0),(.int .i64 0),(.int .i64 0),(.int .i64 0),(.own 1 []),(.own 1 []),(.bool false)] Yb)
  have g10:=keA hh7 f3161_0
  have g11:=keA hh7 f3161_1
  obtain ⟨h12,hh12,g13,l14⟩:=seH g8 (Zw.cells (ZL x6) Yb)
  have g15:=keS hh12 g10 (by omega)
  have g16:=keS hh12 g11 (by omega)
  have e17:stV hp0.length 20 (.ptr hp.length 0) (.agg (ZL x6)) h7 none=some (h12,none):=by rw [← hh12]; exact Hq g8 (by first | rfl | exact Qi _) (by simp) rfl (by omega) (by rw [XW]; exact Xn (by exact Qi _) (by rfl))
  have e18:Zx h12 8 (.ptr g_3161_1 0)=some (.agg [(.str x0.Name),(.lst 14 (x0.Sites.map ZF)),(.lst 3 (x0.Links.map DU)),(.int .i64 x1),(.str x2.Name),(.int .i64 x2.Params),(.int .i64 x2.Slots),(.lst 20 (x2.Instrs.map ZL))]):=by rw [Zhj g16 8 0 (by simp)]; rfl
  have e20:(.agg [(.str x0.Name),(.lst 14 (x0.Sites.map ZF)),(.lst 3 (x0.Links.map DU)),(.int .i64 x1),(.str x2.Name),(.int .i64 x2.Params),(.int .i64 x2.Slots),(.lst 20 (x2.Instrs.map ZL))])=AV.agg (WS (⟨x0,x1,x2⟩:YP)):=by first | rfl | (rw [rplace_eq]; rfl)
  cases q22:(Zr (⟨x0,x1,x2⟩:YP) x6) with
  | none =>
   simp only [WW,IFJ,Yc,q22] at hres; cases hres
  | some v21 =>
   have c19:=fun hp:HP=>AY hC M (⟨x0,x1,x2⟩:YP) x6 (by have:=C9 x2; have:=List.sizeOf_lt_of_mem me6; omega) hp ⟨okx0,okx1,okx2⟩ okx6 q22
   rcases Bool.eq_false_or_eq_true ((decide (v21≠0))) with b23 | b23
   ·simp only [WW,IFJ,q22,Ze,b23] at hres
    cases hres
    simp only [Xj,COL,KY,Zz,Zu,Zh,Zk,ZG,reduceAdd,reduceLeDiff,Nat.reduceBEq,a1,a3,ix6,hh7,e17,e18,LG g13,e20,c19,b23]
    try rfl
   ·simp only [WW,IFJ,q22,Ze,b23] at hres
    have hx:=PG hC M x0 x1 x2 hM hp0 okx0 okx1 okx2 g_3161_0 g_3161_1 hb k1 k1T hk1 r6 (q6 ++ [x6]) m h12 a4 (by simpa using hr) (by omega) g15 g16 res hres
    simp only [Xj,COL,KY,Zz,Zu,Zh,Zk,ZG,reduceAdd,reduceLeDiff,Nat.reduceBEq,a1,a3,ix6,hh7,e17,e18,LG g13,e20,c19,b23,hx]
    try rfl
def Xp (x2:Q3):Option Int :=
 Yq (Iw x2.Instrs (IntKind.i64.wrap ((x2.Instrs.length:Int) - 1))) fun y0=>if ((decide (y0.Op≠19)) && (decide (y0.Op≠4)))=true then some 8 else some 0
noncomputable def QY (x0:ZN)(x1:Int)(x2:Q3):Option Int :=
 if ((decide (x1 < 0)) || (decide ((x0.Sites.length:Int)≤x1)))=true then some 2 else if (decide ((LW x2.Name)≠0))=true then some (LW x2.Name) else if ((((decide (x2.Params < 0)) || (decide (x2.Slots < x2.Params))) || (decide (6 < x2.Params))) || (decide (16 < x2.Slots)))=true then some 2 else if (decide ((x2.Instrs.length:Int)=0))=true then some 7 else if (decide (1000 < (x2.Instrs.length:Int)))=true then some 6 else WW x0 x1 x2 (Xp x2) x2.Instrs []
theorem Zjt {C:Cfg}(hC:LH C)(N:Nat)(x0:ZN)(x1:Int)(x2:Q3)(hN:4 * SizeOf.sizeOf x2 + 8≤N)(hp0:HP)(okx0:Qn x0)(okx1:-9223372036854775808≤x1∧x1≤9223372036854775807)(okx2:OH x2){res}(hres:QY x0 x1 x2=some res):Zb C N Dw [(.agg (ZX x0)),(.int .i64 x1),(.agg (Qr x2))] hp0=some ((AV.int .i64 res),hp0,none):=by
 obtain ⟨M,rfl,hh⟩:=exM hp0 (by omega:1≤N)
 refine Ze6 (by rw [hC.T]; rfl) ?_
 obtain ⟨h3,hh3,g4,l5⟩:=mkH hp0 (Zw.cells (ZX x0) Zy)
 obtain ⟨h6,hh6,g7,l8⟩:=mkH h3 (Zw.cells (Qr x2) Yp)
 have g9:=keA hh6 g4
 rcases Bool.eq_false_or_eq_true (((decide (x1 < 0)) || (decide ((x0.Sites.length:Int)≤x1)))) with b10 | b10
 ·simp only [QY,IFJ,b10] at hres
  cases hres
  simp only [Xy,YR,COL,KY,Zz,Zu,Zh,Zk,ZG,reduceAdd,reduceLeDiff,Nat.reduceBEq,hh3,hh6,LG g9,b10]
  try rfl
 ·have c11:=fun hp:HP=>ZbO hC.toOB M (by omega) hp x2.Name okx2.Name
  rcases Bool.eq_false_or_eq_true ((decide ((LW x2.Name)≠0))) with b12 | b12
  ·simp only [QY,IFJ,b10,b12] at hres
   cases hres
   simp only [Xy,YR,COL,KY,Zz,Zu,Zh,Zk,ZG,reduceAdd,reduceLeDiff,Nat.reduceBEq,hh3,hh6,LG g9,b10,LG g7,c11,b12]
   try rfl
  ·rcases Bool.eq_false_or_eq_true (((((decide (x2.Params < 0)) || (decide (x2.Slots < x2.Params))) || (decide (6 < x2.Params))) || (decide (16 < x2.Slots)))) with b13 | b13
   ·simp only [QY,IFJ,b10,b12,b13] at hres
    cases hres
    simp only [Xy,YR,COL,KY,Zz,Zu,Zh,Zk,ZG,reduceAdd,reduceLeDiff,Nat.reduceBEq,hh3,hh6,LG g9,b10,LG g7,c11,b12,b13]
    try rfl
   ·rcases Bool.eq_false_or_eq_true ((decide ((x2.Instrs.length:Int)=0))) with b14 | b14
    ·simp only [QY,IFJ,b10,b12,b13,b14] at hres
     cases hres
     simp only [Xy,YR,COL,KY,Zz,Zu,Zh,Zk,ZG,reduceAdd,reduceLeDiff,Nat.reduceBEq,hh3,hh6,LG g9,b10,LG g7,c11,b12,b13,b14]
     try rfl
    ·rcases Bool.eq_false_or_eq_true ((decide (1000 < (x2.Instrs.length:Int)))) with b15 | b15
     ·simp only [QY,IFJ,b10,b12,b13,b14,b15] at hres
      cases hres
      simp only [Xy,YR,COL,KY,Zz,Zu,Zh,Zk,ZG,reduceAdd,reduceLeDiff,Nat.reduceBEq,hh3,hh6,LG g9,b10,LG g7,c11,b12,b13,b14,b15]
      try rfl
     ·have e16:fill [(.str []),(.own 14 []),(.own 3 []),(.int .i64 0),(.str []),(.int .i64 0),(.int .i64 0),(.own 20 [])] [(0,3,(.agg (ZX x0))),(3,1,(.int .i64 x1)),(4,4,(.agg (Qr x2)))]=some [(.str x0.Name),(.lst 14 (x0.Sites.map ZF)),(.lst 3 (x0.Links.map DU)),(.int .i64 x1),(.str x2.Name),(.int .i64 x2.Params),(.int .i64 x2.Slots),(.lst 20 (x2.Instrs.map ZL))]:=by first | rfl | (simp [fill,AV.cells,AV.laid,splice,rProgram_eq,rCode_eq]; done)
      obtain ⟨h17,hh17,g18,l19⟩:=mkH h6 (Zw.cells [(.str []),(.own 14 []),(.own 3 []),(.int .i64 0),(.str []),(.int .i64 0),(.int .i64 0),(.own 20 [])] Yr)
      have g20:=keA hh17 g9
      have g21:=keA hh17 g7
      obtain ⟨h22,hh22,g23,l24⟩:=seH g18 (Zw.cells [(.str x0.Name),(.lst 14 (x0.Sites.map ZF)),(.lst 3 (x0.Links.map DU)),(.int .i64 x1),(.str x2.Name),(.int .i64 x2.Params),(.int .i64 x2.Slots),(.lst 20 (x2.Instrs.map ZL))] Yr)
      have g25:=keS hh22 g20 (by omega)
      have g26:=keS hh22 g21 (by omega)
      have e27:stV hp0.length 8 (.ptr h6.length 0) (.agg [(.str x0.Name),(.lst 14 (x0.Sites.map ZF)),(.lst 3 (x0.Links.map DU)),(.int .i64 x1),(.str x2.Name),(.int .i64 x2.Params),(.int .i64 x2.Slots),(.lst 20 (x2.Instrs.map ZL))]) h17 none=some (h22,none):=by rw [← hh22]; exact Hq g18 (rfl) (by simp) rfl (by omega) (by rw [XW]; exact Xn (by rfl) (by rfl))
      simp only [QY,IFJ,b10,b12,b13,b14,b15] at hres
      have hk28:∀ (hp28:HP),hp0.length≤hp28.length→hp28[h3.length]? = some (.cells (Qr x2) Yp)→hp28[h6.length]? = some (.cells [(.str x0.Name),(.lst 14 (x0.Sites.map ZF)),(.lst 3 (x0.Links.map DU)),(.int .i64 x1),(.str x2.Name),(.int .i64 x2.Params),(.int .i64 x2.Slots),(.lst 20 (x2.Instrs.map ZL))] Yr)→∀ res,Xp x2=some res→(YR C.G (Zb C M) C.L hp0) (.ptr h3.length 0) hp28 none=some ((AV.int .i64 res),hp0,none):=by
       intro hp28 hh28 fz3179_0 fz3179_1 res hres
       have lt_fz3179_0:=(List.getElem?_eq_some_iff.1 fz3179_0).1
       have lt_fz3179_1:=(List.getElem?_eq_some_iff.1 fz3179_1).1
       cases q30:Iw x2.Instrs (IntKind.i64.wrap ((x2.Instrs.length:Int) - 1)) with
       | none =>
        simp only [Xp,IFJ,Yc,q30] at hres; cases hres
       | some y29 =>
        have y29e:YN (.slice 20) (.lst 20 (x2.Instrs.map ZL)) (.int .i64 (IntKind.i64.wrap ((x2.Instrs.length:Int) - 1)))=some (.ref (ZL y29)):=Tz (row := ZL) q30
        have oky29:=(okx2.Instrs).2 _ (Wj q30)
        have memy29:=Wj q30
        rcases Bool.eq_false_or_eq_true (((decide (y29.Op≠19)) && (decide (y29.Op≠4)))) with b31 | b31
        ·simp only [Xp,IFJ,q30,Ze,b31] at hres
         cases hres
         simp only [Xy,YR,COL,KY,Zz,Zu,Zh,Zk,ZG,reduceAdd,reduceLeDiff,Nat.reduceBEq,hh3,hh6,LG g9,b10,LG g7,c11,b12,b13,b14,b15,e16,hh17,e27,LG g26,LG fz3179_0,y29e,b31]
         try rfl
        ·simp only [Xp,IFJ,q30,Ze,b31] at hres
         cases hres
         simp only [Xy,YR,COL,KY,Zz,Zu,Zh,Zk,ZG,reduceAdd,reduceLeDiff,Nat.reduceBEq,hh3,hh6,LG g9,b10,LG g7,c11,b12,b13,b14,b15,e16,hh17,e27,LG g26,LG fz3179_0,y29e,b31]
         try rfl
      have hb':x2.Instrs.length≤4611686018427387:=(by have:=(okx2.Instrs).1; omega)
      have hx:=PG hC M x0 x1 x2 (by omega) hp0 okx0 okx1 okx2 h3.length h6.length hb' (YR C.G (Zb C M) C.L hp0) (Xp x2) hk28 x2.Instrs [] C.L h22 rfl (by have:=hC.L; omega) (by omega) g26 g23 res hres
      try simp only [NIL] at hx
      simp only [Xy,YR,COL,KY,Zz,Zu,Zh,Zk,ZG,reduceAdd,reduceLeDiff,Nat.reduceBEq,hh3,hh6,LG g9,b10,LG g7,c11,b12,b13,b14,b15,e16,hh17,e27,LG g26,hx]
      try rfl
def WT (k0T:Bool):List Yo→List Yo→Bool
 | [],q0=>k0T
 | x0 :: r0,q0=>if (decide (10 < (x0.Args.length:Int)))=true then false else (WT k0T r0) (q0 ++ [x0])
theorem NW {C:Cfg}(hC:LH C)(M:Nat)(x0:Q3)(hM:0≤M)(hp0:HP)(g_3190_0:Nat)(hb:x0.Instrs.length≤4611686018427387)(k0:AV→HP→Eff→KR)(k0T:Bool)(hk0:∀ (hp:HP),hp0.length≤hp.length→hp[g_3190_0]? = some (.cells (Qr x0) Yp)→k0 (.ptr g_3190_0 0) hp none=some ((AV.bool k0T),hp0,none)):∀ (r6 q6:List Yo) (m:Nat) (hp:HP),x0.Instrs=q6 ++ r6→r6.length < m→hp0.length≤hp.length→hp[g_3190_0]? = some (.cells (Qr x0) Yp)→WR C.G (Zb C M) C.L hp0 k0 m (.ptr g_3190_0 0) (.int .i64 (q6.length:Int)) hp none=some ((AV.bool (WT k0T r6 q6)),hp0,none)
 | _,_,0,_,_,h,_,_=>by omega
 | [],q6,m + 1,hp,h,hr,hh,f3190_0=>by
  have l0:=lp0 h
  have lt_f3190_0:=(List.getElem?_eq_some_iff.1 f3190_0).1
  have ht:WT k0T [] q6=k0T:=by simp only [WR,WT,IFJ]
  rw [ht]
  have hx:=hk0  hp (by omega) f3190_0
  simp only [WR,COL,Zz,Zu,reduceAdd,reduceLeDiff,Nat.reduceBEq,l0,LG f3190_0,hx]
  try rfl
 | x6 :: r6,q6,m + 1,hp,h,hr,hh,f3190_0=>by
  obtain ⟨a1,-,a3,a4,a5⟩:=lp (ZL) h hb
  have me6:=a5
  have a2:(x0.Instrs.map ZL)[q6.length]? = some (ZL x6):=(lp (ZL) h hb).2.1
  have lt_f3190_0:=(List.getElem?_eq_some_iff.1 f3190_0).1
  have ix6:YN (.slice 20) (.lst 20 (x0.Instrs.map ZL)) (.int .i64 (q6.length:Int))=some (.ref (ZL x6)):=by rw [Jn,a2]; rfl
  rcases Bool.eq_false_or_eq_true ((decide (10 < (x6.Args.length:Int)))) with b7 | b7
  ·have ht:WT k0T (x6 :: r6) q6=false:=by simp only [WR,WT,IFJ,b7]
   rw [ht]
   simp only [WR,COL,Zz,Zu,reduceAdd,reduceLeDiff,Nat.reduceBEq,a1,a3,LG f3190_0,ix6,b7]
   try rfl
  ·have ht:WT k0T (x6 :: r6) q6=(WT k0T r6) (q6 ++ [x6]):=by simp only [WR,WT,IFJ,b7]
   rw [ht]
   have hx:=NW hC M x0 hM hp0 g_3190_0 hb k0 k0T hk0 r6 (q6 ++ [x6]) m hp a4 (by simpa using hr) (by omega) f3190_0
   simp only [WR,COL,Zz,Zu,reduceAdd,reduceLeDiff,Nat.reduceBEq,a1,a3,LG f3190_0,ix6,b7,hx]
   try rfl
def J4 (x0:Q3):Bool :=
 (decide ((x0.Instrs.length:Int)≤60))
def UX (x0:Q3):Bool :=
 WT (J4 x0) x0.Instrs []
theorem Zci {C:Cfg}(hC:LH C)(N:Nat)(x0:Q3)(hN:1≤N)(hp0:HP)(okx0:OH x0):Zb C N Rh [(.agg (Qr x0))] hp0=some ((AV.bool (UX x0)),hp0,none):=by
 obtain ⟨M,rfl,hh⟩:=exM hp0 (by omega:1≤N)
 refine Zhi (by rw [hC.T]; rfl) ?_
 obtain ⟨h1,hh1,g2,l3⟩:=mkH hp0 (Zw.cells (Qr x0) Yp)
 have ht:UX x0=WT (J4 x0) x0.Instrs []:=by simp only [UX,IFJ]
 rw [ht]
 have hk4:∀ (hp4:HP),hp0.length≤hp4.length→hp4[hp0.length]? = some (.cells (Qr x0) Yp)→(V6 C.G (Zb C M) C.L hp0) (.ptr hp0.length 0) hp4 none=some ((AV.bool (J4 x0)),hp0,none):=by
  intro hp4 hh4 fz3192_0
  have lt_fz3192_0:=(List.getElem?_eq_some_iff.1 fz3192_0).1
  have ht:J4 x0=(decide ((x0.Instrs.length:Int)≤60)):=by simp only [J4,IFJ]
  rw [ht]
  simp only [Rq,V6,COL,Zz,Zu,reduceAdd,reduceLeDiff,Nat.reduceBEq,hh1,LG fz3192_0]
  try rfl
 have hb':x0.Instrs.length≤4611686018427387:=(by have:=(okx0.Instrs).1; omega)
 have hx:=NW hC M x0 (by omega) hp0 hp0.length hb' (V6 C.G (Zb C M) C.L hp0) (J4 x0) hk4 x0.Instrs [] C.L h1 rfl (by have:=hC.L; omega) (by omega) g2
 try simp only [NIL] at hx
 simp only [Rq,V6,COL,Zz,Zu,reduceAdd,reduceLeDiff,Nat.reduceBEq,hh1,hx]
 try rfl
def QZ (k2T:Bool):List Q3→List Q3→Bool
 | [],q0=>k2T
 | x0 :: r0,q0=>if (!(UX x0))=true then false else (QZ k2T r0) (q0 ++ [x0])
theorem CE {C:Cfg}(hC:LH C)(M:Nat)(x0:ZN)(q6:List Ym)(x6:Ym)(hM:SizeOf.sizeOf x0 + 1≤M)(hp0:HP)(okx6:Ae x6)(ix6:YN (.slice 14) (.lst 14 (x0.Sites.map ZF)) (.int .i64 (q6.length:Int))=some (.ref (ZF x6)))(g_3334_0:Nat)(g_3334_1:Nat)(hb:x6.Routines.length≤4611686018427387)(k2:AV→AV→AV→HP→Eff→KR)(k2T:Bool)(hk2:∀ (hp:HP),hp0.length≤hp.length→hp[g_3334_0]? = some (.cells (ZX x0) Zy)→hp[g_3334_1]? = some (.cells (Yh x6.Decl) Yz)→k2 (.ptr g_3334_0 0) (.int .i64 (q6.length:Int)) (.ptr g_3334_1 0) hp none=some ((AV.bool k2T),hp0,none)):∀ (r7 q7:List Q3) (m:Nat) (hp:HP),x6.Routines=q7 ++ r7→r7.length < m→hp0.length≤hp.length→hp[g_3334_0]? = some (.cells (ZX x0) Zy)→hp[g_3334_1]? = some (.cells (Yh x6.Decl) Yz)→QU C.G (Zb C M) C.L hp0 k2 m (.ptr g_3334_0 0) (.int .i64 (q6.length:Int)) (.ptr g_3334_1 0) (.int .i64 (q7.length:Int)) hp none=some ((AV.bool (QZ k2T r7 q7)),hp0,none)
 | _,_,0,_,_,h,_,_,_=>by omega
 | [],q7,m + 1,hp,h,hr,hh,f3334_0,f3334_1=>by
  have l0:=lp0 h
  have lt_f3334_0:=(List.getElem?_eq_some_iff.1 f3334_0).1
  have lt_f3334_1:=(List.getElem?_eq_some_iff.1 f3334_1).1
  have ht:QZ k2T [] q7=k2T:=by simp only [QU,QZ,IFJ]
  rw [ht]
  have hx:=hk2  hp (by omega) f3334_0 f3334_1
  simp only [YL,Y3,QU,COL,Zz,Zh,Jb,Zk,ZK,reduceAdd,reduceLeDiff,Nat.reduceBEq,l0,LG f3334_0,ix6,hx]
  try rfl
 | x7 :: r7,q7,m + 1,hp,h,hr,hh,f3334_0,f3334_1=>by
  obtain ⟨a1,-,a3,a4,a5⟩:=lp (Qr) h hb
  have me7:=a5
  have a2:(x6.Routines.map Qr)[q7.length]? = some (Qr x7):=(lp (Qr) h hb).2.1
  have okx7:=(okx6.Routines).2 _ a5
  have lt_f3334_0:=(List.getElem?_eq_some_iff.1 f3334_0).1
  have lt_f3334_1:=(List.getElem?_eq_some_iff.1 f3334_1).1
  have ix7:YN (.slice 4) (.lst 4 (x6.Routines.map Qr)) (.int .i64 (q7.length:Int))=some (.ref (Qr x7)):=by rw [Jn,a2]; rfl
  have c8:=fun hp:HP=>Zci hC M x7 (by omega) hp okx7
  rcases Bool.eq_false_or_eq_true ((!(UX x7))) with b9 | b9
  ·have ht:QZ k2T (x7 :: r7) q7=false:=by simp only [QU,QZ,IFJ,b9]
   rw [ht]
   simp only [YL,Y3,QU,COL,Zz,Zh,Jb,Zk,ZK,reduceAdd,reduceLeDiff,Nat.reduceBEq,a1,a3,LG f3334_0,ix6,ix7,c8,b9]
   try rfl
  ·have ht:QZ k2T (x7 :: r7) q7=(QZ k2T r7) (q7 ++ [x7]):=by simp only [QU,QZ,IFJ,b9]
   rw [ht]
   have hx:=CE hC M x0 q6 x6 hM hp0 okx6 ix6 g_3334_0 g_3334_1 hb k2 k2T hk2 r7 (q7 ++ [x7]) m hp a4 (by simpa using hr) (by omega) f3334_0 f3334_1
   simp only [YL,Y3,QU,COL,Zz,Zh,Jb,Zk,ZK,reduceAdd,reduceLeDiff,Nat.reduceBEq,a1,a3,LG f3334_0,ix6,ix7,c8,b9,hx]
   try rfl
def Xa (k4T:Bool):List Uj→List Uj→Bool
 | [],q0=>k4T
 | x0 :: r0,q0=>if (decide (40 < (Z0a x0.Body)))=true then false else (Xa k4T r0) (q0 ++ [x0])
theorem CG {C:Cfg}(hC:LH C)(M:Nat)(x0:ZN)(q6:List Ym)(x6:Ym)(hM:SizeOf.sizeOf x0 + 1≤M)(hp0:HP)(okx6:Ae x6)(me6:x6 ∈ x0.Sites)(g_3348_0:Nat)(g_3348_1:Nat)(hb:x6.Decl.Routines.length≤4611686018427387)(k4:AV→AV→HP→Eff→KR)(k4T:Bool)(hk4:∀ (hp:HP),hp0.length≤hp.length→hp[g_3348_0]? = some (.cells (ZX x0) Zy)→hp[g_3348_1]? = some (.cells (Yh x6.Decl) Yz)→k4 (.ptr g_3348_0 0) (.int .i64 (q6.length:Int)) hp none=some ((AV.bool k4T),hp0,none)):∀ (r7 q7:List Uj) (m:Nat) (hp:HP),x6.Decl.Routines=q7 ++ r7→r7.length < m→hp0.length≤hp.length→hp[g_3348_0]? = some (.cells (ZX x0) Zy)→hp[g_3348_1]? = some (.cells (Yh x6.Decl) Yz)→QV C.G (Zb C M) C.L hp0 k4 m (.ptr g_3348_0 0) (.int .i64 (q6.length:Int)) (.ptr g_3348_1 0) (.int .i64 (q7.length:Int)) hp none=some ((AV.bool (Xa k4T r7 q7)),hp0,none)
 | _,_,0,_,_,h,_,_,_=>by omega
 | [],q7,m + 1,hp,h,hr,hh,f3348_0,f3348_1=>by
  have l0:=lp0 h
  have lt_f3348_0:=(List.getElem?_eq_some_iff.1 f3348_0).1
  have lt_f3348_1:=(List.getElem?_eq_some_iff.1 f3348_1).1
  have ht:Xa k4T [] q7=k4T:=by simp only [QV,Xa,IFJ]
  rw [ht]
  have hx:=hk4  hp (by omega) f3348_0 f3348_1
  simp only [YL,Y3,QV,COL,Zz,Zh,Jb,Zk,ZK,reduceAdd,reduceLeDiff,Nat.reduceBEq,l0,LG f3348_1,hx]
  try rfl
 | x7 :: r7,q7,m + 1,hp,h,hr,hh,f3348_0,f3348_1=>by
  obtain ⟨a1,-,a3,a4,a5⟩:=lp (Vj) h hb
  have me7:=a5
  have a2:(x6.Decl.Routines.map Vj)[q7.length]? = some (Vj x7):=(lp (Vj) h hb).2.1
  have okx7:=(okx6.Decl.Routines).2 _ a5
  have lt_f3348_0:=(List.getElem?_eq_some_iff.1 f3348_0).1
  have lt_f3348_1:=(List.getElem?_eq_some_iff.1 f3348_1).1
  have ix7:YN (.slice 4) (.lst 4 (x6.Decl.Routines.map Vj)) (.int .i64 (q7.length:Int))=some (.ref (Vj x7)):=by rw [Jn,a2]; rfl
  have c8:=fun hp:HP=>ZpI hC.toOB M x7.Body (by have:=ZeU x0; have:=List.sizeOf_lt_of_mem me6; have:=ZeV x6; have:=AX x6.Decl; have:=List.sizeOf_lt_of_mem me7; have:=ZhJ x7; omega) hp okx7.Body
  rcases Bool.eq_false_or_eq_true ((decide (40 < (Z0a x7.Body)))) with b9 | b9
  ·have ht:Xa k4T (x7 :: r7) q7=false:=by simp only [QV,Xa,IFJ,b9]
   rw [ht]
   simp only [YL,Y3,QV,COL,Zz,Zh,Jb,Zk,ZK,reduceAdd,reduceLeDiff,Nat.reduceBEq,a1,a3,LG f3348_1,ix7,c8,b9]
   try rfl
  ·have ht:Xa k4T (x7 :: r7) q7=(Xa k4T r7) (q7 ++ [x7]):=by simp only [QV,Xa,IFJ,b9]
   rw [ht]
   have hx:=CG hC M x0 q6 x6 hM hp0 okx6 me6 g_3348_0 g_3348_1 hb k4 k4T hk4 r7 (q7 ++ [x7]) m hp a4 (by simpa using hr) (by omega) f3348_0 f3348_1
   simp only [YL,Y3,QV,COL,Zz,Zh,Jb,Zk,ZK,reduceAdd,reduceLeDiff,Nat.reduceBEq,a1,a3,LG f3348_1,ix7,c8,b9,hx]
   try rfl
def KE (s0:List Ym→Bool)(q0:List Ym)(x0:Ym):Bool :=
 s0 (q0 ++ [x0])
def KF (s0:List Ym→Bool)(q0:List Ym)(x0:Ym):Bool :=
 Xa (KE s0 q0 x0) x0.Decl.Routines []
def YG (k0T:Bool):List Ym→List Ym→Bool
 | [],q0=>k0T
 | x0 :: r0,q0=>if (((decide (6 < (x0.Routines.length:Int))) || (decide (6 < (x0.Decl.Routines.length:Int)))) || (decide (60 < (IntKind.i64.wrap ((IntKind.i64.wrap ((IntKind.i64.wrap ((IntKind.i64.wrap ((IntKind.i64.wrap ((IntKind.i64.wrap ((x0.Decl.Vars.length:Int) + (x0.Decl.Resources.length:Int))) + (x0.Decl.Stores.length:Int))) + (x0.Decl.Queues.length:Int))) + (x0.Decl.Streams.length:Int))) + (x0.Decl.Starts.length:Int))) + (x0.Decl.Laws.length:Int))))))=true then false else QZ (KF (YG k0T r0) q0 x0) x0.Routines []
theorem CB {C:Cfg}(hC:LH C)(M:Nat)(x0:ZN)(hM:SizeOf.sizeOf x0 + 1≤M)(hp0:HP)(okx0:Qn x0)(g_3310_0:Nat)(hb:x0.Sites.length≤4611686018427387)(k0:AV→HP→Eff→KR)(k0T:Bool)(hk0:∀ (hp:HP),hp0.length≤hp.length→hp[g_3310_0]? = some (.cells (ZX x0) Zy)→k0 (.ptr g_3310_0 0) hp none=some ((AV.bool k0T),hp0,none)):∀ (r6 q6:List Ym) (m:Nat) (hp:HP),x0.Sites=q6 ++ r6→r6.length < m→hp0.length≤hp.length→hp[g_3310_0]? = some (.cells (ZX x0) Zy)→Y9 C.G (Zb C M) C.L hp0 k0 m (.ptr g_3310_0 0) (.int .i64 (q6.length:Int)) hp none=some ((AV.bool (YG k0T r6 q6)),hp0,none)
 | _,_,0,_,_,h,_,_=>by omega
 | [],q6,m + 1,hp,h,hr,hh,f3310_0=>by
  have l0:=lp0 h
  have lt_f3310_0:=(List.getElem?_eq_some_iff.1 f3310_0).1
  have ht:YG k0T [] q6=k0T:=by simp only [Y9,YG,IFJ]
  rw [ht]
  have hx:=hk0  hp (by omega) f3310_0
  simp only [YL,Y3,Y9,COL,Zz,Zh,Jb,Zk,ZK,reduceAdd,reduceLeDiff,Nat.reduceBEq,l0,LG f3310_0,hx]
  try rfl
 | x6 :: r6,q6,m + 1,hp,h,hr,hh,f3310_0=>by
  obtain ⟨a1,-,a3,a4,a5⟩:=lp (ZF) h hb
  have me6:=a5
  have a2:(x0.Sites.map ZF)[q6.length]? = some (ZF x6):=(lp (ZF) h hb).2.1
  have okx6:=(okx0.Sites).2 _ a5
  have lt_f3310_0:=(List.getElem?_eq_some_iff.1 f3310_0).1
  have ix6:YN (.slice 14) (.lst 14 (x0.Sites.map ZF)) (.int .i64 (q6.length:Int))=some (.ref (ZF x6)):=by rw [Jn,a2]; rfl
  have e7:Zx hp 13 (.ref (List.drop 0 (ZF x6)))=some (.agg (Yh x6.Decl)):=ZeZ (by simp only [List.length_drop,TF]; omega) (by first | exact Uy _ | rfl | (simp only [rSiteCode_eq]; rfl)) (by exact Ou _)
  obtain ⟨h8,hh8,g9,l10⟩:=mkH hp (Zw.cells [(.str []),(.own 3 []),(.own 17 []),(.own 3 []),(.own 3 []),(.own 1 []),(.own 1 []),(.own 1 []),(.own 1 []),(.own 1 []),(.own 4 []),(.own 5 []),(.own 3 [])] Yz)
  have g11:=keA hh8 f3310_0
  obtain ⟨h12,hh12,g13,l14⟩:=seH g9 (Zw.cells (Yh x6.Decl) Yz)
  have g15:=keS hh12 g11 (by omega)
  have e16:stV hp0.length 13 (.ptr hp.length 0) (.agg (Yh x6.Decl)) h8 none=some (h12,none):=by rw [← hh12]; exact Hq g9 (by first | rfl | exact VV _) (by simp) rfl (by omega) (by rw [XW]; exact Xn (by exact VV _) (by rfl))
  rcases Bool.eq_false_or_eq_true ((((decide (6 < (x6.Routines.length:Int))) || (decide (6 < (x6.Decl.Routines.length:Int)))) || (decide (60 < (IntKind.i64.wrap ((IntKind.i64.wrap ((IntKind.i64.wrap ((IntKind.i64.wrap ((IntKind.i64.wrap ((IntKind.i64.wrap ((x6.Decl.Vars.length:Int) + (x6.Decl.Resources.length:Int))) + (x6.Decl.Stores.length:Int))) + (x6.Decl.Queues.length:Int))) + (x6.Decl.Streams.length:Int))) + (x6.Decl.Starts.length:Int))) + (x6.Decl.Laws.length:Int))))))) with b17 | b17
  ·have ht:YG k0T (x6 :: r6) q6=false:=by simp only [Y9,YG,IFJ,b17]
   rw [ht]
   simp only [YL,Y3,Y9,COL,Zz,Zh,Jb,Zk,ZK,reduceAdd,reduceLeDiff,Nat.reduceBEq,a1,a3,LG f3310_0,ix6,e7,hh8,e16,LG g15,LG g13,b17]
   try rfl
  ·have ht:YG k0T (x6 :: r6) q6=QZ (KF (YG k0T r6) q6 x6) x6.Routines []:=by simp only [Y9,YG,IFJ,b17]
   rw [ht]
   have hk18:∀ (hp18:HP),hp0.length≤hp18.length→hp18[g_3310_0]? = some (.cells (ZX x0) Zy)→hp18[hp.length]? = some (.cells (Yh x6.Decl) Yz)→(YL C.G (Zb C M) C.L hp0 (Y3 C.G (Zb C M) C.L hp0 (Y9 C.G (Zb C M) C.L hp0 k0 m))) (.ptr g_3310_0 0) (.int .i64 (q6.length:Int)) (.ptr hp.length 0) hp18 none=some ((AV.bool (KF (YG k0T r6) q6 x6)),hp0,none):=by
    intro hp18 hh18 fz3337_0 fz3337_1
    have lt_fz3337_0:=(List.getElem?_eq_some_iff.1 fz3337_0).1
    have lt_fz3337_1:=(List.getElem?_eq_some_iff.1 fz3337_1).1
    have ht:KF (YG k0T r6) q6 x6=Xa (KE (YG k0T r6) q6 x6) x6.Decl.Routines []:=by simp only [KF,IFJ]
    rw [ht]
    have hk19:∀ (hp19:HP),hp0.length≤hp19.length→hp19[g_3310_0]? = some (.cells (ZX x0) Zy)→hp19[hp.length]? = some (.cells (Yh x6.Decl) Yz)→(Y3 C.G (Zb C M) C.L hp0 (Y9 C.G (Zb C M) C.L hp0 k0 m)) (.ptr g_3310_0 0) (.int .i64 (q6.length:Int)) hp19 none=some ((AV.bool (KE (YG k0T r6) q6 x6)),hp0,none):=by
     intro hp19 hh19 fz3351_0 fz3351_1
     have lt_fz3351_0:=(List.getElem?_eq_some_iff.1 fz3351_0).1
     have lt_fz3351_1:=(List.getElem?_eq_some_iff.1 fz3351_1).1
     have ht:KE (YG k0T r6) q6 x6=(YG k0T r6) (q6 ++ [x6]):=by simp only [KE,IFJ]
     rw [ht]
     have hx:=CB hC M x0 hM hp0 okx0 g_3310_0 hb k0 k0T hk0 r6 (q6 ++ [x6]) m hp19 a4 (by simpa using hr) (by omega) fz3351_0
     simp only [YL,Y3,Y9,COL,Zz,Zh,Jb,Zk,ZK,reduceAdd,reduceLeDiff,Nat.reduceBEq,a1,a3,LG f3310_0,ix6,e7,hh8,e16,LG g15,LG g13,b17,hx]
     try rfl
    have hb':x6.Decl.Routines.length≤4611686018427387:=(by have:=(okx6.Decl.Routines).1; omega)
    have hx:=CG hC M x0 q6 x6 (by omega) hp0 okx6 me6 g_3310_0 hp.length hb' (Y3 C.G (Zb C M) C.L hp0 (Y9 C.G (Zb C M) C.L hp0 k0 m)) (KE (YG k0T r6) q6 x6) hk19 x6.Decl.Routines [] C.L hp18 rfl (by have:=hC.L; omega) (by omega) fz3337_0 fz3337_1
    try simp only [NIL] at hx
    simp only [YL,Y3,Y9,COL,Zz,Zh,Jb,Zk,ZK,reduceAdd,reduceLeDiff,Nat.reduceBEq,a1,a3,LG f3310_0,ix6,e7,hh8,e16,LG g15,LG g13,b17,hx]
    try rfl
   have hb':x6.Routines.length≤4611686018427387:=(by have:=(okx6.Routines).1; omega)
   have hx:=CE hC M x0 q6 x6 (by omega) hp0 okx6 ix6 g_3310_0 hp.length hb' (YL C.G (Zb C M) C.L hp0 (Y3 C.G (Zb C M) C.L hp0 (Y9 C.G (Zb C M) C.L hp0 k0 m))) (KF (YG k0T r6) q6 x6) hk18 x6.Routines [] C.L h12 rfl (by have:=hC.L; omega) (by omega) g15 g13
   try simp only [NIL] at hx
   simp only [YL,Y3,Y9,COL,Zz,Zh,Jb,Zk,ZK,reduceAdd,reduceLeDiff,Nat.reduceBEq,a1,a3,LG f3310_0,ix6,e7,hh8,e16,LG g15,LG g13,b17,hx]
   try rfl
def KG (x0:ZN):Bool :=
 ((decide ((x0.Sites.length:Int)≤20)) && (decide ((x0.Links.length:Int)≤40)))
def Bv (x0:ZN):Bool :=
 YG (KG x0) x0.Sites []
theorem ZpD {C:Cfg}(hC:LH C)(N:Nat)(x0:ZN)(hN:SizeOf.sizeOf x0 + 2≤N)(hp0:HP)(okx0:Qn x0):Zb C N CP [(.agg (ZX x0))] hp0=some ((AV.bool (Bv x0)),hp0,none):=by
 obtain ⟨M,rfl,hh⟩:=exM hp0 (by omega:1≤N)
 refine ZkW (by rw [hC.T]; rfl) ?_
 obtain ⟨h1,hh1,g2,l3⟩:=mkH hp0 (Zw.cells (ZX x0) Zy)
 have ht:Bv x0=YG (KG x0) x0.Sites []:=by simp only [Bv,IFJ]
 rw [ht]
 have hk4:∀ (hp4:HP),hp0.length≤hp4.length→hp4[hp0.length]? = some (.cells (ZX x0) Zy)→(JU C.G (Zb C M) C.L hp0) (.ptr hp0.length 0) hp4 none=some ((AV.bool (KG x0)),hp0,none):=by
  intro hp4 hh4 fz3352_0
  have lt_fz3352_0:=(List.getElem?_eq_some_iff.1 fz3352_0).1
  have ht:KG x0=((decide ((x0.Sites.length:Int)≤20)) && (decide ((x0.Links.length:Int)≤40))):=by simp only [KG,IFJ]
  rw [ht]
  simp only [Nv,YL,Y3,JU,COL,Zz,Zh,Jb,Zk,ZK,reduceAdd,reduceLeDiff,Nat.reduceBEq,hh1,LG fz3352_0]
  try rfl
 have hb':x0.Sites.length≤4611686018427387:=(by have:=(okx0.Sites).1; omega)
 have hx:=CB hC M x0 (by omega) hp0 okx0 hp0.length hb' (JU C.G (Zb C M) C.L hp0) (KG x0) hk4 x0.Sites [] C.L h1 rfl (by have:=hC.L; omega) (by omega) g2
 try simp only [NIL] at hx
 simp only [Nv,YL,Y3,JU,COL,Zz,Zh,Jb,Zk,ZK,reduceAdd,reduceLeDiff,Nat.reduceBEq,hh1,hx]
 try rfl
noncomputable def QM (x0:ZN)(x1:Int)(x2:Q3):Option Bool :=
 if ((!(Bv x0)) || (!(UX x2)))=true then some true else Yq ((QY x0 x1 x2)) fun v3=>Yq ((X7 x0 x1 x2)) fun v4=>some ((decide (v3=v4)) && true)
theorem AZ {C:Cfg}(hC:LH C)(N:Nat)(x0:ZN)(x1:Int)(x2:Q3)(hN:SizeOf.sizeOf x0 + 4 * SizeOf.sizeOf x2 + 9≤N)(hp0:HP)(okx0:Qn x0)(okx1:-9223372036854775808≤x1∧x1≤9223372036854775807)(okx2:OH x2){res}(hres:QM x0 x1 x2=some res):Zb C N Ii [(.agg (ZX x0)),(.int .i64 x1),(.agg (Qr x2))] hp0=some ((AV.bool res),hp0,none):=by
 obtain ⟨M,rfl,hh⟩:=exM hp0 (by omega:1≤N)
 refine SA (by rw [hC.T]; rfl) ?_
 obtain ⟨h3,hh3,g4,l5⟩:=mkH hp0 (Zw.cells (ZX x0) Zy)
 obtain ⟨h6,hh6,g7,l8⟩:=mkH h3 (Zw.cells (Qr x2) Yp)
 have g9:=keA hh6 g4
 have c10:=fun hp:HP=>ZpD hC M x0 (by omega) hp okx0
 have c11:=fun hp:HP=>Zci hC M x2 (by omega) hp okx2
 rcases Bool.eq_false_or_eq_true (((!(Bv x0)) || (!(UX x2)))) with b12 | b12
 ·have c13:=fun hp:HP=>Zss hC M (by omega) hp
  simp only [QM,IFJ,b12] at hres
  cases hres
  simp only [Iu,COL,Zz,Zh,reduceAdd,reduceLeDiff,Nat.reduceBEq,hh3,hh6,LG g9,c10,LG g7,c11,b12,c13]
  try rfl
 ·cases q16:(QY x0 x1 x2) with
  | none =>
   simp only [QM,IFJ,Yc,b12,q16] at hres; cases hres
  | some v15 =>
   have c14:=fun hp:HP=>Zjt hC M x0 x1 x2 (by omega) hp okx0 okx1 okx2 q16
   cases q19:(X7 x0 x1 x2) with
   | none =>
    simp only [QM,IFJ,Yc,b12,q16,Ze,q19] at hres; cases hres
   | some v18 =>
    have c17:=fun hp:HP=>ZlC hC M x0 x1 x2 (by omega) hp okx0 okx2 q19
    have c20:=fun hp:HP=>Zss hC M (by omega) hp
    simp only [QM,IFJ,b12,q16,Ze,q19] at hres
    cases hres
    simp only [Iu,COL,Zz,Zh,reduceAdd,reduceLeDiff,Nat.reduceBEq,hh3,hh6,LG g9,c10,LG g7,c11,b12,c14,c17,c20]
    try rfl
end Go.Proofs.YtleomfgijkapfaaGreatDoor
end
section
namespace Go.Proofs.YtleomfgijkapfaaGreatDoor
open Go Go.RowKit Go.Proofs.YtleomfgijkapfaaGreatDoor.Abs
open Nat (reduceAdd reduceLeDiff)
set_option maxRecDepth 100000
theorem ZvU {α:Type}(f:α→α→Bool):∀ (l m:List α),l.length=m.length→(∀ x ∈ l,∀ y ∈ m,f x y=eqv x y)→all2 f l m=eqv l m
 | [],[],_,_=>by simp [all2,Zuy]
 | [],_ :: _,h,_=>by simp at h
 | _ :: _,[],h,_=>by simp at h
 | x :: l,y :: m,h,hf=>by
  rw [all2,hf x (List.mem_cons_self ..) y (List.mem_cons_self ..),Zux,ZvU f l m (by simpa using h) (fun a ha b hb=>hf a (List.mem_cons_of_mem _ ha) b (List.mem_cons_of_mem _ hb))]
  cases eqv x y <;> simp
theorem ZtK:∀ (k:Nat) (a b:ZH),SizeOf.sizeOf a≤k→PE a b=eqv a b
 | 0,a,_,h=>absurd h (by have:=ZdR a; omega)
 | k + 1,a,b,h=>by
  rw [ZqD,Zu8,Zuw]
  by_cases hl:a.Kids.length=b.Kids.length
  ·have h1:decide ((a.Kids.length:Int)≠(b.Kids.length:Int))=false:=by simp only [decide_eq_false_iff_not]; omega
   rw [h1,ZvU PE a.Kids b.Kids hl (fun x hx y hy=>ZtK k x y (by have:=ZbZ hx; omega))]
   simp only [ZwX]
   cases eqv a.Op b.Op <;> cases eqv a.Name b.Name <;> cases eqv a.N b.N <;> simp
  ·have h1:decide ((a.Kids.length:Int)≠(b.Kids.length:Int))=true:=by simp only [decide_eq_true_eq]; omega
   rw [h1,ZwY hl]; simp
theorem Zye (a b:ZH):PE a b=eqv a b:=ZtK _ a b (Nat.le_refl _)
end Go.Proofs.YtleomfgijkapfaaGreatDoor
end
section
namespace Go.Proofs.YtleomfgijkapfaaGreatDoor
open Go Go.RowKit Go.Proofs.YtleomfgijkapfaaGreatDoor.Abs
open Nat (reduceAdd reduceLeDiff)
set_option maxRecDepth 100000
set_option maxHeartbeats 0
theorem ZbW {α:Type}{l:List α}{i:Int}(h0:0≤i)(h1:i < (l.length:Int)):∃ x,Iw l i=some x:=by
 have h:i.toNat < l.length:=by omega
 exact ⟨l[i.toNat],by simp [Iw,h0,h]⟩
def ZuH (k:Int):List UInt8:=((([[],[115,108,111,116],[118,97,114],[115,116,114,101,97,109],[105,110,115,116,114],[114,101,115,111,117,114,99,101],[115,116,111,114,101],[98,101,108,116],[113,117,101,117,101],[115,105,116,101],[114,111,117,116,105,110,101],[116,97,108,108,121],[108,101,118,101,108],[99,111,117,110,116]]:List (List UInt8))[k.toNat]?).getD [])
structure FR (o:Int)(f:O9)(g:YO):Prop where
 qc:f.c=g.C
 qe:f.e=g.E
 qf:f.f=g.F
 qargs:f.args=g.Args
 qdist:f.dist=g.Dist
 qpre:f.preempt=g.Flag
 qa:g.A=ZuH f.a
 qb:g.B=ZuH f.b
 a0:decide (g.A=[])=decide (f.a=0)
 b0:decide (g.B=[])=decide (f.b=0)
 ak:f.a=0∨f.a ∈ [1,2,3,4,5,6,7,8,9,11,12,13]
 bk:o≠14→o≠15→f.b=0∨f.b ∈ [1,2,3,4,5,6,7,8,9,11,12,13]
 d3:f.dist=decide (o=3)
 s14:o=14→f.a=9
theorem Zs4 (o:Int)(h1:1≤o)(h2:o≤19):∃ f g,Iw KW o=some f∧Iw WO o=some g∧FR o f g:=by
 have:o=1∨o=2∨o=3∨o=4∨o=5∨o=6∨o=7∨o=8∨o=9∨o=10∨o=11∨o=12∨o=13∨o=14∨o=15∨o=16∨o=17∨o=18∨o=19:=by omega
 rcases this with rfl | rfl | rfl | rfl | rfl | rfl | rfl | rfl | rfl | rfl | rfl | rfl | rfl | rfl | rfl | rfl | rfl | rfl | rfl <;> exact ⟨_,_,rfl,rfl,⟨rfl,rfl,rfl,rfl,rfl,rfl,by decide,by decide,by decide,by decide,by decide,by decide,by decide,by decide⟩⟩
theorem ZjM {p:ZN}{s:Int}{c:Q3}{d:Ym}(hd:Iw p.Sites s=some d){k:Int}(x:Int)(hk:k ∈ [1,2,3,4,5,6,7,8,9,11,12,13]):∃ b,Z8 ⟨p,s,c⟩ k x 0=some b∧Qv p s c (ZuH k) x=some b:=by
 simp only [List.mem_cons,List.not_mem_nil,or_false] at hk
 rcases hk with rfl | rfl | rfl | rfl | rfl | rfl | rfl | rfl | rfl | rfl | rfl | rfl <;> by_cases h0:0≤x <;> simp [Z8,Z7,Qv,Qu,ZuH,hd,Yq,h0]
theorem Z0g {p:ZN}{s:Int}{c:Q3}{d:Ym}(hd:Iw p.Sites s=some d)(x:Int):∃ b,Z8 ⟨p,s,c⟩ 0 x 0=some b:=by
 by_cases h0:0≤x <;> simp [Z8,Z7,hd,Yq,h0]
theorem Zqq {p:ZN}{s:Int}{c:Q3}{d d':Ym}(hd:Iw p.Sites s=some d){i:Int}(hi:Iw p.Sites i=some d')(x:Int):Z8 ⟨p,s,c⟩ 10 x i=some (decide (0≤x) && decide (x < (d'.Routines.length:Int))):=by
 by_cases h0:0≤x <;> simp [Z8,Z7,hd,hi,Yq,h0]
theorem ZjN (p:ZN)(s:Int)(c:Q3)(x:Int):Qv p s c [] x=some true:=by simp [Qv]
theorem ZhH {u w y:Bool}{X:Option Bool}(h:X=some y):(if (u && w)=true then some false else X)=some (!(u && w) && y):=by cases u <;> cases w <;> simp [h]
theorem ZtL (e:ZH):PE e ⟨0,[],0,[]⟩=Zju e:=by
 rw [Zye]
 cases e with
 | mk o n i k =>
  by_cases h:(⟨o,n,i,k⟩:ZH)=⟨0,[],0,[]⟩
  ·rw [N8.2 h]; cases h; rfl
  ·have:eqv (⟨o,n,i,k⟩:ZH) ⟨0,[],0,[]⟩=false:=by
    cases hq:eqv (⟨o,n,i,k⟩:ZH) ⟨0,[],0,[]⟩ with
    | false=>rfl
    | true=>exact (h (N8.1 hq)).elim
   rw [this]
   cases hz:Zju ⟨o,n,i,k⟩ with
   | false=>rfl
   | true =>
    simp [Zju] at hz
    exact (h (by simp [hz])).elim
theorem Zoy {x:Yo}{f:O9}{g:YO}(hf:Iw KW x.Op=some f)(hg:Iw WO x.Op=some g)(r:FR x.Op f g):∃ b,Hu x=some b∧X8 x=some b∧(b=true→f.a=0→x.A=0)∧(b=true→f.b=0→x.B=0):=by
 refine ⟨_,by unfold Hu; rw [hf,Ze],?_,?_,?_⟩
 ·unfold X8
  rw [hg,Ze,ZhH (ZhH (ZhH (ZhH (ZhH (ZhH (ZhH rfl))))))]
  simp only [ZtL,MK,r.a0,r.b0,← r.qc,← r.qe,← r.qf,← r.qargs,← r.qdist,← r.qpre]
  have h1:decide (0 < (x.Args.length:Int))=!decide ((x.Args.length:Int)=0):=by
   by_cases h:(x.Args.length:Int)=0
   ·rw [h]; rfl
   ·have:(0:Int) < (x.Args.length:Int):=by omega
    simp only [this,h,decide_true,decide_false,Bool.not_false]
  simp only [h1,ne_eq,decide_not]
  generalize decide (f.a=0)=v1,decide (x.A=0)=v2,decide (f.b=0)=v3,decide (x.B=0)=v4,f.c=v5,decide (x.C=0)=v6,f.preempt=v7,x.Flag=v8,f.e=v9,Zju x.E=v10,f.f=v11,Zju x.F=v12,f.args=v13,decide ((x.Args.length:Int)=0)=v14,f.dist=v15,ZhT x.Dist=v16
  have e1:(!(v1 && !v2))=(!v1 || v2):=by cases v1 <;> cases v2 <;> rfl
  have e2:(!(v3 && !v4))=(!v3 || v4):=by cases v3 <;> cases v4 <;> rfl
  have e3:(!(!v5 && !v6))=(v5 || v6):=by cases v5 <;> cases v6 <;> rfl
  have e4:(!(!v7 && v8))=(v7 || !v8):=by cases v7 <;> cases v8 <;> rfl
  have e5:(!(!v9 && !v10))=(v9 || v10):=by cases v9 <;> cases v10 <;> rfl
  have e6:(!(!v11 && !v12))=(v11 || v12):=by cases v11 <;> cases v12 <;> rfl
  have e7:(!(!v13 && !!v14))=(v13 || !v14):=by cases v13 <;> cases v14 <;> rfl
  have e8:(!(!v13 && !v14))=(v13 || v14):=by cases v13 <;> cases v14 <;> rfl
  rw [e1,e2,e3,e4,e5,e6,e8]
  generalize (!v1 || v2)=w1,(!v3 || v4)=w2,(v5 || v6)=w3,(v7 || !v8)=w4,(v9 || v10)=w5,(v11 || v12)=w6,(v13 || v14)=w7,(v15 || v16)=w8
  congr 1
  revert w1 w2 w3 w4 w5 w6 w7 w8; decide
 ·intro h ha; simp [ha] at h; simp [h]
 ·intro h hb; simp [hb] at h; simp [h]
end Go.Proofs.YtleomfgijkapfaaGreatDoor
end
section
namespace Go.Proofs.YtleomfgijkapfaaGreatDoor
open Go Go.RowKit Go.Proofs.YtleomfgijkapfaaGreatDoor.Abs
open Nat (reduceAdd reduceLeDiff)
set_option maxRecDepth 100000
set_option maxHeartbeats 0
theorem Zm7 {r:YP→ZH→Option Bool}{x:YP}(b:ZH→Bool)(l:List ZH)(h:∀ e ∈ l,r x e=some (b e)):Zc r l x=some (!(l.all b)):=by
 have key:∀ (l q:List ZH),(∀ e ∈ l,r x e=some (b e))→∃ i,Zp r x (some (-1)) l q=some i∧decide (0≤i)=!(l.all b):=by
  intro l
  induction l with
  | nil=>intro q _; exact ⟨-1,by simp [Zp],by simp⟩
  | cons e l ih =>
   intro q hl
   have he:=hl e (List.mem_cons_self ..)
   simp only [Zp,Xo,he,Ze]
   cases hb:b e with
   | false=>exact ⟨(q.length:Int),by simp,by simp [hb]⟩
   | true =>
    obtain ⟨i,h1,h2⟩:=ih (q ++ [e]) fun z hz=>hl z (List.mem_cons_of_mem _ hz)
    exact ⟨i,by simpa using h1,by rw [h2]; simp [hb]⟩
 obtain ⟨i,h1,h2⟩:=key l [] h
 unfold Zc ZV ZR
 rw [h1,Ze,h2]
theorem ZqE {r:ZN→Int→Q3→ZH→Option Bool}{p:ZN}{s:Int}{c:Q3}(b:ZH→Bool):∀ (l q:List ZH),(∀ e ∈ l,r p s c e=some (b e))→Vk r p s c (some true) l q=some (l.all b)
 | [],q,_=>by simp [Vk]
 | e :: l,q,h=>by
  have he:=h e (List.mem_cons_self ..)
  simp only [Vk,he,Ze]
  cases hb:b e with
  | false=>simp [hb]
  | true=>simpa [hb] using ZqE b l (q ++ [e]) fun z hz=>h z (List.mem_cons_of_mem _ hz)
theorem Zhb {α:Type}{f:α→Int}:∀ {l:List α},NV f l=0→∀ x ∈ l,f x=0
 | [],_,x,hx=>by cases hx
 | y :: l,h,x,hx=>by
  unfold NV at h
  split at h
  ·rename_i hy; simp only [decide_eq_true_eq] at hy; exact (hy h).elim
  ·rename_i hy
   rcases List.mem_cons.1 hx with rfl | hx
   ·simpa using hy
   ·exact Zhb h x hx
theorem Zrn {e:ZH}(h:Hl true e=0):ZeP true e=0∧∀ x ∈ e.Kids,Hl true x=0:=by
 rw [Zho] at h
 split at h
 ·rename_i hy; simp only [decide_eq_true_eq] at hy; exact (hy h).elim
 ·rename_i hy; exact ⟨by simpa using hy,Zhb h⟩
theorem Zrb {e:ZH}(h:Jj true e=0):Hl true e=0:=by
 unfold Jj at h
 split at h
 ·cases h
 ·split at h
  ·cases h
  ·exact h
theorem Zqt {e:ZH}(h:ZeP true e=0)(ho:e.Op=22∨e.Op=23∨e.Op=24∨e.Op=25∨e.Op=26):0≤e.N:=by
 unfold ZeP at h
 split at h
 ·cases h
 ·split at h
  ·rename_i h1; simp only [decide_eq_true_eq] at h1; omega
  ·split at h
   ·cases h
   ·split at h
    ·cases h
    ·rename_i h3
     by_cases hN:0≤e.N
     ·exact hN
     ·exfalso; apply h3
      have hn:e.N < 0:=by omega
      rcases ho with ho | ho | ho | ho | ho <;> simp [ZtY,ZrL,ho,hn]
theorem ZnA {p:ZN}{s:Int}{c:Q3}{d:Ym}(hd:Iw p.Sites s=some d):∀ (n:Nat) (e:ZH),SizeOf.sizeOf e≤n→Hl true e=0→∃ b,YC n ⟨p,s,c⟩ e=some b∧KD n p s c e=some b
 | 0,e,h,_=>by cases e; simp at h
 | n + 1,e,h,hz=>by
  obtain ⟨hn,hk⟩:=Zrn hz
  have ih:∀ x ∈ e.Kids,∃ b,YC n ⟨p,s,c⟩ x=some b∧KD n p s c x=some b:=fun x hx=>by
   have h1:=ZbZ hx
   exact ZnA hd n x (by omega) (hk x hx)
  let b:ZH→Bool:=fun x=>(YC n ⟨p,s,c⟩ x).getD false
  have k1:∀ x ∈ e.Kids,YC n ⟨p,s,c⟩ x=some (b x):=fun x hx=>by
   obtain ⟨v,h1,h2⟩:=ih x hx
   show _=some ((YC n ⟨p,s,c⟩ x).getD false)
   rw [h1]; rfl
  have k2:∀ x ∈ e.Kids,KD n p s c x=some (b x):=fun x hx=>by
   obtain ⟨v,h1,h2⟩:=ih x hx
   show _=some ((YC n ⟨p,s,c⟩ x).getD false)
   rw [h1,h2]; rfl
  have c1:=Zm7 b e.Kids k1
  have c2:=ZqE b e.Kids [] k2
  rw [YC,KD]
  unfold ZC KH TK
  simp only [c1,c2,hd,Ze,Z8,Z7,Bool.not_not]
  by_cases o1:e.Op=25
  ·have:=Zqt hn (by omega)
   by_cases q:e.N < c.Slots
   ·have q':¬ c.Slots≤e.N:=by omega
    simp [o1,this,q,q',Yq]
   ·have q':c.Slots≤e.N:=by omega
    simp [o1,this,q,q',Yq]
  ·by_cases o2:e.Op=26
   ·have:=Zqt hn (by omega)
    by_cases q:e.N < (d.Decl.Vars.length:Int)
    ·have q':¬ (d.Decl.Vars.length:Int)≤e.N:=by omega
     simp [o2,this,q,q',Yq]
    ·have q':(d.Decl.Vars.length:Int)≤e.N:=by omega
     simp [o2,this,q,q',Yq]
   ·by_cases o3:e.Op=22
    ·have:=Zqt hn (by omega)
     by_cases q:e.N < (d.Decl.Resources.length:Int)
     ·have q':¬ (d.Decl.Resources.length:Int)≤e.N:=by omega
      simp [o3,this,q,q',Yq]
     ·have q':(d.Decl.Resources.length:Int)≤e.N:=by omega
      simp [o3,this,q,q',Yq]
    ·by_cases o4:e.Op=23
     ·have:=Zqt hn (by omega)
      by_cases q:e.N < (d.Decl.Stores.length:Int)
      ·have q':¬ (d.Decl.Stores.length:Int)≤e.N:=by omega
       simp [o4,this,q,q',Yq]
      ·have q':(d.Decl.Stores.length:Int)≤e.N:=by omega
       simp [o4,this,q,q',Yq]
     ·by_cases o5:e.Op=24
      ·by_cases q:e.N < IntKind.i64.wrap ((d.Decl.Resources.length:Int) + (d.Decl.Queues.length:Int))
       ·have q':¬ IntKind.i64.wrap ((d.Decl.Resources.length:Int) + (d.Decl.Queues.length:Int))≤e.N:=by omega
        simp [o5,q,q',Yq]
       ·have q':IntKind.i64.wrap ((d.Decl.Resources.length:Int) + (d.Decl.Queues.length:Int))≤e.N:=by omega
        simp [o5,q,q',Yq]
      ·simp [o1,o2,o3,o4,o5]
theorem ZrF {p:ZN}{s:Int}{c:Q3}{d:Ym}(hd:Iw p.Sites s=some d){e:ZH}(h:Jj true e=0):∃ b,Zjr ⟨p,s,c⟩ e=some b∧ZvJ p s c e=some b:=ZnA hd _ e (Nat.le_refl _) (Zrb h)
end Go.Proofs.YtleomfgijkapfaaGreatDoor
end
section
namespace Go.Proofs.YtleomfgijkapfaaGreatDoor
open Go Go.RowKit Go.Proofs.YtleomfgijkapfaaGreatDoor.Abs
open Nat (reduceAdd reduceLeDiff)
set_option maxRecDepth 100000
set_option maxHeartbeats 0
theorem ZpR (a b:Int):∀ (l q:List Zff) (w:List Zff),w=q ++ l→∃ i,Zl a b (-1) l q=i ∧
  ((i=-1∧WX a b (0,false) l q=(0,false))∨(0≤i∧∃ x,Iw w i=some x∧WX a b (0,false) l q=(x.Delay,true)))
 | [],q,w,h=>⟨-1,by simp [Zl],.inl ⟨rfl,by simp [WX]⟩⟩
 | x :: l,q,w,h=>by
  simp only [Zl,WX]
  have he:Ht x a b=(decide (x.From=a) && decide (x.To=b)):=rfl
  rw [← he]
  by_cases hb:Ht x a b=true
  ·refine ⟨(q.length:Int),by rw [if_pos hb],.inr ⟨by simp,x,by subst h; simp [Iw],by rw [if_pos hb]⟩⟩
  ·obtain ⟨i,h1,h2⟩:=ZpR a b l (q ++ [x]) w (by rw [h]; simp)
   refine ⟨i,by rw [if_neg hb]; exact h1,?_⟩
   rw [if_neg hb]; exact h2
theorem Zy2 (p:ZN)(a b:Int):Ox p a b=some (KA p a b):=by
 obtain ⟨i,h1,h2⟩:=ZpR a b p.Links [] p.Links rfl
 unfold Ox Z9 ZM KA UD
 rw [h1]
 rcases h2 with ⟨h2,h3⟩ | ⟨h2,x,h3,h4⟩
 ·rw [h3,h2]; rfl
 ·rw [h4,if_neg (by simpa using h2),h3]; rfl
theorem ZsL {p:ZN}{s:Int}{c:Q3}{d:Ym}(hd:Iw p.Sites s=some d)(k:Int):∀ (l q:List ZH),∃ v,WH p s c (some k) l q=some v∧Y5 ⟨p,s,c⟩ (some k) l q=some v∧Yv ⟨p,s,c⟩ (some k) l q=some v∧Yw ⟨p,s,c⟩ (some k) l q=some v∧Yx ⟨p,s,c⟩ (some k) l q=some v
 | [],q=>⟨k,by simp [WH],by simp [Y5],by simp [Yv],by simp [Yw],by simp [Yx]⟩
 | x :: l,q=>by
  simp only [WH,Y5,Yv,Yw,Yx]
  by_cases hz:Jj true x=0
  ·obtain ⟨b,h1,h2⟩:=ZrF (c := c) hd hz
   obtain ⟨v,hv⟩:=ZsL hd k l (q ++ [x])
   cases b with
   | false=>exact ⟨2,by simp [hz,h2,Yq],by simp [hz,h1,Yq],by simp [hz,h1,Yq],by simp [hz,h1,Yq],by simp [hz,h1,Yq]⟩
   | true=>exact ⟨v,by simpa [hz,h2,Yq] using hv.1,by simpa [hz,h1,Yq] using hv.2.1,by simpa [hz,h1,Yq] using hv.2.2.1,by simpa [hz,h1,Yq] using hv.2.2.2.1,by simpa [hz,h1,Yq] using hv.2.2.2.2⟩
  ·exact ⟨Jj true x,by simp [hz],by simp [hz],by simp [hz],by simp [hz],by simp [hz]⟩
theorem Zad {α:Type}{b:Nat}{l m:List α}(h:(l.length + m.length) * b≤140737488355328):Rj b l m=some (l ++ m):=by simp [Rj,h]
theorem Zuz {x:Yo}{f:O9}{g:YO}(ok:LK x)(k1:XC x.Op=true)(hf:Iw KW x.Op=some f)(hg:Iw WO x.Op=some g)(r:FR x.Op f g):∃ l,Z5 x=some l∧YI x=some l:=by
 have ha:=ok.Args.1
 have k2:VC x.Op=true:=k1
 have e1:Rj 56 [] [x.E]=some [x.E]:=Zad (by simp)
 have e2:Rj 56 [x.E] [x.F]=some [x.E,x.F]:=Zad (by simp)
 have e3:Rj 56 [] [x.F]=some [x.F]:=Zad (by simp)
 have e4:Rj 56 [x.E,x.F] x.Args=some ([x.E,x.F] ++ x.Args):=Zad (by simp only [List.length_cons,List.length_nil]; omega)
 have e5:Rj 56 [x.E] x.Args=some ([x.E] ++ x.Args):=Zad (by simp only [List.length_cons,List.length_nil]; omega)
 have e6:Rj 56 [x.F] x.Args=some ([x.F] ++ x.Args):=Zad (by simp only [List.length_cons,List.length_nil]; omega)
 have e7:Rj 56 [] x.Args=some ([] ++ x.Args):=Zad (by simp only [List.length_nil]; omega)
 unfold Z5 YI
 rw [hf,hg,k1,k2]
 simp only [Ze,← r.qe,← r.qf,← r.qargs,e1,e2,e3,e4,e5,e6,e7]
 cases f.e <;> cases f.f <;> cases f.args <;> exact ⟨_,rfl,rfl⟩
theorem ZpS {p:ZN}{i:Int}{x:Yo}{d:Ym}(hi:Iw p.Sites i=some d) :
  (x.B < 0∨(d.Routines.length:Int)≤x.B)∧Ve p i x=some 2 ∨
  (0≤x.B∧x.B < (d.Routines.length:Int))∧∃ r,Iw d.Routines x.B=some r∧Ve p i x=some (if decide ((x.Args.length:Int)≠r.Params)=true then 8 else 0):=by
 unfold Ve
 rw [hi,Ze]
 by_cases h1:x.B < 0
 ·exact .inl ⟨.inl h1,by simp [h1]⟩
 ·by_cases h2:(d.Routines.length:Int)≤x.B
  ·exact .inl ⟨.inr h2,by simp [h2]⟩
  ·obtain ⟨r,hr⟩:=ZbW (l := d.Routines) (i := x.B) (by omega) (by omega)
   refine .inr ⟨⟨by omega,by omega⟩,r,hr,?_⟩
   have c1:(decide (x.B < 0) || decide ((d.Routines.length:Int)≤x.B))=false:=by simp [h1,h2]
   rw [c1,hr,Ze]
   by_cases h3:(x.Args.length:Int)=r.Params <;> simp [h3]
theorem ZuA {p:ZN}{s:Int}{c:Q3}{d:Ym}(hd:Iw p.Sites s=some d)(hs:0≤s){x:Yo}(ok:LK x):∃ v,Zr ⟨p,s,c⟩ x=some v∧VB p s c x=some v:=by
 unfold Zr VB
 cases hk:XC x.Op with
 | false =>
  have:VC x.Op=false:=hk
  exact ⟨1,by simp,by simp [this]⟩
 | true =>
  have k2:VC x.Op=true:=hk
  have hb:1≤x.Op∧x.Op≤19:=by simpa [XC] using hk
  obtain ⟨f,g,hf,hg,r⟩:=Zs4 x.Op hb.1 hb.2
  obtain ⟨b,c1,c2,ca,cb⟩:=Zoy hf hg r
  rw [k2,c1,c2]
  cases b with
  | false=>exact ⟨1,by simp [Yq],by simp [Yq]⟩
  | true =>
   obtain ⟨l,l1,l2⟩:=Zuz ok hk hf hg r
   have hc1:WN x f=some (if x.Op=3 then ZbL x.Dist else 0):=by simp only [WN,r.d3]; by_cases h3:x.Op=3 <;> simp [h3]
   have hc2:QF x f=some (if x.Op=3 then ZbL x.Dist else 0):=hc1
   have hc3:QG x f=some (if x.Op=3 then ZbL x.Dist else 0):=hc1
   have hc4:QH x f=some (if x.Op=3 then ZbL x.Dist else 0):=hc1
   have hr1:Ue x=some (if x.Op=3 then ZbL x.Dist else 0):=by simp only [Ue,Zus]; by_cases h3:x.Op=3 <;> simp [h3]
   obtain ⟨v,v0,v1,v2,v3,v4⟩:=ZsL (c := c) hd (if x.Op=3 then ZbL x.Dist else 0) l []
   simp only [Bool.not_true,Bool.false_eq_true,if_false,Ze,hf,l1,l2,hc1,hc2,hc3,hc4,hr1]
   unfold WP
   simp only [hg,Ze]
   have first:∃ u w,Z8 ⟨p,s,c⟩ f.a x.A 0=some u∧Qv p s c g.A x.A=some w∧((!u) && decide (f.a≠0))=!w:=by
    rcases r.ak with h | h
    ·obtain ⟨u,hu⟩:=Z0g (c := c) hd x.A
     refine ⟨u,true,by rw [h]; exact hu,by rw [r.qa,h]; exact ZjN _ _ _ _,by simp [h]⟩
    ·obtain ⟨u,hu,hw⟩:=ZjM (c := c) hd x.A h
     have:f.a≠0:=by rintro h0; rw [h0] at h; simp at h
     exact ⟨u,u,hu,by rw [r.qa]; exact hw,by simp [this]⟩
   obtain ⟨u,w,hu,hw,huw⟩:=first
   rw [hu,hw]
   simp only [Ze,huw]
   cases w with
   | false=>exact ⟨2,by simp,by simp [Yq]⟩
   | true =>
    simp only [Bool.not_true,Bool.false_eq_true,if_false]
    by_cases o14:x.Op=14
    ·have o15:x.Op≠15:=by omega
     have ha:f.a=9:=r.s14 o14
     have hin:0≤x.A∧x.A < (p.Sites.length:Int):=by
      rw [ha] at hu huw
      simp only [ne_eq,Int.reduceEq,not_false_eq_true,decide_true,Bool.and_true,Bool.not_true] at huw
      have hu':u=true:=by cases u <;> simp_all
      subst hu'
      unfold Z8 at hu
      by_cases h0:0≤x.A
      ·simp [h0,Z7,hd,Yq] at hu
       exact ⟨h0,hu⟩
      ·simp [h0] at hu
     obtain ⟨d',hd'⟩:=ZbW hin.1 hin.2
     rw [Zy2]
     simp only [o14,o15,decide_true,decide_false,if_true,if_false,Ze,Bool.false_eq_true,Int.reduceEq]
     cases hq:((!(KA p s x.A).2) || decide ((KA p s x.A).1≠x.C)) with
     | true=>exact ⟨16,by simp,by simp [Yq]⟩
     | false =>
      rw [Zqq hd hd' x.B,hd']
      rcases ZpS (x := x) hd' with ⟨h1,h2⟩ | ⟨⟨h1,h1'⟩,rr,h2,h3⟩
      ·rw [h2]
       have:(decide (0≤x.B) && decide (x.B < (d'.Routines.length:Int)))=false:=by
        rcases h1 with h1 | h1
        ·have:¬ 0≤x.B:=by omega
         simp [this]
        ·have:¬ x.B < (d'.Routines.length:Int):=by omega
         simp [this]
       exact ⟨2,by simp [Yq,this],by simp [Yq]⟩
      ·rw [h3]
       simp only [h1,h1',decide_true,Bool.and_self,Ze,Bool.not_true,Bool.false_eq_true,if_false,h2,v1]
       by_cases h4:(x.Args.length:Int)=rr.Params
       ·have v0':=v0
        simp only [o14] at v0' v1
        exact ⟨v,by simp_all [Yq],by simp_all [Yq]⟩
       ·exact ⟨8,by simp [h4],by simp [h4,Yq]⟩
    ·by_cases o15:x.Op=15
     ·simp only [o14,o15,decide_true,decide_false,if_true,if_false,Ze,Bool.false_eq_true,Int.reduceEq]
      rw [Zqq hd hd x.B,hd]
      rcases ZpS (x := x) hd with ⟨h1,h2⟩ | ⟨⟨h1,h1'⟩,rr,h2,h3⟩
      ·rw [h2]
       have:(decide (0≤x.B) && decide (x.B < (d.Routines.length:Int)))=false:=by
        rcases h1 with h1 | h1
        ·have:¬ 0≤x.B:=by omega
         simp [this]
        ·have:¬ x.B < (d.Routines.length:Int):=by omega
         simp [this]
       exact ⟨2,by simp [Yq,this],by simp [Yq]⟩
      ·rw [h3]
       simp only [h1,h1',decide_true,Bool.and_self,Ze,Bool.not_true,Bool.false_eq_true,if_false,h2]
       by_cases h4:(x.Args.length:Int)=rr.Params
       ·exact ⟨v,by simp_all [Yq],by simp_all [Yq]⟩
       ·exact ⟨8,by simp [h4],by simp [h4,Yq]⟩
     ·simp only [o14,o15,decide_false,Bool.false_eq_true,if_false]
      by_cases hb0:f.b=0
      ·have:Qv p s c g.B x.B=some true:=by rw [r.qb,hb0]; exact ZjN _ _ _ _
       rw [this]
       exact ⟨v,by simpa [hb0] using v4,by simpa [Yq] using v0⟩
      ·obtain ⟨u2,h1,h2⟩:=ZjM (c := c) hd x.B ((r.bk o14 o15).resolve_left hb0)
       rw [r.qb,h1,h2]
       cases u2 with
       | false=>exact ⟨2,by simp [hb0,Yq],by simp [Yq]⟩
       | true=>exact ⟨v,by simpa [hb0,Yq] using v3,by simpa [Yq] using v0⟩
theorem ZdP {p:ZN}{s:Int}{c:Q3}{d:Ym}(hd:Iw p.Sites s=some d)(hs:0≤s)(k:Int):∀ (l q:List Yo),(∀ x ∈ l,LK x)→∃ v,WW p s c (some k) l q=some v∧Qz p s c (some k) l q=some v
 | [],q,_=>⟨k,by simp [WW],by simp [Qz]⟩
 | x :: l,q,h=>by
  obtain ⟨v,h1,h2⟩:=ZuA (c := c) hd hs (h x (List.mem_cons_self ..))
  simp only [WW,Qz,h1,h2,Ze]
  by_cases hv:v=0
  ·obtain ⟨w,h3,h4⟩:=ZdP (c := c) hd hs k l (q ++ [x]) fun z hz=>h z (List.mem_cons_of_mem _ hz)
   exact ⟨w,by simpa [hv] using h3,by simpa [hv] using h4⟩
  ·exact ⟨v,by simp [hv],by simp [hv]⟩
theorem wrap_small {n:Int}(h0:0≤n)(h1:n≤1000000):IntKind.i64.wrap n=n:=ZzL (by omega) (by omega)
theorem ZrE (p:ZN)(s:Int)(c:Q3)(ok:OH c):∃ v,QY p s c=some v∧X7 p s c=some v:=by
 unfold QY X7
 cases h1:((decide (s < 0)) || (decide ((p.Sites.length:Int)≤s))) with
 | true=>exact ⟨2,by simp,by simp⟩
 | false =>
  simp only [Bool.or_eq_false_iff,decide_eq_false_iff_not] at h1
  obtain ⟨d,hd⟩:=ZbW (l := p.Sites) (i := s) (by omega) (by omega)
  by_cases h2:LW c.Name=0
  ·cases h3:((((decide (c.Params < 0)) || (decide (c.Slots < c.Params))) || (decide (6 < c.Params))) || (decide (16 < c.Slots))) with
   | true=>exact ⟨2,by simp [h2],by simp [h2]⟩
   | false =>
    by_cases h4:(c.Instrs.length:Int)=0
    ·exact ⟨7,by simp [h2,h4],by simp [h2,h4]⟩
    ·have h6:c.Instrs≠[]:=by rintro h; rw [h] at h4; simp at h4
     by_cases h5:1000 < (c.Instrs.length:Int)
     ·exact ⟨6,by simp [h2,h6,h5],by simp [h2,h6,h5]⟩
     ·have hw:IntKind.i64.wrap ((c.Instrs.length:Int) - 1)=(c.Instrs.length:Int) - 1:=wrap_small (by omega) (by omega)
      obtain ⟨y,hy⟩:=ZbW (l := c.Instrs) (i := (c.Instrs.length:Int) - 1) (by omega) (by omega)
      obtain ⟨k,hk⟩:∃ k,Xp c=some k:=by
       unfold Xp
       rw [hw,hy,Ze]
       split <;> exact ⟨_,rfl⟩
      have hk':VA c=some k:=hk
      rw [hk,hk']
      obtain ⟨v,v1,v2⟩:=ZdP (c := c) hd (by omega) k c.Instrs [] ok.Instrs.2
      refine ⟨v,?_,?_⟩
      ·simpa [h2,h6,h5] using v1
      ·simpa [h2,h6,h5] using v2
  ·exact ⟨LW c.Name,by simp [h2],by simp [h2]⟩
theorem Zcm (p:ZN)(s:Int)(c:Q3)(ok:OH c):QM p s c=some true:=by
 unfold QM
 obtain ⟨v,h1,h2⟩:=ZrE p s c ok
 split
 ·rfl
 ·rw [h1,h2,Ze,Ze]; simp
end Go.Proofs.YtleomfgijkapfaaGreatDoor
end
section
namespace Go.Proofs.YtleomfgijkapfaaGreatDoor.Abs
open Go Go.RowKit Go.ChangeShapes Go.WideShapes Go.Deep
open Nat (reduceAdd reduceLeDiff)
def ZvP (P:Program):List Field→Nat→Nat→Bool
 | [],o,n=>o == n
 | f :: r,o,n=>(f.offset == o) && ZvP P r (o + P.cellsOf f.type) n
def Zxq (P:Program):Nat→TypeId→Bool
 | 0,_=>false
 | n + 1,t=>match P.underlying t with
  | some .bool=>true
  | some (.int _)=>true
  | some .string=>true
  | some (.slice e)=>(decide (0 < P.cellsOf e) && decide (0 < P.bytesOf e)) && Zxq P n e
  | some (.struct fs)=>ZvP P fs.toList 0 (P.cellsOf t) && fs.toList.all fun f=>Zxq P n f.type
  | _=>false
def ZnR {H:Type}(P:Program):Nat→TypeId→List AV→DataW H→Prop
 | 0,_,_,_=>False
 | n + 1,t,az,d=>match P.underlying t with
  | some .bool=>∃ b,az=[.bool b]∧d=.lit (.bool b)
  | some (.int k)=>∃ x,az=[.int k x]∧d=.lit (.int k x)∧(Lit.int k x).wf=true
  | some .string=>∃ s,az=[.str s]∧d=.lit (.string s)∧s.length≤140737488351232
  | some (.slice e)=>∃ rows,az=[.lst (P.cellsOf e) rows]∧rows.length≤140737488351232∧((rows=[]∧d=.nil)∨∃ D ds spare,d=.slice ds spare∧ds=(List.range rows.length).map D∧∀ (i:Nat) (r:List AV),rows[i]? = some r→ZnR P n e r (D i))
  | some (.struct fs)=>az.length=P.cellsOf t∧∃ ds,d=.agg ds∧ds.length=fs.size∧∀ (i:Nat) (f:Field),fs.toList[i]? = some f→∃ di,ds[i]? = some di∧ZnR P n f.type ((az.drop f.offset).take (P.cellsOf f.type)) di
  | _=>False
structure Shp {H:Type}(P:Program)(n:Nat)(t:TypeId)(az:List AV)(d:DataW H):Prop where
 ok:ZnR P n t az d
theorem Zfd {n:Nat}(h:n≤reachBytes):n≤140737488351232:=h
theorem Shp.bool {H:Type}{P:Program}{n:Nat}{t:TypeId}{az:List AV}{d:DataW H}(h:Shp P (n + 1) t az d)(hu:P.underlying t=some .bool):∃ b,az=[.bool b]∧d=.lit (.bool b):=by
 have h:=h.ok; rw [ZnR,hu] at h; exact h
theorem Shp.int {H:Type}{P:Program}{n:Nat}{t:TypeId}{k:IntKind}{az:List AV}{d:DataW H}(h:Shp P (n + 1) t az d)(hu:P.underlying t=some (.int k)):∃ x,az=[.int k x]∧d=.lit (.int k x)∧k.min≤x∧x≤k.max:=by
 have h:=h.ok
 rw [ZnR,hu] at h
 obtain ⟨x,h1,h2,h3⟩:=h
 simp only [Lit.wf,Bool.and_eq_true,decide_eq_true_eq] at h3
 exact ⟨x,h1,h2,h3⟩
theorem Shp.i64 {H:Type}{P:Program}{n:Nat}{t:TypeId}{az:List AV}{d:DataW H}(h:Shp P (n + 1) t az d)(hu:P.underlying t=some (.int .i64)):∃ x,az=[.int .i64 x]∧d=.lit (.int .i64 x)∧-9223372036854775808≤x∧x≤9223372036854775807:=by
 obtain ⟨x,h1,h2,h3⟩:=h.int hu
 exact ⟨x,h1,h2,by simpa [IntKind.min,IntKind.max,IntKind.signed,IntKind.bits] using h3⟩
theorem Shp.str {H:Type}{P:Program}{n:Nat}{t:TypeId}{az:List AV}{d:DataW H}(h:Shp P (n + 1) t az d)(hu:P.underlying t=some .string):∃ s,az=[.str s]∧d=.lit (.string s)∧s.length≤140737488351232:=by
 have h:=h.ok; rw [ZnR,hu] at h; exact h
theorem Shp.slice {H:Type}{P:Program}{n:Nat}{t e:TypeId}{az:List AV}{d:DataW H}(h:Shp P (n + 1) t az d)(hu:P.underlying t=some (.slice e)):∃ rows,az=[.lst (P.cellsOf e) rows]∧rows.length≤140737488351232∧((rows=[]∧d=.nil)∨∃ D ds spare,d=.slice ds spare∧ds=(List.range rows.length).map D∧∀ (i:Nat) (r:List AV),rows[i]? = some r→Shp P n e r (D i)):=by
 have h:=h.ok
 rw [ZnR,hu] at h
 obtain ⟨rows,h1,h2,h3⟩:=h
 refine ⟨rows,h1,h2,h3.imp id ?_⟩
 rintro ⟨D,ds,spare,e1,e2,e3⟩
 exact ⟨D,ds,spare,e1,e2,fun i r hr=>⟨e3 i r hr⟩⟩
theorem Shp.struct {H:Type}{P:Program}{n:Nat}{t:TypeId}{fs:Array Field}{az:List AV}{d:DataW H}(h:Shp P (n + 1) t az d)(hu:P.underlying t=some (.struct fs)):az.length=P.cellsOf t∧∃ ds,d=.agg ds∧ds.length=fs.size∧∀ (i:Nat) (f:Field),fs.toList[i]? = some f→∃ di,ds[i]? = some di∧Shp P n f.type ((az.drop f.offset).take (P.cellsOf f.type)) di:=by
 have h:=h.ok
 rw [ZnR,hu] at h
 obtain ⟨h1,ds,h2,h3,h4⟩:=h
 exact ⟨h1,ds,h2,h3,fun i f hf=>let ⟨di,e1,e2⟩:=h4 i f hf; ⟨di,e1,⟨e2⟩⟩⟩
def OA (Γ:Yl)(w:World)(a:AV)(v:Value):Prop:=Rep Γ w a v∧a.one=true∧a.noId1=true∧∀ k r,a≠.own k r
variable {H:Type}{enc:TypeId×Value→H}{P:Program}{w:World}{base:Nat}{sp:Nat→Bool}{held:Bool}{Γ:Yl}
theorem ZpJ {H:Type}{P:Program}{e:TypeId}{d:DataW H}{y:Nat}:∀ {ds:List (DataW H)},d ∈ ds→y ∈ d.weights P e→y ∈ DataW.weightsAll P e ds
 | [],h,_=>by simp at h
 | z :: ds,h,hy=>by
  rw [DataW.weightsAll,List.mem_append]
  rcases List.mem_cons.1 h with rfl | h
  ·exact .inl hy
  ·exact .inr (ZpJ h hy)
theorem sized_arg {H:Type}{P:Program}{ts:List TypeId}{ds:List (DataW H)}(h:(DataW.weightsEach P ts ds).all (·≤reachBytes)=true){j:Nat}{t:TypeId}{d:DataW H}(ht:ts[j]? = some t)(hd:ds[j]? = some d):∀ y ∈ d.weights P t,y≤reachBytes:=fun y hy=>by
 have:=List.all_eq_true.1 h _ (DataW.weights_mem_each ht hd y hy)
 simpa using this
theorem ZjI (n fuel:Nat)(cs:List Value)
  (ih:∀ (t:TypeId) (cs:List Value) (x:DataW H×List MemPlace),Zxq P n t=true→DataW.trod enc P w base sp held fuel t cs=some x→(∀ y ∈ x.1.weights P t,y≤reachBytes)→∃ az:List AV,ZnR P n t az x.1∧az.length=cs.length∧∀ j a,az[j]? = some a→OA Γ w a (cs.getD j Go.undef)) :
  ∀ (fs:List Field) (xs:List (DataW H×List MemPlace)) (o m:Nat),ZvP P fs o m=true→m=cs.length→(fs.all fun f=>Zxq P n f.type)=true→(∀ (i:Nat) (f:Field),fs[i]? = some f→∃ x,xs[i]? = some x∧DataW.trod enc P w base sp held fuel f.type ((cs.drop f.offset).take (P.cellsOf f.type))=some x∧∀ y ∈ x.1.weights P f.type,y≤reachBytes) →
   o≤m∧∃ az:List AV,az.length=m - o∧(∀ (i:Nat) (f:Field),fs[i]? = some f→o≤f.offset∧∃ x,xs[i]? = some x∧ZnR P n f.type ((az.drop (f.offset - o)).take (P.cellsOf f.type)) x.1)∧∀ j a,az[j]? = some a→OA Γ w a (cs.getD (o + j) Go.undef)
 | [],xs,o,m,ht,hm,_,_=>by
  have:o=m:=by simpa [ZvP] using ht
  subst this
  exact ⟨Nat.le_refl _,[],by simp,fun i f hf=>by simp at hf,fun j a h=>by simp at h⟩
 | f :: r,xs,o,m,ht,hm,hok,hx=>by
  simp only [ZvP,Bool.and_eq_true,beq_iff_eq] at ht
  simp only [List.all_cons,Bool.and_eq_true] at hok
  obtain ⟨x,hx0,hxf,hxw⟩:=hx 0 f rfl
  obtain ⟨xs,rfl⟩:∃ xs',xs=x :: xs':=by
   cases xs with
   | nil=>simp at hx0
   | cons y ys=>simp at hx0; exact ⟨ys,by rw [hx0]⟩
  obtain ⟨hle,az,hl,hs,hr⟩:=ZjI n fuel cs ih r xs _ m ht.2 hm hok.2 (fun i g hg=>hx (i + 1) g hg)
  obtain ⟨a1,s1,l1,r1⟩:=ih _ _ _ hok.1 hxf hxw
  have hlen:((cs.drop f.offset).take (P.cellsOf f.type)).length=P.cellsOf f.type:=by
   rw [List.length_take,List.length_drop]; omega
  rw [hlen] at l1
  refine ⟨by omega,a1 ++ az,by rw [List.length_append]; omega,fun i g hg=>?_,fun j a hj=>?_⟩
  ·cases i with
   | zero =>
    simp only [List.getElem?_cons_zero,Option.some.injEq] at hg
    subst hg
    refine ⟨by omega,x,rfl,?_⟩
    rw [ht.1,Nat.sub_self,List.drop_zero,List.take_append_of_le_length (by omega),List.take_of_length_le (by omega)]
    exact s1
   | succ i =>
    simp only [List.getElem?_cons_succ] at hg
    obtain ⟨q1,q2⟩:=hs i g hg
    refine ⟨by omega,?_⟩
    rw [List.drop_append,List.drop_eq_nil_of_le (by omega),List.nil_append,l1]
    rw [show g.offset - o - P.cellsOf f.type=g.offset - (o + P.cellsOf f.type) by omega]
    simpa using q2
  ·by_cases hj2:j < a1.length
   ·rw [List.getElem?_append_left hj2] at hj
    have:=r1 j a hj
    have e:((cs.drop f.offset).take (P.cellsOf f.type)).getD j Go.undef=cs.getD (o + j) Go.undef:=by
     rw [List.getD_eq_getElem?_getD,List.getD_eq_getElem?_getD,List.getElem?_take_of_lt (by omega),List.getElem?_drop,ht.1]
    rwa [e] at this
   ·rw [List.getElem?_append_right (by omega)] at hj
    have:=hr _ a hj
    rwa [show o + P.cellsOf f.type + (j - a1.length)=o + j by omega] at this
theorem Zg8 (hΓ:∀ b,Γ b=.imm):∀ (n fuel:Nat) (t:TypeId) (cs:List Value) (x:DataW H×List MemPlace),Zxq P n t=true→DataW.trod enc P w base sp held fuel t cs=some x→(∀ y ∈ x.1.weights P t,y≤reachBytes) →
  ∃ az:List AV,ZnR P n t az x.1∧az.length=cs.length∧∀ j a,az[j]? = some a→OA Γ w a (cs.getD j Go.undef)
 | 0,_,_,_,_,h,_,_=>by cases h
 | n + 1,0,_,_,_,_,h,_=>by cases h
 | n + 1,fuel + 1,t,cs,x,ho,h,hwt=>by
  cases hu:P.underlying t with
  | none=>simp [Zxq,hu] at ho
  | some d =>
  have hS:∀ (az:List AV) (dd:DataW H),ZnR P (n + 1) t az dd=_:=fun az dd=>by rw [ZnR,hu]
  have one:∀ (c:AV) (v:Value),OA Γ w c v→∀ j a,[c][j]? = some a→OA Γ w a ([v].getD j Go.undef):=fun c v hc j a hj=>by
   match j,hj with
   | 0,hj=>cases hj; exact hc
   | j + 1,hj=>simp at hj
  cases d <;> simp only [Zxq,hu,Bool.false_eq_true] at ho
  case bool =>
   obtain ⟨b,rfl,rfl⟩:=DataW.trod_bool hu h
   exact ⟨[.bool b],(hS _ _).mpr ⟨b,rfl,rfl⟩,rfl,one _ _ ⟨.bool b,rfl,rfl,fun k r e=>by cases e⟩⟩
  case int k =>
   obtain ⟨x,rfl,rfl,hw⟩:=DataW.trod_int hu h
   exact ⟨[.int k x],(hS _ _).mpr ⟨x,rfl,rfl,hw⟩,rfl,one _ _ ⟨.int k x,rfl,rfl,fun k r e=>by cases e⟩⟩
  case string =>
   obtain ⟨b,rfl,rfl,hb⟩:=DataW.trod_string hu h
   have e:b=⟨b.data.toList.toArray⟩:=by cases b; simp
   refine ⟨[.str b.data.toList],(hS _ _).mpr ⟨_,rfl,rfl,Zfd (hwt _ (by simp [DataW.weights]))⟩,rfl,one _ _ ⟨?_,rfl,rfl,fun k r e=>by cases e⟩⟩
   have:Rep Γ w (.str b.data.toList) (.string ⟨b.data.toList.toArray⟩):=.str _
   rwa [← e] at this
  case slice e =>
   simp only [Bool.and_eq_true,decide_eq_true_eq] at ho
   rcases open_slice hu h with ⟨rfl,rfl⟩ | ⟨A,len,cap,m,n',D,Pl,rfl,hb,hl,hm,hmm,rfl,hi⟩
   ·exact ⟨[.lst (P.cellsOf e) []],(hS _ _).mpr ⟨[],rfl,by simp,.inl ⟨rfl,rfl⟩⟩,rfl,one _ _ ⟨.lstNil _,rfl,rfl,fun k r e=>by cases e⟩⟩
   ·have hlm:len≤m:=by rw [hmm]; split <;> omega
    have hwe:∀ i,i < len→∀ y ∈ (D i).weights P e,y≤reachBytes:=fun i hi y hy=>by
     refine hwt y ?_
     simp only [DataW.weights,hu]
     exact List.mem_cons_of_mem _ (List.mem_append_left _ (ZpJ (List.mem_map.2 ⟨i,by simpa using hi,rfl⟩) hy))
    have hlr:len≤140737488351232:=by
     refine Zfd (Nat.le_trans ?_ (hwt ((((List.range len).map D).length + ((List.range (m - len)).map fun j=>D (len + j)).length) * P.bytesOf e) ?_))
     ·simp only [List.length_map,List.length_range]
      exact Nat.le_trans (Nat.le_add_right _ _) (Nat.le_mul_of_pos_right _ ho.1.2)
     ·simp only [DataW.weights,hu]
      exact List.mem_cons_self ..
    have hrow:∀ i,∃ r:List AV,i < len→ZnR P n e r (D i)∧r.length=P.cellsOf e∧∀ j a,r[j]? = some a→w.cell? ((A.add (i * P.cellsOf e)).add j)=some ((w.cell? ((A.add (i * P.cellsOf e)).add j)).getD Go.undef)∧OA Γ w a ((w.cell? ((A.add (i * P.cellsOf e)).add j)).getD Go.undef):=fun i=>by
     by_cases hil:i < len
     ·obtain ⟨cs',hc,ht⟩:=hi i (by omega)
      obtain ⟨_,hlen,hcell⟩:=World.cells?_some hc
      obtain ⟨r,s1,l1,r1⟩:=Zg8 hΓ n n' e cs' _ ho.2 ht (hwe i hil)
      refine ⟨r,fun _=>⟨s1,by omega,fun j a hj=>?_⟩⟩
      have hjl:j < r.length:=(List.getElem?_eq_some_iff.1 hj).1
      have hc2:=hcell j (by omega)
      have hr:=r1 j a hj
      rw [List.getElem?_eq_getElem (by omega)] at hc2
      rw [List.getD_eq_getElem?_getD,List.getElem?_eq_getElem (by omega)] at hr
      rw [hc2]
      exact ⟨rfl,hr⟩
     ·exact ⟨[],fun h=>absurd h hil⟩
    have hf:∃ f:Nat→List AV,∀ i,i < len→ZnR P n e (f i) (D i)∧(f i).length=P.cellsOf e∧∀ j a,(f i)[j]? = some a→w.cell? ((A.add (i * P.cellsOf e)).add j)=some ((w.cell? ((A.add (i * P.cellsOf e)).add j)).getD Go.undef)∧OA Γ w a ((w.cell? ((A.add (i * P.cellsOf e)).add j)).getD Go.undef) :=
     ⟨fun i=>(hrow i).choose,fun i=>(hrow i).choose_spec⟩
    obtain ⟨f,hf⟩:=hf
    have hget:∀ (i:Nat) (r:List AV),((List.range len).map f)[i]? = some r→i < len∧r=f i:=fun i r hr=>by
     rw [List.getElem?_map] at hr
     obtain ⟨i',hi',rfl⟩:=Option.map_eq_some_iff.1 hr
     have hlt:=(List.getElem?_eq_some_iff.1 hi').1
     rw [List.length_range] at hlt
     rw [List.getElem?_range hlt] at hi'
     obtain rfl:=Option.some.inj hi'
     exact ⟨hlt,rfl⟩
    refine ⟨[.lst (P.cellsOf e) ((List.range len).map f)],(hS _ _).mpr ⟨_,rfl,by simpa using hlr,.inr ⟨D,_,_,rfl,by simp,fun i r hr=>?_⟩⟩,rfl,one _ _ ⟨?_,rfl,rfl,fun k r e=>by cases e⟩⟩
    ·obtain ⟨h1,rfl⟩:=hget i r hr
     exact (hf i h1).1
    ·by_cases hex:∃ (i j:Nat) (a:AV),i < len∧(f i)[j]? = some a
     ·obtain ⟨i0,j0,a0,hi0,hj0⟩:=hex
      have h0:∃ v,w.cell? A=some v:=by
       have hj0l:j0 < (f i0).length:=(List.getElem?_eq_some_iff.1 hj0).1
       have hpos:0 < P.cellsOf e:=by have:=(hf i0 hi0).2.1; omega
       have hz:=(hf 0 (by omega)).2.1
       have:=((hf 0 (by omega)).2.2 0 ((f 0)[0]'(by omega)) (List.getElem?_eq_getElem _)).1
       rw [Nat.zero_mul] at this
       have e1:(A.add 0).add 0=A:=by simp [Addr.add]
       rw [e1] at this
       exact ⟨_,this⟩
      have hsp:A.spot=none:=by
       obtain ⟨v,hv⟩:=h0
       unfold World.cell? at hv
       split at hv
       ·split at hv
        ·cases hv
        ·rename_i hs; simpa using hs
       ·cases hv
      obtain ⟨b,o,q⟩:=A
      simp only at hsp
      subst hsp
      have hadd:∀ i j,((⟨b,o,none⟩:Addr).add (i * P.cellsOf e)).add j=⟨b,o + (i * P.cellsOf e + j),none⟩:=fun i j=>by
       rw [Go.Deep.add_add]
       unfold Addr.add
       split
       ·rename_i h0; simp [h0]
       ·rfl
      have hll:len=((List.range len).map f).length:=by simp
      generalize hrows:(List.range len).map f=rows at *
      subst hll
      refine .lst _ rows b o cap (fun i j=>(w.cell? ⟨b,o + (i * P.cellsOf e + j),none⟩).getD Go.undef) hl (fun r hr=>?_) (fun i j r c hr hc=>?_) (fun i j r c hr hc=>?_)
      ·obtain ⟨i,hi⟩:=List.mem_iff_getElem?.1 hr
       obtain ⟨h1,rfl⟩:=hget i r hi
       exact (hf i h1).2.1
      ·obtain ⟨h1,rfl⟩:=hget i r hr
       have:=(hf i h1).2.2 j c hc
       rw [hadd] at this
       exact ⟨this.1,by show U6 _ (Γ b); rw [hΓ]; trivial,this.2.2.2.1⟩
      ·obtain ⟨h1,rfl⟩:=hget i r hr
       have:=(hf i h1).2.2 j c hc
       rw [hadd] at this
       exact this.2.1
     ·have h0:len=0:=by
       rcases Nat.eq_zero_or_pos len with h0 | h0
       ·exact h0
       ·refine absurd ⟨0,0,(f 0)[0]'(by have:=(hf 0 h0).2.1; have:=ho.1.1; omega),h0,List.getElem?_eq_getElem _⟩ hex
      subst h0
      exact .lstE _ A cap
  case struct fs =>
   simp only [Bool.and_eq_true] at ho
   obtain ⟨xs,n',hn,rfl,hlen,hxl,hf⟩:=DataW.trod_struct hu h
   obtain ⟨_,az,l1,s1,r1⟩:=ZjI n n' cs (fun t cs x=>Zg8 hΓ n n' t cs x) fs.toList xs 0 _ ho.1 hlen.symm ho.2 fun i f hf'=>by
    have hi':fs[i]? = some f:=by simpa using hf'
    have:=hf i f hi'
    have hlt:i < xs.length:=by rw [hxl]; exact (Array.getElem?_eq_some_iff.1 hi').1
    rw [List.getElem?_eq_getElem hlt] at this
    refine ⟨_,List.getElem?_eq_getElem hlt,this,fun y hy=>hwt y ?_⟩
    simp only [DataW.weights,hu]
    exact DataW.weights_mem_each (j := i) (t := f.type) (d := (xs[i]'hlt).1) (by simp [hi']) (by simp [List.getElem?_eq_getElem hlt]) y hy
   refine ⟨az,(hS _ _).mpr ⟨by omega,_,rfl,by simpa using hxl,fun i f hf'=>?_⟩,by omega,fun j a hj=>by simpa using r1 j a hj⟩
   obtain ⟨_,x,hx,hsx⟩:=s1 i f hf'
   exact ⟨x.1,by simp [hx],by simpa using hsx⟩
theorem arg_stays {t:TypeId}{v:Value}{d:DataW H}{ps:List MemPlace}{W W':World}(hl:laidOutB P=true)(hr:P.readableRec t=true)(hrow:t < P.types.size)(h:DataW.Trod enc P W 0 (fun _=>true) true t v d ps)(hb:Below W.heap.size W W')(hlt:∀ p ∈ ps,p.block < W.heap.size) :
  DataW.Trod enc P W' 0 (fun b=>decide (b < W.heap.size)) true t v d ps :=
 WideElems.Trod_stays hl hr hrow h (fun p hp=>hb.same (hlt p hp)) (fun p hp=>by simpa using hlt p hp)
end Go.Proofs.YtleomfgijkapfaaGreatDoor.Abs
end
section
namespace Go.Proofs.YtleomfgijkapfaaGreatDoor.Abs
open Go Go.RowKit Go.ChangeShapes Go.WideShapes Go.Deep
open Nat (reduceAdd reduceLeDiff)
def Zxp (P:Program)(S:List TypeId):Bool :=
 S.all fun t=>match P.underlying t with
  | some .bool=>true
  | some (.int _)=>true
  | some .string=>true
  | some (.slice e)=>(decide (0 < P.cellsOf e) && decide (0 < P.bytesOf e)) && S.contains e
  | some (.struct fs)=>ZvP P fs.toList 0 (P.cellsOf t) && fs.toList.all fun f=>S.contains f.type
  | _=>false
inductive SN {H:Type}(P:Program):TypeId→List AV→DataW H→Prop
 | bool (t:TypeId) (b:Bool) (hu:P.underlying t=some .bool):SN P t [.bool b] (.lit (.bool b))
 | int (t:TypeId) (k:IntKind) (x:Int) (hu:P.underlying t=some (.int k)) (hw:(Lit.int k x).wf=true):SN P t [.int k x] (.lit (.int k x))
 | str (t:TypeId) (s:List UInt8) (hu:P.underlying t=some .string) (hl:s.length≤140737488351232):SN P t [.str s] (.lit (.string s))
 | nil (t e:TypeId) (hu:P.underlying t=some (.slice e)):SN P t [.lst (P.cellsOf e) []] .nil
 | slice (t e:TypeId) (rows:List (List AV)) (D:Nat→DataW H) (spare:List (DataW H)) (hu:P.underlying t=some (.slice e)) (hl:rows.length * P.bytesOf e≤140737488351232) (h:∀ (i:Nat) (r:List AV),rows[i]? = some r→SN P e r (D i)) :
   SN P t [.lst (P.cellsOf e) rows] (.slice ((List.range rows.length).map D) spare)
 | struct (t:TypeId) (fs:Array Field) (cs:List AV) (D:Nat→DataW H) (hu:P.underlying t=some (.struct fs)) (hl:cs.length=P.cellsOf t)
   (h:∀ (i:Nat) (f:Field),fs.toList[i]? = some f→SN P f.type ((cs.drop f.offset).take (P.cellsOf f.type)) (D i)):SN P t cs (.agg ((List.range fs.size).map D))
section
variable {H:Type}{P:Program}{t:TypeId}{cs:List AV}{d:DataW H}
theorem SN.toBool (h:SN P t cs d)(hu:P.underlying t=some .bool):∃ b,cs=[.bool b]∧d=.lit (.bool b):=by
 cases h <;> rename_i h2 <;> first | exact ⟨_,rfl,rfl⟩ | (simp_all; done)
theorem SN.toInt (h:SN P t cs d){k:IntKind}(hu:P.underlying t=some (.int k)):∃ x,cs=[.int k x]∧d=.lit (.int k x)∧k.min≤x∧x≤k.max:=by
 cases h with
 | int _ k' x h1 hw =>
  rw [hu] at h1; cases h1
  simp only [Lit.wf,Bool.and_eq_true,decide_eq_true_eq] at hw
  exact ⟨x,rfl,rfl,hw⟩
 | _=>simp_all
theorem SN.toI64 (h:SN P t cs d)(hu:P.underlying t=some (.int .i64)):∃ x,cs=[.int .i64 x]∧d=.lit (.int .i64 x)∧-9223372036854775808≤x∧x≤9223372036854775807:=by
 obtain ⟨x,h1,h2,h3⟩:=h.toInt hu
 exact ⟨x,h1,h2,by simpa [IntKind.min,IntKind.max,IntKind.signed,IntKind.bits] using h3⟩
theorem SN.toStr (h:SN P t cs d)(hu:P.underlying t=some .string):∃ s,cs=[.str s]∧d=.lit (.string s)∧s.length≤140737488351232:=by
 cases h with
 | str _ s h1 hl=>exact ⟨s,rfl,rfl,hl⟩
 | _=>simp_all
theorem SN.toSlice (h:SN P t cs d){e:TypeId}(hu:P.underlying t=some (.slice e)):∃ rows,cs=[.lst (P.cellsOf e) rows]∧rows.length * P.bytesOf e≤140737488351232∧∃ D:Nat→DataW H,(∀ (i:Nat) (r:List AV),rows[i]? = some r→SN P e r (D i))∧((rows=[]∧d=.nil)∨∃ spare,d=.slice ((List.range rows.length).map D) spare):=by
 cases h with
 | nil _ e' h1=>rw [hu] at h1; cases h1; exact ⟨[],rfl,by simp,fun _=>.nil,fun i r hr=>by simp at hr,.inl ⟨rfl,rfl⟩⟩
 | slice _ e' rows D spare h1 hl h=>rw [hu] at h1; cases h1; exact ⟨rows,rfl,hl,D,h,.inr ⟨spare,rfl⟩⟩
 | _=>simp_all
theorem SN.toStruct (h:SN P t cs d){fs:Array Field}(hu:P.underlying t=some (.struct fs)):cs.length=P.cellsOf t∧∃ D:Nat→DataW H,d=.agg ((List.range fs.size).map D)∧∀ (i:Nat) (f:Field),fs.toList[i]? = some f→SN P f.type ((cs.drop f.offset).take (P.cellsOf f.type)) (D i):=by
 cases h with
 | struct _ fs' _ D h1 hl h=>rw [hu] at h1; cases h1; exact ⟨hl,D,rfl,h⟩
 | _=>simp_all
end
def Of (P:Program)(t:TypeId)(cs:List AV):Prop:=∃ (H:Type) (d:DataW H),SN P t cs d
theorem SN.of {H:Type}{P:Program}{t:TypeId}{cs:List AV}{d:DataW H}(h:SN P t cs d):Of P t cs:=⟨H,d,h⟩
theorem Of.toBool {P:Program}{t:TypeId}{cs:List AV}(h:Of P t cs)(hu:P.underlying t=some .bool):∃ b,cs=[.bool b]:=by
 obtain ⟨H,d,h⟩:=h; obtain ⟨b,h1,_⟩:=h.toBool hu; exact ⟨b,h1⟩
theorem Of.toInt {P:Program}{t:TypeId}{cs:List AV}(h:Of P t cs){k:IntKind}(hu:P.underlying t=some (.int k)):∃ x,cs=[.int k x]∧k.min≤x∧x≤k.max:=by
 obtain ⟨H,d,h⟩:=h; obtain ⟨x,h1,_,h2⟩:=h.toInt hu; exact ⟨x,h1,h2⟩
theorem Of.toI64 {P:Program}{t:TypeId}{cs:List AV}(h:Of P t cs)(hu:P.underlying t=some (.int .i64)):∃ x,cs=[.int .i64 x]∧-9223372036854775808≤x∧x≤9223372036854775807:=by
 obtain ⟨H,d,h⟩:=h; obtain ⟨x,h1,_,h2⟩:=h.toI64 hu; exact ⟨x,h1,h2⟩
theorem Of.toStr {P:Program}{t:TypeId}{cs:List AV}(h:Of P t cs)(hu:P.underlying t=some .string):∃ s,cs=[.str s]∧s.length≤140737488351232:=by
 obtain ⟨H,d,h⟩:=h; obtain ⟨x,h1,_,h2⟩:=h.toStr hu; exact ⟨x,h1,h2⟩
theorem Of.toSlice {P:Program}{t:TypeId}{cs:List AV}(h:Of P t cs){e:TypeId}(hu:P.underlying t=some (.slice e)):∃ rows,cs=[.lst (P.cellsOf e) rows]∧rows.length * P.bytesOf e≤140737488351232∧∀ r ∈ rows,Of P e r:=by
 obtain ⟨H,d,h⟩:=h
 obtain ⟨rows,h1,h2,D,h3,_⟩:=h.toSlice hu
 exact ⟨rows,h1,h2,fun r hr=>by obtain ⟨i,hi⟩:=List.mem_iff_getElem?.1 hr; exact (h3 i r hi).of⟩
theorem Of.toStruct {P:Program}{t:TypeId}{cs:List AV}(h:Of P t cs){fs:Array Field}(hu:P.underlying t=some (.struct fs)):cs.length=P.cellsOf t∧∀ (i:Nat) (f:Field),fs.toList[i]? = some f→Of P f.type ((cs.drop f.offset).take (P.cellsOf f.type)):=by
 obtain ⟨H,d,h⟩:=h
 obtain ⟨h1,D,_,h2⟩:=h.toStruct hu
 exact ⟨h1,fun i f hf=>(h2 i f hf).of⟩
variable {H:Type}{enc:TypeId×Value→H}{P:Program}{w:World}{base:Nat}{sp:Nat→Bool}{held:Bool}{Γ:Yl}
theorem ZoW {t e:TypeId}{fuel:Nat}{cs:List Value}{x:DataW H×List MemPlace}(ht:P.underlying t=some (.slice e))(h:DataW.trod enc P w base sp held (fuel + 1) t cs=some x) :
  (cs=[.slice none 0 0]∧x=(.nil,[])) ∨
  ∃ (a:Addr) (len cap m n:Nat) (D:Nat→DataW H) (Pl:Nat→List MemPlace),n=fuel∧cs=[.slice (some a) len cap]∧base≤a.block∧len≤cap∧cap≤maxLen∧m=(if sp a.block then cap else len) ∧
   x=(.slice ((List.range len).map D) ((List.range (m - len)).map fun j=>D (len + j)),MemPlace.row a (m * P.cellsOf e) ++ (List.range m).flatMap Pl) ∧
   ∀ i,i < m→∃ cs',w.cells? base (a.add (i * P.cellsOf e)) (P.cellsOf e)=some cs'∧DataW.trod enc P w base sp held n e cs'=some (D i,Pl i):=by
 rcases DataW.trod_slice ht h with h0 | ⟨a,len,cap,elems,rest,n,hn,rfl,rfl,hb,hl,hm,hlen,hel,hsp,hns⟩
 ·exact Or.inl h0
 right
 have hrl:rest.length=(if sp a.block then cap else len) - len:=by
  cases hs:sp a.block with
  | true=>simpa [hs] using (hsp hs).1
  | false=>simp [hns hs]
 have hle:len≤(if sp a.block then cap else len):=by split <;> omega
 have hall:(elems ++ rest).length=(if sp a.block then cap else len):=by rw [List.length_append,hlen,hrl]; omega
 refine ⟨a,len,cap,_,n,fun i=>((elems ++ rest).getD i (.nil,[])).1,fun i=>((elems ++ rest).getD i (.nil,[])).2,by omega,rfl,hb,hl,hm,rfl,?_,?_⟩
 ·refine Prod.ext ?_ ?_
  ·show DataW.slice (elems.map (·.1)) (rest.map (·.1))=_
   congr 1
   ·rw [map_by_index elems (.nil,[]) (·.1),hlen]
    refine List.map_congr_left fun i hi=>?_
    have hi':i < elems.length:=by rw [hlen]; simpa using hi
    simp [List.getD,List.getElem?_append_left hi']
   ·rw [map_by_index rest (.nil,[]) (·.1),hrl]
    refine List.map_congr_left fun j _=>?_
    simp [List.getD,List.getElem?_append_right (show elems.length≤len + j by omega),hlen]
  ·show MemPlace.row a ((elems.length + rest.length) * P.cellsOf e) ++ (elems ++ rest).flatMap (·.2)=_
   rw [flatMap_by_index (elems ++ rest) (.nil,[]) (·.2),hall,← List.length_append,hall]
 ·intro i hi
  have key:(w.cells? base (a.add (i * P.cellsOf e)) (P.cellsOf e)).bind (DataW.trod enc P w base sp held n e)=(elems ++ rest)[i]?:=by
   by_cases hil:i < len
   ·rw [hel i hil,List.getElem?_append_left (by omega)]
   ·have hs:sp a.block=true:=by
     cases hs:sp a.block with
     | true=>rfl
     | false=>simp [hs] at hi; omega
    have:=(hsp hs).2 (i - len) (by simp [hs] at hi; omega)
    rw [show len + (i - len)=i by omega] at this
    rw [this,List.getElem?_append_right (by omega),hlen]
  rw [List.getElem?_eq_getElem (by omega)] at key
  obtain ⟨cs',h1,h2⟩:=Option.bind_eq_some_iff.1 key
  refine ⟨cs',h1,?_⟩
  rw [h2]
  simp [List.getD,List.getElem?_eq_getElem (show i < (elems ++ rest).length by omega)]
theorem ZgY (S:List TypeId)(fuel:Nat)(cs:List Value)
  (ih:∀ (t:TypeId) (cs:List Value) (x:DataW H×List MemPlace),S.contains t=true→DataW.trod enc P w base sp held fuel t cs=some x→(∀ y ∈ x.1.weights P t,y≤reachBytes)→∃ az:List AV,SN P t az x.1∧az.length=cs.length∧∀ j a,az[j]? = some a→OA Γ w a (cs.getD j Go.undef)) :
  ∀ (fs:List Field) (xs:List (DataW H×List MemPlace)) (o m:Nat),ZvP P fs o m=true→m=cs.length→(fs.all fun f=>S.contains f.type)=true→(∀ (i:Nat) (f:Field),fs[i]? = some f→∃ x,xs[i]? = some x∧DataW.trod enc P w base sp held fuel f.type ((cs.drop f.offset).take (P.cellsOf f.type))=some x∧∀ y ∈ x.1.weights P f.type,y≤reachBytes) →
   o≤m∧∃ az:List AV,az.length=m - o∧(∀ (i:Nat) (f:Field),fs[i]? = some f→o≤f.offset∧∃ x,xs[i]? = some x∧SN P f.type ((az.drop (f.offset - o)).take (P.cellsOf f.type)) x.1)∧∀ j a,az[j]? = some a→OA Γ w a (cs.getD (o + j) Go.undef)
 | [],xs,o,m,ht,hm,_,_=>by
  have:o=m:=by simpa [ZvP] using ht
  subst this
  exact ⟨Nat.le_refl _,[],by simp,fun i f hf=>by simp at hf,fun j a h=>by simp at h⟩
 | f :: r,xs,o,m,ht,hm,hok,hx=>by
  simp only [ZvP,Bool.and_eq_true,beq_iff_eq] at ht
  simp only [List.all_cons,Bool.and_eq_true] at hok
  obtain ⟨x,hx0,hxf,hxw⟩:=hx 0 f rfl
  obtain ⟨xs,rfl⟩:∃ xs',xs=x :: xs':=by
   cases xs with
   | nil=>simp at hx0
   | cons y ys=>simp at hx0; exact ⟨ys,by rw [hx0]⟩
  obtain ⟨hle,az,hl,hs,hr⟩:=ZgY S fuel cs ih r xs _ m ht.2 hm hok.2 (fun i g hg=>hx (i + 1) g hg)
  obtain ⟨a1,s1,l1,r1⟩:=ih _ _ _ hok.1 hxf hxw
  have hlen:((cs.drop f.offset).take (P.cellsOf f.type)).length=P.cellsOf f.type:=by
   rw [List.length_take,List.length_drop]; omega
  rw [hlen] at l1
  refine ⟨by omega,a1 ++ az,by rw [List.length_append]; omega,fun i g hg=>?_,fun j a hj=>?_⟩
  ·cases i with
   | zero =>
    simp only [List.getElem?_cons_zero,Option.some.injEq] at hg
    subst hg
    refine ⟨by omega,x,rfl,?_⟩
    rw [ht.1,Nat.sub_self,List.drop_zero,List.take_append_of_le_length (by omega),List.take_of_length_le (by omega)]
    exact s1
   | succ i =>
    simp only [List.getElem?_cons_succ] at hg
    obtain ⟨q1,q2⟩:=hs i g hg
    refine ⟨by omega,?_⟩
    rw [List.drop_append,List.drop_eq_nil_of_le (by omega),List.nil_append,l1]
    rw [show g.offset - o - P.cellsOf f.type=g.offset - (o + P.cellsOf f.type) by omega]
    simpa using q2
  ·by_cases hj2:j < a1.length
   ·rw [List.getElem?_append_left hj2] at hj
    have:=r1 j a hj
    have e:((cs.drop f.offset).take (P.cellsOf f.type)).getD j Go.undef=cs.getD (o + j) Go.undef:=by
     rw [List.getD_eq_getElem?_getD,List.getD_eq_getElem?_getD,List.getElem?_take_of_lt (by omega),List.getElem?_drop,ht.1]
    rwa [e] at this
   ·rw [List.getElem?_append_right (by omega)] at hj
    have:=hr _ a hj
    rwa [show o + P.cellsOf f.type + (j - a1.length)=o + j by omega] at this
theorem ZcJ (hΓ:∀ b,Γ b=.imm){S:List TypeId}(hS:Zxp P S=true):∀ (fuel:Nat) (t:TypeId) (cs:List Value) (x:DataW H×List MemPlace),S.contains t=true→DataW.trod enc P w base sp held fuel t cs=some x→(∀ y ∈ x.1.weights P t,y≤reachBytes) →
  ∃ az:List AV,SN P t az x.1∧az.length=cs.length∧∀ j a,az[j]? = some a→OA Γ w a (cs.getD j Go.undef)
 | 0,_,_,_,_,h,_=>by cases h
 | fuel + 1,t,cs,x,hc,h,hwt=>by
  have ho:=List.all_eq_true.1 hS t (by simpa using hc)
  cases hu:P.underlying t with
  | none=>simp [hu] at ho
  | some d =>
  have one:∀ (c:AV) (v:Value),OA Γ w c v→∀ j a,[c][j]? = some a→OA Γ w a ([v].getD j Go.undef):=fun c v hc j a hj=>by
   match j,hj with
   | 0,hj=>cases hj; exact hc
   | j + 1,hj=>simp at hj
  cases d <;> simp only [hu,Bool.false_eq_true] at ho
  case bool =>
   obtain ⟨b,rfl,rfl⟩:=DataW.trod_bool hu h
   exact ⟨[.bool b],.bool t b hu,rfl,one _ _ ⟨.bool b,rfl,rfl,fun k r e=>by cases e⟩⟩
  case int k =>
   obtain ⟨x,rfl,rfl,hw⟩:=DataW.trod_int hu h
   exact ⟨[.int k x],.int t k x hu hw,rfl,one _ _ ⟨.int k x,rfl,rfl,fun k r e=>by cases e⟩⟩
  case string =>
   obtain ⟨b,rfl,rfl,hb⟩:=DataW.trod_string hu h
   have e:b=⟨b.data.toList.toArray⟩:=by cases b; simp
   refine ⟨[.str b.data.toList],.str t _ hu (Zfd (hwt _ (by simp [DataW.weights]))),rfl,one _ _ ⟨?_,rfl,rfl,fun k r e=>by cases e⟩⟩
   have:Rep Γ w (.str b.data.toList) (.string ⟨b.data.toList.toArray⟩):=.str _
   rwa [← e] at this
  case slice e =>
   simp only [Bool.and_eq_true,decide_eq_true_eq] at ho
   rcases ZoW hu h with ⟨rfl,rfl⟩ | ⟨A,len,cap,m,n',D,Pl,hn',rfl,hb,hl,hm,hmm,rfl,hi⟩
   ·exact ⟨[.lst (P.cellsOf e) []],.nil t e hu,rfl,one _ _ ⟨.lstNil _,rfl,rfl,fun k r e=>by cases e⟩⟩
   ·have hlm:len≤m:=by rw [hmm]; split <;> omega
    have hwe:∀ i,i < len→∀ y ∈ (D i).weights P e,y≤reachBytes:=fun i hi y hy=>by
     refine hwt y ?_
     simp only [DataW.weights,hu]
     exact List.mem_cons_of_mem _ (List.mem_append_left _ (ZpJ (List.mem_map.2 ⟨i,by simpa using hi,rfl⟩) hy))
    have hlr:len * P.bytesOf e≤140737488351232:=by
     refine Zfd (Nat.le_trans ?_ (hwt ((((List.range len).map D).length + ((List.range (m - len)).map fun j=>D (len + j)).length) * P.bytesOf e) ?_))
     ·simp only [List.length_map,List.length_range]
      exact Nat.mul_le_mul_right _ (Nat.le_add_right _ _)
     ·simp only [DataW.weights,hu]
      exact List.mem_cons_self ..
    have hrow:∀ i,∃ r:List AV,i < len→SN P e r (D i)∧r.length=P.cellsOf e∧∀ j a,r[j]? = some a→w.cell? ((A.add (i * P.cellsOf e)).add j)=some ((w.cell? ((A.add (i * P.cellsOf e)).add j)).getD Go.undef)∧OA Γ w a ((w.cell? ((A.add (i * P.cellsOf e)).add j)).getD Go.undef):=fun i=>by
     by_cases hil:i < len
     ·obtain ⟨cs',hc,ht⟩:=hi i (by omega)
      obtain ⟨_,hlen,hcell⟩:=World.cells?_some hc
      obtain ⟨r,s1,l1,r1⟩:=ZcJ hΓ hS n' e cs' _ ho.2 ht (hwe i hil)
      refine ⟨r,fun _=>⟨s1,by omega,fun j a hj=>?_⟩⟩
      have hjl:j < r.length:=(List.getElem?_eq_some_iff.1 hj).1
      have hc2:=hcell j (by omega)
      have hr:=r1 j a hj
      rw [List.getElem?_eq_getElem (by omega)] at hc2
      rw [List.getD_eq_getElem?_getD,List.getElem?_eq_getElem (by omega)] at hr
      rw [hc2]
      exact ⟨rfl,hr⟩
     ·exact ⟨[],fun h=>absurd h hil⟩
    have hf:∃ f:Nat→List AV,∀ i,i < len→SN P e (f i) (D i)∧(f i).length=P.cellsOf e∧∀ j a,(f i)[j]? = some a→w.cell? ((A.add (i * P.cellsOf e)).add j)=some ((w.cell? ((A.add (i * P.cellsOf e)).add j)).getD Go.undef)∧OA Γ w a ((w.cell? ((A.add (i * P.cellsOf e)).add j)).getD Go.undef) :=
     ⟨fun i=>(hrow i).choose,fun i=>(hrow i).choose_spec⟩
    obtain ⟨f,hf⟩:=hf
    have hget:∀ (i:Nat) (r:List AV),((List.range len).map f)[i]? = some r→i < len∧r=f i:=fun i r hr=>by
     rw [List.getElem?_map] at hr
     obtain ⟨i',hi',rfl⟩:=Option.map_eq_some_iff.1 hr
     have hlt:=(List.getElem?_eq_some_iff.1 hi').1
     rw [List.length_range] at hlt
     rw [List.getElem?_range hlt] at hi'
     obtain rfl:=Option.some.inj hi'
     exact ⟨hlt,rfl⟩
    have hlenf:((List.range len).map f).length=len:=by simp
    have hsl:=SN.slice (P := P) t e ((List.range len).map f) D ((List.range (m - len)).map fun j=>D (len + j)) hu (by simpa using hlr) (fun i r hr=>by obtain ⟨h1,rfl⟩:=hget i r hr; exact (hf i h1).1)
    rw [hlenf] at hsl
    refine ⟨[.lst (P.cellsOf e) ((List.range len).map f)],hsl,rfl,one _ _ ⟨?_,rfl,rfl,fun k r e=>by cases e⟩⟩
    ·by_cases hex:∃ (i j:Nat) (a:AV),i < len∧(f i)[j]? = some a
     ·obtain ⟨i0,j0,a0,hi0,hj0⟩:=hex
      have h0:∃ v,w.cell? A=some v:=by
       have hj0l:j0 < (f i0).length:=(List.getElem?_eq_some_iff.1 hj0).1
       have hpos:0 < P.cellsOf e:=by have:=(hf i0 hi0).2.1; omega
       have hz:=(hf 0 (by omega)).2.1
       have:=((hf 0 (by omega)).2.2 0 ((f 0)[0]'(by omega)) (List.getElem?_eq_getElem _)).1
       rw [Nat.zero_mul] at this
       have e1:(A.add 0).add 0=A:=by simp [Addr.add]
       rw [e1] at this
       exact ⟨_,this⟩
      have hsp:A.spot=none:=by
       obtain ⟨v,hv⟩:=h0
       unfold World.cell? at hv
       split at hv
       ·split at hv
        ·cases hv
        ·rename_i hs; simpa using hs
       ·cases hv
      obtain ⟨b,o,q⟩:=A
      simp only at hsp
      subst hsp
      have hadd:∀ i j,((⟨b,o,none⟩:Addr).add (i * P.cellsOf e)).add j=⟨b,o + (i * P.cellsOf e + j),none⟩:=fun i j=>by
       rw [Go.Deep.add_add]
       unfold Addr.add
       split
       ·rename_i h0; simp [h0]
       ·rfl
      have hll:len=((List.range len).map f).length:=by simp
      generalize hrows:(List.range len).map f=rows at *
      subst hll
      refine .lst _ rows b o cap (fun i j=>(w.cell? ⟨b,o + (i * P.cellsOf e + j),none⟩).getD Go.undef) hl (fun r hr=>?_) (fun i j r c hr hc=>?_) (fun i j r c hr hc=>?_)
      ·obtain ⟨i,hi⟩:=List.mem_iff_getElem?.1 hr
       obtain ⟨h1,rfl⟩:=hget i r hi
       exact (hf i h1).2.1
      ·obtain ⟨h1,rfl⟩:=hget i r hr
       have:=(hf i h1).2.2 j c hc
       rw [hadd] at this
       exact ⟨this.1,by show U6 _ (Γ b); rw [hΓ]; trivial,this.2.2.2.1⟩
      ·obtain ⟨h1,rfl⟩:=hget i r hr
       have:=(hf i h1).2.2 j c hc
       rw [hadd] at this
       exact this.2.1
     ·have h0:len=0:=by
       rcases Nat.eq_zero_or_pos len with h0 | h0
       ·exact h0
       ·refine absurd ⟨0,0,(f 0)[0]'(by have:=(hf 0 h0).2.1; have:=ho.1.1; omega),h0,List.getElem?_eq_getElem _⟩ hex
      subst h0
      exact .lstE _ A cap
  case struct fs =>
   simp only [Bool.and_eq_true] at ho
   obtain ⟨xs,n',hn,rfl,hlen,hxl,hf⟩:=DataW.trod_struct hu h
   obtain ⟨_,az,l1,s1,r1⟩:=ZgY S n' cs (fun t cs x=>ZcJ hΓ hS n' t cs x) fs.toList xs 0 _ ho.1 hlen.symm ho.2 fun i f hf'=>by
    have hi':fs[i]? = some f:=by simpa using hf'
    have:=hf i f hi'
    have hlt:i < xs.length:=by rw [hxl]; exact (Array.getElem?_eq_some_iff.1 hi').1
    rw [List.getElem?_eq_getElem hlt] at this
    refine ⟨_,List.getElem?_eq_getElem hlt,this,fun y hy=>hwt y ?_⟩
    simp only [DataW.weights,hu]
    exact DataW.weights_mem_each (j := i) (t := f.type) (d := (xs[i]'hlt).1) (by simp [hi']) (by simp [List.getElem?_eq_getElem hlt]) y hy
   have hst:=SN.struct (P := P) t fs az (fun i=>((xs.map (·.1))[i]?).getD .nil) hu (by omega) fun i f hf'=>by
    obtain ⟨_,x,hx,hsx⟩:=s1 i f hf'
    simpa [hx] using hsx
   have hds:(List.range fs.size).map (fun i=>((xs.map (·.1))[i]?).getD .nil)=xs.map (·.1):=by
    refine List.ext_getElem? fun i=>?_
    rw [List.getElem?_map]
    by_cases hi:i < fs.size
    ·rw [List.getElem?_range hi,Option.map_some,List.getElem?_map,List.getElem?_eq_getElem (by omega)]; rfl
    ·rw [List.getElem?_eq_none (by simpa using hi),List.getElem?_eq_none (by simp; omega)]; rfl
   rw [hds] at hst
   exact ⟨az,hst,by omega,fun j a hj=>by simpa using r1 j a hj⟩
theorem argS_struct (hΓ:∀ b,Γ b=.imm){S:List TypeId}(hS:Zxp P S=true){r:Reach}{b0:Nat}{t:TypeId}{fs:Array Field}{v:Value}{d:DataW H}{ps:List MemPlace}(hc:S.contains t=true)(hu:P.underlying t=some (.struct fs))(hv:Value.okWide P w r b0 t v)
  (h:DataW.Trod enc P w base sp held t v d ps) (hw:∀ y ∈ d.weights P t,y≤reachBytes):∃ az,Rep Γ w (.agg az) v∧SN P t az d:=by
 obtain ⟨cs,rfl,hsz⟩:=okWide_struct hu hv
 obtain ⟨fuel,hf⟩:=h
 obtain ⟨az,s1,l1,r1⟩:=ZcJ hΓ hS fuel t _ _ hc hf hw
 have l2:az.length=cs.size:=by rw [l1]; rfl
 refine ⟨az,.agg az cs l2.symm (fun j c hc=>(r1 j c hc).2.1) (fun j k r hc=>absurd rfl ((r1 j _ hc).2.2.2 k r)) (fun j c hc=>?_),s1⟩
 have:=(r1 j c hc).1
 have e:(Value.agg cs).cells.toList.getD j Go.undef=cs.getD j Go.undef:=by
  show cs.toList.getD j Go.undef=_
  simp [List.getD_eq_getElem?_getD,Array.getD_eq_getD_getElem?]
 rwa [e] at this
end Go.Proofs.YtleomfgijkapfaaGreatDoor.Abs
end
