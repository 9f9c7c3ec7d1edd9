import Derived.WalkKit
import Derived.WalkSmall
import Derived.Test.YtleomfgijkapfaaGreatDoorU14
set_option linter.all false
section
namespace Go.Proofs.YtleomfgijkapfaaGreatDoor
open Go Go.RowKit Go.Shelf Go.Proofs.YtleomfgijkapfaaGreatDoor.Abs
set_option maxRecDepth 100000
set_option maxHeartbeats 0
noncomputable section
abbrev Tryz.grow_ren:Ren:=⟨fun | 4=>223 | n=>n,fun | 22=>62 | 25=>126 | n=>n,fun | n=>n⟩
theorem Tryz.grow_lays:Lays8.n4 Tryz.prog Tryz.grow_ren where
 mixed:=by kernel_rfl
 f4:=⟨ "slices.Grow[[]simulator/api.Field,simulator/api.Field]",by decide,Tryz.func223.trans (congrArg some (by kernel_rfl))⟩
 t0:=Tryz.underlying0
 a0:=Tryz.isAgg0
 z0:=Tryz.sizeOf0
 v0:=Tryz.zeroValue0
 t3:=Tryz.underlying3
 a3:=Tryz.isAgg3
 z3:=Tryz.sizeOf3
 v3:=Tryz.zeroValue3
 t4:=Tryz.underlying4
 a4:=Tryz.isAgg4
 z4:=Tryz.sizeOf4
 v4:=Tryz.zeroValue4
 t9:=Tryz.underlying9
 a9:=Tryz.isAgg9
 z9:=Tryz.sizeOf9
 v9:=Tryz.zeroValue9
 t20:=Tryz.underlying20
 a20:=Tryz.isAgg20
 z20:=Tryz.sizeOf20
 v20:=Tryz.zeroValue20
 t22:=Tryz.underlying62
 a22:=Tryz.isAgg62
 z22:=Tryz.sizeOf62
 v22:=Tryz.zeroValue62
theorem Zmj (W0:World):Z5 Tryz.prog W0 (Zii 223 2 24):=by
 obtain ⟨i,h1,h2⟩:∃ i:TypeInfo,Tryz.prog.info? 126=some i∧i.size=2∧i.bytes=24∧∃ z,i.zero=some z∧z.cells.size=2:=⟨_,rfl,rfl,rfl,_,rfl,rfl⟩
 obtain ⟨h2,h3,z,h4,h5⟩:=h2
 have:=Zij (W0 := W0) Tryz.grow_lays (i0 := i) (z := z) h1 h4 (by rw [h5,h2]) (by omega)
 rw [h2,h3] at this
 exact this
theorem ZmY {i:Nat}(h:i < 100):Lib.decDigits i=ZqN i:=by
 unfold ZqN
 by_cases h1:i < 10
 ·rw [if_pos h1,Lib.decDigits_one h1]
 ·rw [if_neg h1,Lib.decDigits_two h1 h]
theorem Tryz.text_small (i:Nat)(hi:i < 100)(w:World) :
  Calls Tryz.prog 40 #[.int .i64 i] w fun e w'=>e=.returned (.string ⟨(Lib.decDigits i).toArray⟩)∧w'=w:=by
 go_enter Tryz.func40,Tryz.ntmps40
 go_wp2_with (go_at_call 89; refine (Go.Proofs.Tryz.strconv_Itoa_small i hi w).mono ?_; rintro e w' ⟨rfl,rfl⟩)
 go_wp2
 go_ret
 exact ⟨rfl,rfl⟩
theorem ZlC (W0:World):∀ f args v,textS f args=some v→U6 Tryz.prog W0 f args v:=by
 intro f args v h
 unfold textS at h
 split at h
 ·rename_i e; subst e
  split at h
  ·rename_i n
   split at h <;> cases h
   rename_i hn
   refine ⟨fun _ _ h=>(by cases h),fun Γ w xs hb hΓ hs hx=>?_⟩
   have h0:xs.getD 0 Go.undef=.int .i64 (n.toNat:Int):=by
    have:=hx 0 _ rfl
    rw [show ((n.toNat:Nat):Int)=n by omega]
    generalize xs.getD 0 Go.undef=u at this
    cases this; rfl
   have hxs:xs=#[.int .i64 (n.toNat:Int)]:=by
    refine Array.ext (by simpa using hs) fun i h2 h3=>?_
    have:i=0:=by simp at h3; omega
    subst this
    rw [Array.getD_eq_getD_getElem?,Array.getElem?_eq_getElem h2] at h0; simpa using h0
   subst hxs
   refine YG Tryz.func40 (by kernel_rfl) rfl ((Tryz.text_small n.toNat (by omega) w).mono ?_)
   rintro e w' ⟨rfl,rfl⟩
   exact ⟨_,rfl,Below.refl _ _,by rw [ZmY (by omega)]; exact .str _⟩
  ·cases h
 ·cases h
theorem ZoL (W0:World):Z5 Tryz.prog W0 O17:=by
 intro f args hp v hp' e h Γ w xs hr ht hs hx
 unfold O17 at h
 split at h
 ·exact Zm7 W0 _ _ _ _ _ _ h Γ w xs hr ht hs hx
 ·exact Zm5 W0 _ _ _ _ _ _ h Γ w xs hr ht hs hx
 ·exact Zj2 W0 _ _ _ _ _ _ h Γ w xs hr ht hs hx
 ·exact Zk0 W0 _ _ _ _ _ _ h Γ w xs hr ht hs hx
 ·exact WG (Zmo W0) _ _ _ _ _ _ h Γ w xs hr ht hs hx
 ·exact WG (ZlC W0) _ _ _ _ _ _ h Γ w xs hr ht hs hx
 ·exact Zmj W0 _ _ _ _ _ _ h Γ w xs hr ht hs hx
theorem ZbN {G:Nat→Option (List AV)}{w w':World}(h:GOk G w)(hb:Below w.heap.size w w'):GOk G w':=by
 intro g cells hg
 obtain ⟨h1,h2⟩:=h g cells hg
 refine ⟨Nat.lt_of_lt_of_le h1 hb.size,fun j c hc=>?_⟩
 obtain ⟨u,k1,k2,k3⟩:=h2 j c hc
 exact ⟨u,(WZ (hb.block g h1)).trans k1,k2,k3.mono (Γ':=fun _=>.imm) (fun b o v _ h=>⟨trivial,(WZ (hb.block b (lt_of_cell h))).trans h⟩) (fun b g h=>h)⟩
theorem ZqC {w:World}(h:GOk GF w):ZaV Tryz.prog w CW where
 mixed:=by kernel_rfl
 globals:=h
 table:=fun f af h=>by
  have h:(Zqo.find? (·.1 == f)).map (·.2)=some af:=h
  obtain ⟨p,hp,rfl⟩:=Option.map_eq_some_iff.1 h
  have hf:=List.find?_some hp
  have:p.1=f:=by simpa using hf
  subst this
  exact Zj7 p (List.mem_of_find?_eq_some hp)
 oracle:=ZoL w
theorem ZkA {f:FuncId}{args:List AV}{v:AV}(h:isR f args v=true):Zy CW 60 f args []=some (v,[],none):=by
 unfold isR at h
 split at h
 ·rename_i u he
  rw [ZlU _ _ _ h]; exact he
 ·cases h
theorem ran {W0:World}(hG:GOk GF W0){f:FuncId}{args:List AV}{v:AV}(h:isR f args v=true)(hv:v.flat1=true)(ha:args.all AV.apart=true)(ho:args.all (fun x=>!Nb x)=true){fn:Func}{c:Code}(hf:Tryz.prog.funcs[f]? = some fn)
  (hn:(fn.name == "runtime.NumGoroutine")=false) (hb:fn.body=some c):U6 Tryz.prog W0 f args v:=by
 refine ⟨fun k r h=>(by subst h; cases hv),fun Γ w xs hb0 _ hs hx=>?_⟩
 refine YG hf hn hb ((Zkf (ZqC (ZbN hG hb0)) (ZkA h) hv hs fun j x hj=>⟨(hx j x hj).still' (List.all_eq_true.1 ha x (List.mem_of_getElem? hj)),fun k r e=>?_⟩).mono ?_)
 ·have:=List.all_eq_true.1 ho x (List.mem_of_getElem? hj)
  rw [e] at this
  cases this
 ·rintro e w' ⟨cv,rfl,hb',hr⟩
  exact ⟨cv,rfl,hb',Um hr hv⟩
theorem Znz {W0:World}(hG:GOk GF W0):∀ f args v,Zny f args=some v→U6 Tryz.prog W0 f args v:=by
 intro f args v h
 unfold Zny at h
 obtain ⟨e,he,rfl⟩:=Option.map_eq_some_iff.1 h
 have hm:=List.mem_of_find?_eq_some he
 have hq:=List.find?_some he
 simp only [Bool.and_eq_true,beq_iff_eq] at hq
 obtain ⟨rfl,hq⟩:=hq
 have ha:=OI (ZlU 12) hq
 rw [← ha]
 simp only [Zp2,List.mem_cons,List.not_mem_nil,or_false] at hm
 rcases hm with rfl | rfl | rfl | rfl | rfl | rfl | rfl
 ·exact ran hG Zqb rfl rfl rfl Tryz.func11 (by kernel_rfl) rfl
 ·exact ran hG Zqc rfl rfl rfl Tryz.func11 (by kernel_rfl) rfl
 ·exact ran hG Zqd rfl rfl rfl Tryz.func14 (by kernel_rfl) rfl
 ·exact ran hG Zqe rfl rfl rfl Tryz.func14 (by kernel_rfl) rfl
 ·exact ran hG run_text rfl rfl rfl Tryz.func18 (by kernel_rfl) rfl
 ·exact ran hG Zqf rfl rfl rfl Tryz.func21 (by kernel_rfl) rfl
 ·exact ran hG Zqg rfl rfl rfl Tryz.func21 (by kernel_rfl) rfl
theorem ZqB {W0:World}(hG:GOk GF W0):ZaV Tryz.prog W0 CM where
 mixed:=by kernel_rfl
 globals:=fun g cells h=>by cases h
 table:=fun f af h=>by
  have h:(if [11,14,18,21].contains f then none else (Zqo.find? (·.1 == f)).map (·.2))=some af:=h
  split at h
  ·cases h
  obtain ⟨p,hp,rfl⟩:=Option.map_eq_some_iff.1 h
  have hf:=List.find?_some hp
  have:p.1=f:=by simpa using hf
  subst this
  exact Zj7 p (List.mem_of_find?_eq_some hp)
 oracle:=WG (Znz hG)
theorem ZkD {r:Option (AV×List Zp×Eff)}(h:isT r=true):∃ hp e,r=some (.bool true,hp,e):=by
 unfold isT at h
 split at h
 ·exact ⟨_,_,rfl⟩
 ·cases h
theorem ZmL {w:World}(hG:GOk GF w):Calls Tryz.prog O1 #[] w fun e w'=>e=.returned (.bool true)∧Below w.heap.size w w':=by
 obtain ⟨hp,e,h⟩:=ZkD Zon
 exact Zqp (ZqB hG) Tryz.func10 Zai ZaI h
end
end Go.Proofs.YtleomfgijkapfaaGreatDoor
end
