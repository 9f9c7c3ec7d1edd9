import Derived.Test.YthkdlifcknpadaaGreatProg
import Derived.WalkKit
import Derived.Handy
import Derived.OwnWalk
import Derived.Lib.Hide
import Derived.StillTailTactics
import Derived.BigQuiet
import Derived.Deep.QuietTactic
import Derived.Test.YthkdlifcknpadaaGreatHSh3
set_option linter.all false
section
namespace Go.Proofs.YthkdlifcknpadaaGreat.Sh
open Go Go.RowKit
noncomputable def body4:Code:=(Tryz.f4.body).getD .skip
def WY:Code→Code
 | .seq _ b=>b
 | c=>c
def BK:Code→Code
 | .seq a _=>a
 | c=>c
def ZiC:Code→Code
 | .cond _ a _=>a
 | c=>c
noncomputable def brC:Code:=ZiC (WY (WY (BK (WY (WY (WY (WY body4)))))))
def zS:Value:=.agg #[.string ⟨#[]⟩,.slice none 0 0,.slice none 0 0,.slice none 0 0,.slice none 0 0,.slice none 0 0,.slice none 0 0,.slice none 0 0,.slice none 0 0,.slice none 0 0,.slice none 0 0,.slice none 0 0,.slice none 0 0]
theorem ZtG:(Tryz.prog.info? 39).map (fun i=>(i.zero,i.size,i.bytes))=some (some zS,13,304):=by kernel_rfl
set_option maxRecDepth 100000 in
set_option maxHeartbeats 4000000 in
theorem branch (w:World)(nb:ByteArray)(pA lA:Option Addr)(pn pc ln lc:Nat)(bm bs os n cap i bl ol k capl:Nat)(cv:List Value)(t0 t1 t3 t4 t5 t8 t9 t10 t11 t12 t13 t14 t15 t16 t17 t18 t19 t20 t21 t22 t23 t24 t25 t26 t27 t28 t29 t30 t31 t32 t33 t34 t35 t36 t37 t38 t39 t40 t41 t42 t43 t44 t45 t46 t47 t48 t49 t50 t51 t52 t53 t54 t55 t56 t57 t58 t59 t60 t61 t62 t63 t64 t65 t66 t67 t68 t69 t70 t71 t72 t73 t74 t75 t76 t77 t78 t79 t80 t81 t82 t83 t84 t85 t86 t87 t88 t89 t90 t91 t92 t93 t94 t95 t96 t97 t98 t99 t100 t101 t102 t103 t104 t105 t106 t107 t108 t109 t110 t111 t112 t113 t114 t115 t116 t117 t118 t119 t120 t121 t122 t123 t124 t125 t126 t127 t128 t129 t130 t131 t132 t133 t134 t135 t136 t137 t138 t139:Value){Q:Exit→Act→World→Prop}
  (hbm:w.heap[bm]? = some (.cells #[.string nb,.slice pA pn pc,.slice (some ⟨bs,os,none⟩) n cap,.slice lA ln lc] 26 (0,0)))
  (hcap:n≤cap) (hin:i < n) (hn:n≤20) (hlen:cv.length=n * 13) (hone:∀ v ∈ cv,v.oneCell'=true)
  (hc:∀ j v,cv[j]? = some v→w.cell? ⟨bs,os + j,none⟩=some v) (hrow:cv[i * 13 + 12]? = some (.slice (some ⟨bl,ol,none⟩) (k + 1) capl)) (hcl:k + 1≤capl) (hkk:k + 1≤9223372036854775807)
  (hK:∀ (W:World) (g c':Nat),Below w.heap.size w W→w.heap.size≤g→n≤c'→(∀ j v,(cv.set (i * 13 + 12) (.slice (some ⟨bl,ol,none⟩) k capl))[j]? = some v→W.cell? ⟨g,j,none⟩=some v) →
   Calls Tryz.prog 7 #[.agg #[.string nb,.slice pA pn pc,.slice (some ⟨g,0,none⟩) n c',.slice lA ln lc]] W fun e W'=>e=.returned (.int .i64 0)∧Below W.heap.size W W')
  (hQ:∀ (g c':Nat) (W':World),n≤c'→Below w.heap.size w W'→Q .normal { tmps := #[t0,t1,.pointer (some ⟨bm,0,none⟩),t3,t4,t5,.int .i64 i,.int .i64 ((k:Int) + 1),.pointer (some ⟨w.heap.size,0,none⟩),t9,t10,t11,t12,t13,t14,t15,t16,t17,t18,t19,t20,t21,t22,t23,t24,t25,t26,t27,t28,t29,t30,t31,t32,t33,t34,t35,t36,t37,t38,t39,t40,t41,t42,t43,t44,t45,t46,t47,t48,t49,t50,t51,t52,t53,t54,t55,t56,t57,t58,.agg #[.string nb,.slice pA pn pc,.slice (some ⟨bs,os,none⟩) n cap,.slice lA ln lc],.slice (some ⟨w.heap.size + 1,0,none⟩) 0 0,.pointer (some ⟨bm,2,none⟩),.slice (some ⟨bs,os,none⟩) n cap,.slice (some ⟨g,0,none⟩) n c',.pointer (some ⟨w.heap.size,2,none⟩),.pointer (some ⟨w.heap.size,2,none⟩),.slice (some ⟨g,0,none⟩) n c',.int .i64 i,.pointer (some ⟨bm,2,none⟩),.slice (some ⟨bs,os,none⟩) n cap,.int .i64 i,.pointer (some ⟨bs,os + i * 13,none⟩),.pointer (some ⟨bs,os + i * 13 + 12,none⟩),.slice (some ⟨bl,ol,none⟩) (k + 1) capl,.int .i64 ((k:Int) + 1),.int .i64 k,.slice (some ⟨bl,ol,none⟩) k capl,.pointer (some ⟨g,i * 13,none⟩),.pointer (some ⟨g,i * 13 + 12,none⟩),.agg #[.string nb,.slice pA pn pc,.slice (some ⟨g,0,none⟩) n c',.slice lA ln lc],.int .i64 0,.bool false,t82,t83,t84,t85,t86,t87,t88,t89,t90,t91,t92,t93,t94,t95,t96,t97,t98,t99,t100,t101,t102,t103,t104,t105,t106,t107,t108,t109,t110,t111,t112,t113,t114,t115,t116,t117,t118,t119,t120,t121,t122,t123,t124,t125,t126,t127,t128,t129,t130,t131,t132,t133,t134,t135,t136,t137,t138,t139],defers := [] } W') :
  brC.wp Tryz.prog Q { tmps := #[t0,t1,.pointer (some ⟨bm,0,none⟩),t3,t4,t5,.int .i64 i,.int .i64 ((k:Int) + 1),t8,t9,t10,t11,t12,t13,t14,t15,t16,t17,t18,t19,t20,t21,t22,t23,t24,t25,t26,t27,t28,t29,t30,t31,t32,t33,t34,t35,t36,t37,t38,t39,t40,t41,t42,t43,t44,t45,t46,t47,t48,t49,t50,t51,t52,t53,t54,t55,t56,t57,t58,t59,t60,t61,t62,t63,t64,t65,t66,t67,t68,t69,t70,t71,t72,t73,t74,t75,t76,t77,t78,t79,t80,t81,t82,t83,t84,t85,t86,t87,t88,t89,t90,t91,t92,t93,t94,t95,t96,t97,t98,t99,t100,t101,t102,t103,t104,t105,t106,t107,t108,t109,t110,t111,t112,t113,t114,t115,t116,t117,t118,t119,t120,t121,t122,t123,t124,t125,t126,t127,t128,t129,t130,t131,t132,t133,t134,t135,t136,t137,t138,t139],defers := [] } w:=by
 conv in (brC)=>simp only [brC,WY,BK,ZiC,body4,Tryz.f4,Option.getD_some]
 have hbs:bm < w.heap.size:=(Array.getElem?_eq_some_iff.1 hbm).1
 have m0:w.cell? ⟨bm,0,none⟩=some (.string nb):=by simp [World.cell?,hbm]
 have m1:w.cell? ⟨bm,1,none⟩=some (.slice pA pn pc):=by simp [World.cell?,hbm]
 have m2:w.cell? ⟨bm,2,none⟩=some (.slice (some ⟨bs,os,none⟩) n cap):=by simp [World.cell?,hbm]
 have m3:w.cell? ⟨bm,3,none⟩=some (.slice lA ln lc):=by simp [World.cell?,hbm]
 have hbss:bs < w.heap.size:=World.block_lt_of_cell? w _ (hc _ _ hrow)
 obtain ⟨i0,hi,hz0,hz1,hz2⟩:=info_parts ZtG
 obtain ⟨L1,hL1⟩:∃ L1,(w.alloc (.cells #[.string nb,.slice pA pn pc,.slice (some ⟨bs,os,none⟩) n cap,.slice lA ln lc] 26)).alloc (.cells #[] 39)=L1:=⟨_,rfl⟩
 have hsz1:L1.heap.size=w.heap.size + 2:=by rw [← hL1]; simp
 have hB1:Below w.heap.size w L1:=by rw [← hL1]; exact ((Below.refl _ w).alloc (Nat.le_refl _) _).alloc (by simp) _
 have hbl1:L1.heap[w.heap.size]? = some (.cells #[.string nb,.slice pA pn pc,.slice (some ⟨bs,os,none⟩) n cap,.slice lA ln lc] 26 (0,0)):=by
  rw [← hL1]
  show ((w.heap.push _).push _)[w.heap.size]? = _
  rw [Array.getElem?_push,if_neg (by simp),Array.getElem?_push,if_pos rfl]
 have hown:L1.ownsRow w.heap.size 39 13 (.slice (some ⟨w.heap.size + 1,0,none⟩) 0 0) 0 []:=by
  refine ⟨rfl,.inr ⟨w.heap.size + 1,0,#[],rfl,by omega,?_,Nat.le_refl _,by simp [maxLen],rfl,rfl⟩⟩
  rw [← hL1]
  show ((w.heap.push _).push _)[w.heap.size + 1]? = _
  rw [Array.getElem?_push,if_pos (by simp)]
 have hnews:∀ (j:Nat) (u:Value),cv[j]? = some u→L1.cell? ((⟨bs,os,none⟩:Addr).add j)=some u:=fun j u hj=>by rw [Addr.add_lit]; exact (hB1.cell (p := ⟨bs,os + j,none⟩) hbss).trans (hc j u hj)
 have k63:0 + n≤maxLen:=by simp [maxLen]; omega
 have kby:(0 + n) * 304≤140737488355328:=by omega
 have ksz:w.heap.size≤L1.heap.size:=by omega
 have M2:L1.cell? ⟨bm,2,none⟩=some (.slice (some ⟨bs,os,none⟩) n cap):=(hB1.cell (p := ⟨bm,2,none⟩) hbs).trans m2
 clear hbm
 have HC:=Lib.hid hc
 have HR:=Lib.hid hrow
 have HN:=Lib.hid hnews
 have HB:=Lib.hid hbl1
 have HK:=Lib.hid hK
 clear hc hrow hbl1 hK
 go_wp2_with (at_builtin; refine wpList_append_own _ rfl _ _ 23 rfl w.heap.size 39 i0 zS 13 304 Tryz.underlying23 hi hz0 hz1 hz2 rfl (by decide) _ 0 [] rfl hown ⟨bs,os,none⟩ n cap cv rfl hlen hnews hone k63 kby ksz ?_)
 intro v' w1 hown' hgrow _
 have hl1:=hown'.1
 rcases hown'.2 with ⟨_,h0⟩ | ⟨g,c',cur,rfl,hg,hgb,hnc,hcm',hcs,htk⟩
 ·exact absurd h0 (by omega)
 have hB2:Below w.heap.size w w1:=hB1.grown hgrow ksz fun j ej=>by
  obtain rfl:w.heap.size + 1=j:=by simpa [Value.ownBlock] using ej
  omega
 have hbl2:w1.heap[w.heap.size]? = some (.cells #[.string nb,.slice pA pn pc,.slice (some ⟨bs,os,none⟩) n cap,.slice lA ln lc] 26 (0,0)):=by
  rw [hgrow.block _ (by omega) (by simp [Value.ownBlock])]; exact HB.out
 have hne:g≠w.heap.size:=fun e=>by
  rw [e,hbl2] at hgb
  cases hgb
 have c2:w1.cell? ⟨w.heap.size,2,none⟩=some (.slice (some ⟨bs,os,none⟩) n cap):=by simp [World.cell?,hbl2]
 have f2:w1.frozen? ⟨w.heap.size,2,none⟩=false:=by simp [World.frozen?,hbl2]
 obtain ⟨L2,hL2⟩:∃ L2,w1.setCell ⟨w.heap.size,2,none⟩ (.slice (some ⟨g,0,none⟩) n c')=L2:=⟨_,rfl⟩
 have hB3:Below w.heap.size w L2:=by rw [← hL2]; exact hB2.setCell (p := ⟨w.heap.size,2,none⟩) (Nat.le_refl _) _
 have hbl3:L2.heap[w.heap.size]? = some (.cells #[.string nb,.slice pA pn pc,.slice (some ⟨g,0,none⟩) n c',.slice lA ln lc] 26 (0,0)):=by
  rw [← hL2]
  show (w1.heap.modify _ _)[w.heap.size]? = _
  rw [Array.getElem?_modify,if_pos rfl,hbl2]; rfl
 have hgb3:L2.heap[g]? = some (.cells cur 39 (0,0)):=by
  rw [← hL2]
  show (w1.heap.modify _ _)[g]? = _
  rw [Array.getElem?_modify,if_neg (Ne.symm hne),hgb]
 have e1:L2.cell? ⟨w.heap.size,2,none⟩=some (.slice (some ⟨g,0,none⟩) n c'):=by simp [World.cell?,hbl3]
 have e2:L2.cell? ⟨bm,2,none⟩=some (.slice (some ⟨bs,os,none⟩) n cap):=(hB3.cell (p := ⟨bm,2,none⟩) hbs).trans m2
 have e3:L2.cell? ⟨bs,os + i * 13 + 12,none⟩=some (.slice (some ⟨bl,ol,none⟩) (k + 1) capl):=(hB3.cell (p := ⟨bs,os + i * 13 + 12,none⟩) hbss).trans (by rw [Nat.add_assoc]; exact HC.out _ _ HR.out)
 have hci:cur[i * 13 + 12]? = some (.slice (some ⟨bl,ol,none⟩) (k + 1) capl):=by
  have h:=HR.out
  rw [← htk,List.getElem?_take,if_pos (by omega),Array.getElem?_toList] at h
  exact h
 have e4:L2.cell? ⟨g,i * 13 + 12,none⟩=some (.slice (some ⟨bl,ol,none⟩) (k + 1) capl):=by simp [World.cell?,hgb3,hci]
 have e5:L2.frozen? ⟨g,i * 13 + 12,none⟩=false:=by simp [World.frozen?,hgb3]
 have HG3:=Lib.hid hgb3
 have HB3:=Lib.hid hbl3
 have HCI:=Lib.hid hci
 have HT:=Lib.hid htk
 clear hgb hbl2 hbl3 hgb3 hci htk hown' hgrow hown hnews hL1 m0 m1 m2 m3 M2 hone
 go_wp2_with (fail)
 have hwk:IntKind.i64.wrap (k:Int)=k:=by rw [IntKind.wrap_i64]; omega
 have hkc:k≤capl:=by omega
 go_still_tail 14,(by kernel_rfl)
 obtain ⟨L3,hL3⟩:∃ L3:World,({ L2 with drawn:=L2.drawn + 1 }:World)=L3:=⟨_,rfl⟩
 have h3:L3.heap=L2.heap:=by rw [← hL3]
 have hB4:Below w.heap.size w L3:=hB3.trans (by rw [← hL3]; exact ⟨rfl,rfl,rfl,Nat.le_refl _,fun _ _=>rfl⟩)
 have e6:L3.cell? ⟨g,i * 13 + 12,none⟩=some (.slice (some ⟨bl,ol,none⟩) (k + 1) capl):=by simp only [World.cell?,h3,HG3.out]; exact HCI.out
 have e7:L3.frozen? ⟨g,i * 13 + 12,none⟩=false:=by simp [World.frozen?,h3,HG3.out]
 obtain ⟨L4,hL4⟩:∃ L4,L3.setCell ⟨g,i * 13 + 12,none⟩ (.slice (some ⟨bl,ol,none⟩) k capl)=L4:=⟨_,rfl⟩
 have hB5:Below w.heap.size w L4:=by rw [← hL4]; exact hB4.setCell (p := ⟨g,i * 13 + 12,none⟩) hg _
 have hbl4:L4.heap[w.heap.size]? = some (.cells #[.string nb,.slice pA pn pc,.slice (some ⟨g,0,none⟩) n c',.slice lA ln lc] 26 (0,0)):=by
  rw [← hL4]
  show (L3.heap.modify _ _)[w.heap.size]? = _
  rw [Array.getElem?_modify,if_neg hne,h3]; exact HB3.out
 have hgb4:L4.heap[g]? = some (.cells (cur.set! (i * 13 + 12) (.slice (some ⟨bl,ol,none⟩) k capl)) 39 (0,0)):=by
  rw [← hL4]
  show (L3.heap.modify _ _)[g]? = _
  rw [Array.getElem?_modify,if_pos rfl,h3,HG3.out]; rfl
 have d0:L4.cell? ⟨w.heap.size,0,none⟩=some (.string nb):=by simp [World.cell?,hbl4]
 have d1:L4.cell? ⟨w.heap.size,1,none⟩=some (.slice pA pn pc):=by simp [World.cell?,hbl4]
 have d2:L4.cell? ⟨w.heap.size,2,none⟩=some (.slice (some ⟨g,0,none⟩) n c'):=by simp [World.cell?,hbl4]
 have d3:L4.cell? ⟨w.heap.size,3,none⟩=some (.slice lA ln lc):=by simp [World.cell?,hbl4]
 have hcells:∀ j v,(cv.set (i * 13 + 12) (.slice (some ⟨bl,ol,none⟩) k capl))[j]? = some v→L4.cell? ⟨g,j,none⟩=some v:=fun j v hj=>by
  simp only [World.cell?,hgb4]
  rw [← HT.out] at hj
  have hsz:i * 13 + 12 < cur.size:=(Array.getElem?_eq_some_iff.1 HCI.out).1
  rw [Array.set!_eq_setIfInBounds,Array.getElem?_setIfInBounds]
  rw [List.getElem?_set] at hj
  split at hj
  ·rename_i e
   subst e
   split at hj
   ·cases hj; simp [hsz]
   ·cases hj
  ·rename_i e
   rw [if_neg e]
   rw [List.getElem?_take] at hj
   split at hj
   ·rw [← Array.getElem?_toList]; exact hj
   ·cases hj
 have hQ':=fun W'=>hQ g c' W' hnc
 clear hQ
 have hc4:=HK.out L4 g c' hB5 hg hnc hcells
 have HB5:=Lib.hid hB5
 clear hcells hgb4 hbl4 hB5 hB4 hB3 hB2 hB1 h3 HG3 HB3 HCI HT HK HB HN HR HC e1 e2 e3 e4 e5 c2 f2 hL2
 rw [hL3]
 clear hL3
 go_wp2_with (go_at_call 7; refine hc4.mono ?_; rintro e w' ⟨rfl,hb⟩)
 exact HB5.out.trans (hb.mono HB5.out.size)
end Go.Proofs.YthkdlifcknpadaaGreat.Sh
end
