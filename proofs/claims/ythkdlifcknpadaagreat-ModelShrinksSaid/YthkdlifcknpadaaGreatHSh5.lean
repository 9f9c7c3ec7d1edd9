import Derived.LoopN
import Derived.Scope
import Derived.Orders
import Derived.Test.YthkdlifcknpadaaGreatHSh4
set_option linter.all false
section
namespace Go.Proofs.YthkdlifcknpadaaGreat
open Go Go.RowKit Go.Proofs.YthkdlifcknpadaaGreat.Abs
set_option maxRecDepth 100000
set_option maxHeartbeats 4000000
theorem ZsO (b:ByteArray):Ko (.str b.data.toList) (.string b):=⟨fun Γ w=>by have:=Rep.str (Γ := Γ) (w := w) b.data.toList; simpa using this,fun _ _ h=>by cases h⟩
theorem Zll {Γ:Zu}{w:World}{k:Nat}{r:List (List AV)}{v:Value}(h:Rep Γ w (.lst k r) v):(∃ A n c,v=.slice A n c)∧∃ x:AV,x.one=true∧Ko x v:=by
 cases h with
 | lstNil=>exact ⟨⟨_,_,_,rfl⟩,.lst 0 [],rfl,fun _ _=>.lstNil 0,fun _ _ h=>by cases h⟩
 | lstE _ A cap=>exact ⟨⟨_,_,_,rfl⟩,.lst 0 [],rfl,fun _ _=>.lstE 0 A cap,fun _ _ h=>by cases h⟩
 | lst _ _ b o cap cv hl _ _ _=>exact ⟨⟨_,_,_,rfl⟩,.lst 0 (List.replicate r.length []),rfl,ZcM b o _ cap hl⟩
theorem Zh9 {nb:ByteArray}{a b:Value}{xp xl:AV}(hp:xp.one=true∧Ko xp a)(hl:xl.one=true∧Ko xl b){bs os n cap:Nat}(h:n≤cap) :
  Ko (.agg [.str nb.data.toList,xp,.lst 0 (List.replicate n []),xl]) (.agg #[.string nb,a,.slice (some ⟨bs,os,none⟩) n cap,b]):=by
 refine ZsN rfl fun j x hx=>?_
 match j,hx with
 | 0,hx=>cases hx; exact ⟨rfl,ZsO nb⟩
 | 1,hx=>cases hx; exact hp
 | 2,hx=>cases hx; exact ⟨rfl,ZcM _ _ _ _ h⟩
 | 3,hx=>cases hx; exact hl
 | _ + 4,hx=>simp at hx
def fJ (nb:ByteArray)(xp xl:AV)(n i k:Nat):Nat→AV:=fun t=>match t with
   | 8=>.ref []
   | 59=>.agg [.str nb.data.toList,xp,.lst 0 (List.replicate n []),xl]
   | 60=>.lst 0 (List.replicate 0 [])
   | 61=>.ref []
   | 62=>.lst 0 (List.replicate n [])
   | 63=>.lst 0 (List.replicate n [])
   | 64=>.ref []
   | 65=>.ref []
   | 66=>.lst 0 (List.replicate n [])
   | 67=>.int .i64 i
   | 68=>.ref []
   | 69=>.lst 0 (List.replicate n [])
   | 70=>.int .i64 i
   | 71=>.ref []
   | 72=>.ref []
   | 73=>.lst 0 (List.replicate (k + 1) [])
   | 74=>.int .i64 ((k:Int) + 1)
   | 75=>.int .i64 k
   | 76=>.lst 0 (List.replicate k [])
   | 77=>.ref []
   | 78=>.ref []
   | 79=>.agg [.str nb.data.toList,xp,.lst 0 (List.replicate n []),xl]
   | 80=>.int .i64 0
   | 81=>.bool false
   | _=>.undef
def ZoM (t:Nat):Bool:=t == 8 || (Nat.ble 59 t && Nat.ble t 81)
theorem ZhK {E:Entry}{s:Za}{Γ:Zu}{w W':World}(nb:ByteArray)(pA lA:Option Addr)(pn pc ln lc bm bs os n cap i bl ol k capl g c':Nat)(t0 t1 t2 t3 t4 t5 t6 t7 t8 t9 t10 t11 t12 t13 t14 t15 t16 t17 t18 t19 t20 t21 t22 t23 t24 t25 t26 t27 t28 t29 t30 t31 t32 t33 t34 t35 t36 t37 t38 t39 t40 t41 t42 t43 t44 t45 t46 t47 t48 t49 t50 t51 t52 t53 t54 t55 t56 t57 t58 t59 t60 t61 t62 t63 t64 t65 t66 t67 t68 t69 t70 t71 t72 t73 t74 t75 t76 t77 t78 t79 t80 t81 t82 t83 t84 t85 t86 t87 t88 t89 t90 t91 t92 t93 t94 t95 t96 t97 t98 t99 t100 t101 t102 t103 t104 t105 t106 t107 t108 t109 t110 t111 t112 t113 t114 t115 t116 t117 t118 t119 t120 t121 t122 t123 t124 t125 t126 t127 t128 t129 t130 t131 t132 t133 t134 t135 t136 t137 t138 t139:Value){xp xl:AV}(hxp:xp.one=true∧Ko xp (.slice pA pn pc))(hxl:xl.one=true∧Ko xl (.slice lA ln lc))
  (hcap:n≤cap) (hc':n≤c') (hk:k + 1≤capl) (hB:Below w.heap.size w W')
  (hI:Inv E s Γ { tmps := #[t0,t1,.pointer (some ⟨bm,0,none⟩),t3,t4,t5,.int .i64 i,.int .i64 ((k:Int) + 1),t8,t9,t10,t11,t12,t13,t14,t15,t16,t17,t18,t19,t20,t21,t22,t23,t24,t25,t26,t27,t28,t29,t30,t31,t32,t33,t34,t35,t36,t37,t38,t39,t40,t41,t42,t43,t44,t45,t46,t47,t48,t49,t50,t51,t52,t53,t54,t55,t56,t57,t58,t59,t60,t61,t62,t63,t64,t65,t66,t67,t68,t69,t70,t71,t72,t73,t74,t75,t76,t77,t78,t79,t80,t81,t82,t83,t84,t85,t86,t87,t88,t89,t90,t91,t92,t93,t94,t95,t96,t97,t98,t99,t100,t101,t102,t103,t104,t105,t106,t107,t108,t109,t110,t111,t112,t113,t114,t115,t116,t117,t118,t119,t120,t121,t122,t123,t124,t125,t126,t127,t128,t129,t130,t131,t132,t133,t134,t135,t136,t137,t138,t139],defers := [] } w) :
  ∃ sl,(∀ t,ZoM t=false→sl[t]? = s.sl[t]?)∧sl.length=s.sl.length∧Inv E { s with sl:=sl } Γ { tmps := #[t0,t1,.pointer (some ⟨bm,0,none⟩),t3,t4,t5,.int .i64 i,.int .i64 ((k:Int) + 1),.pointer (some ⟨w.heap.size,0,none⟩),t9,t10,t11,t12,t13,t14,t15,t16,t17,t18,t19,t20,t21,t22,t23,t24,t25,t26,t27,t28,t29,t30,t31,t32,t33,t34,t35,t36,t37,t38,t39,t40,t41,t42,t43,t44,t45,t46,t47,t48,t49,t50,t51,t52,t53,t54,t55,t56,t57,t58,.agg #[.string nb,.slice pA pn pc,.slice (some ⟨bs,os,none⟩) n cap,.slice lA ln lc],.slice (some ⟨w.heap.size + 1,0,none⟩) 0 0,.pointer (some ⟨bm,2,none⟩),.slice (some ⟨bs,os,none⟩) n cap,.slice (some ⟨g,0,none⟩) n c',.pointer (some ⟨w.heap.size,2,none⟩),.pointer (some ⟨w.heap.size,2,none⟩),.slice (some ⟨g,0,none⟩) n c',.int .i64 i,.pointer (some ⟨bm,2,none⟩),.slice (some ⟨bs,os,none⟩) n cap,.int .i64 i,.pointer (some ⟨bs,os + i * 13,none⟩),.pointer (some ⟨bs,os + i * 13 + 12,none⟩),.slice (some ⟨bl,ol,none⟩) (k + 1) capl,.int .i64 ((k:Int) + 1),.int .i64 k,.slice (some ⟨bl,ol,none⟩) k capl,.pointer (some ⟨g,i * 13,none⟩),.pointer (some ⟨g,i * 13 + 12,none⟩),.agg #[.string nb,.slice pA pn pc,.slice (some ⟨g,0,none⟩) n c',.slice lA ln lc],.int .i64 0,.bool false,t82,t83,t84,t85,t86,t87,t88,t89,t90,t91,t92,t93,t94,t95,t96,t97,t98,t99,t100,t101,t102,t103,t104,t105,t106,t107,t108,t109,t110,t111,t112,t113,t114,t115,t116,t117,t118,t119,t120,t121,t122,t123,t124,t125,t126,t127,t128,t129,t130,t131,t132,t133,t134,t135,t136,t137,t138,t139],defers := [] } W':=by
 have key:=Zlk (a':={ tmps := #[t0,t1,.pointer (some ⟨bm,0,none⟩),t3,t4,t5,.int .i64 i,.int .i64 ((k:Int) + 1),.pointer (some ⟨w.heap.size,0,none⟩),t9,t10,t11,t12,t13,t14,t15,t16,t17,t18,t19,t20,t21,t22,t23,t24,t25,t26,t27,t28,t29,t30,t31,t32,t33,t34,t35,t36,t37,t38,t39,t40,t41,t42,t43,t44,t45,t46,t47,t48,t49,t50,t51,t52,t53,t54,t55,t56,t57,t58,.agg #[.string nb,.slice pA pn pc,.slice (some ⟨bs,os,none⟩) n cap,.slice lA ln lc],.slice (some ⟨w.heap.size + 1,0,none⟩) 0 0,.pointer (some ⟨bm,2,none⟩),.slice (some ⟨bs,os,none⟩) n cap,.slice (some ⟨g,0,none⟩) n c',.pointer (some ⟨w.heap.size,2,none⟩),.pointer (some ⟨w.heap.size,2,none⟩),.slice (some ⟨g,0,none⟩) n c',.int .i64 i,.pointer (some ⟨bm,2,none⟩),.slice (some ⟨bs,os,none⟩) n cap,.int .i64 i,.pointer (some ⟨bs,os + i * 13,none⟩),.pointer (some ⟨bs,os + i * 13 + 12,none⟩),.slice (some ⟨bl,ol,none⟩) (k + 1) capl,.int .i64 ((k:Int) + 1),.int .i64 k,.slice (some ⟨bl,ol,none⟩) k capl,.pointer (some ⟨g,i * 13,none⟩),.pointer (some ⟨g,i * 13 + 12,none⟩),.agg #[.string nb,.slice pA pn pc,.slice (some ⟨g,0,none⟩) n c',.slice lA ln lc],.int .i64 0,.bool false,t82,t83,t84,t85,t86,t87,t88,t89,t90,t91,t92,t93,t94,t95,t96,t97,t98,t99,t100,t101,t102,t103,t104,t105,t106,t107,t108,t109,t110,t111,t112,t113,t114,t115,t116,t117,t118,t119,t120,t121,t122,t123,t124,t125,t126,t127,t128,t129,t130,t131,t132,t133,t134,t135,t136,t137,t138,t139],defers := [] }) ((Zdr hB).inv hI) rfl rfl ZoM (fun t ht=>?_) (fJ nb xp xl n i k) (fun t ht=>?_)
 refine ⟨_,fun t ht=>?_,?_,key⟩
 ·rw [List.getElem?_mapIdx]
  cases h:s.sl[t]? with
  | none=>rfl
  | some v=>simp [ht]
 ·simp
 ·match t,ht with
  | 0,_=>rfl
  | 1,_=>rfl
  | 2,_=>rfl
  | 3,_=>rfl
  | 4,_=>rfl
  | 5,_=>rfl
  | 6,_=>rfl
  | 7,_=>rfl
  | 9,_=>rfl
  | 10,_=>rfl
  | 11,_=>rfl
  | 12,_=>rfl
  | 13,_=>rfl
  | 14,_=>rfl
  | 15,_=>rfl
  | 16,_=>rfl
  | 17,_=>rfl
  | 18,_=>rfl
  | 19,_=>rfl
  | 20,_=>rfl
  | 21,_=>rfl
  | 22,_=>rfl
  | 23,_=>rfl
  | 24,_=>rfl
  | 25,_=>rfl
  | 26,_=>rfl
  | 27,_=>rfl
  | 28,_=>rfl
  | 29,_=>rfl
  | 30,_=>rfl
  | 31,_=>rfl
  | 32,_=>rfl
  | 33,_=>rfl
  | 34,_=>rfl
  | 35,_=>rfl
  | 36,_=>rfl
  | 37,_=>rfl
  | 38,_=>rfl
  | 39,_=>rfl
  | 40,_=>rfl
  | 41,_=>rfl
  | 42,_=>rfl
  | 43,_=>rfl
  | 44,_=>rfl
  | 45,_=>rfl
  | 46,_=>rfl
  | 47,_=>rfl
  | 48,_=>rfl
  | 49,_=>rfl
  | 50,_=>rfl
  | 51,_=>rfl
  | 52,_=>rfl
  | 53,_=>rfl
  | 54,_=>rfl
  | 55,_=>rfl
  | 56,_=>rfl
  | 57,_=>rfl
  | 58,_=>rfl
  | 82,_=>rfl
  | 83,_=>rfl
  | 84,_=>rfl
  | 85,_=>rfl
  | 86,_=>rfl
  | 87,_=>rfl
  | 88,_=>rfl
  | 89,_=>rfl
  | 90,_=>rfl
  | 91,_=>rfl
  | 92,_=>rfl
  | 93,_=>rfl
  | 94,_=>rfl
  | 95,_=>rfl
  | 96,_=>rfl
  | 97,_=>rfl
  | 98,_=>rfl
  | 99,_=>rfl
  | 100,_=>rfl
  | 101,_=>rfl
  | 102,_=>rfl
  | 103,_=>rfl
  | 104,_=>rfl
  | 105,_=>rfl
  | 106,_=>rfl
  | 107,_=>rfl
  | 108,_=>rfl
  | 109,_=>rfl
  | 110,_=>rfl
  | 111,_=>rfl
  | 112,_=>rfl
  | 113,_=>rfl
  | 114,_=>rfl
  | 115,_=>rfl
  | 116,_=>rfl
  | 117,_=>rfl
  | 118,_=>rfl
  | 119,_=>rfl
  | 120,_=>rfl
  | 121,_=>rfl
  | 122,_=>rfl
  | 123,_=>rfl
  | 124,_=>rfl
  | 125,_=>rfl
  | 126,_=>rfl
  | 127,_=>rfl
  | 128,_=>rfl
  | 129,_=>rfl
  | 130,_=>rfl
  | 131,_=>rfl
  | 132,_=>rfl
  | 133,_=>rfl
  | 134,_=>rfl
  | 135,_=>rfl
  | 136,_=>rfl
  | 137,_=>rfl
  | 138,_=>rfl
  | 139,_=>rfl
  | 8,ht=>cases ht
  | 59,ht=>cases ht
  | 60,ht=>cases ht
  | 61,ht=>cases ht
  | 62,ht=>cases ht
  | 63,ht=>cases ht
  | 64,ht=>cases ht
  | 65,ht=>cases ht
  | 66,ht=>cases ht
  | 67,ht=>cases ht
  | 68,ht=>cases ht
  | 69,ht=>cases ht
  | 70,ht=>cases ht
  | 71,ht=>cases ht
  | 72,ht=>cases ht
  | 73,ht=>cases ht
  | 74,ht=>cases ht
  | 75,ht=>cases ht
  | 76,ht=>cases ht
  | 77,ht=>cases ht
  | 78,ht=>cases ht
  | 79,ht=>cases ht
  | 80,ht=>cases ht
  | 81,ht=>cases ht
  | t + 140,_=>simp [Array.getD]
 ·match t,ht with
  | 8,_=>exact Dv _ _
  | 59,_=>exact Zh9 hxp hxl (by omega)
  | 60,_=>exact ZcM _ _ _ _ (by omega)
  | 61,_=>exact Dv _ _
  | 62,_=>exact ZcM _ _ _ _ (by omega)
  | 63,_=>exact ZcM _ _ _ _ (by omega)
  | 64,_=>exact Dv _ _
  | 65,_=>exact Dv _ _
  | 66,_=>exact ZcM _ _ _ _ (by omega)
  | 67,_=>exact ZeF _ _
  | 68,_=>exact Dv _ _
  | 69,_=>exact ZcM _ _ _ _ (by omega)
  | 70,_=>exact ZeF _ _
  | 71,_=>exact Dv _ _
  | 72,_=>exact Dv _ _
  | 73,_=>exact ZcM _ _ _ _ (by omega)
  | 74,_=>exact ZeF _ _
  | 75,_=>exact ZeF _ _
  | 76,_=>exact ZcM _ _ _ _ (by omega)
  | 77,_=>exact Dv _ _
  | 78,_=>exact Dv _ _
  | 79,_=>exact Zh9 hxp hxl (by omega)
  | 80,_=>exact ZeF _ _
  | 81,_=>exact Zqq _
  | 0,ht=>cases ht
  | 1,ht=>cases ht
  | 2,ht=>cases ht
  | 3,ht=>cases ht
  | 4,ht=>cases ht
  | 5,ht=>cases ht
  | 6,ht=>cases ht
  | 7,ht=>cases ht
  | 9,ht=>cases ht
  | 10,ht=>cases ht
  | 11,ht=>cases ht
  | 12,ht=>cases ht
  | 13,ht=>cases ht
  | 14,ht=>cases ht
  | 15,ht=>cases ht
  | 16,ht=>cases ht
  | 17,ht=>cases ht
  | 18,ht=>cases ht
  | 19,ht=>cases ht
  | 20,ht=>cases ht
  | 21,ht=>cases ht
  | 22,ht=>cases ht
  | 23,ht=>cases ht
  | 24,ht=>cases ht
  | 25,ht=>cases ht
  | 26,ht=>cases ht
  | 27,ht=>cases ht
  | 28,ht=>cases ht
  | 29,ht=>cases ht
  | 30,ht=>cases ht
  | 31,ht=>cases ht
  | 32,ht=>cases ht
  | 33,ht=>cases ht
  | 34,ht=>cases ht
  | 35,ht=>cases ht
  | 36,ht=>cases ht
  | 37,ht=>cases ht
  | 38,ht=>cases ht
  | 39,ht=>cases ht
  | 40,ht=>cases ht
  | 41,ht=>cases ht
  | 42,ht=>cases ht
  | 43,ht=>cases ht
  | 44,ht=>cases ht
  | 45,ht=>cases ht
  | 46,ht=>cases ht
  | 47,ht=>cases ht
  | 48,ht=>cases ht
  | 49,ht=>cases ht
  | 50,ht=>cases ht
  | 51,ht=>cases ht
  | 52,ht=>cases ht
  | 53,ht=>cases ht
  | 54,ht=>cases ht
  | 55,ht=>cases ht
  | 56,ht=>cases ht
  | 57,ht=>cases ht
  | 58,ht=>cases ht
  | 82,ht=>cases ht
  | 83,ht=>cases ht
  | 84,ht=>cases ht
  | 85,ht=>cases ht
  | 86,ht=>cases ht
  | 87,ht=>cases ht
  | 88,ht=>cases ht
  | 89,ht=>cases ht
  | 90,ht=>cases ht
  | 91,ht=>cases ht
  | 92,ht=>cases ht
  | 93,ht=>cases ht
  | 94,ht=>cases ht
  | 95,ht=>cases ht
  | 96,ht=>cases ht
  | 97,ht=>cases ht
  | 98,ht=>cases ht
  | 99,ht=>cases ht
  | 100,ht=>cases ht
  | 101,ht=>cases ht
  | 102,ht=>cases ht
  | 103,ht=>cases ht
  | 104,ht=>cases ht
  | 105,ht=>cases ht
  | 106,ht=>cases ht
  | 107,ht=>cases ht
  | 108,ht=>cases ht
  | 109,ht=>cases ht
  | 110,ht=>cases ht
  | 111,ht=>cases ht
  | 112,ht=>cases ht
  | 113,ht=>cases ht
  | 114,ht=>cases ht
  | 115,ht=>cases ht
  | 116,ht=>cases ht
  | 117,ht=>cases ht
  | 118,ht=>cases ht
  | 119,ht=>cases ht
  | 120,ht=>cases ht
  | 121,ht=>cases ht
  | 122,ht=>cases ht
  | 123,ht=>cases ht
  | 124,ht=>cases ht
  | 125,ht=>cases ht
  | 126,ht=>cases ht
  | 127,ht=>cases ht
  | 128,ht=>cases ht
  | 129,ht=>cases ht
  | 130,ht=>cases ht
  | 131,ht=>cases ht
  | 132,ht=>cases ht
  | 133,ht=>cases ht
  | 134,ht=>cases ht
  | 135,ht=>cases ht
  | 136,ht=>cases ht
  | 137,ht=>cases ht
  | 138,ht=>cases ht
  | 139,ht=>cases ht
  | t + 140,ht=>simp [ZoM] at ht
theorem Zqu {M:Array Value→Prop}(K:∀ t0 t1 t2 t3 t4 t5 t6 t7 t8 t9 t10 t11 t12 t13 t14 t15 t16 t17 t18 t19 t20 t21 t22 t23 t24 t25 t26 t27 t28 t29 t30 t31 t32 t33 t34 t35 t36 t37 t38 t39 t40 t41 t42 t43 t44 t45 t46 t47 t48 t49 t50 t51 t52 t53 t54 t55 t56 t57 t58 t59 t60 t61 t62 t63 t64 t65 t66 t67 t68 t69 t70 t71 t72 t73 t74 t75 t76 t77 t78 t79 t80 t81 t82 t83 t84 t85 t86 t87 t88 t89 t90 t91 t92 t93 t94 t95 t96 t97 t98 t99 t100 t101 t102 t103 t104 t105 t106 t107 t108 t109 t110 t111 t112 t113 t114 t115 t116 t117 t118 t119 t120 t121 t122 t123 t124 t125 t126 t127 t128 t129 t130 t131 t132 t133 t134 t135 t136 t137 t138 t139:Value,M #[t0,t1,t2,t3,t4,t5,t6,t7,t8,t9,t10,t11,t12,t13,t14,t15,t16,t17,t18,t19,t20,t21,t22,t23,t24,t25,t26,t27,t28,t29,t30,t31,t32,t33,t34,t35,t36,t37,t38,t39,t40,t41,t42,t43,t44,t45,t46,t47,t48,t49,t50,t51,t52,t53,t54,t55,t56,t57,t58,t59,t60,t61,t62,t63,t64,t65,t66,t67,t68,t69,t70,t71,t72,t73,t74,t75,t76,t77,t78,t79,t80,t81,t82,t83,t84,t85,t86,t87,t88,t89,t90,t91,t92,t93,t94,t95,t96,t97,t98,t99,t100,t101,t102,t103,t104,t105,t106,t107,t108,t109,t110,t111,t112,t113,t114,t115,t116,t117,t118,t119,t120,t121,t122,t123,t124,t125,t126,t127,t128,t129,t130,t131,t132,t133,t134,t135,t136,t137,t138,t139]){A:Array Value}(h:A.size=140):M A:=by
 obtain ⟨l⟩:=A
 have e:l=(List.range 140).map fun i=>l.getD i undef:=by
  refine List.ext_getElem (by simpa using h) fun i h1 h2=>?_
  simp [List.getD_eq_getElem?_getD,h1]
 rw [e]
 exact K _ _ _ _ _ _ _ _ _ _ _ _ _ _ _ _ _ _ _ _ _ _ _ _ _ _ _ _ _ _ _ _ _ _ _ _ _ _ _ _ _ _ _ _ _ _ _ _ _ _ _ _ _ _ _ _ _ _ _ _ _ _ _ _ _ _ _ _ _ _ _ _ _ _ _ _ _ _ _ _ _ _ _ _ _ _ _ _ _ _ _ _ _ _ _ _ _ _ _ _ _ _ _ _ _ _ _ _ _ _ _ _ _ _ _ _ _ _ _ _ _ _ _ _ _ _ _ _ _ _ _ _ _ _ _ _ _ _ _ _
end Go.Proofs.YthkdlifcknpadaaGreat
end
section
namespace Go.Proofs.YthkdlifcknpadaaGreat.Abs
open Go
theorem EV :
  (∀ {α β:Type} (x:α) (f:α→β),Option.map f (some x)=some (f x)) ∧
  (∀ {α:Type} (v:α) (k:α→KR),Ye (some v) k=k v) ∧
  (∀ {α β:Type} (a:α) (b:β) (k:α→β→KR),Ec (some (a,b)) k=k a b) ∧
  (∀ {α β γ:Type} (a:α) (b:β) (c:γ) (k:α→β→γ→KR),Ky (some (a,b,c)) k=k a b c) ∧
  (∀ (b:Bool) (x y:KR),ifK (.bool b) x y=if b=true then x else y) ∧
  (∀ (x:KR) (hp:List Zh) (ef:Eff) (k:AV→List Zh→Eff→KR),MZ (some true) x hp ef k=Ky x k) ∧
  (∀ (x:KR) (hp:List Zh) (ef:Eff) (k:AV→List Zh→Eff→KR),MZ (some false) x hp ef k=k .undef hp ef) ∧
  (∀ (b:Bool),MX true (.bool b)=some b) ∧
  (∀ (b:Bool),MX false (.bool b)=some (!b)) ∧
  (∀ (a b:AV),Zar (.bool true) a b=some a) ∧
  (∀ (a b:AV),Zar (.bool false) a b=some b) ∧
  (∀ (v:AV),gif true v=v) ∧
  (∀ (b:Bool) (v:AV) (hp:List Zh) (ef:Eff) (k:AV→List Zh→Eff→KR),MZ (some b) (some (v,hp,ef)) hp ef k=k (gif b v) hp ef) ∧
  (∀ (b:Bool) (v:AV),AV.ro (gif b v)=gif b (AV.ro v)) ∧
  (∀ (b c:Bool),Zar (.bool b) (gif b (.bool c)) (.bool false)=some (.bool (b && c))) ∧
  (∀ (b c:Bool),Zar (.bool b) (.bool true) (gif (!b) (.bool c))=some (.bool (b || c))) ∧
  (∀ (b c:Bool) (hp:List Zh) (ef:Eff) (k:AV→List Zh→Eff→KR),Aw (.bool b) true (some (.bool c,hp,ef)) (some (.bool false)) hp ef k=k (.bool (b && c)) hp ef) ∧
  (∀ (b c:Bool) (hp:List Zh) (ef:Eff) (k:AV→List Zh→Eff→KR),Aw (.bool b) false (some (.bool c,hp,ef)) (some (.bool true)) hp ef k=k (.bool (b || c)) hp ef) ∧
  (∀ (x:KR) (o:Option AV) (hp:List Zh) (ef:Eff) (k:AV→List Zh→Eff→KR),Aw (.bool true) true x o hp ef k=Ky x k) ∧
  (∀ (x:KR) (v:AV) (hp:List Zh) (ef:Eff) (k:AV→List Zh→Eff→KR),Aw (.bool false) true x (some v) hp ef k=k v hp ef) ∧
  (∀ (x:KR) (v:AV) (hp:List Zh) (ef:Eff) (k:AV→List Zh→Eff→KR),Aw (.bool true) false x (some v) hp ef k=k v hp ef) ∧
  (∀ (x:KR) (o:Option AV) (hp:List Zh) (ef:Eff) (k:AV→List Zh→Eff→KR),Aw (.bool false) false x o hp ef k=Ky x k) ∧
  (∀ {α:Type} (x:α) (k:α→KR),Zl4 x k=k x) ∧
  (∀ (b:Bool),AV.ro (.bool b)=.bool b) ∧
  (∀ (k:IntKind) (n:Int),AV.ro (.int k n)=.int k n) ∧
  (∀ (s:List UInt8),AV.ro (.str s)=.str s) ∧
  (∀ (k:Nat) (r:List (List AV)),AV.ro (.lst k r)=.lst k r) ∧
  (∀ (k:Nat) (r:List (List AV)),AV.ro (.own k r)=.lst k r) ∧
  (∀ (c:List AV),AV.ro (.agg c)=.agg c) ∧
  (∀ (c:List AV),AV.ro (.tup c)=.tup c) ∧
  (∀ (g o:Nat),AV.ro (.ptr g o)=.ptr g o) ∧
  (∀ (g:Nat),AV.ro (.map g)=.map g) ∧
  (∀ (c:List AV),AV.ro (.ref c)=.ref c) ∧
  (∀ (f:FuncId) (a c:List AV),AV.ro (.fn f a c)=.fn f a c) ∧
  (AV.ro .undef=.undef) ∧
  (∀ (b:Bool),AV.nm (.bool b)=.bool b) ∧
  (∀ (k:IntKind) (n:Int),AV.nm (.int k n)=.int k n) ∧
  (∀ (s:List UInt8),AV.nm (.str s)=.str s) ∧
  (∀ (k:Nat) (r:List (List AV)),AV.nm (.lst k r)=.lst k r) ∧
  (∀ (k:Nat) (r:List (List AV)),AV.nm (.own k r)=.lst k r) ∧
  (∀ (c:List AV),AV.nm (.agg c)=.agg (c.map AV.ro)) ∧
  (∀ (g o:Nat),AV.nm (.ptr g o)=.ptr g o) ∧
  (∀ (g:Nat),AV.nm (.map g)=.map g) ∧
  (∀ (f:FuncId) (a c:List AV),AV.nm (.fn f a c)=.fn f a c) ∧
  (∀ (k:IntKind) (a b:Int),ZB .add .prim (.int k a) (.int k b)=some (.int k (k.wrap (a + b)))) ∧
  (∀ (k:IntKind) (a b:Int),ZB .sub .prim (.int k a) (.int k b)=some (.int k (k.wrap (a - b)))) ∧
  (∀ (k:IntKind) (a b:Int),ZB .mul .prim (.int k a) (.int k b)=some (.int k (k.wrap (a * b)))) ∧
  (∀ (k:IntKind) (a b:Int),ZB .eql .prim (.int k a) (.int k b)=some (.bool (decide (a=b)))) ∧
  (∀ (k:IntKind) (a b:Int),ZB .neq .prim (.int k a) (.int k b)=some (.bool (decide (a≠b)))) ∧
  (∀ (k:IntKind) (a b:Int),ZB .lss .prim (.int k a) (.int k b)=some (.bool (decide (a < b)))) ∧
  (∀ (k:IntKind) (a b:Int),ZB .leq .prim (.int k a) (.int k b)=some (.bool (decide (a≤b)))) ∧
  (∀ (k:IntKind) (a b:Int),ZB .gtr .prim (.int k a) (.int k b)=some (.bool (decide (b < a)))) ∧
  (∀ (k:IntKind) (a b:Int),ZB .geq .prim (.int k a) (.int k b)=some (.bool (decide (b≤a)))) ∧
  (∀ (a b:List UInt8),ZB .eql .prim (.str a) (.str b)=some (.bool (decide (a=b)))) ∧
  (∀ (a b:List UInt8),ZB .neq .prim (.str a) (.str b)=some (.bool (decide (a≠b)))) ∧
  (∀ (ks:List CK) (k:IntKind) (x y:Int) (l m:List AV),Yk (.int :: ks) (.int k x :: l) (.int k y :: m)=if x=y then Yk ks l m else some false) ∧
  (∀ (ks:List CK) (x y:List UInt8) (l m:List AV),Yk (.str :: ks) (.str x :: l) (.str y :: m)=if x=y then Yk ks l m else some false) ∧
  (∀ (ks:List CK) (x y:Bool) (l m:List AV),Yk (.bool :: ks) (.bool x :: l) (.bool y :: m)=if x=y then Yk ks l m else some false) ∧
  (Yk [] [] []=some true) ∧
  (∀ (p:Prop) [Decidable p] (b:Bool),(if p then some b else some false)=some (decide p && b)) ∧
  (∀ (ks:List CK) (a b:List AV),ZB .eql (.struct ks) (.agg a) (.agg b)=(Yk ks a b).map .bool) ∧
  (∀ (ks:List CK) (a b:List AV),ZB .neq (.struct ks) (.agg a) (.agg b)=(Yk ks a b).map fun b=>.bool (!b)) ∧
  (∀ (a b:Bool),ZB .eql .bool (.bool a) (.bool b)=some (.bool (a == b))) ∧
  (∀ (a b:Bool),ZB .neq .bool (.bool a) (.bool b)=some (.bool (!(a == b)))) ∧
  (∀ (b:Bool),PK .not (.bool b)=some (.bool (!b))) ∧
  (∀ (k:IntKind) (n:Int),PK .neg (.int k n)=some (.int k (k.wrap (0 - n)))) ∧
  (∀ (hp:List Zh) (s:List UInt8),Qh hp .str (.str s)=some (.int .i64 s.length)) ∧
  (∀ (hp:List Zh) (k:Nat) (r:List (List AV)),Qh hp .slice (.lst k r)=some (.int .i64 r.length)) ∧
  (∀ (hp:List Zh) (k k':IntKind) (n:Int),QL hp (.int k) (.int k' n)=some (.int k (k.wrap n))) ∧
  (∀ (l:List AV) (i:Nat),Tn (.tup l) i=(l[i]?).map AV.ro) ∧
  (∀ (bs:Nat) (ef:Eff),XP bs ef none=ef) ∧
  (∀ (hp0:List Zh) (b:Bool) (hp:List Zh),Zd7 false hp0 (.bool b) hp none=(.bool b,hp0,none)) ∧
  (∀ (hp0:List Zh) (k:IntKind) (n:Int) (hp:List Zh),Zd7 false hp0 (.int k n) hp none=(.int k n,hp0,none)) ∧
  (∀ (hp0:List Zh) (s:List UInt8) (hp:List Zh),Zd7 false hp0 (.str s) hp none=(.str s,hp0,none)) ∧
  (∀ (hp0:List Zh) (k:Nat) (r:List (List AV)) (hp:List Zh),Zd7 false hp0 (.lst k r) hp none=(.lst k r,hp0,none)) ∧
  (∀ (hp0:List Zh) (k:Nat) (r:List (List AV)) (hp:List Zh),Zd7 false hp0 (.own k r) hp none=(.own k r,hp0,none)) ∧
  (∀ (bs:Nat) (hp:List Zh) (k:IntKind) (n:Int),ZaS bs hp (.int k n)=some (.int k n)) ∧
  (∀ (bs:Nat) (hp:List Zh) (s:List UInt8),ZaS bs hp (.str s)=some (.str s)) ∧
  (∀ (bs:Nat) (hp:List Zh) (b:Bool),ZaS bs hp (.bool b)=some (.bool b)) ∧
  (∀ (bs:Nat) (hp:List Zh) (k:Nat) (r:List (List AV)),ZaS bs hp (.lst k r)=some (.lst k r)) ∧
  (∀ (o:Nat) (c:List AV),WE o (.ref c)=some (.ref (c.drop o))) ∧
  (∀ (o g p:Nat),WE o (.ptr g p)=some (.ptr g (p + o))) ∧
  (∀ (hp:List Zh) (c:AV) (l:List AV),ZN hp (.ref (c :: l))=some c.ro) :=
 ⟨fun x f=>rfl,@Zse,@Zsc,@Zsd,@ZtF,@Zmm,@Zml,@ZjI,@ZjH,@Zqa,@ZpZ,@Zt6,@Zfl,@Zs1,@Znk,@Znl,@ZoY,@Zri,@Zrk,@Zrh,@Zrj,@Zrg,@Zr1,@Zqj,@Zs3,@ZsE,@Zs7,@ZsB,@Zsz,@ZsF,@ZsC,@Zs8,@ZsD,@Zuo,Zny,@Zpu,@ZrG,@ZrK,@ZrH,@Zku,@ZrF,@ZrJ,@ZrI,@ZtY,@Ztq,@Ztw,@Ztt,@ZuD,@ZuI,@ZuH,@ZuG,@ZuF,@ZuE,@ZuQ,@ZuR,@Zuh,@Zuj,@Zsy,Zui,@ZuP,@Zts,@Ztv,@Ztr,@Ztu,@Zuv,@Zuu,@ZtS,@ZtL,@Zt1,@Zuz,@ZhH,@Zmc,@ZoS,@ZoV,@ZoT,@ZoU,@Zmg,@Zmi,@ZjC,@Zmh,@ZnN,@ZnM,@Zpl⟩
theorem BL:(!true)=false∧(!false)=true∧(∀ b:Bool,(b && true)=b)∧(∀ b:Bool,(true && b)=b)∧(∀ b:Bool,(b && false)=false)∧(∀ b:Bool,(false && b)=false)∧(∀ b:Bool,(b || true)=true)∧(∀ b:Bool,(true || b)=true)∧(∀ b:Bool,(b || false)=b)∧(∀ b:Bool,(false || b)=b)∧(∀ b:Bool,(!!b)=b):=by
 refine ⟨rfl,rfl,?_,?_,?_,?_,?_,?_,?_,?_,?_⟩ <;> intro b <;> cases b <;> rfl
theorem ifI (c:Prop)[Decidable c](k:IntKind)(a b:Int)(hp:List Zh)(e:Eff):(if c then some (AV.int k a,hp,e) else some (AV.int k b,hp,e))=some (AV.int k (if c then a else b),hp,e):=by split <;> rfl
theorem ifB (c:Prop)[Decidable c](a b:Bool)(hp:List Zh)(e:Eff):(if c then some (AV.bool a,hp,e) else some (AV.bool b,hp,e))=some (AV.bool (if c then a else b),hp,e):=by split <;> rfl
theorem ifS (c:Prop)[Decidable c](a b:List UInt8)(hp:List Zh)(e:Eff):(if c then some (AV.str a,hp,e) else some (AV.str b,hp,e))=some (AV.str (if c then a else b),hp,e):=by split <;> rfl
theorem IFJ:(∀ (c:Prop) [Decidable c] (k:IntKind) (a b:Int) (hp:List Zh) (e:Eff),(if c then some (AV.int k a,hp,e) else some (AV.int k b,hp,e))=some (AV.int k (if c then a else b),hp,e)) ∧
  (∀ (c:Prop) [Decidable c] (a b:Bool) (hp:List Zh) (e:Eff),(if c then some (AV.bool a,hp,e) else some (AV.bool b,hp,e))=some (AV.bool (if c then a else b),hp,e)) ∧
  (∀ (c:Prop) [Decidable c] (a b:List UInt8) (hp:List Zh) (e:Eff),(if c then some (AV.str a,hp,e) else some (AV.str b,hp,e))=some (AV.str (if c then a else b),hp,e)) ∧
  (∀ {α:Type} (c:Prop) [Decidable c] (a b d:α),(if c then (if c then a else b) else d)=if c then a else d)∧(∀ {α:Type} (c:Prop) [Decidable c] (a b d:α),(if c then a else (if c then b else d))=if c then a else d)∧(∀ {α:Type} (a b:α),(if true=true then a else b)=a)∧(∀ {α:Type} (a b:α),(if false=true then a else b)=b)∧(∀ {α:Type} (a b:α),(if True then a else b)=a)∧(∀ {α:Type} (a b:α),(if False then a else b)=b)∧(∀ (i:Decidable True),@decide True i=true)∧(∀ (i:Decidable False),@decide False i=false):=⟨ifI,ifB,ifS,fun c _ a b d=>by split <;> rfl,fun c _ a b d=>by split <;> rfl,fun _ _=>rfl,fun _ _=>rfl,fun _ _=>rfl,fun _ _=>rfl,fun i=>by cases i <;> simp,fun i=>by cases i <;> simp⟩
section
variable {hp:List Zh}{g:Nat}{cs:List AV}{t:TypeId}
theorem Eb (h:hp[g]? = some (.cells cs t))(x:Zh):(hp ++ [x])[g]? = some (.cells cs t):=by rw [List.getElem?_append_left (List.getElem?_eq_some_iff.1 h).1]; exact h
theorem Ot (h:hp[g]? = some (.cells cs t))(n:Nat)(h1:cs.length=n)(h2:cs.map AV.ro=cs):YA hp n (.ptr g 0)=some (.agg cs):=by
 rw [Zpj h n 0 (by omega),List.drop_zero,List.take_of_length_le (by omega),h2]
end
theorem st_all (bs n:Nat)(h:List Zh)(cs c:List AV)(t:TypeId)(ef:Eff)(h1:c.length=n)(h2:cs.length=n)(h4:bs≤h.length):stV bs n (.ptr h.length 0) (.agg c) (h ++ [.cells cs t]) ef=some (h ++ [.cells c t],ef):=by
 rw [Zn3 bs n h cs t 0 (.agg c) ef h1 (by omega) rfl h4]
 have:splice cs 0 c=c:=by simp [splice,h1,← h2]
 rw [Zjo,this]
theorem Zo8 (n:Nat)(c:List AV)(h:c.length=n):Zl2 n (.agg c)=some c:=Zo7 n c h
theorem LD :
  (∀ (h:List Zh) (cs:List AV) (t:TypeId) (o:Nat),ZN (h ++ [.cells cs t]) (.ptr h.length o)=(cs[o]?).map AV.ro) ∧
  (∀ (h:List Zh) (cs:List AV) (t:TypeId) (o:Nat) (x:Zh),ZN (h ++ [.cells cs t] ++ [x]) (.ptr h.length o)=(cs[o]?).map AV.ro) ∧
  (∀ (h:List Zh) (cs:List AV) (t:TypeId) (o:Nat) (x y:Zh),ZN (h ++ [.cells cs t] ++ [x] ++ [y]) (.ptr h.length o)=(cs[o]?).map AV.ro) ∧
  (∀ (h:List Zh) (cs:List AV) (t:TypeId) (o:Nat) (x y z:Zh),ZN (h ++ [.cells cs t] ++ [x] ++ [y] ++ [z]) (.ptr h.length o)=(cs[o]?).map AV.ro) ∧
  (∀ (h:List Zh) (cs:List AV) (t:TypeId) (n:Nat),cs.length=n→cs.map AV.ro=cs→YA (h ++ [.cells cs t]) n (.ptr h.length 0)=some (.agg cs)) ∧
  (∀ (h:List Zh) (cs:List AV) (t:TypeId) (n:Nat) (x:Zh),cs.length=n→cs.map AV.ro=cs→YA (h ++ [.cells cs t] ++ [x]) n (.ptr h.length 0)=some (.agg cs)) ∧
  (∀ (h:List Zh) (cs:List AV) (t:TypeId) (n:Nat) (x y:Zh),cs.length=n→cs.map AV.ro=cs→YA (h ++ [.cells cs t] ++ [x] ++ [y]) n (.ptr h.length 0)=some (.agg cs)) ∧
  (∀ (h:List Zh) (cs:List AV) (t:TypeId) (n:Nat) (x y z:Zh),cs.length=n→cs.map AV.ro=cs→YA (h ++ [.cells cs t] ++ [x] ++ [y] ++ [z]) n (.ptr h.length 0)=some (.agg cs)) ∧
  (∀ (g o:Nat),WE o (.ptr g 0)=some (.ptr g o))∧(∀ (n:Nat) (c:List AV),c.length=n→Zl2 n (.agg c)=some c)∧(∀ (α β:Type) (f:α→β) (l:List α),(l.map f).length=l.length) ∧
  (∀ (hp:List Zh) (n:Nat) (c:List AV),c.length=n→c.map AV.ro=c→YA hp n (.ref c)=some (.agg c))∧(∀ c:List AV,WE 0 (.ref c)=some (.ref c))∧(∀ n:Nat,0 + n=n)∧(∀ (hp:List Zh) (c:List AV),ZN hp (.ref c)=(c[0]?).map AV.ro)∧(∀ (α:Type) (l:List α) (i j:Nat),(l.drop i)[j]? = l[i + j]?)∧(∀ n:Nat,n + 0=n) :=
 ⟨fun h cs t o=>Zm0 h cs t o,fun h cs t o x=>JP (Eb (XZ h _) x) o,fun h cs t o x y=>JP (Eb (Eb (XZ h _) x) y) o,fun h cs t o x y z=>JP (Eb (Eb (Eb (XZ h _) x) y) z) o,
  fun h cs t n=>Ot (XZ h _) n,fun h cs t n x=>Ot (Eb (XZ h _) x) n,fun h cs t n x y=>Ot (Eb (Eb (XZ h _) x) y) n,fun h cs t n x y z=>Ot (Eb (Eb (Eb (XZ h _) x) y) z) n,
  fun g o=>by rw [ZnM,Nat.zero_add],Zo8,fun _ _ f l=>List.length_map f,fun hp n c h1 h2=>by rw [Zpk hp n c (by omega),List.take_of_length_le (by omega),h2],fun c=>by rw [ZnN,List.drop_zero],Nat.zero_add,fun hp c=>by cases c <;> rfl,fun _ l i j=>List.getElem?_drop,Nat.add_zero⟩
theorem lp {α:Type}(row:α→List AV){l q r:List α}{x:α}(h:l=q ++ x :: r)(hb:l.length≤4611686018427387) :
  decide ((q.length:Int) < (l.length:Int))=true∧(l.map row)[q.length]? = some (row x)∧IntKind.i64.wrap ((q.length:Int) + 1)=((q ++ [x]).length:Int)∧l=(q ++ [x]) ++ r∧x ∈ l:=by
 subst h
 refine ⟨?_,?_,?_,by simp,by simp⟩
 ·simp only [List.length_append,List.length_cons,decide_eq_true_eq]; omega
 ·simp
 ·have:q.length < 4611686018427387904:=by simp at hb; omega
  rw [Zn9 _ this]; simp
def J7 {α:Type}(f:α→Int):List α→Int
 | []=>0
 | x :: r=>if decide (f x≠0)=true then f x else J7 f r
def all2 {α:Type}(f:α→α→Bool):List α→List α→Bool
 | x :: r,y :: s=>if (!(f x y))=true then false else all2 f r s
 | _,_=>true
def Zm8 {α:Type}(f:α→Int):List α→Int→Int
 | [],n=>n
 | x :: r,n=>Zm8 f r (if f x > n then f x else n)
theorem fuel {C:Cfg}{N d:Nat}(h:d + 1≤N):∃ m,N=m + 1∧d≤m:=⟨N - 1,by omega,by omega⟩
def sumW {α:Type}(f:α→Int):List α→Int→Int
 | [],n=>n
 | x :: r,n=>sumW f r (IntKind.i64.wrap (n + f x))
theorem max2 (a b:Int):Zr8 [.int .i64 a,.int .i64 b]=some (.int .i64 (if b > a then b else a)):=rfl
theorem min2 (a b:Int):ZrA [.int .i64 a,.int .i64 b]=some (.int .i64 (if b < a then b else a)):=rfl
theorem GI:(∀ (α:Type) (a:α) (l:List α),(a :: l)[0]? = some a)∧(∀ (α:Type) (a b:α) (l:List α),(a :: b :: l)[1]? = some b)∧(∀ (α:Type) (a b c:α) (l:List α),(a :: b :: c :: l)[2]? = some c)∧(∀ (α:Type) (a b c d:α) (l:List α),(a :: b :: c :: d :: l)[3]? = some d):=⟨fun _ _ _=>rfl,fun _ _ _ _=>rfl,fun _ _ _ _ _=>rfl,fun _ _ _ _ _ _=>rfl⟩
end Go.Proofs.YthkdlifcknpadaaGreat.Abs
end
section
namespace Go.Proofs.YthkdlifcknpadaaGreat
open Go Go.RowKit Go.Proofs.YthkdlifcknpadaaGreat.Abs
set_option maxRecDepth 100000
set_option maxHeartbeats 0
def ints (l:List Int):List (List AV):=l.map fun x=>[.int .i64 x]
def strs (l:List (List UInt8)):List (List AV):=l.map fun x=>[.str x]
structure Q8 where
 Name:List UInt8
 Ty:Int
 N:Int
 deriving DecidableEq
def Xh (x:Q8):List AV:=[.str x.Name,.int .i64 x.Ty,.int .i64 x.N]
structure ZeX (x:Q8):Prop where
 Name:x.Name.length≤140737488351232
 Ty:-9223372036854775808≤x.Ty∧x.Ty≤9223372036854775807
 N:-9223372036854775808≤x.N∧x.N≤9223372036854775807
structure JM where
 At_:Int
 Units:Int
 deriving DecidableEq
def P7 (x:JM):List AV:=[.int .i64 x.At_,.int .i64 x.Units]
structure Zg2 (x:JM):Prop where
 At_:-9223372036854775808≤x.At_∧x.At_≤9223372036854775807
 Units:-9223372036854775808≤x.Units∧x.Units≤9223372036854775807
structure YV where
 Op:Int
 A:Int
 B:Int
 N:Int
 Values:List Int
 Weights:List Int
 deriving DecidableEq
def Zew (x:YV):List AV:=[.int .i64 x.Op,.int .i64 x.A,.int .i64 x.B,.int .i64 x.N,.lst 1 (ints x.Values),.lst 1 (ints x.Weights)]
structure Jz (x:YV):Prop where
 Op:-9223372036854775808≤x.Op∧x.Op≤9223372036854775807
 A:-9223372036854775808≤x.A∧x.A≤9223372036854775807
 B:-9223372036854775808≤x.B∧x.B≤9223372036854775807
 N:-9223372036854775808≤x.N∧x.N≤9223372036854775807
 Values:x.Values.length * 8≤140737488351232∧∀ y ∈ x.Values,-9223372036854775808≤y∧y≤9223372036854775807
 Weights:x.Weights.length * 8≤140737488351232∧∀ y ∈ x.Weights,-9223372036854775808≤y∧y≤9223372036854775807
structure IJ where
 Stream:List UInt8
 Up:YV
 Down:YV
 deriving DecidableEq
def Zbj (x:IJ):List AV:=[.str x.Stream] ++ Zew x.Up ++ Zew x.Down
structure ZeV (x:IJ):Prop where
 Stream:x.Stream.length≤140737488351232
 Up:Jz x.Up
 Down:Jz x.Down
structure Zp where
 Name:List UInt8
 Units:Int
 Shift:List JM
 Cycle:Int
 Fault:IJ
 deriving DecidableEq
def QN (x:Zp):List AV:=[.str x.Name,.int .i64 x.Units,.lst 2 (x.Shift.map P7),.int .i64 x.Cycle] ++ Zbj x.Fault
structure Wi (x:Zp):Prop where
 Name:x.Name.length≤140737488351232
 Units:-9223372036854775808≤x.Units∧x.Units≤9223372036854775807
 Shift:x.Shift.length * 16≤140737488351232∧∀ y ∈ x.Shift,Zg2 y
 Cycle:-9223372036854775808≤x.Cycle∧x.Cycle≤9223372036854775807
 Fault:ZeV x.Fault
structure Yw where
 Name:List UInt8
 Room:Int
 Policy:Int
 deriving DecidableEq
def U0 (x:Yw):List AV:=[.str x.Name,.int .i64 x.Room,.int .i64 x.Policy]
structure Ep (x:Yw):Prop where
 Name:x.Name.length≤140737488351232
 Room:-9223372036854775808≤x.Room∧x.Room≤9223372036854775807
 Policy:-9223372036854775808≤x.Policy∧x.Policy≤9223372036854775807
structure YU where
 Name:List UInt8
 Length:Int
 Step:Int
 deriving DecidableEq
def Gy (x:YU):List AV:=[.str x.Name,.int .i64 x.Length,.int .i64 x.Step]
structure Za6 (x:YU):Prop where
 Name:x.Name.length≤140737488351232
 Length:-9223372036854775808≤x.Length∧x.Length≤9223372036854775807
 Step:-9223372036854775808≤x.Step∧x.Step≤9223372036854775807
structure WF where
 Name:List UInt8
 Ty:Int
 deriving DecidableEq
def NF (x:WF):List AV:=[.str x.Name,.int .i64 x.Ty]
structure Eo (x:WF):Prop where
 Name:x.Name.length≤140737488351232
 Ty:-9223372036854775808≤x.Ty∧x.Ty≤9223372036854775807
structure ZC where
 Op:Int
 Name:List UInt8
 N:Int
 Kids:List ZC
mutual
def IG:ZC→List AV
 | ⟨a0,a1,a2,a3⟩=>[.int .i64 a0,.str a1,.int .i64 a2,.lst 4 (Zex a3)]
def Zex:List ZC→List (List AV)
 | []=>[]
 | x :: l=>IG x :: Zex l
end
theorem Zbi:∀ l:List ZC,Zex l=l.map IG
 | []=>by rw [Zex]; rfl
 | x :: l=>by rw [Zex,Zbi l]; rfl
theorem Zh0 (x:ZC):IG x=[.int .i64 x.Op,.str x.Name,.int .i64 x.N,.lst 4 (x.Kids.map IG)]:=by
 cases x; rw [IG]; simp only [Zbi]
inductive YE:ZC→Prop
 | mk (x:ZC) (hOp:-9223372036854775808≤x.Op∧x.Op≤9223372036854775807) (hName:x.Name.length≤140737488351232) (hN:-9223372036854775808≤x.N∧x.N≤9223372036854775807) (hKids1:x.Kids.length * 56≤140737488351232) (hKids2:∀ y ∈ x.Kids,YE y):YE x
theorem YE.Op {x:ZC}(h:YE x):-9223372036854775808≤x.Op∧x.Op≤9223372036854775807:=by cases h; assumption
theorem YE.Name {x:ZC}(h:YE x):x.Name.length≤140737488351232:=by cases h; assumption
theorem YE.N {x:ZC}(h:YE x):-9223372036854775808≤x.N∧x.N≤9223372036854775807:=by cases h; assumption
theorem YE.Kids {x:ZC}(h:YE x):x.Kids.length * 56≤140737488351232∧∀ y ∈ x.Kids,YE y:=by cases h; constructor <;> assumption
structure Z5 where
 Op:Int
 Name:List UInt8
 Of:List UInt8
 E:ZC
 F:ZC
 Args:List ZC
 Dist:YV
 Flag:Bool
 Body:List Z5
 Else:List Z5
mutual
def P8:Z5→List AV
 | ⟨a0,a1,a2,a3,a4,a5,a6,a7,a8,a9⟩=>[.int .i64 a0,.str a1,.str a2] ++ IG a3 ++ IG a4 ++ [.lst 4 (a5.map IG)] ++ Zew a6 ++ [.bool a7,.lst 21 (Zbl a8),.lst 21 (Zbl a9)]
def Zbl:List Z5→List (List AV)
 | []=>[]
 | x :: l=>P8 x :: Zbl l
end
theorem Zbm:∀ l:List Z5,Zbl l=l.map P8
 | []=>by rw [Zbl]; rfl
 | x :: l=>by rw [Zbl,Zbm l]; rfl
theorem Zh1 (x:Z5):P8 x=[.int .i64 x.Op,.str x.Name,.str x.Of] ++ IG x.E ++ IG x.F ++ [.lst 4 (x.Args.map IG)] ++ Zew x.Dist ++ [.bool x.Flag,.lst 21 (x.Body.map P8),.lst 21 (x.Else.map P8)]:=by
 cases x; rw [P8]; simp only [Zbm]
inductive Y7:Z5→Prop
 | mk (x:Z5) (hOp:-9223372036854775808≤x.Op∧x.Op≤9223372036854775807) (hName:x.Name.length≤140737488351232) (hOf:x.Of.length≤140737488351232) (hE:YE x.E) (hF:YE x.F) (hArgs1:x.Args.length * 56≤140737488351232) (hArgs2:∀ y ∈ x.Args,YE y) (hDist:Jz x.Dist) (hFlag:True) (hBody1:x.Body.length * 312≤140737488351232) (hBody2:∀ y ∈ x.Body,Y7 y) (hElse1:x.Else.length * 312≤140737488351232) (hElse2:∀ y ∈ x.Else,Y7 y):Y7 x
theorem Y7.Op {x:Z5}(h:Y7 x):-9223372036854775808≤x.Op∧x.Op≤9223372036854775807:=by cases h; assumption
theorem Y7.Name {x:Z5}(h:Y7 x):x.Name.length≤140737488351232:=by cases h; assumption
theorem Y7.Of {x:Z5}(h:Y7 x):x.Of.length≤140737488351232:=by cases h; assumption
theorem Y7.E {x:Z5}(h:Y7 x):YE x.E:=by cases h; assumption
theorem Y7.F {x:Z5}(h:Y7 x):YE x.F:=by cases h; assumption
theorem Y7.Args {x:Z5}(h:Y7 x):x.Args.length * 56≤140737488351232∧∀ y ∈ x.Args,YE y:=by cases h; constructor <;> assumption
theorem Y7.Dist {x:Z5}(h:Y7 x):Jz x.Dist:=by cases h; assumption
theorem Y7.Flag {x:Z5}(h:Y7 x):True:=by cases h; assumption
theorem Y7.Body {x:Z5}(h:Y7 x):x.Body.length * 312≤140737488351232∧∀ y ∈ x.Body,Y7 y:=by cases h; constructor <;> assumption
theorem Y7.Else {x:Z5}(h:Y7 x):x.Else.length * 312≤140737488351232∧∀ y ∈ x.Else,Y7 y:=by cases h; constructor <;> assumption
structure Yc where
 Name:List UInt8
 Params:List WF
 Locals:List WF
 Body:List Z5
def Tv (x:Yc):List AV:=[.str x.Name,.lst 2 (x.Params.map NF),.lst 2 (x.Locals.map NF),.lst 21 (x.Body.map P8)]
structure KZ (x:Yc):Prop where
 Name:x.Name.length≤140737488351232
 Params:x.Params.length * 24≤140737488351232∧∀ y ∈ x.Params,Eo y
 Locals:x.Locals.length * 24≤140737488351232∧∀ y ∈ x.Locals,Eo y
 Body:x.Body.length * 312≤140737488351232∧∀ y ∈ x.Body,Y7 y
structure J3 where
 Routine:List UInt8
 Args:List Int
 At_:Int
 Every:Int
 Until:Int
 deriving DecidableEq
def Zbk (x:J3):List AV:=[.str x.Routine,.lst 1 (ints x.Args),.int .i64 x.At_,.int .i64 x.Every,.int .i64 x.Until]
structure DW (x:J3):Prop where
 Routine:x.Routine.length≤140737488351232
 Args:x.Args.length * 8≤140737488351232∧∀ y ∈ x.Args,-9223372036854775808≤y∧y≤9223372036854775807
 At_:-9223372036854775808≤x.At_∧x.At_≤9223372036854775807
 Every:-9223372036854775808≤x.Every∧x.Every≤9223372036854775807
 Until:-9223372036854775808≤x.Until∧x.Until≤9223372036854775807
structure IK where
 Coef:Int
 What:List UInt8
 Name:List UInt8
 deriving DecidableEq
def Zi2 (x:IK):List AV:=[.int .i64 x.Coef,.str x.What,.str x.Name]
structure ZnC (x:IK):Prop where
 Coef:-9223372036854775808≤x.Coef∧x.Coef≤9223372036854775807
 What:x.What.length≤140737488351232
 Name:x.Name.length≤140737488351232
structure ZcY where
 Name:List UInt8
 Terms:List IK
 Total:Int
 deriving DecidableEq
def Zi1 (x:ZcY):List AV:=[.str x.Name,.lst 3 (x.Terms.map Zi2),.int .i64 x.Total]
structure ZlD (x:ZcY):Prop where
 Name:x.Name.length≤140737488351232
 Terms:x.Terms.length * 40≤140737488351232∧∀ y ∈ x.Terms,ZnC y
 Total:-9223372036854775808≤x.Total∧x.Total≤9223372036854775807
structure Zb where
 Name:List UInt8
 Vars:List Q8
 Resources:List Zp
 Stores:List Yw
 Belts:List YU
 Queues:List (List UInt8)
 Streams:List (List UInt8)
 Tallies:List (List UInt8)
 Levels:List (List UInt8)
 Counts:List (List UInt8)
 Routines:List Yc
 Starts:List J3
 Laws:List ZcY
def Zz (x:Zb):List AV:=[.str x.Name,.lst 3 (x.Vars.map Xh),.lst 17 (x.Resources.map QN),.lst 3 (x.Stores.map U0),.lst 3 (x.Belts.map Gy),.lst 1 (strs x.Queues),.lst 1 (strs x.Streams),.lst 1 (strs x.Tallies),.lst 1 (strs x.Levels),.lst 1 (strs x.Counts),.lst 4 (x.Routines.map Tv),.lst 5 (x.Starts.map Zbk),.lst 3 (x.Laws.map Zi1)]
structure ZQ (x:Zb):Prop where
 Name:x.Name.length≤140737488351232
 Vars:x.Vars.length * 32≤140737488351232∧∀ y ∈ x.Vars,ZeX y
 Resources:x.Resources.length * 232≤140737488351232∧∀ y ∈ x.Resources,Wi y
 Stores:x.Stores.length * 32≤140737488351232∧∀ y ∈ x.Stores,Ep y
 Belts:x.Belts.length * 32≤140737488351232∧∀ y ∈ x.Belts,Za6 y
 Queues:x.Queues.length * 16≤140737488351232∧∀ y ∈ x.Queues,y.length≤140737488351232
 Streams:x.Streams.length * 16≤140737488351232∧∀ y ∈ x.Streams,y.length≤140737488351232
 Tallies:x.Tallies.length * 16≤140737488351232∧∀ y ∈ x.Tallies,y.length≤140737488351232
 Levels:x.Levels.length * 16≤140737488351232∧∀ y ∈ x.Levels,y.length≤140737488351232
 Counts:x.Counts.length * 16≤140737488351232∧∀ y ∈ x.Counts,y.length≤140737488351232
 Routines:x.Routines.length * 88≤140737488351232∧∀ y ∈ x.Routines,KZ y
 Starts:x.Starts.length * 64≤140737488351232∧∀ y ∈ x.Starts,DW y
 Laws:x.Laws.length * 48≤140737488351232∧∀ y ∈ x.Laws,ZlD y
structure DV where
 From:List UInt8
 To:List UInt8
 Delay:Int
 deriving DecidableEq
def Vk (x:DV):List AV:=[.str x.From,.str x.To,.int .i64 x.Delay]
structure ZnB (x:DV):Prop where
 From:x.From.length≤140737488351232
 To:x.To.length≤140737488351232
 Delay:-9223372036854775808≤x.Delay∧x.Delay≤9223372036854775807
structure ZH where
 Name:List UInt8
 Params:List Q8
 Sites:List Zb
 Links:List DV
def Yf (x:ZH):List AV:=[.str x.Name,.lst 3 (x.Params.map Xh),.lst 13 (x.Sites.map Zz),.lst 3 (x.Links.map Vk)]
structure Xc (x:ZH):Prop where
 Name:x.Name.length≤140737488351232
 Params:x.Params.length * 32≤140737488351232∧∀ y ∈ x.Params,ZeX y
 Sites:x.Sites.length * 304≤140737488351232∧∀ y ∈ x.Sites,ZQ y
 Links:x.Links.length * 40≤140737488351232∧∀ y ∈ x.Links,ZnB y
structure Q7 where
 code:Bool
 deriving DecidableEq
def ZkV (x:Q7):List AV:=[.bool x.code]
structure U5 where
 name:Bool
 of:Bool
 e:Bool
 f:Bool
 args:Bool
 dist:Bool
 flag:Bool
 body:Bool
 other:Bool
 deriving DecidableEq
def Zuk (x:U5):List AV:=[.bool x.name,.bool x.of,.bool x.e,.bool x.f,.bool x.args,.bool x.dist,.bool x.flag,.bool x.body,.bool x.other]
structure YI where
 Name:Bool
 Of:Bool
 E:Bool
 F:Bool
 Args:Bool
 Dist:Bool
 Flag:Bool
 Body:Bool
 Else:Bool
 deriving DecidableEq
def Zgd (x:YI):List AV:=[.bool x.Name,.bool x.Of,.bool x.E,.bool x.F,.bool x.Args,.bool x.Dist,.bool x.Flag,.bool x.Body,.bool x.Else]
structure GH where
 is:Bool
 name:List UInt8
 deriving DecidableEq
def Zge (x:GH):List AV:=[.bool x.is,.str x.name]
structure GG where
 is:Bool
 e:ZC
def FP (x:GG):List AV:=[.bool x.is] ++ IG x.e
end Go.Proofs.YthkdlifcknpadaaGreat
end
section
namespace Go.Proofs.YthkdlifcknpadaaGreat.Abs
open Go Go.RowKit
def AV.apart:AV→Bool
 | .agg cs=>cs.all AV.noId1
 | v=>v.noId1
theorem Rep.still' {Γ:Zu}{w:World}{x:AV}{v:Value}(h:Rep Γ w x v)(hx:x.apart=true):Rep still w x v:=by
 have hf:Yn Γ w still w:=fun b o v _ h2=>⟨trivial,h2⟩
 cases h with
 | agg cells cv hs h1 hn hr =>
  simp only [AV.apart,List.all_eq_true] at hx
  exact .agg cells cv hs h1 hn fun j c hc=>(hr j c hc).noId hf (hx c (List.mem_of_getElem? hc))
 | undef=>cases hx
 | tup=>cases hx
 | arr=>cases hx
 | ptr=>cases hx
 | map=>cases hx
 | bool b=>exact .bool b
 | int k n=>exact .int k n
 | str s=>exact .str s
 | nilp=>exact .nilp
 | nilf=>exact .nilf
 | nilm=>exact .nilm
 | nili=>exact .nili
 | nils k=>exact .nils k
 | lstNil k=>exact .lstNil k
 | lstE k A cap=>exact .lstE k A cap
 | lst k rows b o cap cv hlen hk hc hr=>exact (Rep.lst k rows b o cap cv hlen hk hc hr).noId hf rfl
 | own k rows v h=>exact (Rep.own k rows v h).noId hf rfl
 | ref cells b o cv hc hr=>exact (Rep.ref cells b o cv hc hr).noId hf rfl
 | fn f fst caps fv cv hs1 hr1 hs hr=>exact (Rep.fn f fst caps fv cv hs1 hr1 hs hr).noId hf hx
theorem ZgF {P:Program}{W:World}{C:Cfg}(h:Zdf P W C){n:Nat}{f:FuncId}{avs:List AV}{v:AV}{hp:List Zh}{e:Eff}(hev:Zy C n f avs []=some (v,hp,e))(hv:v.flat1=true){args:Array Value}
  (hs:args.size=avs.length) (hr:∀ (j:Nat) (x:AV),avs[j]? = some x→Rep still W x (args.getD j Go.undef)∧∀ k r,x≠.own k r) :
  Calls P f args W fun e W'=>∃ cv,e=.returned cv∧Below W.heap.size W W'∧Rep still W' v cv:=by
 obtain ⟨_,hw⟩:=WV h n f avs [] _ _ _ hev still W args (Dn W) PI hs fun j x hx=>⟨(hr j x hx).1,.of_ne (hr j x hx).2⟩
 refine hw.mono fun en W' ⟨cv,hv',Γ',r1,r2,_,r4,_⟩=>?_
 subst hv'
 exact ⟨cv,rfl,⟨r4.os,r4.tape,r4.output,r4.size,fun b hb=>(r4.keep b hb trivial).2⟩,Gq r2 hv⟩
def allEq {α:Type}(f:α→α→Bool):List α→List α→Bool
 | [],[]=>true
 | a :: l,b :: m=>f a b && allEq f l m
 | _,_=>false
theorem Bz {α:Type}{f:α→α→Bool}(hf:∀ a b,f a b=true→a=b):∀ {l m:List α},allEq f l m=true→l=m
 | [],[],_=>rfl
 | a :: l,b :: m,h=>by
  simp only [allEq,Bool.and_eq_true] at h
  rw [hf a b h.1,Bz hf h.2]
 | [],_ :: _,h=>by cases h
 | _ :: _,[],h=>by cases h
def eqA:Nat→AV→AV→Bool
 | n + 1,.str a,.str b=>a == b
 | n + 1,.int k a,.int l b=>decide (k=l) && decide (a=b)
 | n + 1,.bool a,.bool b=>a == b
 | n + 1,.lst k r,.lst l q=>k == l && allEq (allEq (eqA n)) r q
 | n + 1,.agg r,.agg q=>allEq (eqA n) r q
 | _,_,_=>false
theorem ZnK:∀ (n:Nat) (a b:AV),eqA n a b=true→a=b:=by
 intro n
 induction n with
 | zero=>intro a b h; unfold eqA at h; cases h
 | succ n ih =>
  intro a b h
  cases a <;> cases b <;> simp only [eqA,Bool.false_eq_true,Bool.and_eq_true,decide_eq_true_eq,beq_iff_eq] at h
  case bool.bool=>rw [h]
  case int.int=>rw [h.1,h.2]
  case str.str=>rw [h]
  case lst.lst=>rw [h.1,Bz (fun x y hxy=>Bz ih hxy) h.2]
  case agg.agg=>rw [Bz ih h]
end Go.Proofs.YthkdlifcknpadaaGreat.Abs
end
section
namespace Go.Proofs.YthkdlifcknpadaaGreat.Abs
open Go Go.RowKit
section
variable {P:Program}{G:Nat→Option (List AV)}{call:FuncId→List AV→List Zh→Option (AV×List Zh×Eff)}{E:Entry}{s s':Za}{Γ:Zu}{a:Act}{w:World}{hand:Nat→Bool}{draw:Bool}
theorem Zk8 (hG:GOk G E.W0)(hS:ZT P E.W0 call){ops:Array Oper}{o:Oper}{g:Option (Nat×Bool)}{u:Za}{K:Act→World→Prop}{Q:Exit→Act→World→Prop}(h2:MS ops o.guard=some g)
  (he:Zt G call ⟨o.dst,(cOp P hand draw o).getD .bad,g⟩ s=some u) (hI:Inv E s Γ a w) (hK:∀ Γ a w,Inv E u Γ a w→K a w) :
  if Region.wanted o (yielded ops a.tmps)=true then o.wp P a w K Q∨(o.asks P a w∧LetsOut Q) else K (a.put o.dst Go.undef) w:=by
 simp only [Zt] at he
 split at he <;> first | (cases he; done) | skip
 ·rename_i hw
  rw [Q4 hI h2 hw]
  split at he <;> first | (cases he; done) | skip
  rename_i v s2 hev
  obtain rfl:=Option.some.inj he
  simp only [if_true]
  refine .inl (Zk7 hG hS hI (Xw hev) hev fun Γ' cv w' i1 r1 o1=>?_)
  obtain ⟨Γ2,i2⟩:=i1.put o.dst r1 o1
  exact hK _ _ _ i2
 ·rename_i hw
  rw [Q4 hI h2 hw]
  obtain rfl:=Option.some.inj he
  simp only [Bool.false_eq_true,if_false]
  obtain ⟨Γ2,i2⟩:=hI.put o.dst (v := .undef) (cv := Go.undef) .undef (.of_ne (by simp))
  exact hK _ _ _ i2
theorem ZmZ (hG:GOk G E.W0)(hS:ZT P E.W0 call)(hpure:∀ f args hp v hp' e,call f args hp=some (v,hp',e)→hp'=hp∧e=none){ops:Array Oper}{bops:List ZF}{Q:Exit→Act→World→Prop}{sF:Za}(hc:Vp P hand draw ops ops.toList=some bops)(hd:ZaO ops bops=true)(hQ:∀ Γ a w,Inv E sF Γ a w→Q .normal a w) :
  ∀ (fuel:Nat) {listed:Array Bool} {s:Za} {Γ:Zu} {a:Act} {w:World},listed.size=ops.size→VS ops listed→(WS ops.size listed).length=fuel→Z7 G call ((WS ops.size listed).map fun i=>bops.getD i ⟨none,.bad,none⟩) s=some sF→Inv E s Γ a w→wpAny P .any ops Q fuel listed a w:=by
 simp only [ZaO,Bool.and_eq_true,List.all_eq_true,List.mem_range] at hd
 obtain ⟨⟨hord,hnh⟩,hpair⟩:=hd
 obtain ⟨hlen,hget⟩:=X3 hc
 intro fuel
 induction fuel with
 | zero =>
  intro listed s Γ a w hsz hcl hl h hI
  have hn:=List.eq_nil_of_length_eq_zero hl
  rw [hn] at h
  obtain rfl:=Option.some.inj (by simpa [Z7] using h:some s=some sF)
  refine ⟨List.eq_nil_iff_forall_not_mem.2 fun i hi=>?_,hQ _ _ _ hI⟩
  obtain ⟨h1,o,h2,_⟩:=mem_ready.1 hi
  have:i ∈ WS ops.size listed:=Y5.2 ⟨(Array.getElem?_eq_some_iff.1 h2).1,h1⟩
  rw [hn] at this
  cases this
 | succ fuel ih =>
  intro listed s Γ a w hsz hcl hl h hI
  have hlisted:∀ j,j < ops.size→listed.getD j true≠false→listed.getD j false=true:=fun j hj h=>by
   have hj':j < listed.size:=by omega
   simp [hj'] at h ⊢; exact h
  refine ⟨fun hr=>?_,fun i hi=>?_⟩
  ·obtain ⟨i,r,hir⟩:∃ i r,WS ops.size listed=i :: r:=by
    cases hx:WS ops.size listed with
    | nil=>rw [hx] at hl; cases hl
    | cons i r=>exact ⟨i,r,rfl⟩
   have him:=Y5.1 (show i ∈ WS ops.size listed by rw [hir]; exact List.mem_cons_self ..)
   have hoi:ops[i]? = some ops[i]:=Array.getElem?_eq_getElem him.1
   have hready:i ∈ Region.ready .any ops listed:=by
    refine mem_ready.2 ⟨him.2,_,hoi,fun e he hb=>?_⟩
    have:=hord i him.1
    rw [hoi] at this
    have hlt:=Array.all_eq_true'.1 this e he
    rw [hb] at hlt
    simp only [Bool.not_true,Bool.false_or,decide_eq_true_eq] at hlt
    refine hlisted e.on (by omega) fun hun=>?_
    have hm:=Y5.2 ⟨show e.on < ops.size by omega,hun⟩
    rw [hir] at hm
    have hs:=QF ops.size listed
    rw [hir] at hs
    rcases List.mem_cons.1 hm with he | hm
    ·omega
    ·have:=(List.pairwise_cons.1 hs).1 _ hm
     omega
   rw [hr] at hready
   cases hready
  ·obtain ⟨hun,o,ho,hdeps⟩:=mem_ready.1 hi
   have hin:=(Array.getElem?_eq_some_iff.1 ho).1
   obtain ⟨l1,l2,hsplit⟩:=List.append_of_mem (Y5.2 ⟨hin,hun⟩)
   have hs:=QF ops.size listed
   rw [hsplit] at hs
   obtain ⟨g,hg1,hg2⟩:=hget i o (by simpa using ho)
   have hbi:bops.getD i ⟨none,.bad,none⟩=⟨o.dst,(cOp P hand draw o).getD .bad,g⟩:=by rw [List.getD_eq_getElem?_getD,hg2]; rfl
   have hcomm:∀ x ∈ l1.map (fun i=>bops.getD i ⟨none,.bad,none⟩),Zdz x ⟨o.dst,(cOp P hand draw o).getD .bad,g⟩=true:=fun x hx=>by
    obtain ⟨j,hj,rfl⟩:=List.mem_map.1 hx
    have hji:j < i:=(List.pairwise_append.1 hs).2.2 j hj i (List.mem_cons_self ..)
    have hjm:=Y5.1 (show j ∈ WS ops.size listed by rw [hsplit]; exact List.mem_append_left _ hj)
    have:=hpair i hin j hji
    rw [Bool.or_eq_true] at this
    rcases this with h1 | h1
    ·exfalso
     have h2:=hcl.ready ho hdeps (DF h1)
     rw [Gs hjm.2] at h2
     cases h2
    ·rw [hg2] at h1
     split at h1
     ·rename_i x y hx hy
      cases hy
      rw [List.getD_eq_getElem?_getD,hx]
      exact h1
     ·cases h1
   rw [hsplit,List.map_append,List.map_cons,hbi] at h
   obtain ⟨u,hu1,hu2⟩:=bubble hpure hcomm h
   rw [← List.map_append,← JC hsplit (by omega)] at hu2
   have hlen2:(WS ops.size (listed.setIfInBounds i true)).length=fuel:=by
    rw [JC hsplit (by omega)]
    rw [hsplit] at hl
    simp at hl ⊢
    omega
   unfold wpOp
   simp only [ho]
   exact Zk8 hG hS hg1 hu1 hI fun Γ' a' w' hI'=>ih (by simp [hsz]) (hcl.list ho hdeps) hlen2 hu2 hI'
end
def JW (P:Program)(takes:FuncId→List Nat)(res:List Nat):Code→Option Wh
 | .skip=>some .skip
 | .region _ ops false=>(Vp P (fun t=>(handed takes res ops.toList).contains t) false ops ops.toList).map (.region false)
 | .region _ ops true=>match Vp P (fun t=>(handed takes res ops.toList).contains t) false ops ops.toList with
  | some bops=>if ZaO ops bops then some (.region true bops) else if Ad ops bops then some (.regionB bops) else some .bad
  | _=>none
 | .seq a b=>match JW P takes res a,JW P takes res b with
  | some a,some b=>some (.seq a b)
  | _,_=>none
 | .cond c a b=>match ZK P 0 c,JW P takes res a,JW P takes res b with
  | some c,some a,some b=>some (.cond c a b)
  | _,_,_=>none
 | .block id c=>(JW P takes res c).map (.block id)
 | .loop c=>(JW P takes res c).map .loop
 | .scope c=>(JW P takes res c).map .scope
 | .exit id=>some (.exit id)
 | .ret=>some .ret
 | .label _=>some .skip
 | _=>some .bad
def ZqN (P:Program)(takes:FuncId→List Nat)(fn:Func):Option AFn :=
 match fn.body,Zdv P fn.results.toList with
 | some c,some rs=>(JW P takes (Zc9 fn.results.toList) c).map fun ac=>⟨fn.ntmps,rs,ac,!(takes Ou).isEmpty⟩
 | _,_=>none
section
variable (G:Nat→Option (List AV))(call:FuncId→List AV→List Zh→Option (AV×List Zh×Eff))(L:Nat)
def Yi:Wh→Za→Option (U3×Za)
 | .skip,s=>some (.normal,s)
 | .region false ops,s=>(Z7 G call ops s).map (.normal,·)
 | .region true ops,s=>(Z7 G (Ub call) ops s).map (.normal,·)
 | .regionB ops,s=>(Z7 G (Yd call) ops s).map (.normal,·)
 | .seq a b,s=>match Yi a s with
  | some (.normal,s')=>Yi b s'
  | r=>r
 | .cond c a b,s=>match opnd G s.sl c with
  | some (.bool true)=>Yi a s
  | some (.bool false)=>Yi b s
  | _=>none
 | .block id c,s=>match Yi c s with
  | some (.exit i,s')=>if i=id then some (.normal,s') else some (.exit i,s')
  | r=>r
 | .loop c,s=>iter (Yi c) L s
 | .scope c,s=>Yi c s
 | .exit id,s=>some (.exit id,s)
 | .ret,s=>some (.ret,s)
 | .bad,_=>none
end
section
variable {P:Program}{G:Nat→Option (List AV)}{call:FuncId→List AV→List Zh→Option (AV×List Zh×Eff)}{E:Entry}
theorem ZlW (hm:P.follows .mixedOrders=true)(hG:GOk G E.W0)(hS:ZT P E.W0 call){takes:FuncId→List Nat}{res:List Nat}(L:Nat):∀ {c:Code} {ac:Wh} {s:Za} {r:U3×Za} {Γ:Zu} {a:Act} {w:World},
  JW P takes res c=some ac→Yi G call L ac s=some r→Inv E s Γ a w→c.wp P (Ends E r) a w:=by
 intro c
 induction c with
 | skip =>
  intro ac s r Γ a w hc h hI
  cases hc; cases h
  exact Go.wp_skip (.normal hI)
 | region id ops draw =>
  intro ac s r Γ a w hc h hI
  cases draw with
  | false =>
   simp only [JW] at hc
   obtain ⟨aops,h1,rfl⟩:=Option.map_eq_some_iff.1 hc
   simp only [Yi] at h
   obtain ⟨s1,h2,rfl⟩:=Option.map_eq_some_iff.1 h
   refine wp_region ?_
   rw [List.range_eq_range']
   have:=Zhm hG hS (Q := Ends E (.normal,s1)) 0 (l := ops.toList) (by simp) h1 h2 hI fun Γ a w h=>.normal h
   simpa using this
  | true =>
   simp only [JW] at hc
   split at hc <;> first | (cases hc; done) | skip
   rename_i bops h1'
   split at hc
   ·rename_i hd
    cases hc
    simp only [Yi] at h
    obtain ⟨s1,h2,rfl⟩:=Option.map_eq_some_iff.1 h
    refine wp_region_any hm ?_
    have hb:Behind w { w with drawn:=w.drawn + 1 }:=⟨rfl,rfl,rfl,Nat.le_refl _,fun _ _=>rfl⟩
    have hr:WS ops.size (Array.replicate ops.size false)=List.range ops.size:=by
     unfold WS
     refine List.filter_eq_self.2 fun i hi=>?_
     simp only [List.mem_range] at hi
     simp [hi]
    have hmap:(List.range ops.size).map (fun i=>bops.getD i ⟨none,.bad,none⟩)=bops:=by
     have hl:ops.size=bops.length:=by simpa using (X3 h1').1
     rw [hl]
     refine List.ext_getElem? fun i=>?_
     rw [List.getElem?_map]
     by_cases hi:i < bops.length
     ·rw [List.getElem?_range hi,Option.map_some,List.getD_eq_getElem?_getD,List.getElem?_eq_getElem hi]; rfl
     ·rw [List.getElem?_eq_none (by simpa using hi),List.getElem?_eq_none (by omega)]; rfl
    exact ZmZ hG (EZ hS) Zjd (Q := Ends E (.normal,s1)) h1' hd (fun Γ a w h=>.normal h) ops.size (by simp) (.start ops _) (by rw [hr]; simp) (by rw [hr,hmap]; exact h2) (hb.inv hI)
   ·split at hc
    ·rename_i hd
     cases hc
     simp only [Yi] at h
     obtain ⟨s1,h2,rfl⟩:=Option.map_eq_some_iff.1 h
     refine wp_region_any hm ?_
     have hb:Behind w { w with drawn:=w.drawn + 1 }:=⟨rfl,rfl,rfl,Nat.le_refl _,fun _ _=>rfl⟩
     exact Zcj hG (Gj hS) (Q := Ends E (.normal,s1)) h1' hd (fun Γ a w h=>.normal h) h2 (hb.inv hI)
    ·cases hc; cases h
 | seq x y ihx ihy =>
  intro ac s r Γ a w hc h hI
  simp only [JW] at hc
  split at hc <;> first | (cases hc; done) | skip
  rename_i ax ay hx hy
  obtain rfl:=Option.some.inj hc
  simp only [Yi] at h
  refine Go.wp_seq ?_
  split at h
  ·rename_i s1 h1
   refine Go.wp_mono (ihx hx h1 hI) fun e a' w' he=>?_
   obtain ⟨k1,Γ',i1⟩:=he
   cases e <;> first | exact k1.elim | skip
   exact ihy hy h i1
  ·rename_i hne
   refine Go.wp_mono (ihx hx h hI) fun e a' w' he=>?_
   cases e <;> first | exact he | skip
   obtain ⟨k1,_⟩:=he
   obtain ⟨q,s1⟩:=r
   cases q <;> first | exact k1.elim | skip
   exact absurd h (hne s1)
 | cond c x y ihx ihy =>
  intro ac s r Γ a w hc h hI
  simp only [JW] at hc
  split at hc <;> first | (cases hc; done) | skip
  rename_i c' ax ay hcc hx hy
  obtain rfl:=Option.some.inj hc
  simp only [Yi] at h
  split at h <;> first | (cases h; done) | skip
  ·rename_i hb
   have k:=(Zm hG hI hcc hb).1
   generalize hq:a.eval c=q at k
   cases k
   exact Go.wp_cond_true hq (ihx hx h hI)
  ·rename_i hb
   have k:=(Zm hG hI hcc hb).1
   generalize hq:a.eval c=q at k
   cases k
   exact Go.wp_cond_false hq (ihy hy h hI)
 | block id c ih =>
  intro ac s r Γ a w hc h hI
  simp only [JW] at hc
  obtain ⟨ax,hx,rfl⟩:=Option.map_eq_some_iff.1 hc
  simp only [Yi] at h
  refine Go.wp_block ?_
  split at h
  ·rename_i i s1 h1
   split at h
   ·rename_i hi
    obtain rfl:=Option.some.inj h
    refine Go.wp_mono (ih hx h1 hI) fun e a' w' he=>?_
    obtain ⟨k1,Γ',i1⟩:=he
    cases e <;> first | exact k1.elim | skip
    rename_i j
    simp only [Exit.inBlock]
    rw [if_pos (by rw [← hi]; exact (show i=j from k1).symm)]
    exact .normal i1
   ·rename_i hi
    obtain rfl:=Option.some.inj h
    refine Go.wp_mono (ih hx h1 hI) fun e a' w' he=>?_
    obtain ⟨k1,Γ',i1⟩:=he
    cases e <;> first | exact k1.elim | skip
    rename_i j
    simp only [Exit.inBlock]
    rw [if_neg (by rw [← (show i=j from k1)]; exact hi)]
    exact ⟨k1,Γ',i1⟩
  ·rename_i hne
   refine Go.wp_mono (ih hx h hI) fun e a' w' he=>?_
   cases e <;> first | exact he | skip
   obtain ⟨k1,_⟩:=he
   obtain ⟨q,s1⟩:=r
   cases q <;> first | exact k1.elim | skip
   exact absurd h (hne _ s1)
 | loop c ih =>
  intro ac s r Γ a w hc h hI
  simp only [JW] at hc
  obtain ⟨ax,hx,rfl⟩:=Option.map_eq_some_iff.1 hc
  simp only [Yi] at h
  exact wp_loop_rounds L (Zfp (fun h1 h2=>ih hx h1 h2) L h hI)
 | scope c ih =>
  intro ac s r Γ a w hc h hI
  simp only [JW] at hc
  obtain ⟨ax,hx,rfl⟩:=Option.map_eq_some_iff.1 hc
  simp only [Yi] at h
  refine Go.wp_scope_straight (Go.wp_mono (ih hx h hI) fun e a' w' he=>?_)
  cases e <;> first | exact he | skip
  obtain ⟨k1,_⟩:=he
  obtain ⟨q,s1⟩:=r
  cases q <;> exact k1.elim
 | exit id =>
  intro ac s r Γ a w hc h hI
  cases hc; cases h
  exact Go.wp_exit ⟨rfl,Γ,hI⟩
 | ret =>
  intro ac s r Γ a w hc h hI
  cases hc; cases h
  exact Go.wp_ret ⟨trivial,Γ,hI⟩
 | label l =>
  intro ac s r Γ a w hc h hI
  cases hc; cases h
  exact Go.wp_label (.normal hI)
 | _ =>
  intro ac s r Γ a w hc h
  cases hc; cases h
end
section
variable {G:Nat→Option (List AV)}{call:FuncId→List AV→List Zh→Option (AV×List Zh×Eff)}
theorem Zd2 (L:Nat):∀ {c:Wh} {s:Za} {r:U3×Za},Yi G call L c s=some r→r.2.bs=s.bs:=by
 intro c
 induction c with
 | skip=>intro s r h; cases h; rfl
 | region draw ops =>
  intro s r h
  cases draw with
  | false =>
   simp only [Yi] at h
   obtain ⟨s1,h1,rfl⟩:=Option.map_eq_some_iff.1 h
   exact VY h1
  | true =>
   simp only [Yi] at h
   obtain ⟨s1,h1,rfl⟩:=Option.map_eq_some_iff.1 h
   exact VY h1
 | regionB ops =>
  intro s r h
  simp only [Yi] at h
  obtain ⟨s1,h1,rfl⟩:=Option.map_eq_some_iff.1 h
  exact VY h1
 | seq x y ihx ihy =>
  intro s r h
  simp only [Yi] at h
  split at h
  ·rename_i s1 h1
   rw [ihy h]; exact ihx h1
  ·exact ihx h
 | cond c x y ihx ihy =>
  intro s r h
  simp only [Yi] at h
  split at h <;> first | (cases h; done) | skip
  ·exact ihx h
  ·exact ihy h
 | block id c ih =>
  intro s r h
  simp only [Yi] at h
  split at h
  ·rename_i i s1 h1
   have:=ih h1
   split at h <;> (obtain rfl:=Option.some.inj h; exact this)
  ·exact ih h
 | loop c ih =>
  intro s r h
  simp only [Yi] at h
  exact Zfo ih L h
 | scope c ih=>intro s r h; simp only [Yi] at h; exact ih h
 | exit id=>intro s r h; cases h; rfl
 | ret=>intro s r h; cases h; rfl
 | bad=>intro s r h; cases h
end
def Aj (C:Cfg)(S:List Nat)(n:Nat)(fn:AFn)(args:List AV)(hp:List Zh):Option (AV×List Zh×Eff) :=
 match Yi C.G (Zfu S (Zy C n)) C.L fn.code ⟨args ++ List.replicate (fn.ntmps - args.length) .undef,hp,none,hp.length⟩ with
 | some (.exit _,_)=>none
 | some (_,s)=>match Qk s fn.results with
  | some v=>some (if fn.keep then (v.nm,s.hp,s.ef) else finish v s hp)
  | none=>none
 | none=>none
theorem ZhU {P:Program}{W0:World}{C:Cfg}{S:List Nat}(h:Zdf P W0 C)(n:Nat){f:FuncId}{fn:Func}{takes:FuncId→List Nat}{af:AFn}(hf:P.funcs[f]? = some fn)(hname:(fn.name == "runtime.NumGoroutine")=false)(hcf:ZqN P takes fn=some af) :
  ZT P W0 fun g args hp=>if g=f then Aj C S n af args hp else none:=by
 intro g args hp v hp' e hc Γ w xs hr ht hs hx
 replace hc:(if g=f then Aj C S n af args hp else none)=some (v,hp',e):=hc
 split at hc
 case isFalse=>cases hc
 rename_i hgf
 subst hgf
 have ih:=Zm9 S (WV h n)
 unfold Aj at hc
 unfold ZqN at hcf
 split at hcf <;> first | (cases hcf; done) | skip
 rename_i c rs hb hrs
 obtain ⟨ac,hac,rfl⟩:=Option.map_eq_some_iff.1 hcf
 split at hc
 ·cases hc
 ·rename_i x s hne hev
  split at hc <;> first | (cases hc; done) | skip
  rename_i u hu
  have hfin:=Option.some.inj hc
  refine ⟨BG hf hname hb xs w,?_⟩
  have hbs:s.bs=hp.length:=Zd2 C.L hev
  have hI:Inv ⟨W0,Γ,w⟩ ⟨args ++ List.replicate (fn.ntmps - args.length) .undef,hp,none,hp.length⟩ Γ { tmps := xs ++ Array.replicate (fn.ntmps - xs.size) Go.undef,defers := [] } w:=by
   have get:∀ (t:Nat) (y:AV),(args ++ List.replicate (fn.ntmps - args.length) AV.undef)[t]? = some y→(args[t]? = some y∧(xs ++ Array.replicate (fn.ntmps - xs.size) Go.undef).getD t Go.undef=xs.getD t Go.undef)∨(y=.undef∧(xs ++ Array.replicate (fn.ntmps - xs.size) Go.undef).getD t Go.undef=Go.undef):=by
    intro t y hy
    rw [List.getElem?_append] at hy
    split at hy
    ·rename_i hlt
     refine .inl ⟨hy,?_⟩
     rw [Array.getD_eq_getD_getElem?,Array.getD_eq_getD_getElem?,Array.getElem?_append_left (by omega)]
    ·rename_i hge
     have hm:=List.mem_of_getElem? hy
     have:=List.eq_of_mem_replicate hm
     refine .inr ⟨this,?_⟩
     have hlt:=Zn hy
     simp only [List.length_replicate] at hlt
     rw [Array.getD_eq_getD_getElem?,Array.getElem?_append_right (by omega),Array.getElem?_replicate,if_pos (by omega)]
     rfl
   refine ⟨rfl,⟨by simp [hs],fun t y hy=>?_,fun t y hy=>?_⟩,hr,.refl _ _ _,fun b g hb=>hr.lt b g hb,fun b m g i hb=>ht.cell b m g i hb,Nat.le_refl _,fun _ _ hb _=>hb⟩
   ·rcases get t y hy with ⟨h1,h2⟩ | ⟨rfl,h2⟩
    ·rw [h2]; exact (hx t y h1).1
    ·rw [h2]; exact .undef
   ·rcases get t y hy with ⟨h1,h2⟩ | ⟨rfl,h2⟩
    ·rw [h2]; exact (hx t y h1).2
    ·exact .of_ne (by simp)
  have hw:=ZlW h.mixed h.globals ih C.L hac hev hI
  refine calls_of_wp hf hb (Go.wp_mono hw fun en a' w' he=>?_)
  obtain ⟨k1,Γ',i1⟩:=he
  have fin:a'.defers=[]∧∃ cv,(results fn a'.tmps).run P w'=.ok cv w'∧∃ v',Ending.returned cv=.returned v'∧∃ Γ',RW W0 Γ' w' hp'∧Rep Γ' w' v v'∧OwnAt Γ' w' .res v v'∧Frame Γ w Γ' w' e∧hp.length≤hp'.length∧∀ b g,Γ' b=.own g→g < hp.length→Γ b=.own g:=by
   obtain ⟨cv,Γ2,q1,q2,q3,q4,q5,q6⟩:=ZkY i1 hrs hu
   obtain ⟨Γ3,p1,p2,p3,p4,p5⟩:=BH hr hbs (by rw [hbs]; have:=i1.le; simpa [hbs] using this) (fun b m g i hb=>by rw [hbs]; exact ht.cell b m g i hb) q2 q3 q6 q4 q5 hfin
   exact ⟨i1.defers,cv,q1,cv,rfl,Γ3,p1,p2,p3,p4,p5⟩
  cases x with
  | exit i=>exact (hne i rfl).elim
  | normal=>cases en <;> first | exact k1.elim | exact fin
  | ret=>cases en <;> first | exact k1.elim | exact fin
 ·cases hc
theorem ZsT {P:Program}{W:World}{C:Cfg}{S:List Nat}(h:Zdf P W C){n:Nat}{f:FuncId}{fn:Func}{takes:FuncId→List Nat}{af:AFn}(hf:P.funcs[f]? = some fn)(hname:(fn.name == "runtime.NumGoroutine")=false)(hcf:ZqN P takes fn=some af)
  {hp:List Zh} {e:Eff} (hev:Aj C S n af [] []=some (.bool true,hp,e)):Calls P f #[] W fun e W'=>e=.returned (.bool true)∧Below W.heap.size W W':=by
 obtain ⟨_,hw⟩:=ZhU h n hf hname hcf f [] [] (.bool true) hp e (by simpa using hev) still W #[] (Dn W) PI rfl fun j x hx=>by simp at hx
 refine hw.mono fun en W' ⟨cv,hv,Γ',r1,r2,_,r4,_⟩=>?_
 subst hv
 cases r2
 exact ⟨rfl,r4.os,r4.tape,r4.output,r4.size,fun b hb=>(r4.keep b hb trivial).2⟩
end Go.Proofs.YthkdlifcknpadaaGreat.Abs
end
