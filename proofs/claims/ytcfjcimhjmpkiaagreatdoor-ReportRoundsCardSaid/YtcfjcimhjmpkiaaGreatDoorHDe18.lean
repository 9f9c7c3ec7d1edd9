import Derived.Lib.ItoaLen
import Derived.Test.YtcfjcimhjmpkiaaGreatDoorHDe17
set_option linter.all false
section
namespace Go.Proofs.YtcfjcimhjmpkiaaGreatDoor
open Go Go.Proofs.YtcfjcimhjmpkiaaGreatDoor.Abs Go.Proofs.YtcfjcimhjmpkiaaGreatDoor.Tl
set_option maxRecDepth 100000
def wd (n:Nat):Ze:=⟨((n / 18446744073709551616:Nat):Int),((n % 18446744073709551616:Nat):Int)⟩
theorem Z9 {n:Nat}(h:n < 18446744073709551616):Ze.mk 0 (n:Int)=wd n:=by
 unfold wd
 rw [Nat.div_eq_of_lt h,Nat.mod_eq_of_lt h]; rfl
theorem Zu {α β:Type}(a:α)(f:α→Option β):bT (some a) f=f a:=by
 have h:bT (some a) f=f a:=rfl
 exact h
theorem QQ (L:Nat){n m:Nat}(h:n + m < 340282366920938463463374607431768211456):ZB L (wd n,wd m,())=some (wd (n + m)):=by
 rw [IW]
 simp only [wd,Vj]
 by_cases hc:n % 18446744073709551616 + m % 18446744073709551616 < 18446744073709551616
 ·rw [decide_eq_false (by omega),cond_false]
  congr 2 <;> omega
 ·rw [decide_eq_true (by omega),cond_true]
  congr 2 <;> omega
theorem Um (L:Nat){n m:Nat}(h:m≤n)(hn:n < 340282366920938463463374607431768211456):Yt L (wd n,wd m,())=some (wd (n - m)):=by
 rw [G5]
 change (bif decide (((n % 18446744073709551616:Nat):Int) < ((m % 18446744073709551616:Nat):Int)) then _ else _)=_
 simp only [wd,Vj]
 by_cases hc:n % 18446744073709551616 < m % 18446744073709551616
 ·rw [decide_eq_true (by omega),cond_true]
  congr 2 <;> omega
 ·rw [decide_eq_false (by omega),cond_false]
  congr 2 <;> omega
theorem Tv (L:Nat)(n m:Nat):YY L (wd n,wd m,())=some (decide (n < m)):=by
 rw [IU]
 change some (decide (((n / 18446744073709551616:Nat):Int) < ((m / 18446744073709551616:Nat):Int)) || ((n / 18446744073709551616:Nat):Int) == ((m / 18446744073709551616:Nat):Int) && decide (((n % 18446744073709551616:Nat):Int) < ((m % 18446744073709551616:Nat):Int)))=_
 congr 1
 rw [Bool.eq_iff_iff]
 simp only [Bool.or_eq_true,Bool.and_eq_true,decide_eq_true_eq,beq_iff_eq]
 omega
theorem Bj {n i:Nat}(hn:n < 340282366920938463463374607431768211456)(hi:i < 128):Oy (wd n) (i:Int)=some ((n / 2 ^ i % 2:Nat):Int):=by
 unfold Oy
 rw [if_pos ⟨⟨by simp only [wd]; omega,by simp only [wd]; omega⟩,⟨by simp only [wd]; omega,by simp only [wd]; omega⟩,by omega,by omega⟩]
 congr 1
 by_cases h:64≤i
 ·rw [if_pos (by omega)]
  have e:((i:Int) - 64).toNat=i - 64:=by omega
  rw [e]
  simp only [wd]
  have:n / 2 ^ i=n / 18446744073709551616 / 2 ^ (i - 64):=by
   rw [Nat.div_div_eq_div_mul,show (18446744073709551616:Nat)=2 ^ 64 from rfl,← Nat.pow_add,show 64 + (i - 64)=i by omega]
  rw [this,Qe (_ / _) 2,Qd _ (2 ^ _),Int.natCast_pow]; rfl
 ·rw [if_neg (by omega),Int.toNat_natCast]
  simp only [wd]
  have:n / 2 ^ i % 2=n % 18446744073709551616 / 2 ^ i % 2:=by
   have e1:∀ x:Nat,x / 2 ^ i % 2=x % 2 ^ (i + 1) / 2 ^ i:=fun x=>by
    rw [Nat.pow_succ,Nat.mod_mul_right_div_self]
   rw [e1,e1 (n % _)]
   congr 1
   rw [Nat.mod_mod_of_dvd]
   exact Nat.pow_dvd_pow 2 (show i + 1≤64 by omega)
  rw [this,Qe (_ / _) 2,Qd _ (2 ^ _),Int.natCast_pow]; rfl
theorem PS {q:Nat}:Ze.mk (wd (q + q)).1 (Go.IntKind.u64.wrap ((wd (q + q)).2 + 1))=wd (2 * q + 1):=by
 simp only [wd,Vj]
 congr 1 <;> omega
theorem KH {i:Nat}(h:i < 128):Go.IntKind.i64.wrap ((i:Int) - 1)=(i:Int) - 1:=wrap_in (by omega) (by omega)
theorem LU {a b i:Nat}(hb:0 < b):let q:=a / 2 ^ (i + 1) / b; let r:=a / 2 ^ (i + 1) % b; let s:=2 * r + a / 2 ^ i % 2;
  a / 2 ^ i / b=(if b≤s then 2 * q + 1 else 2 * q)∧a / 2 ^ i % b=(if b≤s then s - b else s)∧s < 2 * b:=by
 intro q r s
 have e1:a / 2 ^ i=2 * (a / 2 ^ (i + 1)) + a / 2 ^ i % 2:=by
  rw [Nat.pow_succ,← Nat.div_div_eq_div_mul]; omega
 have e2:a / 2 ^ (i + 1)=b * q + r:=(Nat.div_add_mod _ _).symm
 have hr:r < b:=Nat.mod_lt _ hb
 have hd:a / 2 ^ i % 2 < 2:=Nat.mod_lt _ (by omega)
 have e3:a / 2 ^ i=b * (2 * q) + s:=by
  have:b * (2 * q)=2 * (b * q):=by rw [Nat.mul_left_comm]
  show a / 2 ^ i=b * (2 * q) + (2 * r + a / 2 ^ i % 2)
  omega
 have hs:s < 2 * b:=by show 2 * r + a / 2 ^ i % 2 < 2 * b; omega
 refine ⟨?_,?_,hs⟩
 ·split
  ·rw [e3,Nat.mul_add_div hb,show s / b=1 from by
    rw [Nat.div_eq_iff hb]; omega]
  ·rw [e3,Nat.mul_add_div hb,Nat.div_eq_of_lt (by omega)]; rfl
 ·rw [e3,Nat.mul_add_mod]
  split
  ·rw [Nat.mod_eq_sub_mod (by omega),Nat.mod_eq_of_lt (by omega)]
  ·exact Nat.mod_eq_of_lt (by omega)
end Go.Proofs.YtcfjcimhjmpkiaaGreatDoor
end
section
namespace Go.Proofs.YtcfjcimhjmpkiaaGreatDoor
open Go Go.Proofs.YtcfjcimhjmpkiaaGreatDoor.Abs Go.Proofs.YtcfjcimhjmpkiaaGreatDoor.Tl
set_option maxRecDepth 100000
attribute [local irreducible] wd
theorem OB (L:Nat){a b q r d i:Nat}(hi:i < 128)(hb2:2 * b≤340282366920938463463374607431768211456)(hd:d < 2)(hr:r < b)(hq:2 * q + 1 < 340282366920938463463374607431768211456)(b1:Oy (wd a) (i:Int)=some (d:Int))(self:Int×Ze×Ze×PUnit→Option (Ze×Ze×PUnit)) :
  ZN (wd a) (wd b) L self ((i:Int),wd q,wd r,())=self ((i:Int) - 1,wd (if b≤2 * r + d then 2 * q + 1 else 2 * q),wd (if b≤2 * r + d then 2 * r + d - b else 2 * r + d),()):=by
 have h1:q + q < 340282366920938463463374607431768211456:=by omega
 have h2:r + r < 340282366920938463463374607431768211456:=by omega
 have h3:r + r + d < 340282366920938463463374607431768211456:=by omega
 have h4:2 * r + d < 340282366920938463463374607431768211456:=by omega
 have e1:r + r + d=2 * r + d:=by omega
 have e2:q + q=2 * q:=by omega
 have e3:d < 18446744073709551616:=by omega
 have e4:(i:Int) ≥ 0:=by omega
 unfold ZN
 dsimp only
 rw [decide_eq_true e4,cond_true,QQ L h1]
 simp only [Zu]
 rw [QQ L h2]
 simp only [Zu,b1]
 rw [Z9 e3,QQ L h3]
 simp only [Zu,Tv]
 rw [KH hi,PS,e1,e2]
 by_cases h:b≤2 * r + d
 ·rw [if_pos h,if_pos h,decide_eq_false (Nat.not_lt.2 h),Bool.not_false,cond_true,Um L h h4]
  simp only [Zu]
 ·rw [if_neg h,if_neg h,decide_eq_true (Nat.lt_of_not_le h),Bool.not_true,cond_false]
theorem LP (L:Nat)(a b:Nat)(x y:Ze)(self:Int×Ze×Ze×PUnit→Option (Ze×Ze×PUnit)):ZN (wd a) (wd b) L self (-1,x,y,())=some (x,y,()):=by
 unfold ZN
 dsimp only
 rw [show decide ((-1:Int) ≥ 0)=false from rfl,cond_false]
theorem LQ (L:Nat){a b:Nat}(ha:a < 340282366920938463463374607431768211456)(hb:0 < b)(hb2:2 * b≤340282366920938463463374607431768211456):∀ (i:Nat),i≤128→∀ m,Zx (ZN (wd a) (wd b) L) (m + i + 1) ((i:Int) - 1,wd (a / 2 ^ i / b),wd (a / 2 ^ i % b),())=some (wd (a / b),wd (a % b),()):=by
 intro i
 induction i with
 | zero =>
  intro _ m
  have e:(((0:Nat):Int) - 1)=-1:=rfl
  rw [e,Nat.pow_zero,Nat.div_one,Zx,LP]
 | succ i ihi =>
  intro hi m
  have hq:2 * (a / 2 ^ (i + 1) / b)≤a:=by
   have h1:a / 2 ^ (i + 1) / b≤a / 2 ^ (i + 1):=Nat.div_le_self _ _
   have h2:a / 2 ^ (i + 1)≤a / 2:=by rw [Nat.pow_succ,Nat.mul_comm,← Nat.div_div_eq_div_mul]; exact Nat.div_le_self _ _
   omega
  obtain ⟨e1,e2,e3⟩:=LU (a := a) (b := b) (i := i) hb
  have b1:Oy (wd a) (i:Int)=some ((a / 2 ^ i % 2:Nat):Int):=Bj ha (by omega)
  have ih:=ihi (by omega) m
  rw [e1,e2] at ih
  have hi1:(((i + 1:Nat):Int) - 1)=(i:Int):=by omega
  have hq2:2 * (a / 2 ^ (i + 1) / b) + 1 < 340282366920938463463374607431768211456:=by
   omega
  rw [hi1,show m + (i + 1) + 1=(m + i + 1) + 1 from rfl,Zx,OB L (by omega) hb2 (Nat.mod_lt _ (by omega)) (Nat.mod_lt _ hb) hq2 b1]
  exact ih
theorem Xp {L:Nat}(hL:129≤L){a b:Nat}(ha:a < 340282366920938463463374607431768211456)(hb:0 < b)(hb2:2 * b≤340282366920938463463374607431768211456):ZL L (wd a,wd b,())=some (wd (a / b),wd (a % b),()):=by
 rw [Kt]
 have h:=LQ L ha hb hb2 128 (by omega) (L - 129)
 rw [show L - 129 + 128 + 1=L by omega,Nat.div_eq_of_lt (show a < 2 ^ 128 from ha),Nat.zero_div,Nat.zero_mod,← Z9 (show 0 < 18446744073709551616 by omega)] at h
 exact h
theorem GX (L:Nat){x b q d i:Nat}(hi:i < 64)(hd:d < 2)(hq:2 * q + x < 340282366920938463463374607431768211456)(b1:Oy (Ze.mk 0 b) (i:Int)=some (d:Int))(self:Int×Ze×PUnit→Option Ze) :
  Yc (wd x) b L self ((i:Int),wd q,())=self ((i:Int) - 1,wd (2 * q + d * x),()):=by
 have h1:q + q < 340282366920938463463374607431768211456:=by omega
 have h2:q + q + x < 340282366920938463463374607431768211456:=by omega
 have e2:q + q=2 * q:=by omega
 have e4:(i:Int) ≥ 0:=by omega
 unfold Yc
 dsimp only
 rw [decide_eq_true e4,cond_true,QQ L h1]
 simp only [Zu,b1]
 rw [KH (by omega)]
 rcases (show d=0∨d=1 by omega) with rfl | rfl
 ·rw [show (((0:Nat):Int) == 1)=false from rfl,cond_false,e2,Nat.zero_mul,Nat.add_zero]
 ·rw [show (((1:Nat):Int) == 1)=true from rfl,cond_true,QQ L h2]
  simp only [Zu]
  rw [e2,Nat.one_mul]
theorem Og (L:Nat)(x:Nat)(b:Int)(y:Ze)(self:Int×Ze×PUnit→Option Ze):Yc (wd x) b L self (-1,y,())=some y:=by
 unfold Yc
 dsimp only
 rw [show decide ((-1:Int) ≥ 0)=false from rfl,cond_false]
theorem Oh (L:Nat){x b:Nat}(hb:b < 18446744073709551616)(hx:b * x + x < 340282366920938463463374607431768211456):∀ (i:Nat),i≤64→∀ m,Zx (Yc (wd x) b L) (m + i + 1) ((i:Int) - 1,wd (b / 2 ^ i * x),())=some (wd (b * x)):=by
 intro i
 induction i with
 | zero =>
  intro _ m
  have e:(((0:Nat):Int) - 1)=-1:=rfl
  rw [e,Nat.pow_zero,Nat.div_one,Zx,Og]
 | succ i ihi =>
  intro hi m
  have e1:b / 2 ^ i=2 * (b / 2 ^ (i + 1)) + b / 2 ^ i % 2:=by
   rw [Nat.pow_succ,← Nat.div_div_eq_div_mul]; omega
  have e2:b / 2 ^ i * x=2 * (b / 2 ^ (i + 1) * x) + b / 2 ^ i % 2 * x:=by
   conv=>lhs; rw [e1]
   rw [Nat.add_mul,Nat.mul_assoc]
  have hle:b / 2 ^ i * x≤b * x:=Nat.mul_le_mul_right _ (Nat.div_le_self _ _)
  have b1:Oy (Ze.mk 0 b) (i:Int)=some ((b / 2 ^ i % 2:Nat):Int):=by
   rw [Z9 hb]; exact Bj (by omega) (by omega)
  have ih:=ihi (by omega) m
  rw [e2] at ih
  have hi1:(((i + 1:Nat):Int) - 1)=(i:Int):=by omega
  rw [hi1,show m + (i + 1) + 1=(m + i + 1) + 1 from rfl,Zx,GX L (by omega) (Nat.mod_lt _ (by omega)) (by omega) b1]
  exact ih
theorem RV {L:Nat}(hL:65≤L){x b:Nat}(hb:b < 18446744073709551616)(hx:b * x + x < 340282366920938463463374607431768211456):WA L (wd x,(b:Int),())=some (wd (b * x)):=by
 rw [G6]
 have h:=Oh L hb hx 64 (by omega) (L - 65)
 rw [show L - 65 + 64 + 1=L by omega,Nat.div_eq_of_lt (show b < 2 ^ 64 from hb),Nat.zero_mul,← Z9 (show 0 < 18446744073709551616 by omega)] at h
 exact h
theorem I8 {L:Nat}(hL:65≤L){x b:Nat}(hx:x < 18446744073709551616)(hb:b < 18446744073709551616):YC L ((x:Int),(b:Int),())=some (wd (x * b)):=by
 have h:b * x + x < 340282366920938463463374607431768211456:=by
  have h1:(b + 1) * x≤18446744073709551616 * x:=Nat.mul_le_mul_right _ hb
  rw [Nat.add_mul,Nat.one_mul] at h1
  omega
 rw [G7,Z9 hx,RV hL hb h,Nat.mul_comm]
 simp only [Zu]
theorem UD {L:Nat}(hL:129≤L){a b:Nat}(ha:a < 340282366920938463463374607431768211456)(hb:2 * b≤340282366920938463463374607431768211456)(hp:0 < b)(self:Ze×Ze×PUnit→Option Ze):Yf L self (wd a,wd b,())=self (wd b,wd (a % b),()):=by
 have hz:((wd b).1 == 0 && ((wd b).2 == 0 && true))=false:=by
  have:¬ ((wd b).1=0∧(wd b).2=0):=by unfold wd; dsimp only; omega
  rw [Bool.eq_false_iff]
  intro hc
  simp only [Bool.and_eq_true,beq_iff_eq,and_true] at hc
  exact this hc
 unfold Yf
 dsimp only
 rw [hz,Bool.not_false,cond_true,Xp hL ha hp hb]
 simp only [Zu]
theorem KW (L a:Nat)(self:Ze×Ze×PUnit→Option Ze):Yf L self (wd a,wd 0,())=some (wd a):=by
 rw [← Z9 (n := 0) (by omega)]
 rfl
theorem Vx {L:Nat}(hL:129≤L):∀ (m:Nat) {a b:Nat},a < 340282366920938463463374607431768211456→2 * b≤340282366920938463463374607431768211456→b < m→Zx (Yf L) m (wd a,wd b,())=some (wd (Nat.gcd a b))
 | 0,a,b,_,_,h=>absurd h (Nat.not_lt_zero _)
 | m + 1,a,b,ha,hb,h=>by
  rw [Zx]
  rcases Nat.eq_zero_or_pos b with rfl | hp
  ·rw [KW,Nat.gcd_zero_right]
  ·have hm:a % b < b:=Nat.mod_lt _ hp
   have h1:b < 340282366920938463463374607431768211456:=by omega
   have h2:2 * (a % b)≤340282366920938463463374607431768211456:=by omega
   rw [UD hL ha hb hp,Vx hL m h1 h2 (by omega),Nat.gcd_comm a b,Nat.gcd_rec b a,Nat.gcd_comm]
theorem UC {L:Nat}(hL:129≤L){a b:Nat}(ha:a < 340282366920938463463374607431768211456)(hb:2 * b≤340282366920938463463374607431768211456)(h:b < L):Yz L (wd a,wd b,())=some (wd (Nat.gcd a b)):=by
 rw [Ku]
 exact Vx hL L ha hb h
end Go.Proofs.YtcfjcimhjmpkiaaGreatDoor
end
section
namespace Go.Proofs.YtcfjcimhjmpkiaaGreatDoor
open Go Go.Proofs.YtcfjcimhjmpkiaaGreatDoor.Abs Go.Proofs.YtcfjcimhjmpkiaaGreatDoor.Tl
set_option maxRecDepth 100000
attribute [local irreducible] wd
abbrev I64 (x:Int):Prop:=-9223372036854775808≤x∧x≤9223372036854775807
theorem Y8 (L:Nat){x:Int}(h:I64 x):Zy L (x,())=some ((x.natAbs:Nat):Int):=by
 rw [IX]
 by_cases hx:x < 0
 ·rw [decide_eq_true hx,cond_true,wrap_in (n := x + 1) (by omega) (by omega),wrap_in (by omega) (by omega),Vj,Vj]
  congr 1; omega
 ·rw [decide_eq_false hx,cond_false,Vj]
  congr 1; omega
theorem H8 (L:Nat){x:Int}(h:I64 x):Yr L (x,())=some ((x.natAbs:Nat):Int):=by
 rw [Gy]
 by_cases hx:x < 0
 ·rw [decide_eq_true hx,cond_true,Vj,Vj]
  congr 1; omega
 ·rw [decide_eq_false hx,cond_false,Vj]
  congr 1; omega
theorem UH:∀ (m:Nat) (a b:Nat),b < m→Zx Wv m ((a:Int),(b:Int),())=some ((Nat.gcd a b:Nat):Int)
 | 0,a,b,h=>absurd h (Nat.not_lt_zero _)
 | m + 1,a,b,h=>by
  rw [Zx]
  have hr:∀ self:Int×Int×PUnit→Option Int,Wv self ((a:Int),(b:Int),())=if b=0 then some (a:Int) else self ((b:Int),((a % b:Nat):Int),()):=fun self=>by
   unfold Wv
   dsimp only
   rcases Nat.eq_zero_or_pos b with rfl | hp
   ·rfl
   ·rw [show ((b:Int) != 0)=true from by simp; omega,cond_true,if_neg (by omega),if_neg (by omega)]
    rfl
  rw [hr]
  by_cases hb:b=0
  ·rw [if_pos hb,hb,Nat.gcd_zero_right]
  ·rw [if_neg hb,UH m b (a % b) (by have:=Nat.mod_lt a (Nat.pos_of_ne_zero hb); omega),Nat.gcd_comm a b,Nat.gcd_rec b a,Nat.gcd_comm]
theorem DD {L a b:Nat}(h:b < L):Ql L ((a:Int),(b:Int),())=some ((Nat.gcd a b:Nat):Int):=by
 rw [IQ]
 exact UH L a b h
def CQ (x:Zl):Bool:=decide (1≤x.2∧x.2≤1000000000000000∧x.1.natAbs≤4611686018427387904∧Nat.gcd x.1.natAbs x.2.natAbs=1)
theorem OV {L:Nat}(hL:1000000000000000 < L){x:Zl}(h1:I64 x.1)(h2:I64 x.2):YN L (x,())=some (CQ x):=by
 rw [Kq]
 simp only [H8 L h1,Zu]
 by_cases ha:1≤x.2∧x.2≤1000000000000000
 ·rw [show (decide (x.2 ≥ 1) && decide (x.2≤1000000000000000))=true from by simp; omega,show (true == true)=true from rfl,cond_true]
  simp only [Zu]
  by_cases hn:x.1.natAbs≤4611686018427387904
  ·rw [decide_eq_true (show ((x.1.natAbs:Nat):Int)≤4611686018427387904 by omega),show (true == true)=true from rfl,cond_true,Vj,show x.2 % 18446744073709551616=((x.2.natAbs:Nat):Int) by omega,DD (by omega)]
   simp only [Zu]
   congr 1
   unfold CQ
   rw [Bool.eq_iff_iff,beq_iff_eq,decide_eq_true_eq]
   constructor
   ·intro h; exact ⟨ha.1,ha.2,hn,by omega⟩
   ·intro h; have:=h.2.2.2; omega
  ·rw [decide_eq_false (show ¬ ((x.1.natAbs:Nat):Int)≤4611686018427387904 by omega),show (false == true)=false from rfl,cond_false]
   simp only [Zu]
   congr 1
   exact (decide_eq_false fun h=>hn h.2.2.1).symm
 ·rw [show (decide (x.2 ≥ 1) && decide (x.2≤1000000000000000))=false from by rw [Bool.eq_false_iff]; simp; omega,show (false == true)=false from rfl,cond_false]
  simp only [Zu]
  rw [show (false == true)=false from rfl,cond_false]
  simp only [Zu]
  congr 1
  exact (decide_eq_false fun h=>ha ⟨h.1,h.2.1⟩).symm
end Go.Proofs.YtcfjcimhjmpkiaaGreatDoor
end
section
namespace Go.Proofs.YtcfjcimhjmpkiaaGreatDoor
open Go Go.Proofs.YtcfjcimhjmpkiaaGreatDoor.Abs Go.Proofs.YtcfjcimhjmpkiaaGreatDoor.Tl
set_option maxRecDepth 100000
theorem SH {g:Nat}(h:g < 18446744073709551616):((wd g).1 == 0 && ((wd g).2 == 1 && true))=decide (g=1):=by
 rw [← Z9 h,Bool.eq_iff_iff]
 simp only [Bool.and_eq_true,beq_iff_eq,and_true,decide_eq_true_eq]
 exact ⟨fun h=>Int.ofNat.inj h.2,fun h=>⟨trivial,congrArg Nat.cast h⟩⟩
theorem Dc {g:Nat}:((wd g).1 == 0 && ((wd g).2 == 0 && true))=decide (g=0):=by
 rw [Bool.eq_iff_iff]
 simp only [Bool.and_eq_true,beq_iff_eq,and_true,decide_eq_true_eq]
 unfold wd; dsimp only; omega
theorem BZ {g:Nat}:((wd g).1 != 0 || decide ((wd g).2 > 4611686018427387904))=decide (4611686018427387904 < g):=by
 rw [Bool.eq_iff_iff]
 simp only [Bool.or_eq_true,bne_iff_ne,decide_eq_true_eq]
 unfold wd; dsimp only; omega
theorem SI {g:Nat}(h:g≤4611686018427387904):(wd g).2=(g:Int):=by unfold wd; dsimp only; omega
attribute [local irreducible] wd
theorem Kz {L:Nat}(hL:1000000000000000 < L){x:Zl}(h1:I64 x.1)(h2:I64 x.2):YD L (x,())=some (CQ x):=by
 rw [G8]
 by_cases ha:1≤x.2∧x.2≤1000000000000000∧x.1.natAbs≤4611686018427387904
 ·have e:(decide (x.2 < 1) || decide (x.2 > 1000000000000000) || decide (x.1 < (-4611686018427387904)) || decide (x.1 > 4611686018427387904))=false:=by
   rw [Bool.eq_false_iff]; intro hc
   simp only [Bool.or_eq_true,decide_eq_true_eq] at hc
   omega
  rw [e,cond_false]
  simp only [Y8 L h1,Y8 L h2,Zu]
  rw [Z9 (show x.1.natAbs < 18446744073709551616 by omega),Z9 (show x.2.natAbs < 18446744073709551616 by omega),UC (by omega) (by omega) (by omega) (by omega)]
  simp only [Zu]
  have hg:Nat.gcd x.1.natAbs x.2.natAbs < 18446744073709551616:=Nat.lt_of_le_of_lt (Nat.gcd_le_right _ (by omega)) (show x.2.natAbs < 18446744073709551616 by omega)
  rw [SH hg]
  congr 1
  unfold CQ
  rw [Bool.eq_iff_iff,decide_eq_true_eq,decide_eq_true_eq]
  exact ⟨fun h=>⟨ha.1,ha.2.1,ha.2.2,h⟩,fun h=>h.2.2.2⟩
 ·have e:(decide (x.2 < 1) || decide (x.2 > 1000000000000000) || decide (x.1 < (-4611686018427387904)) || decide (x.1 > 4611686018427387904))=true:=by
   simp only [Bool.or_eq_true,decide_eq_true_eq]
   omega
  rw [e,cond_true]
  congr 1
  exact (decide_eq_false fun h=>ha ⟨h.1,h.2.1,h.2.2.1⟩).symm
def CP (n:Int)(k d:Nat):Nat:=if n < 0∧n.natAbs * k % d≠0 then n.natAbs * k / d + 1 else n.natAbs * k / d
def Ym (x:Zl)(k:Int):Int×Bool×PUnit :=
 if CQ x=true∧0≤k∧k≤1000000000000∧CP x.1 k.natAbs x.2.natAbs≤4611686018427387904 then (if x.1 < 0 then -((CP x.1 k.natAbs x.2.natAbs:Nat):Int) else ((CP x.1 k.natAbs x.2.natAbs:Nat):Int),true,()) else (0,false,())
theorem UK (n:Int)(q:Nat)(b:Ze)(hb:b=wd q):(bif b.1 != 0 || decide (b.2 > 4611686018427387904) then some ((0:Int),false,PUnit.unit) else bif decide (n < 0) then some (Go.IntKind.i64.wrap (0 - Go.IntKind.i64.wrap b.2),true,PUnit.unit) else some (Go.IntKind.i64.wrap b.2,true,PUnit.unit))=some (if q≤4611686018427387904 then (if n < 0 then -(q:Int) else (q:Int),true,PUnit.unit) else (0,false,PUnit.unit)):=by
 subst hb
 rw [BZ]
 by_cases h:q≤4611686018427387904
 ·rw [decide_eq_false (by omega),cond_false,SI h,if_pos h,wrap_in (n := (q:Int)) (by omega) (by omega),wrap_in (by omega) (by omega)]
  by_cases hn:n < 0
  ·rw [decide_eq_true hn,cond_true,if_pos hn,Int.zero_sub]
  ·rw [decide_eq_false hn,cond_false,if_neg hn]
 ·rw [decide_eq_true (by omega),cond_true,if_neg h]
theorem ML {L:Nat}(hL:1000000000000000 < L){x:Zl}{k:Int}(h1:I64 x.1)(h2:I64 x.2)(h3:I64 k):W9 L (x,k,())=some (Ym x k):=by
 rw [Gz,Kz hL h1 h2]
 simp only [Zu]
 by_cases hc:CQ x=true∧0≤k∧k≤1000000000000
 ·rw [hc.1,decide_eq_false (show ¬ k < 0 by omega),decide_eq_false (show ¬ k > 1000000000000 by omega),show (!true || false || false)=false from rfl,cond_false]
  simp only [Y8 L h1,Y8 L h2,Y8 L h3,Zu]
  have hv:=of_decide_eq_true hc.1
  have hp:x.1.natAbs * k.natAbs≤4611686018427387904 * 1000000000000:=Nat.mul_le_mul hv.2.2.1 (by omega)
  rw [I8 (by omega) (by omega) (by omega)]
  simp only [Zu]
  rw [Z9 (show x.2.natAbs < 18446744073709551616 by omega),Xp (by omega) (by omega) (by omega) (by omega)]
  simp only [Zu]
  rw [Dc]
  have hq:x.1.natAbs * k.natAbs / x.2.natAbs≤4611686018427387904 * 1000000000000:=Nat.le_trans (Nat.div_le_self _ _) hp
  unfold Ym CP
  by_cases hn:x.1 < 0∧x.1.natAbs * k.natAbs % x.2.natAbs≠0
  ·rw [show (decide (x.1 < 0) && !decide (x.1.natAbs * k.natAbs % x.2.natAbs=0))=true from by simp [hn.1,hn.2],cond_true,show Ze.mk 0 1=wd 1 from Z9 (n := 1) (by omega),QQ L (by omega)]
   simp only [Zu]
   rw [UK x.1 _ _ rfl,if_pos hn]
   congr 1
   by_cases hz:x.1.natAbs * k.natAbs / x.2.natAbs + 1≤4611686018427387904
   ·rw [if_pos hz]
    exact (if_pos ⟨hc.1,hc.2.1,hc.2.2,hz⟩).symm
   ·rw [if_neg hz,if_neg fun h=>hz h.2.2.2]
  ·rw [show (decide (x.1 < 0) && !decide (x.1.natAbs * k.natAbs % x.2.natAbs=0))=false from by
    rw [Bool.eq_false_iff]; intro h
    simp only [Bool.and_eq_true,decide_eq_true_eq,Bool.not_eq_true',decide_eq_false_iff_not] at h
    exact hn ⟨h.1,h.2⟩,cond_false]
   rw [UK x.1 _ _ rfl,if_neg hn]
   congr 1
   by_cases hz:x.1.natAbs * k.natAbs / x.2.natAbs≤4611686018427387904
   ·rw [if_pos hz]
    exact (if_pos ⟨hc.1,hc.2.1,hc.2.2,hz⟩).symm
   ·rw [if_neg hz,if_neg fun h=>hz h.2.2.2]
 ·rw [show (!CQ x || decide (k < 0) || decide (k > 1000000000000))=true from by
   cases hv:CQ x with
   | false=>rfl
   | true =>
    simp only [Bool.not_true,Bool.false_or,Bool.or_eq_true,decide_eq_true_eq]
    have:¬ (0≤k∧k≤1000000000000):=fun h=>hc ⟨hv,h⟩
    omega,cond_true]
  congr 1
  unfold Ym
  rw [if_neg fun h=>hc ⟨h.1,h.2.1,h.2.2.1⟩]
end Go.Proofs.YtcfjcimhjmpkiaaGreatDoor
end
section
namespace Go.Proofs.YtcfjcimhjmpkiaaGreatDoor
open Go Go.Proofs.YtcfjcimhjmpkiaaGreatDoor.Abs Go.Proofs.YtcfjcimhjmpkiaaGreatDoor.Tl
set_option maxRecDepth 100000
theorem Ry {a b:Nat}(ha:a < 18446744073709551616)(hb:b < 18446744073709551616):J7 (a:Int) (b:Int)=some (((a * b / 18446744073709551616:Nat):Int),((a * b % 18446744073709551616:Nat):Int),()):=by
 unfold J7
 rw [if_pos ⟨⟨by omega,by omega⟩,by omega,by omega⟩,Qd,Qe,Int.natCast_mul]
 rfl
theorem Hy {a b c:Nat}(ha:a < c)(hb:b < 18446744073709551616)(hc:c < 18446744073709551616):Vz (a:Int) (b:Int) (c:Int)=some ((((a * 18446744073709551616 + b) / c:Nat):Int),(((a * 18446744073709551616 + b) % c:Nat):Int),()):=by
 unfold Vz
 rw [if_pos ⟨⟨by omega,by omega⟩,⟨by omega,by omega⟩,⟨by omega,by omega⟩,by omega⟩,Qd,Qe,Int.natCast_add,Int.natCast_mul]
 rfl
theorem Ph (L:Nat){p d:Nat}(hp:p < 340282366920938463463374607431768211456)(hd:d < 18446744073709551616):ZE L (⟨((p / 18446744073709551616:Nat):Int),((p % 18446744073709551616:Nat):Int)⟩,(d:Int),())=some (if p / 18446744073709551616 < d then (((p / d:Nat):Int),true,()) else (0,false,())):=by
 rw [Xt]
 dsimp only
 by_cases h:p / 18446744073709551616 < d
 ·rw [decide_eq_false (by omega),cond_false,Hy h (Nat.mod_lt _ (by omega)) hd,if_pos h,Nat.div_add_mod']
  simp only [Zu]
 ·rw [decide_eq_true (by omega),cond_true,if_neg h]
theorem NP (L:Nat){p d:Nat}(hp:p < 340282366920938463463374607431768211456)(h0:0 < d)(hd:d < 18446744073709551616):ZO L (⟨((p / 18446744073709551616:Nat):Int),((p % 18446744073709551616:Nat):Int)⟩,(d:Int),())=some ((p % d:Nat):Int):=by
 rw [X9,if_neg (by omega)]
 dsimp only
 rw [show Int.tmod ((p / 18446744073709551616:Nat):Int) (d:Int)=((p / 18446744073709551616 % d:Nat):Int) from rfl,Hy (Nat.mod_lt _ h0) (Nat.mod_lt _ (by omega)) hd]
 simp only [Zu]
 congr 2
 have e:p=p / 18446744073709551616 * 18446744073709551616 + p % 18446744073709551616:=(Nat.div_add_mod' _ _).symm
 conv=>rhs; rw [e]
 rw [Nat.add_mod,Nat.mul_mod,Nat.mod_mod,← Nat.mul_mod,← Nat.add_mod]
theorem OU (L:Nat){a b:Nat}(ha:a < 18446744073709551616)(hb:b < 18446744073709551616):YO L ((a:Int),(b:Int),())=some ⟨((a * b / 18446744073709551616:Nat):Int),((a * b % 18446744073709551616:Nat):Int)⟩:=by
 rw [Kr,Ry ha hb]
 simp only [Zu]
theorem IL (n:Int)(q:Nat)(hq:q≤4611686018427387905):(bif decide ((q:Int) > 4611686018427387904) then some ((0:Int),false,PUnit.unit) else bif decide (n < 0) then some (Go.IntKind.i64.wrap (0 - Go.IntKind.i64.wrap (q:Int)),true,PUnit.unit) else some (Go.IntKind.i64.wrap (q:Int),true,PUnit.unit))=some (if q≤4611686018427387904 then (if n < 0 then -(q:Int) else (q:Int),true,PUnit.unit) else (0,false,PUnit.unit)):=by
 by_cases h:q≤4611686018427387904
 ·rw [decide_eq_false (by omega),cond_false,if_pos h,wrap_in (n := (q:Int)) (by omega) (by omega),wrap_in (by omega) (by omega)]
  by_cases hn:n < 0
  ·rw [decide_eq_true hn,cond_true,if_pos hn,Int.zero_sub]
  ·rw [decide_eq_false hn,cond_false,if_neg hn]
 ·rw [decide_eq_true (by omega),cond_true,if_neg h]
theorem OI (n:Int)(q:Nat)(h:q≤4611686018427387904):(bif decide (n < 0) then some (Go.IntKind.i64.wrap (0 - Go.IntKind.i64.wrap (q:Int)),true,PUnit.unit) else some (Go.IntKind.i64.wrap (q:Int),true,PUnit.unit))=some (if n < 0 then -(q:Int) else (q:Int),true,PUnit.unit):=by
 rw [wrap_in (n := (q:Int)) (by omega) (by omega),wrap_in (by omega) (by omega)]
 by_cases hn:n < 0
 ·rw [decide_eq_true hn,cond_true,if_pos hn,Int.zero_sub]
 ·rw [decide_eq_false hn,cond_false,if_neg hn]
theorem PT (q:Nat)(h:q≤4611686018427387904):Go.IntKind.u64.wrap ((q:Int) + 1)=((q + 1:Nat):Int):=by rw [Vj]; omega
theorem OH {L:Nat}(hL:1000000000000000 < L){x:Zl}{k:Int}(h1:I64 x.1)(h2:I64 x.2)(h3:I64 k):YM L (x,k,())=some (Ym x k):=by
 rw [Ko,OV hL h1 h2]
 simp only [Zu]
 by_cases hc:CQ x=true∧0≤k∧k≤1000000000000
 ·rw [hc.1,decide_eq_false (show ¬ k < 0 by omega),decide_eq_false (show ¬ k > 1000000000000 by omega),show (!true || false || false)=false from rfl,cond_false]
  have hv:=of_decide_eq_true hc.1
  simp only [H8 L h1,Zu]
  have hp:x.1.natAbs * k.natAbs≤4611686018427387904 * 1000000000000:=Nat.mul_le_mul hv.2.2.1 (by omega)
  rw [Vj k,Vj x.2,show k % 18446744073709551616=((k.natAbs:Nat):Int) by omega,show x.2 % 18446744073709551616=((x.2.natAbs:Nat):Int) by omega,OU L (by omega) (by omega)]
  simp only [Zu]
  rw [Ph L (by omega) (by omega)]
  simp only [Zu]
  rw [NP L (by omega) (by omega) (by omega)]
  generalize hP:x.1.natAbs * k.natAbs=p at *
  generalize hD:x.2.natAbs=d at *
  have hd0:0 < d:=by omega
  unfold Ym CP
  rw [hP,hD]
  by_cases ho:p / 18446744073709551616 < d
  ·rw [if_pos ho]
   dsimp only
   by_cases hb:p / d≤4611686018427387904
   ·rw [Bool.not_true,decide_eq_false (show ¬ ((p / d:Nat):Int) > 4611686018427387904 by omega),show (false || false)=false from rfl,cond_false]
    by_cases hn:x.1 < 0∧p % d≠0
    ·have e0:decide (((p % d:Nat):Int) > 0)=true:=decide_eq_true (by have:=hn.2; omega)
     have e1:Go.IntKind.u64.wrap (((p / d:Nat):Int) + 1)=((p / d + 1:Nat):Int):=PT _ hb
     rw [decide_eq_true hn.1,show (true == true)=true from rfl,cond_true]
     simp only [Zu]
     rw [e0]
     rw [cond_true,e1]
     have:=IL x.1 (p / d + 1) (by omega)
     rw [decide_eq_true hn.1] at this
     rw [this,if_pos hn]
     congr 1
     by_cases hz:p / d + 1≤4611686018427387904
     ·rw [if_pos hz]; exact (if_pos ⟨hc.1,hc.2.1,hc.2.2,hz⟩).symm
     ·rw [if_neg hz,if_neg fun h=>hz h.2.2.2]
    ·have e0:(bT (bif decide (x.1 < 0) == true then bT (some ((p % d:Nat):Int)) fun y=>some (decide (y > 0)) else some false) fun y=>some y)=some false:=by
      by_cases h:x.1 < 0
      ·rw [decide_eq_true h,show (true == true)=true from rfl,cond_true]
       simp only [Zu]
       rw [decide_eq_false]
       intro hm; exact hn ⟨h,by omega⟩
      ·rw [decide_eq_false h,show (false == true)=false from rfl,cond_false]
       simp only [Zu]
     have e1:(bif decide (x.1 < 0) == true then bT (some ((p % d:Nat):Int)) fun y=>some (decide (y > 0)) else some false)=some false:=by
      rcases hx:(bif decide (x.1 < 0) == true then bT (some ((p % d:Nat):Int)) fun y=>some (decide (y > 0)) else some false) with _ | v
      ·rw [hx] at e0; cases e0
      ·rw [hx] at e0; exact e0
     rw [e1]
     simp only [Zu,cond_false]
     rw [OI x.1 (p / d) hb,if_neg hn]
     congr 1
     exact (if_pos ⟨hc.1,hc.2.1,hc.2.2,hb⟩).symm
   ·rw [Bool.not_true,decide_eq_true (show ((p / d:Nat):Int) > 4611686018427387904 by omega),show (false || true)=true from rfl,cond_true]
    congr 1
    refine (if_neg fun h=>hb ?_).symm
    have:=h.2.2.2
    split at this <;> omega
  ·rw [if_neg ho]
   dsimp only
   rw [Bool.not_false,Bool.true_or,cond_true]
   congr 1
   refine (if_neg fun h=>ho ?_).symm
   have h4:=h.2.2.2
   have h5:p / d≤4611686018427387904:=by split at h4 <;> omega
   have h6:p < (4611686018427387904 + 1) * d:=(Nat.div_lt_iff_lt_mul hd0).1 (by omega)
   omega
 ·rw [show (!CQ x || decide (k < 0) || decide (k > 1000000000000))=true from by
   cases hv:CQ x with
   | false=>rfl
   | true =>
    simp only [Bool.not_true,Bool.false_or,Bool.or_eq_true,decide_eq_true_eq]
    have:¬ (0≤k∧k≤1000000000000):=fun h=>hc ⟨hv,h⟩
    omega,cond_true]
  congr 1
  unfold Ym
  rw [if_neg fun h=>hc ⟨h.1,h.2.1,h.2.2.1⟩]
end Go.Proofs.YtcfjcimhjmpkiaaGreatDoor
end
section
namespace Go.Proofs.YtcfjcimhjmpkiaaGreatDoor
open Go Go.Proofs.YtcfjcimhjmpkiaaGreatDoor.Abs Go.Proofs.YtcfjcimhjmpkiaaGreatDoor.Tl
set_option maxRecDepth 100000
theorem Ve {j:Nat}(h:j≤6):10 ^ j≤1000000:=Nat.pow_le_pow_right (n := 10) (by omega) h
theorem Gv {e j:Nat}(he:e≤6)(hj:j < e)(self:Int×Int×PUnit→Option Int):Yy (e:Int) self (((10 ^ j:Nat):Int),(j:Int),())=self (((10 ^ (j + 1):Nat):Int),((j + 1:Nat):Int),()):=by
 have hp:=Ve (show j≤6 by omega)
 unfold Yy
 dsimp only
 rw [Nat.pow_succ]
 generalize 10 ^ j=t at *
 rw [decide_eq_true (show (j:Int) < e by omega),cond_true,wrap_in (n := (j:Int) + 1) (by omega) (by omega),wrap_in (by omega) (by omega),show 10 * (t:Int)=((t * 10:Nat):Int) by omega]
 rfl
theorem J9 {e:Nat}(he:e≤6):∀ (n j m:Nat),j + n=e→Zx (Yy (e:Int)) (m + n + 1) (((10 ^ j:Nat):Int),(j:Int),())=some ((10 ^ e:Nat):Int)
 | 0,j,m,h=>by
  rw [show m + 0 + 1=m + 1 from rfl,Zx]
  unfold Yy
  dsimp only
  rw [decide_eq_false (show ¬ (j:Int) < e by omega),cond_false,show j=e by omega]
 | n + 1,j,m,h=>by
  rw [show m + (n + 1) + 1=(m + n + 1) + 1 from rfl,Zx,Gv he (by omega)]
  exact J9 he n (j + 1) m (by omega)
theorem Ij {L e:Nat}(hL:8≤L)(he:e≤6):Yb L ((e:Int),())=some ((10 ^ e:Nat):Int):=by
 rw [GG]
 have:=J9 he e 0 (L - e - 1) (by omega)
 rw [show L - e - 1 + e + 1=L by omega] at this
 exact this
noncomputable def Uw (L:Nat)(x:Zl)(e:Nat):Option (List UInt8×Bool×PUnit):=Zk x (e:Int) L (fun _=>none) (((10 ^ e:Nat):Int),(e:Int),())
theorem MC (L:Nat)(x:Zl){e j:Nat}(he:e≤6)(hj:j < e)(self:Int×Int×PUnit→Option (List UInt8×Bool×PUnit)):Zk x (e:Int) L self (((10 ^ j:Nat):Int),(j:Int),())=self (((10 ^ (j + 1):Nat):Int),((j + 1:Nat):Int),()):=by
 have hp:=Ve (show j≤6 by omega)
 unfold Zk
 dsimp only
 rw [Nat.pow_succ]
 generalize 10 ^ j=t at *
 rw [decide_eq_true (show (j:Int) < e by omega),cond_true,wrap_in (n := (j:Int) + 1) (by omega) (by omega),wrap_in (by omega) (by omega),show (t:Int) * 10=((t * 10:Nat):Int) by omega]
 rfl
theorem RP (L:Nat)(x:Zl)(e:Nat)(t:Int)(self:Int×Int×PUnit→Option (List UInt8×Bool×PUnit)):Zk x (e:Int) L self (t,(e:Int),())=Zk x (e:Int) L (fun _=>none) (t,(e:Int),()):=by
 unfold Zk
 dsimp only
 rw [decide_eq_false (show ¬ (e:Int) < e by omega),cond_false,cond_false]
theorem Iq (L:Nat)(x:Zl){e:Nat}(he:e≤6):∀ (n j m:Nat),j + n=e→Zx (Zk x (e:Int) L) (m + n + 1) (((10 ^ j:Nat):Int),(j:Int),())=Uw L x e
 | 0,j,m,h=>by
  rw [show m + 0 + 1=m + 1 from rfl,Zx,show j=e by omega,RP]; rfl
 | n + 1,j,m,h=>by
  rw [show m + (n + 1) + 1=(m + n + 1) + 1 from rfl,Zx,MC L x he (by omega)]
  exact Iq L x he n (j + 1) m (by omega)
theorem BK {L e:Nat}(hL:8≤L)(x:Zl)(he:e≤6):ZA L (x,(e:Int),())=Uw L x e:=by
 rw [Y0]
 have e1:(decide ((e:Int) < 0) || decide ((e:Int) > 6))=false:=by
  rw [decide_eq_false (by omega),decide_eq_false (by omega)]; rfl
 rw [e1,cond_false]
 have:=Iq L x he e 0 (L - e - 1) (by omega)
 rw [show L - e - 1 + e + 1=L by omega] at this
 exact this
end Go.Proofs.YtcfjcimhjmpkiaaGreatDoor
end
section
namespace Go.Proofs.YtcfjcimhjmpkiaaGreatDoor
open Go Go.Proofs.YtcfjcimhjmpkiaaGreatDoor.Abs Go.Proofs.YtcfjcimhjmpkiaaGreatDoor.Tl
set_option maxRecDepth 100000
theorem XP {a b:List UInt8}(h:a.length + b.length≤4611686018427387904):X4 a b=some (a ++ b):=by unfold X4; rw [if_pos h]
theorem TN {e:Nat}{s r:List UInt8}(he:e≤6)(hr:r.length < e)(self:List UInt8×PUnit→Option (List UInt8×Bool×PUnit)):Zt (e:Int) s self (r,())=self (48 :: r,()):=by
 unfold Zt
 dsimp only
 rw [decide_eq_true (show (r.length:Int) < e by omega),cond_true,XP (by simp; omega),Zu]
 rfl
theorem RG {e:Nat}{s r:List UInt8}(he:e≤6)(hs:s.length≤1000)(hr:r.length=e)(self:List UInt8×PUnit→Option (List UInt8×Bool×PUnit)):Zt (e:Int) s self (r,())=some (s ++ [46] ++ r,true,()):=by
 unfold Zt
 dsimp only
 rw [decide_eq_false (show ¬ (r.length:Int) < e by omega),cond_false,XP (by simp; omega),Zu,XP (by simp; omega),Zu]
theorem Ih {e:Nat}{s:List UInt8}(he:e≤6)(hs:s.length≤1000):∀ (n m:Nat) (r:List UInt8),r.length + n=e→Zx (Zt (e:Int) s) (m + n + 1) (r,())=some (s ++ [46] ++ (List.replicate n 48 ++ r),true,())
 | 0,m,r,h=>by
  rw [show m + 0 + 1=m + 1 from rfl,Zx,RG he hs (by omega)]; rfl
 | n + 1,m,r,h=>by
  rw [show m + (n + 1) + 1=(m + n + 1) + 1 from rfl,Zx,TN he (by omega),Ih he hs n m (48 :: r) (by simp; omega),List.replicate_succ']
  simp only [List.append_assoc,List.singleton_append]
end Go.Proofs.YtcfjcimhjmpkiaaGreatDoor
end
section
namespace Go.Proofs.YtcfjcimhjmpkiaaGreatDoor
open Go Go.Proofs.YtcfjcimhjmpkiaaGreatDoor.Abs Go.Proofs.YtcfjcimhjmpkiaaGreatDoor.Tl
set_option maxRecDepth 100000
theorem DY:∀ (e:Nat) {u:Nat},1≤e→u < 10 ^ e→Lib.nDigits u≤e
 | 0,u,he,_=>absurd he (by omega)
 | e + 1,u,_,h=>by
  by_cases hu:u < 10
  ·rw [Lib.nDigits_small hu]; omega
  ·have h1:1≤e:=by
    rcases e with _ | e
    ·simp at h; omega
    ·omega
   rw [Lib.nDigits_big (by omega)]
   have:=DY e (u := u / 10) h1 (by rw [Nat.pow_succ] at h; omega)
   omega
theorem Vg {u e:Nat}(he:1≤e)(he6:e≤6)(h:u < 10 ^ e):(Lib.itoa (u:Int)).length≤e:=by
 rw [Lib.itoa_nonneg,Lib.decDigits_length]
 exact DY e he h
end Go.Proofs.YtcfjcimhjmpkiaaGreatDoor
end
section
namespace Go.Proofs.YtcfjcimhjmpkiaaGreatDoor
open Go Go.Proofs.YtcfjcimhjmpkiaaGreatDoor.Abs Go.Proofs.YtcfjcimhjmpkiaaGreatDoor.Tl
set_option maxRecDepth 100000
theorem JD (c:UInt8):∀ n,Lib.repeatL [c] n=List.replicate n c
 | 0=>rfl
 | n + 1=>by
  have:=JD c n
  simp only [Lib.repeatL] at this ⊢
  simp [List.replicate_succ,this]
theorem MF {e m:Nat}(he:e≤6)(hm:m≤e):Px [48] (Go.IntKind.i64.wrap ((e:Int) - (m:Int)))=some (List.replicate (e - m) 48):=by
 rw [wrap_in (by omega) (by omega)]
 unfold Px
 rw [if_pos ⟨by omega,by omega,by simp; omega⟩,JD,show ((e:Int) - (m:Int)).toNat=e - m by omega]
theorem IZ {e:Nat}{s r:List UInt8}(he:e≤6)(hs:s.length≤1000)(hr:r.length≤e):(bT (X4 s [46]) fun y_3=>bT (Px [48] (Go.IntKind.i64.wrap ((e:Int) - (↑r.length:Int)))) fun y_4=>bT (X4 y_3 y_4) fun y_5=>bT (X4 y_5 r) fun y=>some (y,true,()))=some (s ++ [46] ++ (List.replicate (e - r.length) 48 ++ r),true,()):=by
 rw [XP (by simp; omega),Zu,MF he hr,Zu,XP (by simp; omega),Zu,XP (by simp; omega),Zu]
 simp only [List.append_assoc]
theorem IY {L e:Nat}{s r:List UInt8}(hL:8≤L)(he:e≤6)(hs:s.length≤1000)(hr:r.length≤e):Zx (Zt (e:Int) s) L (r,())=some (s ++ [46] ++ (List.replicate (e - r.length) 48 ++ r),true,()):=by
 have:=Ih he hs (e - r.length) (L - (e - r.length) - 1) r (by omega)
 rw [show L - (e - r.length) - 1 + (e - r.length) + 1=L by omega] at this
 exact this
end Go.Proofs.YtcfjcimhjmpkiaaGreatDoor
end
section
namespace Go.Proofs.YtcfjcimhjmpkiaaGreatDoor
open Go Go.Proofs.YtcfjcimhjmpkiaaGreatDoor.Abs Go.Proofs.YtcfjcimhjmpkiaaGreatDoor.Tl
set_option maxRecDepth 100000
theorem Ua {n:Nat}(h:n≤9223372036854775807):WW (n:Int)=some (Lib.itoa (n:Int)):=by unfold WW; rw [if_pos (by omega)]
def Lp (s0:List UInt8)(m e:Nat):List UInt8 :=
 if e=0 then s0 ++ Lib.itoa ((m / 10 ^ e:Nat):Int) else s0 ++ Lib.itoa ((m / 10 ^ e:Nat):Int) ++ [46] ++ (List.replicate (e - (Lib.itoa ((m % 10 ^ e:Nat):Int)).length) 48 ++ Lib.itoa ((m % 10 ^ e:Nat):Int))
theorem H9 (m t:Nat):(m:Int).tdiv (t:Int)=((m / t:Nat):Int):=rfl
theorem HY (m t:Nat):(m:Int).tmod (t:Int)=((m % t:Nat):Int):=rfl
theorem Ip {s0:List UInt8}{m e:Nat}(he:e≤6)(hs:s0.length≤1)(hm:m≤4611686018427387904) :
  (if ((10 ^ e:Nat):Int)=0 then none else bT (WW (Go.IntKind.i64.wrap ((m:Int).tdiv ((10 ^ e:Nat):Int)))) fun y_1=>bT (X4 s0 y_1) fun y_2=>bif (e:Int) == 0 then some (y_2,true,()) else if ((10 ^ e:Nat):Int)=0 then none else bT (WW ((m:Int).tmod ((10 ^ e:Nat):Int))) fun y=>bT (X4 y_2 [46]) fun y_3=>bT (Px [48] (Go.IntKind.i64.wrap ((e:Int) - (↑y.length:Int)))) fun y_4=>bT (X4 y_3 y_4) fun y_5=>bT (X4 y_5 y) fun y=>some (y,true,()))=some (Lp s0 m e,true,()):=by
 have hp:0 < 10 ^ e:=Nat.pow_pos (by omega)
 have hq:m / 10 ^ e≤m:=Nat.div_le_self _ _
 have hr:m % 10 ^ e < 10 ^ e:=Nat.mod_lt _ hp
 have hr2:m % 10 ^ e≤m:=Nat.mod_le _ _
 have hl:=fun (h1:1≤e)=>Vg h1 he hr
 rw [H9,HY]
 unfold Lp
 generalize m / 10 ^ e=q at *
 generalize m % 10 ^ e=r at *
 generalize 10 ^ e=t at *
 have l1:=Lib.itoa_length_le (q:Int) (by omega) (by omega)
 have hc:s0.length + (Lib.itoa (q:Int)).length≤4611686018427387904:=by omega
 have hc2:(s0 ++ Lib.itoa (q:Int)).length≤1000:=by rw [List.length_append]; omega
 rw [if_neg (by omega),wrap_in (n := (q:Int)) (by omega) (by omega),Ua (by omega),Zu,XP hc,Zu,Ua (n := r) (by omega)]
 by_cases h0:e=0
 ·rw [if_pos h0,show ((e:Int) == 0)=true from by rw [beq_iff_eq]; omega,cond_true]
 ·rw [if_neg h0,show ((e:Int) == 0)=false from by rw [beq_eq_false_iff_ne]; omega,cond_false,if_neg (by omega),Zu]
  exact IZ he hc2 (hl (by omega))
end Go.Proofs.YtcfjcimhjmpkiaaGreatDoor
end
section
namespace Go.Proofs.YtcfjcimhjmpkiaaGreatDoor
open Go Go.Proofs.YtcfjcimhjmpkiaaGreatDoor.Abs Go.Proofs.YtcfjcimhjmpkiaaGreatDoor.Tl
set_option maxRecDepth 100000
theorem Io {L:Nat}(hL:8≤L){s0:List UInt8}{m e:Nat}(he:e≤6)(hs:s0.length≤1)(hm:m≤4611686018427387904) :
  (if ((10 ^ e:Nat):Int)=0 then none else bT (WW (Go.IntKind.i64.wrap ((m:Int).tdiv ((10 ^ e:Nat):Int)))) fun y_2=>bT (X4 s0 y_2) fun y_3=>bif (e:Int) == 0 then some (y_3,true,()) else if ((10 ^ e:Nat):Int)=0 then none else bT (WW ((m:Int).tmod ((10 ^ e:Nat):Int))) fun y=>Zx (Zt (e:Int) y_3) L (y,()))=some (Lp s0 m e,true,()):=by
 have hp:0 < 10 ^ e:=Nat.pow_pos (by omega)
 have hq:m / 10 ^ e≤m:=Nat.div_le_self _ _
 have hr:m % 10 ^ e < 10 ^ e:=Nat.mod_lt _ hp
 have hr2:m % 10 ^ e≤m:=Nat.mod_le _ _
 have hl:=fun (h1:1≤e)=>Vg h1 he hr
 rw [H9,HY]
 unfold Lp
 generalize m / 10 ^ e=q at *
 generalize m % 10 ^ e=r at *
 generalize 10 ^ e=t at *
 have l1:=Lib.itoa_length_le (q:Int) (by omega) (by omega)
 have hc:s0.length + (Lib.itoa (q:Int)).length≤4611686018427387904:=by omega
 have hc2:(s0 ++ Lib.itoa (q:Int)).length≤1000:=by rw [List.length_append]; omega
 rw [if_neg (by omega),wrap_in (n := (q:Int)) (by omega) (by omega),Ua (by omega),Zu,XP hc,Zu,Ua (n := r) (by omega)]
 by_cases h0:e=0
 ·rw [if_pos h0,show ((e:Int) == 0)=true from by rw [beq_iff_eq]; omega,cond_true]
 ·rw [if_neg h0,show ((e:Int) == 0)=false from by rw [beq_eq_false_iff_ne]; omega,cond_false,if_neg (by omega),Zu]
  exact IY hL he hc2 (hl (by omega))
theorem V6 (x:Zl)(k:Int):-4611686018427387904≤(Ym x k).1∧(Ym x k).1≤4611686018427387904:=by
 unfold Ym
 split
 ·rename_i h
  have:=h.2.2.2
  dsimp only
  split <;> omega
 ·dsimp only; omega
def N7 (x:Zl)(e:Nat):List UInt8×Bool×PUnit :=
 if (Ym x ((10 ^ e:Nat):Int)).2.1=true then (Lp (if (Ym x ((10 ^ e:Nat):Int)).1 < 0 then [45] else []) (Ym x ((10 ^ e:Nat):Int)).1.natAbs e,true,()) else ([],false,())
theorem TQ {e:Nat}(he:e≤6):I64 ((10 ^ e:Nat):Int):=by
 have hp:=Ve he
 generalize 10 ^ e=t at *
 exact ⟨by omega,by omega⟩
theorem MB {L:Nat}(hL:1000000000000000 < L){x:Zl}{e:Nat}(h1:I64 x.1)(h2:I64 x.2)(he:e≤6):Uw L x e=some (N7 x e):=by
 have hk:=TQ he
 unfold Uw Zk
 dsimp only
 rw [decide_eq_false (show ¬ (e:Int) < e by omega),cond_false,OH hL h1 h2 hk,Zu]
 unfold N7
 have hb:=V6 x ((10 ^ e:Nat):Int)
 generalize Ym x ((10 ^ e:Nat):Int)=v at *
 obtain ⟨n,b,u⟩:=v
 dsimp only at hb ⊢
 cases b with
 | false=>rw [Bool.not_false,cond_true,if_neg (by decide)]
 | true =>
  rw [Bool.not_true,cond_false,if_pos rfl]
  by_cases hn:n < 0
  ·rw [decide_eq_true hn,cond_true,if_pos hn,wrap_in (n := 0 - n) (by omega) (by omega),show 0 - n=((n.natAbs:Nat):Int) by omega]
   exact Ip he (by simp) (by omega)
  ·rw [decide_eq_false hn,cond_false,if_neg hn]
   have e1:n=((n.natAbs:Nat):Int):=by omega
   generalize n.natAbs=m at *
   subst e1
   exact Ip he (by simp) (by omega)
end Go.Proofs.YtcfjcimhjmpkiaaGreatDoor
end
section
namespace Go.Proofs.YtcfjcimhjmpkiaaGreatDoor
open Go Go.Proofs.YtcfjcimhjmpkiaaGreatDoor.Abs Go.Proofs.YtcfjcimhjmpkiaaGreatDoor.Tl
set_option maxRecDepth 100000
theorem EE:QI=Zt:=rfl
theorem Pv {L:Nat}(hL:1000000000000000 < L){x:Zl}{e:Nat}(h1:I64 x.1)(h2:I64 x.2)(he:e≤6):Y9 L (x,(e:Int),())=some (N7 x e):=by
 have hk:=TQ he
 have e1:(decide ((e:Int) < 0) || decide ((e:Int) > 6))=false:=by
  rw [decide_eq_false (by omega),decide_eq_false (by omega)]; rfl
 rw [Xu,EE,e1,cond_false,Ij (by omega) he,Zu,ML hL h1 h2 hk,Zu]
 unfold N7
 have hb:=V6 x ((10 ^ e:Nat):Int)
 generalize Ym x ((10 ^ e:Nat):Int)=v at *
 obtain ⟨n,b,u⟩:=v
 dsimp only at hb ⊢
 cases b with
 | false=>rw [Bool.not_false,cond_true,if_neg (by decide)]
 | true =>
  rw [Bool.not_true,cond_false,if_pos rfl]
  by_cases hn:n < 0
  ·rw [decide_eq_true hn,cond_true,if_pos hn,wrap_in (n := 0 - n) (by omega) (by omega),show 0 - n=((n.natAbs:Nat):Int) by omega]
   exact Io (by omega) he (by simp) (by omega)
  ·rw [decide_eq_false hn,cond_false,if_neg hn]
   have e1:n=((n.natAbs:Nat):Int):=by omega
   generalize n.natAbs=m at *
   subst e1
   exact Io (by omega) he (by simp) (by omega)
theorem JW {L:Nat}(hL:1000000000000000 < L){x:Zl}{d:Int}(h1:I64 x.1)(h2:I64 x.2):ZC L (x,d,())=some true:=by
 rw [WH]
 by_cases hd:0≤d∧d≤6
 ·obtain ⟨e,rfl⟩:∃ e:Nat,d=e:=⟨d.toNat,by omega⟩
  rw [BK (by omega) x (by omega),MB hL h1 h2 (by omega),Zu,Pv hL h1 h2 (by omega),Zu]
  congr 1
  simp
 ·have e1:(decide (d < 0) || decide (d > 6))=true:=by
   simp only [Bool.or_eq_true,decide_eq_true_eq]; omega
  rw [Y0,Xu,e1,cond_true,cond_true,Zu,Zu]
  rfl
end Go.Proofs.YtcfjcimhjmpkiaaGreatDoor
end
section
namespace Go.Proofs.YtcfjcimhjmpkiaaGreatDoor
open Go Go.Proofs.YtcfjcimhjmpkiaaGreatDoor.Abs Go.Proofs.YtcfjcimhjmpkiaaGreatDoor.Tl
set_option maxRecDepth 100000
def Rl (c:UInt8):Prop:=48≤c.toNat∧c.toNat≤57
def Cj:Nat→List UInt8→Nat
 | n,[]=>n
 | n,c :: l=>Cj (10 * n + (c.toNat - 48)) l
theorem JC:∀ (a b:List UInt8) (n:Nat),Cj n (a ++ b)=Cj (Cj n a) b
 | [],_,_=>rfl
 | c :: a,b,n=>by
  have h:=JC a b (10 * n + (c.toNat - 48))
  exact h
theorem BJ:∀ (l:List UInt8) (n:Nat),n≤Cj n l
 | [],n=>Nat.le_refl n
 | c :: l,n=>Nat.le_trans (show n≤10 * n + (c.toNat - 48) by omega) (BJ l (10 * n + (c.toNat - 48)))
theorem JX {k:Nat}(h:k < 10):(UInt8.ofNat (48 + k)).toNat=48 + k:=by
 rw [UInt8.toNat_ofNat']; omega
theorem KZ (u:Nat):∀ c ∈ Lib.decDigits u,Rl c:=by
 induction u using Nat.strongRecOn with
 | _ u ih =>
  intro c hc
  rw [Lib.decDigits] at hc
  split at hc
  ·rename_i h
   rw [List.mem_singleton] at hc
   subst hc
   unfold Rl; rw [JX h]; omega
  ·rename_i h
   rcases List.mem_append.1 hc with hc | hc
   ·exact ih (u / 10) (by omega) c hc
   ·rw [List.mem_singleton] at hc
    subst hc
    unfold Rl; rw [JX (Nat.mod_lt _ (by omega))]; omega
theorem Md (n:Nat)(c:UInt8):Cj n [c]=10 * n + (c.toNat - 48):=rfl
theorem Me {u:Nat}(h:u < 10)(n:Nat):Cj n (Lib.decDigits u)=n * 10 ^ Lib.nDigits u + u:=by
 have e:10 * n + (48 + u - 48)=n * 10 + u:=by omega
 rw [Lib.decDigits_one h,Lib.nDigits_small h,Md,JX h,Nat.pow_one,e]
theorem Pq {u:Nat}(h:¬ u < 10)(ih:∀ n,Cj n (Lib.decDigits (u / 10))=n * 10 ^ Lib.nDigits (u / 10) + u / 10)(n:Nat):Cj n (Lib.decDigits u)=n * 10 ^ Lib.nDigits u + u:=by
 have e1:Lib.decDigits u=Lib.decDigits (u / 10) ++ [UInt8.ofNat (48 + u % 10)]:=by
  conv=>lhs; rw [Lib.decDigits,dif_neg h]
 rw [e1,JC,ih,Md,Lib.nDigits_big h,Nat.pow_succ,JX (show u % 10 < 10 from Nat.mod_lt _ (by omega))]
 generalize 10 ^ Lib.nDigits (u / 10)=t
 have e2:n * (t * 10)=10 * (n * t):=by rw [← Nat.mul_assoc,Nat.mul_comm]
 rw [e2]
 generalize n * t=z
 omega
theorem Mc (u:Nat):∀ n,Cj n (Lib.decDigits u)=n * 10 ^ Lib.nDigits u + u:=by
 induction u using Nat.strongRecOn with
 | _ u ih =>
  rcases Nat.lt_or_ge u 10 with h | h
  ·exact Me h
  ·exact Pq (by omega) (ih (u / 10) (by omega))
theorem Kw:∀ (j:Nat) (l:List UInt8) (n:Nat),Cj n (List.replicate j 48 ++ l)=Cj (n * 10 ^ j) l
 | 0,l,n=>by simp
 | j + 1,l,n=>by
  have h:=Kw j l (10 * n)
  rw [List.replicate_succ,List.cons_append]
  have e:Cj n (48 :: (List.replicate j 48 ++ l))=Cj (10 * n) (List.replicate j 48 ++ l):=rfl
  rw [e,h,Nat.pow_succ]
  congr 1
  rw [Nat.mul_comm 10 n,Nat.mul_assoc,Nat.mul_comm 10]
theorem Lm {j:Nat}{l:List UInt8}(h:∀ c ∈ l,Rl c):∀ c ∈ List.replicate j 48 ++ l,Rl c:=fun c hc=>by
 rcases List.mem_append.1 hc with hc | hc
 ·rw [List.eq_of_mem_replicate hc]; exact ⟨by decide,by decide⟩
 ·exact h c hc
def restS (r e:Nat):List UInt8:=List.replicate (e - (Lib.itoa (r:Int)).length) 48 ++ Lib.itoa (r:Int)
theorem Ky {r e:Nat}(h1:1≤e)(he:e≤6)(h:r < 10 ^ e):(restS r e).length=e:=by
 have:=Vg h1 he h
 unfold restS; rw [List.length_append,List.length_replicate]; omega
theorem MJ {r e q:Nat}(h1:1≤e)(he:e≤6)(h:r < 10 ^ e):Cj q (restS r e)=q * 10 ^ e + r:=by
 have hl:=Vg h1 he h
 unfold restS
 rw [Kw,Lib.itoa_nonneg,Mc]
 rw [Lib.itoa_nonneg,Lib.decDigits_length] at hl
 rw [Lib.decDigits_length,Nat.mul_assoc,← Nat.pow_add,Nat.sub_add_cancel hl]
theorem MI (r e:Nat):∀ c ∈ restS r e,Rl c:=by
 unfold restS
 rw [Lib.itoa_nonneg]
 exact Lm (KZ r)
theorem OA (s0:List UInt8)(m e:Nat):Lp s0 m e=s0 ++ (Lib.decDigits (m / 10 ^ e) ++ if e=0 then [] else 46 :: restS (m % 10 ^ e) e):=by
 unfold Lp restS
 rw [Lib.itoa_nonneg]
 by_cases h:e=0
 ·rw [if_pos h,if_pos h,List.append_nil]
 ·rw [if_neg h,if_neg h]
  simp only [List.append_assoc,List.cons_append,List.nil_append]
end Go.Proofs.YtcfjcimhjmpkiaaGreatDoor
end
section
namespace Go.Proofs.YtcfjcimhjmpkiaaGreatDoor
open Go Go.Proofs.YtcfjcimhjmpkiaaGreatDoor.Abs Go.Proofs.YtcfjcimhjmpkiaaGreatDoor.Tl
set_option maxRecDepth 100000
def AO (a:Int)(k:Nat):Int:=if 0≤a then a + k else a
theorem Ej (a:Int):AO a 0=a:=by unfold AO; split <;> omega
theorem Em (a:Int)(k:Nat):AO (AO a 1) k=AO a (k + 1):=by
 unfold AO
 by_cases h:0≤a
 ·rw [if_pos h,if_pos (by omega)]; omega
 ·rw [if_neg h,if_neg h,if_neg h]
theorem Sl {x:Zl}{d:Int}{L:Nat}{t:List UInt8}(b:Bool×PUnit){c:UInt8}{i n s:Nat}{a:Int}(hx:t[i]? = some c)(hc:Rl c)(hs:s < 19)(hn:10 * n + (c.toNat - 48)≤9223372036854775807)(hi:i < 100)(ha:-1≤a∧a≤100)(self:Int×Int×Int×Int×PUnit→Option Bool) :
  Zf x d L (t,b) self (a,(n:Int),(s:Int),(i:Int),())=self (AO a 1,((10 * n + (c.toNat - 48):Nat):Int),((s + 1:Nat):Int),((i + 1:Nat):Int),()):=by
 have hl:i < t.length:=(List.getElem?_eq_some_iff.1 hx).1
 have g:UO t (i:Int)=some c:=by rw [OX]; exact hx
 have hc1:=hc.1
 have hc2:=hc.2
 have e1:((c.toNat:Int) == 45)=false:=by rw [beq_eq_false_iff_ne]; omega
 have e2:((c.toNat:Int) == 46)=false:=by rw [beq_eq_false_iff_ne]; omega
 have w8:Go.IntKind.u8.wrap ((c.toNat:Int) - 48)=((c.toNat - 48:Nat):Int):=by
  show (((c.toNat:Int) - 48) % 256:Int)=_
  omega
 unfold Zf
 dsimp only
 rw [decide_eq_true (show (i:Int) < (t.length:Int) by omega),cond_true,g,Zu,e1,Bool.false_and,cond_false,Zu,e2,Bool.false_and,Bool.false_and,cond_false,Zu,decide_eq_true (show (c.toNat:Int) ≥ 48 by omega),show (true == true)=true from rfl,cond_true,Zu,decide_eq_true (show (c.toNat:Int)≤57 by omega),Zu,decide_eq_true (show (s:Int) < 19 by omega),Bool.true_and,cond_true,Zu,w8,wrap_in (n := 10 * (n:Int)) (by omega) (by omega),wrap_in (n := ((c.toNat - 48:Nat):Int)) (by omega) (by omega),wrap_in (n := 10 * (n:Int) + ((c.toNat - 48:Nat):Int)) (by omega) (by omega),wrap_in (n := (s:Int) + 1) (by omega) (by omega),wrap_in (n := (i:Int) + 1) (by omega) (by omega)]
 have f1:10 * (n:Int) + ((c.toNat - 48:Nat):Int)=((10 * n + (c.toNat - 48):Nat):Int):=by omega
 have f2:(s:Int) + 1=((s + 1:Nat):Int):=by omega
 have f3:(i:Int) + 1=((i + 1:Nat):Int):=by omega
 rw [f1,f2,f3]
 by_cases h:0≤a
 ·rw [decide_eq_true (show a ≥ 0 from h),cond_true,wrap_in (n := a + 1) (by omega) (by omega)]
  unfold AO; rw [if_pos h]; rfl
 ·rw [decide_eq_false (show ¬ a ≥ 0 from h),cond_false]
  unfold AO; rw [if_neg h]
theorem RS {x:Zl}{d:Int}{L:Nat}{t:List UInt8}(b:Bool×PUnit){i n s:Nat}(hx:t[i]? = some 46)(hs:0 < s)(hi:i < 100)(self:Int×Int×Int×Int×PUnit→Option Bool) :
  Zf x d L (t,b) self (-1,(n:Int),(s:Int),(i:Int),())=self (0,(n:Int),(s:Int),((i + 1:Nat):Int),()):=by
 have hl:i < t.length:=(List.getElem?_eq_some_iff.1 hx).1
 have g:UO t (i:Int)=some 46:=by rw [OX]; exact hx
 unfold Zf
 dsimp only
 rw [decide_eq_true (show (i:Int) < (t.length:Int) by omega),cond_true,g,Zu,show (((46:UInt8).toNat:Int) == 45)=false from by decide,Bool.false_and,cond_false,Zu,show (((46:UInt8).toNat:Int) == 46)=true from by decide,decide_eq_true (show (-1:Int) < 0 by omega),decide_eq_true (show (s:Int) > 0 by omega),Bool.true_and,Bool.true_and,cond_true,wrap_in (n := (i:Int) + 1) (by omega) (by omega)]
 rfl
theorem RQ {x:Zl}{d:Int}{L:Nat}{t:List UInt8}(b:Bool×PUnit){a n s:Int}(hx:t[0]? = some 45)(self:Int×Int×Int×Int×PUnit→Option Bool) :
  Zf x d L (t,b) self (a,n,s,0,())=self (a,n,s,((1:Nat):Int),()):=by
 have hl:0 < t.length:=(List.getElem?_eq_some_iff.1 hx).1
 have g:UO t 0=some 45:=by rw [Bz]; exact hx
 unfold Zf
 dsimp only
 rw [decide_eq_true (show (0:Int) < (t.length:Int) by omega),cond_true,g,Zu,show (((45:UInt8).toNat:Int) == 45)=true from by decide,show ((0:Int) == 0)=true from by decide,Bool.true_and,cond_true]
 rfl
theorem Ux {x:Zl}{d:Int}{L:Nat}{t:List UInt8}(b:Bool×PUnit)(post:List UInt8):∀ (ds pre:List UInt8) (n s:Nat) (a:Int) (m:Nat),t=pre ++ (ds ++ post)→(∀ c ∈ ds,Rl c)→s + ds.length≤19→Cj n ds≤9223372036854775807→pre.length + ds.length≤100→-1≤a→a + (ds.length:Int)≤100 →
  Zx (Zf x d L (t,b)) (m + ds.length) (a,(n:Int),(s:Int),(pre.length:Int),())=Zx (Zf x d L (t,b)) m (AO a ds.length,((Cj n ds:Nat):Int),((s + ds.length:Nat):Int),(((pre ++ ds).length:Nat):Int),())
 | [],pre,n,s,a,m,_,_,_,_,_,_,_=>by
  rw [List.append_nil,List.length_nil,Ej]; rfl
 | c :: ds,pre,n,s,a,m,ht,hd,hs,hn,hi,ha,ha2=>by
  have h1:=hd c (List.mem_cons_self ..)
  have hle:10 * n + (c.toNat - 48)≤Cj n (c :: ds):=BJ ds _
  rw [List.length_cons] at hs hi ha2
  have hx:t[pre.length]? = some c:=by rw [ht]; simp
  have hav:-1≤AO a 1∧AO a 1 + (ds.length:Int)≤100:=by unfold AO; split <;> omega
  have ih:=Ux (x := x) (d := d) (L := L) (t := t) b post ds (pre ++ [c]) (10 * n + (c.toNat - 48)) (s + 1) (AO a 1) m (by rw [ht]; simp) (fun c h=>hd c (List.mem_cons_of_mem _ h)) (by omega) hn (by rw [List.length_append,List.length_singleton]; omega) hav.1 hav.2
  rw [show (((pre ++ [c]).length:Nat):Int)=((pre.length + 1:Nat):Int) by rw [List.length_append,List.length_singleton]] at ih
  rw [List.length_cons,show m + (ds.length + 1)=(m + ds.length) + 1 from rfl,Zx,Sl b hx h1 (by omega) (by omega) (by omega) ⟨by omega,by omega⟩,ih,Em,List.append_assoc,List.singleton_append,show s + 1 + ds.length=s + (ds.length + 1) by omega]
  rfl
noncomputable def MO (L:Nat)(x:Zl)(d v:Int):Option Bool :=
 bT (Yb L (d,())) fun y=>bT (Yu L (v,y,())) fun y_1=>bT (bif (!y_1.2.1) == false then bT (Yg L (y_1.1,x,())) fun y=>some (decide (y > 0)) else some true) fun y_2=>bif y_2 then some false else bT (Yu L (Go.IntKind.i64.wrap (v + 1),y,())) fun y=>bT (bif (!y.2.1) == false then bT (Yg L (y.1,x,())) fun y=>some (decide (y > 0)) else some true) fun y=>some (y && true)
theorem MP {x:Zl}{e:Nat}{L:Nat}{t:List UInt8}(b:Bool×PUnit){c:UInt8}{n s:Nat}{a v:Int}(hx:t[0]? = some c)(hs:0 < s)(ha:a=if e=0 then -1 else (e:Int))(hn:n≤9223372036854775807)(hv:v=if c.toNat=45 then -(n:Int) else (n:Int))(self:Int×Int×Int×Int×PUnit→Option Bool) :
  Zf x (e:Int) L (t,b) self (a,(n:Int),(s:Int),(t.length:Int),())=MO L x (e:Int) v:=by
 have g:UO t 0=some c:=by rw [Bz]; exact hx
 have e1:((s:Int) == 0 || (e:Int) == 0 && a != -1 || decide ((e:Int) > 0) && a != (e:Int))=false:=by
  rw [Bool.eq_false_iff]; intro h
  simp only [Bool.or_eq_true,Bool.and_eq_true,beq_iff_eq,bne_iff_ne,decide_eq_true_eq] at h
  split at ha <;> omega
 unfold Zf
 dsimp only
 rw [decide_eq_false (show ¬ (t.length:Int) < (t.length:Int) by omega),cond_false,e1,cond_false,g,Zu]
 unfold MO
 by_cases h:c.toNat=45
 ·rw [if_pos h] at hv
  rw [show ((c.toNat:Int) == 45)=true by rw [beq_iff_eq]; omega,cond_true,wrap_in (n := 0 - (n:Int)) (by omega) (by omega),show 0 - (n:Int)=v by omega]
 ·rw [if_neg h] at hv
  rw [show ((c.toNat:Int) == 45)=false by rw [beq_eq_false_iff_ne]; omega,cond_false,hv]
end Go.Proofs.YtcfjcimhjmpkiaaGreatDoor
end
section
namespace Go.Proofs.YtcfjcimhjmpkiaaGreatDoor
open Go Go.Proofs.YtcfjcimhjmpkiaaGreatDoor.Abs Go.Proofs.YtcfjcimhjmpkiaaGreatDoor.Tl
set_option maxRecDepth 100000
attribute [local irreducible] wd
def sg (s:Bool)(n:Nat):Int:=if s=true then -(n:Int) else (n:Int)
theorem BM (s:Bool)(n:Nat):(sg s n).natAbs=n:=by unfold sg; split <;> omega
theorem BN (a b:Int):sg (!(decide (a < 0) == decide (b < 0))) (a.natAbs * b.natAbs)=a * b:=by
 have e:((a.natAbs * b.natAbs:Nat):Int)=(a.natAbs:Int) * (b.natAbs:Int):=Int.natCast_mul _ _
 unfold sg
 by_cases ha:a < 0 <;> by_cases hb:b < 0
 ·have h1:(a.natAbs:Int)=-a:=by omega
  have h2:(b.natAbs:Int)=-b:=by omega
  rw [decide_eq_true ha,decide_eq_true hb,e,h1,h2]; simp [Int.neg_mul_neg]
 ·have h1:(a.natAbs:Int)=-a:=by omega
  have h2:(b.natAbs:Int)=b:=by omega
  rw [decide_eq_true ha,decide_eq_false hb,e,h1,h2]; simp [Int.neg_mul]
 ·have h1:(a.natAbs:Int)=a:=by omega
  have h2:(b.natAbs:Int)=-b:=by omega
  rw [decide_eq_false ha,decide_eq_true hb,e,h1,h2]; simp [Int.mul_neg]
 ·have h1:(a.natAbs:Int)=a:=by omega
  have h2:(b.natAbs:Int)=b:=by omega
  rw [decide_eq_false ha,decide_eq_false hb,e,h1,h2]; simp
theorem JA {L:Nat}(hL:65≤L){a b:Int}(ha:I64 a)(hb:I64 b):Yh L (a,b,())=some ⟨!(decide (a < 0) == decide (b < 0)),wd (a.natAbs * b.natAbs)⟩:=by
 rw [Ut,Y8 L ha,Zu,Y8 L hb,Zu,I8 hL (by omega) (by omega),Zu]
theorem Dp (L:Nat){s t:Bool}{p q:Nat}(h:p + q < 340282366920938463463374607431768211456):∃ u r,Qm L (⟨s,wd p⟩,⟨t,wd q⟩,())=some ⟨u,wd r⟩∧sg u r=sg s p + sg t q:=by
 rw [IR]
 dsimp only
 by_cases hst:s=t
 ·subst hst
  rw [beq_self_eq_true,cond_true,QQ L h,Zu,Zu]
  exact ⟨s,p + q,rfl,by cases s <;> simp [sg] <;> omega⟩
 ·rw [show (s == t)=false from by rw [beq_eq_false_iff_ne]; exact hst,cond_false,Tv,Zu]
  by_cases hpq:p < q
  ·rw [decide_eq_true hpq,cond_true,Um L (by omega) (by omega),Zu,Zu]
   refine ⟨t,q - p,rfl,?_⟩
   cases s <;> cases t <;> simp [sg] at hst ⊢ <;> omega
  ·rw [decide_eq_false hpq,cond_false,Um L (by omega) (by omega),Zu,Zu]
   refine ⟨s,p - q,rfl,?_⟩
   cases s <;> cases t <;> simp [sg] at hst ⊢ <;> omega
theorem KG {x:Zl}(h:CQ x=true):1≤x.2∧x.2≤1000000000000000∧x.1.natAbs≤4611686018427387904:=by
 have:=of_decide_eq_true h
 exact ⟨this.1,this.2.1,this.2.2.1⟩
theorem IA {L:Nat}(hL:1000000000000000 < L){x:Zl}(h:CQ x=true):YE L (x,())=some x:=by
 have hv:=KG h
 rw [G9,Kz hL ⟨by omega,by omega⟩ ⟨by omega,by omega⟩,Zu,h,cond_true]
theorem cmp_eq {L:Nat}(hL:1000000000000000 < L){a b:Zl}(ha:CQ a=true)(hb:CQ b=true):∃ c,Yg L (a,b,())=some c∧(c > 0↔a.1 * b.2 > b.1 * a.2):=by
 have va:=KG ha
 have vb:=KG hb
 have p1:a.1.natAbs * b.2.natAbs≤4611686018427387904 * 1000000000000000:=Nat.mul_le_mul va.2.2 (by omega)
 have p2:(-b.1).natAbs * a.2.natAbs≤4611686018427387904 * 1000000000000000:=Nat.mul_le_mul (by omega) (by omega)
 obtain ⟨u,r,e,hv⟩:=Dp L (s := !(decide (a.1 < 0) == decide (b.2 < 0))) (t := !(decide (-b.1 < 0) == decide (a.2 < 0))) (p := a.1.natAbs * b.2.natAbs) (q := (-b.1).natAbs * a.2.natAbs) (by omega)
 rw [BN,BN] at hv
 rw [TW,IA hL ha,Zu,IA hL hb,Zu,JA (by omega) ⟨by omega,by omega⟩ ⟨by omega,by omega⟩,Zu,Zu,wrap_in (n := 0 - b.1) (by omega) (by omega),Int.zero_sub,JA (by omega) ⟨by omega,by omega⟩ ⟨by omega,by omega⟩,Zu,Zu,e,Zu,Zu,Dc]
 have hm:-b.1 * a.2=-(b.1 * a.2):=Int.neg_mul _ _
 rw [hm] at hv
 generalize a.1 * b.2=A at *
 generalize b.1 * a.2=B at *
 by_cases h0:r=0
 ·rw [decide_eq_true h0,cond_true]
  refine ⟨0,rfl,?_⟩
  unfold sg at hv
  split at hv <;> omega
 ·rw [decide_eq_false h0,cond_false]
  unfold sg at hv
  cases u with
  | true=>rw [cond_true]; exact ⟨-1,rfl,by rw [if_pos rfl] at hv; omega⟩
  | false=>rw [cond_false]; exact ⟨1,rfl,by rw [if_neg (by decide)] at hv; omega⟩
theorem Ae {n:Nat}(h:n < 18446744073709551616):((wd n).1 != 0)=false:=by
 rw [← Z9 h]; rfl
theorem SK {n:Nat}(h:n < 18446744073709551616):(wd n).2=(n:Int):=by
 rw [← Z9 h]
theorem DU {L:Nat}(hL:1000000000000000 < L){s:Bool}{n k:Nat}(hn:n < 18446744073709551616)(hk:0 < k)(hk2:k≤1000000000000000):Qn L (⟨s,wd n⟩,wd k,())=some (if n / Nat.gcd n k≤4611686018427387904 then (⟨sg s (n / Nat.gcd n k),((k / Nat.gcd n k:Nat):Int)⟩,true,()) else (⟨0,0⟩,false,())):=by
 have hg:0 < Nat.gcd n k:=Nat.gcd_pos_of_pos_right n hk
 have hg2:Nat.gcd n k≤k:=Nat.gcd_le_right n hk
 have hq:k / Nat.gcd n k≤k:=Nat.div_le_self _ _
 rw [IV]
 dsimp only
 rw [UC (by omega) (by omega) (by omega) (by omega),Zu,Xp (by omega) (by omega) hg (by omega),Zu,Xp (by omega) (by omega) hg (by omega),Zu]
 dsimp only
 rw [BZ,Ae (n := k / Nat.gcd n k) (by omega),Bool.or_false,SK (n := k / Nat.gcd n k) (by omega),decide_eq_false (show ¬ ((k / Nat.gcd n k:Nat):Int) > 1000000000000000 by omega),Bool.or_false]
 generalize k / Nat.gcd n k=b at *
 generalize n / Nat.gcd n k=a at *
 by_cases ha:a≤4611686018427387904
 ·rw [decide_eq_false (by omega),cond_false,if_pos ha,SI ha,wrap_in (n := (a:Int)) (by omega) (by omega),wrap_in (n := (b:Int)) (by omega) (by omega),wrap_in (n := 0 - (a:Int)) (by omega) (by omega),Int.zero_sub]
  cases s with
  | true=>rw [cond_true]; rfl
  | false=>rw [cond_false]; rfl
 ·rw [decide_eq_true (by omega),cond_true,if_neg ha]
theorem EM {L:Nat}(hL:1000000000000000 < L){n:Int}{k:Nat}(hn:I64 n)(hk:0 < k)(hk2:k≤1000000000000000):Yu L (n,(k:Int),())=some (if n.natAbs / Nat.gcd n.natAbs k≤4611686018427387904 then (⟨sg (decide (n < 0)) (n.natAbs / Nat.gcd n.natAbs k),((k / Nat.gcd n.natAbs k:Nat):Int)⟩,true,()) else (⟨0,0⟩,false,())):=by
 rw [RJ,show ((k:Int) == 0)=false by rw [beq_eq_false_iff_ne]; omega,cond_false,Y8 L hn,Zu,Y8 L (x := (k:Int)) ⟨by omega,by omega⟩,Zu,Int.natAbs_natCast,Z9 (show n.natAbs < 18446744073709551616 by omega),Z9 (show k < 18446744073709551616 by omega),decide_eq_false (show ¬ (k:Int) < 0 by omega),show (!(decide (n < 0) == false))=decide (n < 0) from by cases decide (n < 0) <;> rfl,DU hL (by omega) hk hk2,Zu]
theorem OW (n k:Nat)(hk:0 < k):Nat.gcd (n / Nat.gcd n k) (k / Nat.gcd n k)=1:=by
 have hg:0 < Nat.gcd n k:=Nat.gcd_pos_of_pos_right n hk
 have e1:Nat.gcd n k * (n / Nat.gcd n k)=n:=Nat.mul_div_cancel' (Nat.gcd_dvd_left n k)
 have e2:Nat.gcd n k * (k / Nat.gcd n k)=k:=Nat.mul_div_cancel' (Nat.gcd_dvd_right n k)
 have h:=Nat.gcd_mul_left (Nat.gcd n k) (n / Nat.gcd n k) (k / Nat.gcd n k)
 rw [e1,e2] at h
 exact Nat.eq_of_mul_eq_mul_left hg (by rw [Nat.mul_one]; exact h.symm)
theorem of_law {L:Nat}(hL:1000000000000000 < L){n:Int}{k:Nat}(hn:I64 n)(hk:0 < k)(hk2:k≤1000000000000000):∃ f b,Yu L (n,(k:Int),())=some (f,b,())∧(n.natAbs≤4611686018427387904→b=true)∧(b=true→CQ f=true∧∃ g:Int,0 < g∧g * f.1=n∧g * f.2=k):=by
 have hg:0 < Nat.gcd n.natAbs k:=Nat.gcd_pos_of_pos_right _ hk
 have hg2:Nat.gcd n.natAbs k≤k:=Nat.gcd_le_right _ hk
 have e1:Nat.gcd n.natAbs k * (n.natAbs / Nat.gcd n.natAbs k)=n.natAbs:=Nat.mul_div_cancel' (Nat.gcd_dvd_left _ k)
 have e2:Nat.gcd n.natAbs k * (k / Nat.gcd n.natAbs k)=k:=Nat.mul_div_cancel' (Nat.gcd_dvd_right _ k)
 have hc:=OW n.natAbs k hk
 have ha:=Nat.div_le_self n.natAbs (Nat.gcd n.natAbs k)
 have hb:=Nat.div_le_self k (Nat.gcd n.natAbs k)
 have hb1:0 < k / Nat.gcd n.natAbs k:=Nat.div_pos hg2 hg
 rw [EM hL hn hk hk2]
 generalize n.natAbs / Nat.gcd n.natAbs k=a at *
 generalize k / Nat.gcd n.natAbs k=b at *
 generalize Nat.gcd n.natAbs k=g at *
 by_cases h:a≤4611686018427387904
 ·rw [if_pos h]
  refine ⟨_,_,rfl,fun _=>rfl,fun _=>⟨decide_eq_true ⟨?_,?_,?_,?_⟩,(g:Int),by omega,?_,?_⟩⟩
  ·show (1:Int)≤(b:Int); omega
  ·show (b:Int)≤1000000000000000; omega
  ·show (sg _ a).natAbs≤_; rw [BM]; exact h
  ·show Nat.gcd (sg _ a).natAbs (b:Int).natAbs=1; rw [BM,Int.natAbs_natCast]; exact hc
  ·show (g:Int) * sg _ a=n
   have e3:(g:Int) * (a:Int)=(n.natAbs:Int):=by rw [← Int.natCast_mul,e1]
   unfold sg
   by_cases hn0:n < 0
   ·rw [if_pos (decide_eq_true hn0),Int.mul_neg,e3]; omega
   ·rw [if_neg (by simp [hn0]),e3]; omega
  ·show (g:Int) * (b:Int)=(k:Int)
   rw [← Int.natCast_mul,e2]
 ·rw [if_neg h]
  exact ⟨_,_,rfl,fun hn=>absurd (Nat.le_trans ha hn) h,fun hf=>by cases hf⟩
end Go.Proofs.YtcfjcimhjmpkiaaGreatDoor
end
section
namespace Go.Proofs.YtcfjcimhjmpkiaaGreatDoor
open Go Go.Proofs.YtcfjcimhjmpkiaaGreatDoor.Abs Go.Proofs.YtcfjcimhjmpkiaaGreatDoor.Tl
set_option maxRecDepth 100000
attribute [local irreducible] wd
theorem PP {n:Int}{k d:Nat}(hn:¬ n < 0)(hd:0 < d):d * CP n k d≤n.natAbs * k∧n.natAbs * k < d * (CP n k d + 1):=by
 unfold CP
 rw [if_neg fun h=>hn h.1,Nat.mul_add,Nat.mul_one]
 have h1:=Nat.div_add_mod (n.natAbs * k) d
 have h2:=Nat.mod_lt (n.natAbs * k) hd
 omega
theorem PO {n:Int}{k d:Nat}(hn:n < 0)(hd:0 < d):n.natAbs * k≤d * CP n k d∧d * CP n k d < n.natAbs * k + d:=by
 unfold CP
 have h1:=Nat.div_add_mod (n.natAbs * k) d
 have h2:=Nat.mod_lt (n.natAbs * k) hd
 split
 ·rename_i h
  rw [Nat.mul_add,Nat.mul_one]
  have:=h.2
  omega
 ·rename_i h
  have:n.natAbs * k % d=0:=Decidable.byContradiction fun hc=>h ⟨hn,hc⟩
  omega
theorem OQ {x:Zl}{k:Int}{v:Int}(h:Ym x k=(v,true,())):CQ x=true∧-4611686018427387904≤v∧v≤4611686018427387904∧v * x.2≤x.1 * k∧x.1 * k < (v + 1) * x.2:=by
 unfold Ym at h
 split at h
 ·rename_i hc
  have hv:=KG hc.1
  obtain ⟨N,D⟩:=x
  dsimp only at h hc hv ⊢
  have hD:0 < D.natAbs:=by omega
  have hk:((k.natAbs:Nat):Int)=k:=by omega
  have hD2:((D.natAbs:Nat):Int)=D:=by omega
  refine ⟨hc.1,?_⟩
  by_cases hn:N < 0
  ·rw [if_pos hn] at h
   obtain ⟨h1,h2⟩:=PO (k := k.natAbs) hn hD
   have hv2:v=-((CP N k.natAbs D.natAbs:Nat):Int):=(Prod.mk.inj h).1.symm
   have hq:=hc.2.2.2
   generalize CP N k.natAbs D.natAbs=q at *
   have e1:((N.natAbs * k.natAbs:Nat):Int)=-(N * k):=by
    rw [Int.natCast_mul,hk,show ((N.natAbs:Nat):Int)=-N by omega,Int.neg_mul]
   have e2:((D.natAbs * q:Nat):Int)=D * q:=by rw [Int.natCast_mul,hD2]
   have e3:v * D=-(D * q):=by rw [hv2,Int.neg_mul,Int.mul_comm]
   have e4:(v + 1) * D=-(D * q) + D:=by rw [Int.add_mul,e3,Int.one_mul]
   rw [e3,e4]
   generalize D * (q:Int)=X at *
   generalize N * k=Y at *
   generalize D.natAbs * q=X' at *
   generalize N.natAbs * k.natAbs=Y' at *
   omega
  ·rw [if_neg hn] at h
   obtain ⟨h1,h2⟩:=PP (k := k.natAbs) hn hD
   have hv2:v=((CP N k.natAbs D.natAbs:Nat):Int):=(Prod.mk.inj h).1.symm
   have hq:=hc.2.2.2
   generalize CP N k.natAbs D.natAbs=q at *
   have e1:((N.natAbs * k.natAbs:Nat):Int)=N * k:=by
    rw [Int.natCast_mul,hk,show ((N.natAbs:Nat):Int)=N by omega]
   have e2:((D.natAbs * q:Nat):Int)=D * q:=by rw [Int.natCast_mul,hD2]
   have e3:v * D=D * q:=by rw [hv2,Int.mul_comm]
   have e4:(v + 1) * D=D * q + D:=by rw [Int.add_mul,e3,Int.one_mul]
   rw [e3,e4]
   rw [Nat.mul_add,Nat.mul_one] at h2
   generalize D * (q:Int)=X at *
   generalize N * k=Y at *
   generalize D.natAbs * q=X' at *
   generalize N.natAbs * k.natAbs=Y' at *
   omega
 ·cases h
theorem Sm {L:Nat}(hL:1000000000000000 < L){x:Zl}{e:Nat}(he:e≤6){v:Int}(h:Ym x ((10 ^ e:Nat):Int)=(v,true,())):MO L x (e:Int) v=some true:=by
 obtain ⟨hx,hv1,hv2,hlo,hhi⟩:=OQ h
 have hvx:=KG hx
 have hp:0 < 10 ^ e:=Nat.pow_pos (by omega)
 have hp2:=Ve he
 unfold MO
 rw [Ij (by omega) he,Zu]
 generalize 10 ^ e=K at *
 obtain ⟨f,b,e1,hb,hf⟩:=of_law hL (n := v) (k := K) ⟨by omega,by omega⟩ hp (by omega)
 have hbt:=hb (by omega)
 subst hbt
 obtain ⟨hf1,g,hg,hgn,hgd⟩:=hf rfl
 obtain ⟨c,e2,hc⟩:=cmp_eq hL hf1 hx
 have hc0:¬ c > 0:=fun h0=>by
  have h1:=hc.1 h0
  have h2:g * (x.1 * f.2) < g * (f.1 * x.2):=Int.mul_lt_mul_of_pos_left h1 hg
  rw [← Int.mul_assoc g f.1,hgn,Int.mul_left_comm,hgd] at h2
  omega
 rw [e1,Zu,show ((!((true,()):Bool×PUnit).1) == false)=true from rfl,cond_true,e2,Zu,decide_eq_false hc0,Zu,cond_false,wrap_in (n := v + 1) (by omega) (by omega)]
 obtain ⟨f2,b2,e3,_,hf2⟩:=of_law hL (n := v + 1) (k := K) ⟨by omega,by omega⟩ hp (by omega)
 rw [e3,Zu]
 cases b2 with
 | false=>rw [show ((!((false,()):Bool×PUnit).1) == false)=false from rfl,cond_false,Zu]; rfl
 | true =>
  obtain ⟨hf3,g2,hg2,hgn2,hgd2⟩:=hf2 rfl
  obtain ⟨c2,e4,hc2⟩:=cmp_eq hL hf3 hx
  have hc3:c2 > 0:=by
   refine hc2.2 ?_
   refine Int.lt_of_mul_lt_mul_left (a := g2) ?_ (by omega)
   rw [← Int.mul_assoc g2 f2.1,hgn2,Int.mul_left_comm,hgd2]
   exact hhi
  rw [show ((!((true,()):Bool×PUnit).1) == false)=true from rfl,cond_true,e4,Zu,decide_eq_true hc3,Zu]; rfl
theorem Am {m e:Nat}(hm:m≤4611686018427387904)(he:e≤6):Lib.nDigits (m / 10 ^ e) + e≤19:=by
 have hp:0 < 10 ^ e:=Nat.pow_pos (by omega)
 have h:Lib.nDigits (m / 10 ^ e)≤19 - e:=by
  refine DY (19 - e) (by omega) ?_
  rw [Nat.div_lt_iff_lt_mul hp,← Nat.pow_add,show 19 - e + e=19 by omega]
  have:(10:Nat) ^ 19=10000000000000000000:=rfl
  omega
 omega
theorem N8 (u:Nat):∃ c l,Lib.decDigits u=c :: l∧Rl c:=by
 have h:=Lib.decDigits_length u
 have hp:=Lib.nDigits_pos u
 have hd:=KZ u
 cases hl:Lib.decDigits u with
 | nil=>rw [hl] at h; simp at h; omega
 | cons c l=>exact ⟨c,l,rfl,hd c (by rw [hl]; exact List.mem_cons_self ..)⟩
theorem Sj {L:Nat}(hL:1000≤L){x:Zl}{e:Nat}(he:e≤6)(b:Bool×PUnit)(mi:Bool){m:Nat}(hm:m≤4611686018427387904) :
  Zx (Zf x (e:Int) L (Lp (if mi=true then [45] else []) m e,b)) L (-1,0,0,0,())=MO L x (e:Int) (sg mi m):=by
 have hp:0 < 10 ^ e:=Nat.pow_pos (by omega)
 have hr:m % 10 ^ e < 10 ^ e:=Nat.mod_lt _ hp
 have hn:=Am hm he
 have hl1:=Lib.decDigits_length (m / 10 ^ e)
 have hq:Cj 0 (Lib.decDigits (m / 10 ^ e))=m / 10 ^ e:=by rw [Mc]; omega
 have hdm:m / 10 ^ e * 10 ^ e + m % 10 ^ e=m:=by rw [Nat.mul_comm]; exact Nat.div_add_mod m (10 ^ e)
 have hqm:m / 10 ^ e≤m:=Nat.div_le_self _ _
 have hpos:=Lib.nDigits_pos (m / 10 ^ e)
 obtain ⟨c0,l0,hc0,hd0⟩:=N8 (m / 10 ^ e)
 have hd1:=KZ (m / 10 ^ e)
 rw [OA]
 have hsg:∃ pre:List UInt8,(if mi=true then [45] else [])=pre∧pre.length≤1∧∀ (rest:List UInt8) (t:List UInt8),t=pre ++ (c0 :: rest)→(∀ k,Zx (Zf x (e:Int) L (t,b)) (k + 1 + pre.length) (-1,0,0,0,())=Zx (Zf x (e:Int) L (t,b)) (k + 1) (-1,((0:Nat):Int),((0:Nat):Int),(pre.length:Int),()))∧∃ c,t[0]? = some c∧(if c.toNat=45 then -(m:Int) else (m:Int))=sg mi m:=by
  cases mi with
  | false =>
   refine ⟨[],rfl,by simp,fun rest t ht=>⟨fun k=>rfl,c0,by rw [ht]; rfl,?_⟩⟩
   have:=hd0.1
   rw [if_neg (by omega)]; rfl
  | true =>
   refine ⟨[45],rfl,by simp,fun rest t ht=>⟨fun k=>?_,45,by rw [ht]; rfl,by rw [if_pos (by decide)]; rfl⟩⟩
   rw [show k + 1 + ([45]:List UInt8).length=(k + 1) + 1 from rfl,Zx,RQ b (by rw [ht]; rfl)]
   rfl
 obtain ⟨pre,hpre,hpl,hpp⟩:=hsg
 rw [hpre]
 by_cases h0:e=0
 ·rw [if_pos h0]
  obtain ⟨h1,c,hc,hv⟩:=hpp l0 (pre ++ (Lib.decDigits (m / 10 ^ e) ++ [])) (by rw [hc0,List.append_nil])
  have h2:=Ux (x := x) (d := (e:Int)) (L := L) b [] (Lib.decDigits (m / 10 ^ e)) pre 0 0 (-1) (L - pre.length - Lib.nDigits (m / 10 ^ e)) rfl hd1 (by omega) (by rw [hq]; omega) (by omega) (by omega) (by omega)
  have h3:=h1 (L - pre.length - 1)
  rw [show L - pre.length - 1 + 1 + pre.length=L by omega] at h3
  rw [h3,show L - pre.length - 1 + 1=(L - pre.length - Lib.nDigits (m / 10 ^ e)) + (Lib.decDigits (m / 10 ^ e)).length by omega,h2,hq]
  rw [show L - pre.length - Lib.nDigits (m / 10 ^ e)=(L - pre.length - Lib.nDigits (m / 10 ^ e) - 1) + 1 by omega,Zx]
  have hm0:m / 10 ^ e=m:=by rw [h0]; omega
  rw [hm0,List.append_nil] at hc ⊢
  refine MP b hc ?_ ?_ (by omega) hv.symm _
  ·rw [hm0] at hl1 hpos; omega
  ·rw [if_pos h0]; rfl
 ·rw [if_neg h0]
  have hrl:=Ky (by omega) he hr
  have hrv:=MJ (q := m / 10 ^ e) (by omega) he hr
  have hrd:=MI (m % 10 ^ e) e
  rw [hdm] at hrv
  generalize restS (m % 10 ^ e) e=R at *
  obtain ⟨h1,c,hc,hv⟩:=hpp (l0 ++ 46 :: R) (pre ++ (Lib.decDigits (m / 10 ^ e) ++ 46 :: R)) (by rw [hc0]; rfl)
  have h2:=Ux (x := x) (d := (e:Int)) (L := L) b (46 :: R) (Lib.decDigits (m / 10 ^ e)) pre 0 0 (-1) (L - pre.length - Lib.nDigits (m / 10 ^ e)) rfl hd1 (by omega) (by rw [hq]; omega) (by omega) (by omega) (by omega)
  have h3:=h1 (L - pre.length - 1)
  have h4:=Ux (x := x) (d := (e:Int)) (L := L) (t := pre ++ (Lib.decDigits (m / 10 ^ e) ++ 46 :: R)) b [] R (pre ++ Lib.decDigits (m / 10 ^ e) ++ [46]) (m / 10 ^ e) (0 + (Lib.decDigits (m / 10 ^ e)).length) 0 (L - pre.length - Lib.nDigits (m / 10 ^ e) - 1 - e) (by simp) hrd (by omega) (by rw [hrv]; omega) (by simp only [List.length_append,List.length_singleton]; omega) (by omega) (by omega)
  rw [show L - pre.length - 1 + 1 + pre.length=L by omega] at h3
  have hat:(pre ++ (Lib.decDigits (m / 10 ^ e) ++ 46 :: R))[(pre ++ Lib.decDigits (m / 10 ^ e)).length]? = some 46:=by
   rw [← List.append_assoc]; simp
  rw [h3,show L - pre.length - 1 + 1=(L - pre.length - Lib.nDigits (m / 10 ^ e)) + (Lib.decDigits (m / 10 ^ e)).length by omega,h2,hq]
  rw [show L - pre.length - Lib.nDigits (m / 10 ^ e)=(L - pre.length - Lib.nDigits (m / 10 ^ e) - 1) + 1 by omega,Zx]
  rw [show AO (-1) (Lib.decDigits (m / 10 ^ e)).length=-1 from rfl,RS b hat (by omega) (by simp only [List.length_append]; omega)]
  rw [show (((pre ++ Lib.decDigits (m / 10 ^ e)).length + 1:Nat):Int)=((pre ++ Lib.decDigits (m / 10 ^ e) ++ [46]).length:Int) by simp only [List.length_append,List.length_singleton],show L - pre.length - Lib.nDigits (m / 10 ^ e) - 1=(L - pre.length - Lib.nDigits (m / 10 ^ e) - 1 - e) + R.length by omega,h4,hrv]
  rw [show L - pre.length - Lib.nDigits (m / 10 ^ e) - 1 - e=(L - pre.length - Lib.nDigits (m / 10 ^ e) - 1 - e - 1) + 1 by omega,Zx]
  have hend:pre ++ Lib.decDigits (m / 10 ^ e) ++ [46] ++ R=pre ++ (Lib.decDigits (m / 10 ^ e) ++ 46 :: R):=by simp
  rw [hend]
  refine MP b hc (by omega) ?_ (by omega) hv.symm _
  rw [if_neg h0,hrl]; unfold AO; rw [if_pos (by omega)]; omega
theorem LM {mi:Bool}{m e:Nat}(hm:m≤4611686018427387904)(he:e≤6):(Lp (if mi=true then [45] else []) m e).length≤30:=by
 have hp:0 < 10 ^ e:=Nat.pow_pos (by omega)
 have hr:m % 10 ^ e < 10 ^ e:=Nat.mod_lt _ hp
 have hn:=Am hm he
 have hl1:=Lib.decDigits_length (m / 10 ^ e)
 have hs:(if mi=true then ([45]:List UInt8) else []).length≤1:=by cases mi <;> simp
 rw [OA,List.length_append,List.length_append]
 by_cases h0:e=0
 ·rw [if_pos h0,List.length_nil]; omega
 ·rw [if_neg h0,List.length_cons,Ky (by omega) he hr]; omega
theorem GM {L:Nat}(hL:1000000000000000 < L){x:Zl}{d:Int}(h1:I64 x.1)(h2:I64 x.2):ZX L (x,d,())=some true:=by
 rw [Qr]
 by_cases hd:0≤d∧d≤6
 ·obtain ⟨e,rfl⟩:∃ e:Nat,d=e:=⟨d.toNat,by omega⟩
  rw [BK (by omega) x (by omega),MB hL h1 h2 (by omega),Zu]
  unfold N7
  have hb:=V6 x ((10 ^ e:Nat):Int)
  have hend:=fun v=>Sm hL (x := x) (e := e) (by omega) (v := v)
  generalize Ym x ((10 ^ e:Nat):Int)=w at *
  obtain ⟨v,b,u⟩:=w
  dsimp only at hb ⊢
  cases b with
  | false=>rw [if_neg (by decide)]; rfl
  | true =>
   rw [if_pos rfl]
   have hm:v.natAbs≤4611686018427387904:=by omega
   have hlen:=LM (mi := decide (v < 0)) hm (show e≤6 by omega)
   have hall:=Sj (L := L) (by omega) (x := x) (show e≤6 by omega) (true,()) (decide (v < 0)) hm
   have hi:(if decide (v < 0)=true then ([45]:List UInt8) else [])=if v < 0 then [45] else []:=by
    by_cases hv:v < 0 <;> simp [hv]
   rw [hi] at hlen hall
   have hsv:sg (decide (v < 0)) v.natAbs=v:=by
    unfold sg
    by_cases hv:v < 0
    ·rw [if_pos (decide_eq_true hv)]; omega
    ·rw [if_neg (by simp [hv])]; omega
   rw [hsv,hend v rfl] at hall
   generalize Lp (if v < 0 then [45] else []) v.natAbs e=t at *
   dsimp only
   rw [Bool.not_true,cond_false,show (decide ((e:Int) < 0) || decide ((e:Int) > 6) || decide ((t.length:Int) > 30))=false from by
    rw [decide_eq_false (by omega),decide_eq_false (by omega),decide_eq_false (by omega)]; rfl,cond_false]
   exact hall
 ·have e1:(decide (d < 0) || decide (d > 6))=true:=by
   simp only [Bool.or_eq_true,decide_eq_true_eq]; omega
  rw [Y0,e1,cond_true,Zu]
  rfl
end Go.Proofs.YtcfjcimhjmpkiaaGreatDoor
end
