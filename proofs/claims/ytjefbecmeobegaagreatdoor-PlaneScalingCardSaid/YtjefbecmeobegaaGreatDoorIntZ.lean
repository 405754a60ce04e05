import Derived.Test.YtjefbecmeobegaaGreatDoorNatJ
namespace Go.Proofs.YtjefbecmeobegaaGreatDoor.IntZ
open Go Go.RowKit YtjefbecmeobegaaGreatDoorW.PrintWords YtjefbecmeobegaaGreatDoorW.PrintLast P NatA NatB NatC NatD NatI NatJ
def sg (b:Bool) (x:Nat):Int:=if b=true then -(x:Int) else x
def Z (n:Bool) (m:ByteArray):Int:=sg n (V m)
def I (z:Int):Bool × ByteArray:=(decide (z < 0),N z.natAbs)
theorem aFZ (z:Int):sg (decide (z < 0)) z.natAbs=z:=by
 unfold sg
 by_cases h:z < 0
 ·rw [decide_eq_true h,if_pos rfl]
  omega
 ·rw [decide_eq_false h,if_neg (by decide)]
  omega
theorem Z_I (z:Int):Z (I z).1 (I z).2=z:=by
 unfold Z I
 rw [V_N]
 exact aFZ z
theorem aCc (b:Bool) (x:Nat):(sg b x).natAbs=x:=by
 unfold sg
 split<;>omega
theorem aBi (n:Bool) (m:ByteArray):(Z n m).natAbs=V m:=aCc _ _
theorem aTR {x y:Int}:I x=I y ↔ x=y:=⟨fun h=>by rw [← Z_I x,h,Z_I],fun h=>by rw [h]⟩
theorem aTr (n:Bool) (m:ByteArray) {s:Nat} (h:m.size≤s):(N (Z n m).natAbs).size≤s:=by rw [aBi];exact aCr h
theorem aAF {z:Int} {s:Nat} (h:z.natAbs < 256 ^ s):(I z).2.size≤s:=(aAP _ _).2 h
theorem aB5 {z:Int} {s:Nat} (h:(N z.natAbs).size≤s):z.natAbs < 256 ^ s:=(aAP _ _).1 h
theorem aOh {x y:Int} {s:Nat} (hx:x.natAbs < 256 ^ s) (hy:y.natAbs < 256 ^ s):(x+y).natAbs < 256 ^ (s+1):=by
 rw [Nat.pow_succ]
 omega
theorem aOi {x y:Int} {s:Nat} (hx:x.natAbs < 256 ^ s) (hy:y.natAbs < 256 ^ s):(x - y).natAbs < 256 ^ (s+1):=by
 rw [Nat.pow_succ]
 omega
theorem aOj {x y:Int} {s t:Nat} (hx:x.natAbs < 256 ^ s) (hy:y.natAbs < 256 ^ t):(x*y).natAbs < 256 ^ (s+t):=by
 rw [Int.natAbs_mul,Nat.pow_add]
 exact Nat.mul_lt_mul'' hx hy
theorem aLT {x y:Int} {s:Nat} (hx:(I x).2.size≤s) (hy:(I y).2.size≤s):(I (x+y)).2.size≤s+1:=aAF (aOh (aB5 hx) (aB5 hy))
theorem aQ0 {x y:Int} {s:Nat} (hx:(I x).2.size≤s) (hy:(I y).2.size≤s):(I (x - y)).2.size≤s+1:=aAF (aOi (aB5 hx) (aB5 hy))
theorem aQ1 {x y:Int} {s t:Nat} (hx:(I x).2.size≤s) (hy:(I y).2.size≤t):(I (x*y)).2.size≤s+t:=aAF (aOj (aB5 hx) (aB5 hy))
theorem aTs (n:Bool) (m:ByteArray) {s:Nat} (h:m.size≤s):(I (Z n m)).2.size≤s:=aTr n m h
theorem aNb {x s:Nat} (h:(N x).size≤s):Lib.nDigits x≤3*s+1:=aEH (3*s) x (Nat.lt_of_lt_of_le ((aAP _ _).1 h) (by
 have h1:256 ^ s≤(10 ^ 3) ^ s:=Nat.pow_le_pow_left (by decide) _
 rw [← Nat.pow_mul] at h1
 exact Nat.le_trans h1 (Nat.pow_le_pow_right (by decide) (by omega))))
theorem aS9 {x y:Int} (h:(decide (x < 0) == decide (y < 0))=true):sg (decide (x < 0)) (x.natAbs+y.natAbs)=x+y:=by
 rw [beq_iff_eq,decide_eq_decide] at h
 unfold sg
 by_cases hx:x < 0
 ·have:=h.1 hx
  rw [decide_eq_true hx,if_pos rfl]
  omega
 ·rw [decide_eq_false hx,if_neg (by decide)]
  omega
theorem aNc {x y:Int} (h:¬ (decide (x < 0) == decide (y < 0))=true) (hl:y.natAbs≤x.natAbs):sg (decide (x < 0)) (x.natAbs - y.natAbs)=x+y:=by
 rw [beq_iff_eq,decide_eq_decide] at h
 unfold sg
 by_cases hx:x < 0
 ·rw [decide_eq_true hx,if_pos rfl]
  omega
 ·rw [decide_eq_false hx,if_neg (by decide)]
  omega
theorem aTt (z:Int):sg (!decide (z < 0)) z.natAbs=-z:=by
 unfold sg
 by_cases h:z < 0
 ·rw [decide_eq_true h,if_neg (by decide)]
  omega
 ·rw [decide_eq_false h,if_pos (by decide)]
  omega
theorem aLU (a b:Bool) (x y:Nat):sg a x*sg b y=sg (a != b) (x*y):=by
 unfold sg
 cases a<;>cases b<;>simp [Int.natCast_mul,Int.neg_mul,Int.mul_neg]
theorem aQ2 (x y:Int):sg (decide (x < 0) != decide (y < 0)) (x.natAbs*y.natAbs)=x*y:=by rw [← aLU,aFZ,aFZ]
def aEn (x y:Int):Bool × ByteArray × Bool × ByteArray × Bool:=if y=0 then (false,(⟨#[]⟩:ByteArray),false,(⟨#[]⟩:ByteArray),false) else ((I (x / y)).1,(I (x / y)).2,(I (x % y)).1,(I (x % y)).2,true)
theorem aQ3 {x q r:Int} {y:Int} (hy:0 < y) (h:x=y*q+r) (h0:0≤r) (h1:r < y):x / y=q∧x % y=r:=by
 rw [h]
 constructor
 ·rw [Int.add_comm,Int.add_mul_ediv_left _ _ (by omega),Int.ediv_eq_zero_of_lt h0 h1,Int.zero_add]
 ·rw [Int.add_comm,Int.add_mul_emod_self_left,Int.emod_eq_of_lt h0 h1]
theorem aGa {x q r:Int} {b:Bool} {y:Nat} (hy:0 < y) (h:x=y*q+r) (h0:0≤r) (h1:r < y):x / sg b y=(if b=true then -q else q)∧x % sg b y=r:=by
 obtain ⟨e1,e2⟩:=aQ3 (show (0:Int) < y by omega) h h0 h1
 unfold sg
 cases b with
 | true=>rw [if_pos rfl,if_pos rfl,Int.ediv_neg,Int.emod_neg,e1,e2];exact ⟨rfl,rfl⟩
 | false=>rw [if_neg (by decide),if_neg (by decide),e1,e2];exact ⟨rfl,rfl⟩
def sgn (z:Int):Int:=if z < 0 then -1 else if z=0 then 0 else 1
def aAR (z:Int):ByteArray:=if z < 0 then (⟨#[45]⟩:ByteArray)++text z.natAbs else text z.natAbs
theorem aHT (b:Bool) (x y:Nat):sg b (x+y)=sg b x+sg b y:=by
 unfold sg
 cases b
 ·rw [if_neg (by decide),if_neg (by decide),if_neg (by decide)];omega
 ·rw [if_pos rfl,if_pos rfl,if_pos rfl];omega
theorem aHw (b:Bool) (x y:Nat) (h:y≤x):sg b (x - y)=sg b x+sg (!b) y:=by
 unfold sg
 cases b
 ·rw [if_neg (by decide),if_neg (by decide),if_pos (by decide)];omega
 ·rw [if_pos rfl,if_pos rfl,if_neg (by decide)];omega
theorem aTu {a b:Bool} (h:¬ (a == b)=true):b=!a:=by cases a<;>cases b<;>simp_all
theorem aTv (b:Bool) (x:Nat):sg (!b) x=-sg b x:=by
 unfold sg
 cases b
 ·rw [if_pos (by decide),if_neg (by decide)]
 ·rw [if_neg (by decide),if_pos rfl,Int.neg_neg]
theorem aTw (n:Bool) (x:Nat):sgn (sg n x)=if x=0 then 0 else if n=true then -1 else 1:=by
 cases n with
 | true =>
  show (if -(x:Int) < 0 then (-1:Int) else if -(x:Int)=0 then 0 else 1)=if x=0 then 0 else -1
  by_cases h:x=0
  ·rw [if_neg (by omega),if_pos (by omega),if_pos h]
  ·rw [if_pos (by omega),if_neg h]
 | false =>
  show (if (x:Int) < 0 then (-1:Int) else if (x:Int)=0 then 0 else 1)=if x=0 then 0 else 1
  by_cases h:x=0
  ·rw [if_neg (by omega),if_pos (by omega),if_pos h]
  ·rw [if_neg (by omega),if_neg (by omega),if_neg h]
end Go.Proofs.YtjefbecmeobegaaGreatDoor.IntZ
