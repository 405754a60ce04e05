import Derived.Test.YtjefbecmeobegaaGreatDoorNatJ
namespace Go.Proofs.YtjefbecmeobegaaGreatDoor.IntZ
open Go Go.RowKit YtjefbecmeobegaaGreatDoorW.PrintWords YtjefbecmeobegaaGreatDoorW.PrintLast P NatA NatB NatC NatD NatI NatJ
def sg (b:Bool) (x:Nat):Int:=if b=true then -(x:Int) else x
def Z (n:Bool) (m:ByteArray):Int:=sg n (V m)
def I (z:Int):Bool × ByteArray:=(decide (z < 0),N z.natAbs)
theorem aEw (z:Int):sg (decide (z < 0)) z.natAbs=z:=by
 unfold sg
 by_cases h:z < 0
 ·rw [decide_eq_true h,if_pos rfl]
  omega
 ·rw [decide_eq_false h,if_neg kQ]
  omega
theorem Z_I (z:Int):Z (I z).1 (I z).2=z:=by
 unfold Z I
 rw [V_N]
 exact aEw z
theorem aCo (b:Bool) (x:Nat):(sg b x).natAbs=x:=by
 unfold sg
 split<;>omega
theorem aBr (n:Bool) (m:ByteArray):(Z n m).natAbs=V m:=aCo _ _
theorem aUO {x y:Int}:I x=I y ↔ x=y:=⟨λ h=>by rw [<- Z_I x,h,Z_I],λ h=>by rw [h]⟩
theorem aUi (n:Bool) (m:ByteArray) {s:Nat} (h:m.size<=s):(N (Z n m).natAbs).size<=s:=by rw [aBr];exact aC6 h
theorem aA9 {z:Int} {s:Nat} (h:z.natAbs < 256 ^ s):(I z).2.size<=s:=(aAH _ _).2 h
theorem aAW {z:Int} {s:Nat} (h:(N z.natAbs).size<=s):z.natAbs < 256 ^ s:=(aAH _ _).1 h
theorem aO9 {x y:Int} {s:Nat} (hx:x.natAbs < 256 ^ s) (hy:y.natAbs < 256 ^ s):(x+y).natAbs < 256 ^ (s+1):=by
 rw [Nat.pow_succ]
 omega
theorem aOA {x y:Int} {s:Nat} (hx:x.natAbs < 256 ^ s) (hy:y.natAbs < 256 ^ s):(x - y).natAbs < 256 ^ (s+1):=by
 rw [Nat.pow_succ]
 omega
theorem aOB {x y:Int} {s t:Nat} (hx:x.natAbs < 256 ^ s) (hy:y.natAbs < 256 ^ t):(x*y).natAbs < 256 ^ (s+t):=by
 rw [Int.natAbs_mul,Nat.pow_add]
 exact Nat.mul_lt_mul'' hx hy
theorem aMx {x y:Int} {s:Nat} (hx:(I x).2.size<=s) (hy:(I y).2.size<=s):(I (x+y)).2.size<=s+1:=aA9 (aO9 (aAW hx) (aAW hy))
theorem aRc {x y:Int} {s:Nat} (hx:(I x).2.size<=s) (hy:(I y).2.size<=s):(I (x - y)).2.size<=s+1:=aA9 (aOA (aAW hx) (aAW hy))
theorem aRd {x y:Int} {s t:Nat} (hx:(I x).2.size<=s) (hy:(I y).2.size<=t):(I (x*y)).2.size<=s+t:=aA9 (aOB (aAW hx) (aAW hy))
theorem aUj (n:Bool) (m:ByteArray) {s:Nat} (h:m.size<=s):(I (Z n m)).2.size<=s:=aUi n m h
theorem aN7 {x s:Nat} (h:(N x).size<=s):Lib.nDigits x<=3*s+1:=aEU (3*s) x (Nat.lt_of_lt_of_le ((aAH _ _).1 h) (by
 have h1:256 ^ s<=(10 ^ 3) ^ s:=Nat.pow_le_pow_left kQ _
 rw [<- Nat.pow_mul] at h1
 exact Nat.le_trans h1 (Nat.pow_le_pow_right kQ kJ)))
theorem aTp {x y:Int} (h:(decide (x < 0) == decide (y < 0))=true):sg (decide (x < 0)) (x.natAbs+y.natAbs)=x+y:=by
 rw [beq_iff_eq,decide_eq_decide] at h
 unfold sg
 by_cases hx:x < 0
 ·have:=h.1 hx
  rw [decide_eq_true hx,if_pos rfl]
  omega
 ·rw [decide_eq_false hx,if_neg kQ]
  omega
theorem aN8 {x y:Int} (h:¬ (decide (x < 0) == decide (y < 0))=true) (hl:y.natAbs<=x.natAbs):sg (decide (x < 0)) (x.natAbs - y.natAbs)=x+y:=by
 rw [beq_iff_eq,decide_eq_decide] at h
 unfold sg
 by_cases hx:x < 0
 ·rw [decide_eq_true hx,if_pos rfl]
  omega
 ·rw [decide_eq_false hx,if_neg kQ]
  omega
theorem aUk (z:Int):sg (!decide (z < 0)) z.natAbs=-z:=by
 unfold sg
 by_cases h:z < 0
 ·rw [decide_eq_true h,if_neg kQ]
  omega
 ·rw [decide_eq_false h,if_pos kQ]
  omega
theorem aMy (a b:Bool) (x y:Nat):sg a x*sg b y=sg (a != b) (x*y):=by
 unfold sg
 cases a<;>cases b<;>simp [Int.natCast_mul,Int.neg_mul,Int.mul_neg]
theorem aRe (x y:Int):sg (decide (x < 0) != decide (y < 0)) (x.natAbs*y.natAbs)=x*y:=by rw [<- aMy,aEw,aEw]
def aEb (x y:Int):Bool × ByteArray × Bool × ByteArray × Bool:=if y=0 then (false,(⟨#[]⟩:ByteArray),false,(⟨#[]⟩:ByteArray),false) else ((I (x / y)).1,(I (x / y)).2,(I (x % y)).1,(I (x % y)).2,true)
theorem aRf {x q r:Int} {y:Int} (hy:0 < y) (h:x=y*q+r) (h0:0<=r) (h1:r < y):x / y=q/\x % y=r:=by
 rw [h]
 constructor
 ·rw [Int.add_comm,Int.add_mul_ediv_left _ _ kJ,Int.ediv_eq_zero_of_lt h0 h1,Int.zero_add]
 ·rw [Int.add_comm,Int.add_mul_emod_self_left,Int.emod_eq_of_lt h0 h1]
theorem aGm {x q r:Int} {b:Bool} {y:Nat} (hy:0 < y) (h:x=y*q+r) (h0:0<=r) (h1:r < y):x / sg b y=(if b=true then -q else q)/\x % sg b y=r:=by
 obtain ⟨e1,e2⟩:=aRf (show (0:Int) < y by omega) h h0 h1
 unfold sg
 cases b with
 | true=>rw [if_pos rfl,if_pos rfl,Int.ediv_neg,Int.emod_neg,e1,e2];exact ⟨rfl,rfl⟩
 | false=>rw [if_neg kQ,if_neg kQ,e1,e2];exact ⟨rfl,rfl⟩
def sgn (z:Int):Int:=if z < 0 then -1 else if z=0 then 0 else 1
def aAT (z:Int):ByteArray:=if z < 0 then (⟨#[45]⟩:ByteArray)++text z.natAbs else text z.natAbs
theorem aIs (b:Bool) (x y:Nat):sg b (x+y)=sg b x+sg b y:=by
 unfold sg
 cases b
 ·rw [if_neg kQ,if_neg kQ,if_neg kQ];omega
 ·rw [if_pos rfl,if_pos rfl,if_pos rfl];omega
theorem aHH (b:Bool) (x y:Nat) (h:y<=x):sg b (x - y)=sg b x+sg (!b) y:=by
 unfold sg
 cases b
 ·rw [if_neg kQ,if_neg kQ,if_pos kQ];omega
 ·rw [if_pos rfl,if_pos rfl,if_neg kQ];omega
theorem aUl {a b:Bool} (h:¬ (a == b)=true):b=!a:=by cases a<;>cases b<;>simp_all
theorem aUm (b:Bool) (x:Nat):sg (!b) x=-sg b x:=by
 unfold sg
 cases b
 ·rw [if_pos kQ,if_neg kQ]
 ·rw [if_neg kQ,if_pos rfl,Int.neg_neg]
theorem aUn (n:Bool) (x:Nat):sgn (sg n x)=if x=0 then 0 else if n=true then -1 else 1:=by
 cases n with
 | true =>
  show (if -(x:Int) < 0 then (-1:Int) else if -(x:Int)=0 then 0 else 1)=if x=0 then 0 else -1
  by_cases h:x=0
  ·rw [if_neg kJ,if_pos kJ,if_pos h]
  ·rw [if_pos kJ,if_neg h]
 | false =>
  show (if (x:Int) < 0 then (-1:Int) else if (x:Int)=0 then 0 else 1)=if x=0 then 0 else 1
  by_cases h:x=0
  ·rw [if_neg kJ,if_pos kJ,if_pos h]
  ·rw [if_neg kJ,if_neg kJ,if_neg h]
end Go.Proofs.YtjefbecmeobegaaGreatDoor.IntZ
