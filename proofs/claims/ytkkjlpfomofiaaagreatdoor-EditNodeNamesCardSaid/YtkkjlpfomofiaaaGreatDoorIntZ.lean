import Derived.Test.YtkkjlpfomofiaaaGreatDoorNatJ
namespace Go.Proofs.YtkkjlpfomofiaaaGreatDoor.IntZ
open Go Go.RowKit YtkkjlpfomofiaaaGreatDoorW.PrintWords YtkkjlpfomofiaaaGreatDoorW.PrintLast P NatA NatB NatC NatD NatI NatJ
def sg (b:Bool) (x:Nat):Int:=if b=true then -(x:Int) else x
def Z (n:Bool) (m:ByteArray):Int:=sg n (V m)
def I (z:Int):Bool × ByteArray:=(decide (z < 0),N z.natAbs)
theorem aPt (z:Int):sg (decide (z < 0)) z.natAbs=z:=by
 unfold sg
 by_cases h:z < 0
 ·rw [decide_eq_true h,if_pos rfl]
  omega
 ·rw [decide_eq_false h,if_neg (by decide)]
  omega
theorem Z_I (z:Int):Z (I z).1 (I z).2=z:=by
 unfold Z I
 rw [V_N]
 exact aPt z
theorem aB3 (b:Bool) (x:Nat):(sg b x).natAbs=x:=by
 unfold sg
 split<;>omega
theorem aJX (n:Bool) (m:ByteArray):(Z n m).natAbs=V m:=aB3 _ _
theorem aQf (n:Bool) (m:ByteArray) {s:Nat} (h:m.size≤s):(N (Z n m).natAbs).size≤s:=by rw [aJX];exact aDo h
theorem aBg {z:Int} {s:Nat} (h:z.natAbs < 256 ^ s):(I z).2.size≤s:=(aCT _ _).2 h
theorem aCG {z:Int} {s:Nat} (h:(N z.natAbs).size≤s):z.natAbs < 256 ^ s:=(aCT _ _).1 h
theorem aLT {x y:Int} {s:Nat} (hx:x.natAbs < 256 ^ s) (hy:y.natAbs < 256 ^ s):(x+y).natAbs < 256 ^ (s+1):=by
 rw [Nat.pow_succ]
 omega
theorem aLU {x y:Int} {s:Nat} (hx:x.natAbs < 256 ^ s) (hy:y.natAbs < 256 ^ s):(x - y).natAbs < 256 ^ (s+1):=by
 rw [Nat.pow_succ]
 omega
theorem aLV {x y:Int} {s t:Nat} (hx:x.natAbs < 256 ^ s) (hy:y.natAbs < 256 ^ t):(x*y).natAbs < 256 ^ (s+t):=by
 rw [Int.natAbs_mul,Nat.pow_add]
 exact Nat.mul_lt_mul'' hx hy
theorem aJY {x y:Int} {s:Nat} (hx:(I x).2.size≤s) (hy:(I y).2.size≤s):(I (x+y)).2.size≤s+1:=aBg (aLT (aCG hx) (aCG hy))
theorem aNZ {x y:Int} {s:Nat} (hx:(I x).2.size≤s) (hy:(I y).2.size≤s):(I (x - y)).2.size≤s+1:=aBg (aLU (aCG hx) (aCG hy))
theorem aOa {x y:Int} {s t:Nat} (hx:(I x).2.size≤s) (hy:(I y).2.size≤t):(I (x*y)).2.size≤s+t:=aBg (aLV (aCG hx) (aCG hy))
theorem aQg (n:Bool) (m:ByteArray) {s:Nat} (h:m.size≤s):(I (Z n m)).2.size≤s:=aQf n m h
theorem aKU {x s:Nat} (h:(N x).size≤s):Lib.nDigits x≤3*s+1:=aB6 (3*s) x (Nat.lt_of_lt_of_le ((aCT _ _).1 h) (by
 have h1:256 ^ s≤(10 ^ 3) ^ s:=Nat.pow_le_pow_left (by decide) _
 rw [← Nat.pow_mul] at h1
 exact Nat.le_trans h1 (Nat.pow_le_pow_right (by decide) (by omega))))
theorem aQh (z:Int):sg (!decide (z < 0)) z.natAbs=-z:=by
 unfold sg
 by_cases h:z < 0
 ·rw [decide_eq_true h,if_neg (by decide)]
  omega
 ·rw [decide_eq_false h,if_pos (by decide)]
  omega
def sgn (z:Int):Int:=if z < 0 then -1 else if z=0 then 0 else 1
def aDN (z:Int):ByteArray:=if z < 0 then (⟨#[45]⟩:ByteArray)++text z.natAbs else text z.natAbs
end Go.Proofs.YtkkjlpfomofiaaaGreatDoor.IntZ
