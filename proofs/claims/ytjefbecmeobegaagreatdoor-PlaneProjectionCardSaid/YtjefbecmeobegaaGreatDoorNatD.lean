import Derived.Test.YtjefbecmeobegaaGreatDoorNatC
import Derived.Test.YtjefbecmeobegaaGreatDoorPx0
import Derived.Test.YtjefbecmeobegaaGreatDoorPxNA
import Derived.Test.YtjefbecmeobegaaGreatDoorPxNB
import Derived.Test.YtjefbecmeobegaaGreatDoorXQ
namespace Go.Proofs.YtjefbecmeobegaaGreatDoor.NatD
open Go Go.RowKit YtjefbecmeobegaaGreatDoorW.PrintWords P NatA NatB NatC
theorem aEp {l:List Int} {i:Nat} (h:l.length<=i):rd l (i:Int)=0:=by
 rw [aBU,List.getD_eq_getElem?_getD,List.getElem?_eq_none h]
 rfl
theorem aAl (B:Int) (l:List Int) (i:Nat):val B (l.take (i+1))=val B (l.take i)+B ^ i*rd l i:=by
 by_cases h:i < l.length
 ·exact aBC B l i h
 ·rw [aEp kJ,Int.mul_zero,Int.add_zero,List.take_of_length_le kJ,List.take_of_length_le kJ]
theorem aDG (a:ByteArray):(lb (V a)).length<=a.size:=by
 refine (aE5 _ _).2 (Nat.lt_of_lt_of_le (aDV a) ?_)
 exact Nat.pow_le_pow_left kQ _
theorem aKa {x y:Nat} (h:y<=x):(lb y).length<=(lb x).length:=(aE5 _ _).2 (Nat.lt_of_le_of_lt h ((aE5 x _).1 (Nat.le_refl _)))
theorem aEq {x y:Nat}:aBy x y < 0 ↔ x < y:=by
 unfold aBy
 split
 ·simp [*]
 ·split<;>simp<;>omega
def aDz (x y:Nat):ByteArray × Bool:=if x < y then ((⟨#[]⟩:ByteArray),false) else (N (x - y),true)
end Go.Proofs.YtjefbecmeobegaaGreatDoor.NatD
