import Derived.Test.YtjefbecmeobegaaGreatDoorNatC
import Derived.Test.YtjefbecmeobegaaGreatDoorPx0
import Derived.Test.YtjefbecmeobegaaGreatDoorPxNA
import Derived.Test.YtjefbecmeobegaaGreatDoorPxNB
import Derived.Test.YtjefbecmeobegaaGreatDoorXQ
namespace Go.Proofs.YtjefbecmeobegaaGreatDoor.NatD
open Go Go.RowKit YtjefbecmeobegaaGreatDoorW.PrintWords P NatA NatB NatC
theorem aEq {l:List Int} {i:Nat} (h:l.length<=i):rd l (i:Int)=0:=by
 rw [aBU,List.getD_eq_getElem?_getD,List.getElem?_eq_none h]
 rfl
theorem aAk (B:Int) (l:List Int) (i:Nat):val B (l.take (i+1))=val B (l.take i)+B ^ i*rd l i:=by
 by_cases h:i < l.length
 ·exact aBD B l i h
 ·rw [aEq kJ,Int.mul_zero,Int.add_zero,List.take_of_length_le kJ,List.take_of_length_le kJ]
theorem aDM (a:ByteArray):(lb (V a)).length<=a.size:=by
 refine (aEB _ _).2 (Nat.lt_of_lt_of_le (aDZ a) ?_)
 exact Nat.pow_le_pow_left kQ _
theorem aJZ {x y:Nat} (h:y<=x):(lb y).length<=(lb x).length:=(aEB _ _).2 (Nat.lt_of_le_of_lt h ((aEB x _).1 (Nat.le_refl _)))
theorem aEr {x y:Nat}:aBu x y < 0 ↔ x < y:=by
 unfold aBu
 split
 ·simp [*]
 ·split<;>simp<;>omega
def aD0 (x y:Nat):ByteArray × Bool:=if x < y then ((⟨#[]⟩:ByteArray),false) else (N (x - y),true)
end Go.Proofs.YtjefbecmeobegaaGreatDoor.NatD
