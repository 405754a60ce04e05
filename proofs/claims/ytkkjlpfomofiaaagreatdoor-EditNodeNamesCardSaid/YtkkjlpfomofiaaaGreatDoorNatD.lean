import Derived.Test.YtkkjlpfomofiaaaGreatDoorNatC
import Derived.Test.YtkkjlpfomofiaaaGreatDoorPx0
import Derived.Test.YtkkjlpfomofiaaaGreatDoorPxNA
import Derived.Test.YtkkjlpfomofiaaaGreatDoorPxNB
import Derived.Test.YtkkjlpfomofiaaaGreatDoorXQ
namespace Go.Proofs.YtkkjlpfomofiaaaGreatDoor.NatD
open Go Go.RowKit YtkkjlpfomofiaaaGreatDoorW.PrintWords P NatA NatB NatC
theorem aEj {l:List Int} {i:Nat} (h:l.length≤i):rd l (i:Int)=0:=by
 rw [aBa,List.getD_eq_getElem?_getD,List.getElem?_eq_none h]
 rfl
theorem aAg (B:Int) (l:List Int) (i:Nat):val B (l.take (i+1))=val B (l.take i)+B ^ i*rd l i:=by
 by_cases h:i < l.length
 ·exact aAS B l i h
 ·rw [aEj (by omega),Int.mul_zero,Int.add_zero,List.take_of_length_le (by omega),List.take_of_length_le (by omega)]
theorem aC9 (a:ByteArray):(lb (V a)).length≤a.size:=by
 refine (aCS _ _).2 (Nat.lt_of_lt_of_le (aLP a) ?_)
 exact Nat.pow_le_pow_left (by decide) _
theorem aKN {x y:Nat} (h:y≤x):(lb y).length≤(lb x).length:=(aCS _ _).2 (Nat.lt_of_le_of_lt h ((aCS x _).1 (Nat.le_refl _)))
theorem aJE {x y:Nat}:aD0 x y < 0 ↔ x < y:=by
 unfold aD0
 split
 ·simp [*]
 ·split<;>simp<;>omega
end Go.Proofs.YtkkjlpfomofiaaaGreatDoor.NatD
