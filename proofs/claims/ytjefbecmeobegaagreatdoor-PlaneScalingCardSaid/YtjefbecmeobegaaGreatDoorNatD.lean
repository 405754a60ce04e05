import Derived.Test.YtjefbecmeobegaaGreatDoorNatC
import Derived.Test.YtjefbecmeobegaaGreatDoorPx0
import Derived.Test.YtjefbecmeobegaaGreatDoorPxNA
import Derived.Test.YtjefbecmeobegaaGreatDoorPxNB
import Derived.Test.YtjefbecmeobegaaGreatDoorXQ
namespace Go.Proofs.YtjefbecmeobegaaGreatDoor.NatD
open Go Go.RowKit YtjefbecmeobegaaGreatDoorW.PrintWords P NatA NatB NatC
theorem aEd {l:List Int} {i:Nat} (h:l.length≤i):rd l (i:Int)=0:=by
 rw [aBJ,List.getD_eq_getElem?_getD,List.getElem?_eq_none h]
 rfl
theorem aAi (B:Int) (l:List Int) (i:Nat):val B (l.take (i+1))=val B (l.take i)+B ^ i*rd l i:=by
 by_cases h:i < l.length
 ·exact aB3 B l i h
 ·rw [aEd (by omega),Int.mul_zero,Int.add_zero,List.take_of_length_le (by omega),List.take_of_length_le (by omega)]
theorem aD5 (a:ByteArray):(lb (V a)).length≤a.size:=by
 refine (aEw _ _).2 (Nat.lt_of_lt_of_le (aDH a) ?_)
 exact Nat.pow_le_pow_left (by decide) _
theorem aJ5 {x y:Nat} (h:y≤x):(lb y).length≤(lb x).length:=(aEw _ _).2 (Nat.lt_of_le_of_lt h ((aEw x _).1 (Nat.le_refl _)))
theorem aEe {x y:Nat}:aBm x y < 0 ↔ x < y:=by
 unfold aBm
 split
 ·simp [*]
 ·split<;>simp<;>omega
def aDm (x y:Nat):ByteArray × Bool:=if x < y then ((⟨#[]⟩:ByteArray),false) else (N (x - y),true)
end Go.Proofs.YtjefbecmeobegaaGreatDoor.NatD
