import Derived.Test.YtjefbecmeobegaaGreatDoorNatJ
import Derived.Test.YtjefbecmeobegaaGreatDoorPx0
import Derived.Test.YtjefbecmeobegaaGreatDoorPxNA
import Derived.Test.YtjefbecmeobegaaGreatDoorPxND
import Derived.Test.YtjefbecmeobegaaGreatDoorPxNU
import Derived.Test.YtjefbecmeobegaaGreatDoorXQ
namespace Go.Proofs.YtjefbecmeobegaaGreatDoor.NatQ
open Go Go.RowKit YtjefbecmeobegaaGreatDoorW.PrintWords P NatA NatB NatC NatD NatE NatI NatJ
theorem gcd_step (x y:Nat):Nat.gcd y (x % y)=Nat.gcd x y:=by rw [Nat.gcd_comm y (x % y),<- Nat.gcd_rec,Nat.gcd_comm]
end Go.Proofs.YtjefbecmeobegaaGreatDoor.NatQ
