import Derived.Test.YtkkjlpfomofiaaaGreatDoorNatJ
import Derived.Test.YtkkjlpfomofiaaaGreatDoorPx0
import Derived.Test.YtkkjlpfomofiaaaGreatDoorPxNA
import Derived.Test.YtkkjlpfomofiaaaGreatDoorPxND
import Derived.Test.YtkkjlpfomofiaaaGreatDoorPxNU
import Derived.Test.YtkkjlpfomofiaaaGreatDoorXQ
namespace Go.Proofs.YtkkjlpfomofiaaaGreatDoor.NatQ
open Go Go.RowKit YtkkjlpfomofiaaaGreatDoorW.PrintWords P NatA NatB NatC NatD NatE NatI NatJ
theorem gcd_step (x y:Nat):Nat.gcd y (x % y)=Nat.gcd x y:=by rw [Nat.gcd_comm y (x % y),← Nat.gcd_rec,Nat.gcd_comm]
end Go.Proofs.YtkkjlpfomofiaaaGreatDoor.NatQ
