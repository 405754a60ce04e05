import Derived.Test.YtjefbecmeobegaaGreatDoorSpQ
import Derived.Test.YtjefbecmeobegaaGreatDoorSpG
import Derived.Test.YtjefbecmeobegaaGreatDoorSpS
import Derived.Test.YtjefbecmeobegaaGreatDoorTr1
namespace Go.Proofs.YtjefbecmeobegaaGreatDoor.Sp
open Go Go.RowKit Sx NatA NatB NatC NatD NatI NatJ IntZ RatZ
def F_below:Fct:=Rc 9000 fun _ y=>enc y
theorem aTU (n:Nat):Z false (N n)=(n:Int):=by
 unfold Z sg
 rw [if_neg (by decide),V_N]
theorem aMc {n:Nat} (h:(N n).size≤9000):aAn [b_ false,s_ (N n)]=some (enc (n:Int)):=by
 have:=I1.eq (lim:=19000) (g:=enc) (n:=false) (a:=N n) (by omega)
 rw [aTU] at this
 exact this
end Go.Proofs.YtjefbecmeobegaaGreatDoor.Sp
