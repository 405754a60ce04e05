import Derived.Test.YtliabkapejhohaaGreatDoorSpY
import Derived.Test.YtliabkapejhohaaGreatDoorSp4
namespace Go.Proofs.YtliabkapejhohaaGreatDoor.Sp
open Go Go.RowKit Go.Proofs.YtliabkapejhohaaGreatDoor.Sx Go.Proofs.YtliabkapejhohaaGreatDoor.NatA Go.Proofs.YtliabkapejhohaaGreatDoor.NatB Go.Proofs.YtliabkapejhohaaGreatDoor.NatC Go.Proofs.YtliabkapejhohaaGreatDoor.NatD Go.Proofs.YtliabkapejhohaaGreatDoor.NatI Go.Proofs.YtliabkapejhohaaGreatDoor.NatJ Go.Proofs.YtliabkapejhohaaGreatDoor.IntZ Go.Proofs.YtliabkapejhohaaGreatDoor.RatZ
def tbW : Tb := tbU13 ++ tbT3
theorem okW : TbOk Tryz.prog X.G tbW := TbOk.app okU13 okT3
theorem divInt_one (w : Int) : Rat.divInt w 1 = (w : Rat) := by
  rw [Rat.divInt_eq_div]
  grind
theorem floor_sz {s : Nat} {q : Rat} (h : Sq s q) : Sz s q.floor := by
  refine h.1.abs ?_
  rw [Rat.floor_def]
  exact Int.natAbs_ediv_le_natAbs _ _
theorem floor_ge (x : Rat) : sgn (x - Rat.divInt x.floor 1).num ≥ 0 := by
  have h1 := mt (sgn_lt (x - Rat.divInt x.floor 1).num).1
  have h2 : 0 ≤ x - Rat.divInt x.floor 1 := by
    rw [divInt_one]
    have := Rat.floor_le x
    grind
  have h3 := Rat.num_nonneg.2 h2
  have := h1 (by omega)
  omega
theorem floor_lt (x : Rat) : sgn (x - Rat.divInt x.floor 1 - Rat.divInt 1 1).num < 0 := by
  rw [sgn_lt]
  have h1 : ¬ 0 ≤ x - Rat.divInt x.floor 1 - Rat.divInt 1 1 := by
    rw [divInt_one, rat_one]
    have := Rat.lt_floor_add_one x
    rw [Rat.intCast_add] at this
    grind
  have := mt Rat.num_nonneg.1 h1
  omega
end Go.Proofs.YtliabkapejhohaaGreatDoor.Sp
