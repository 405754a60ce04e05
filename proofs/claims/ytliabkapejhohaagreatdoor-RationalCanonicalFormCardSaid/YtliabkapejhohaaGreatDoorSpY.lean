import Derived.Test.YtliabkapejhohaaGreatDoorSp3
namespace Go.Proofs.YtliabkapejhohaaGreatDoor.Sp
open Go Go.RowKit Go.Proofs.YtliabkapejhohaaGreatDoor.Sx Go.Proofs.YtliabkapejhohaaGreatDoor.NatA Go.Proofs.YtliabkapejhohaaGreatDoor.NatB Go.Proofs.YtliabkapejhohaaGreatDoor.NatC Go.Proofs.YtliabkapejhohaaGreatDoor.NatD Go.Proofs.YtliabkapejhohaaGreatDoor.NatI Go.Proofs.YtliabkapejhohaaGreatDoor.NatJ Go.Proofs.YtliabkapejhohaaGreatDoor.IntZ Go.Proofs.YtliabkapejhohaaGreatDoor.RatZ
theorem sq_div {s t : Nat} (hs : 1 ≤ s + t) {x y : Rat} (hx : Sq s x) (hy : Sq t y) : Sq (s + t) (x / y) := by
  rw [← Rat.num_divInt_den x, ← Rat.num_divInt_den y, divInt_div]
  exact Sq.divInt hs (hx.1.mul hy.2) (hx.2.mul hy.1)
theorem sq_sub {s t : Nat} {x y : Rat} (hx : Sq s x) (hy : Sq t y) : Sq (s + t + 1) (x - y) := by
  rw [Rat.sub_eq_add_neg]
  exact hx.add hy.neg
theorem sq_one : Sq 8 (Rat.divInt 1 1) := sq_i64 (by decide) (by decide) (by decide) (by decide) (by decide)
theorem rat_one : Rat.divInt 1 1 = 1 := rfl
theorem sgn_lt (z : Int) : sgn z < 0 ↔ z < 0 := by
  unfold sgn
  split
  · omega
  · split <;> omega
end Go.Proofs.YtliabkapejhohaaGreatDoor.Sp
