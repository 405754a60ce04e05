/- Rationals: what the laws need besides. -/
import Derived.Test.YtliabkapejhohaaGreatDoorSp3
namespace Go.Proofs.YtliabkapejhohaaGreatDoor.Sp
open Go Go.RowKit Go.Proofs.YtliabkapejhohaaGreatDoor.Sx Go.Proofs.YtliabkapejhohaaGreatDoor.NatA Go.Proofs.YtliabkapejhohaaGreatDoor.NatB Go.Proofs.YtliabkapejhohaaGreatDoor.NatC Go.Proofs.YtliabkapejhohaaGreatDoor.NatD Go.Proofs.YtliabkapejhohaaGreatDoor.NatI Go.Proofs.YtliabkapejhohaaGreatDoor.NatJ Go.Proofs.YtliabkapejhohaaGreatDoor.IntZ Go.Proofs.YtliabkapejhohaaGreatDoor.RatZ

theorem sq_div {s t : Nat} (hs : 1 ≤ s + t) {x y : Rat} (hx : Sq s x) (hy : Sq t y) : Sq (s + t) (x / y) := by
  rw [← Rat.num_divInt_den x, ← Rat.num_divInt_den y, divInt_div]
  exact Sq.divInt hs (hx.1.mul hy.2) (hx.2.mul hy.1)
theorem sq_sub {s t : Nat} {x y : Rat} (hx : Sq s x) (hy : Sq t y) : Sq (s + t + 1) (x - y) := by
  rw [Rat.sub_eq_add_neg]
  exact hx.add hy.neg
theorem sq_one : Sq 8 (Rat.divInt 1 1) := sq_i64 (by decide) (by decide) (by decide) (by decide) (by decide)
theorem sq_zero : Sq 8 (Rat.divInt 0 1) := sq_i64 (by decide) (by decide) (by decide) (by decide) (by decide)
theorem rat_one : Rat.divInt 1 1 = 1 := rfl
theorem rat_zero : Rat.divInt 0 1 = 0 := Rat.zero_divInt 1
theorem ne_no {α : Type} [DecidableEq α] {x y : α} (h : x = y) : (!decide (x = y)) = false := by rw [decide_eq_true h]; rfl
theorem sgn_num_zero (q : Rat) : (sgn q.num = 0) ↔ q = 0 := by
  have := sgn_zero (z := q.num)
  rw [Bool.eq_iff_iff, beq_iff_eq, decide_eq_true_iff, Rat.num_eq_zero] at this
  exact this
theorem sgn_neg_int (z : Int) : sgn (-z) = -sgn z := by
  unfold sgn
  split <;> split <;> (try split) <;> (try split) <;> omega
theorem sgn_lt (z : Int) : sgn z < 0 ↔ z < 0 := by
  unfold sgn
  split
  · omega
  · split <;> omega
theorem sgn_mul_int (x y : Int) : sgn (x * y) = sgn x * sgn y := by
  have h : ∀ z : Int, sgn z = z.sign := fun z => by
    unfold sgn
    rcases Int.lt_trichotomy z 0 with g | g | g
    · rw [if_pos g, Int.sign_eq_neg_one_of_neg g]
    · rw [g]
      rfl
    · rw [if_neg (by omega), if_neg (by omega), Int.sign_eq_one_of_pos g]
  rw [h, h, h, Int.sign_mul]
theorem sgn_mul_rat (x y : Rat) : sgn (x * y).num = sgn x.num * sgn y.num := by
  conv => lhs; rw [← Rat.num_divInt_den x, ← Rat.num_divInt_den y, Rat.divInt_mul_divInt]
  rw [sgn_num (Int.mul_pos (by have := x.den_nz; omega) (by have := y.den_nz; omega)), sgn_mul_int]
end Go.Proofs.YtliabkapejhohaaGreatDoor.Sp
