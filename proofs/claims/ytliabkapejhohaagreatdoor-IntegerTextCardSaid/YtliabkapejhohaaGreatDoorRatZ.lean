import Derived.Test.YtliabkapejhohaaGreatDoorIntZ
namespace Go.Proofs.YtliabkapejhohaaGreatDoor.RatZ
open Go Go.RowKit Go.Proofs.YtliabkapejhohaaGreatDoor.NatA Go.Proofs.YtliabkapejhohaaGreatDoor.NatB Go.Proofs.YtliabkapejhohaaGreatDoor.NatC Go.Proofs.YtliabkapejhohaaGreatDoor.NatD Go.Proofs.YtliabkapejhohaaGreatDoor.NatI Go.Proofs.YtliabkapejhohaaGreatDoor.NatJ Go.Proofs.YtliabkapejhohaaGreatDoor.IntZ
def Sz (s : Nat) (z : Int) : Prop := (I z).2.size ≤ s
theorem Sz.le {s t : Nat} {z : Int} (h : Sz s z) (hs : s ≤ t) : Sz t z := Nat.le_trans h hs
theorem Sz.of {s : Nat} {n : Bool} {a : ByteArray} (h : a.size ≤ s) : Sz s (Z n a) := I_Z_le n a h
theorem Sz.neg {s : Nat} {z : Int} (h : Sz s z) : Sz s (-z) := by unfold Sz I at *; rw [Int.natAbs_neg]; exact h
theorem Sz.add {s t : Nat} {x y : Int} (hx : Sz s x) (hy : Sz t y) : Sz (s + t + 1) (x + y) := I_add_le (s := s + t) (hx.le (by omega)) (hy.le (by omega))
theorem Sz.sub {s t : Nat} {x y : Int} (hx : Sz s x) (hy : Sz t y) : Sz (s + t + 1) (x - y) := I_sub_le (s := s + t) (hx.le (by omega)) (hy.le (by omega))
theorem Sz.mul {s t : Nat} {x y : Int} (hx : Sz s x) (hy : Sz t y) : Sz (s + t) (x * y) := I_mul_le hx hy
theorem Sz.abs {s : Nat} {x y : Int} (h : Sz s x) (hy : y.natAbs ≤ x.natAbs) : Sz s y := size_of_natAbs (Nat.lt_of_le_of_lt hy (lt_of_I h))
theorem Sz.i64 {n : Int} (h0 : -9223372036854775808 ≤ n) (h1 : n ≤ 9223372036854775807) : Sz 8 n := size_of_natAbs (by
  have : (256 : Nat) ^ 8 = 18446744073709551616 := by decide
  omega)
theorem Sz.one : Sz 1 1 := size_of_natAbs (by decide)
def dn (b : ByteArray) : Int := if V b = 0 then 1 else (V b : Int)
theorem Sz.dn {s : Nat} {b : ByteArray} (h : b.size ≤ s) (hs : 1 ≤ s) : Sz s (dn b) := by
  unfold RatZ.dn
  split
  · exact Sz.one.le hs
  · exact Sz.of (n := false) h
def Sq (s : Nat) (q : Rat) : Prop := Sz s q.num ∧ Sz s q.den
theorem Sq.le {s t : Nat} {q : Rat} (h : Sq s q) (hs : s ≤ t) : Sq t q := ⟨h.1.le hs, h.2.le hs⟩
theorem Sq.divInt {s : Nat} (hs : 1 ≤ s) {x y : Int} (hx : Sz s x) (hy : Sz s y) : Sq s (Rat.divInt x y) := by
  constructor
  · refine hx.abs ?_
    rw [Rat.num_divInt]
    refine Nat.le_trans (Int.natAbs_ediv_le_natAbs _ _) ?_
    rw [Int.natAbs_mul, Int.natAbs_sign]
    split
    · omega
    · omega
  · rw [Rat.den_divInt]
    by_cases h : y = 0
    · rw [if_pos h]
      exact Sz.one.le hs
    · rw [if_neg h]
      refine hy.abs ?_
      rw [Int.natAbs_natCast]
      exact Nat.div_le_self _ _
theorem den_ne (q : Rat) : (q.den : Int) ≠ 0 := by
  have := q.den_nz
  omega
theorem Sq.add {s t : Nat} {x y : Rat} (hx : Sq s x) (hy : Sq t y) : Sq (s + t + 1) (x + y) := by
  rw [← Rat.num_divInt_den x, ← Rat.num_divInt_den y, Rat.divInt_add_divInt _ _ (den_ne x) (den_ne y)]
  exact Sq.divInt (by omega) (I_add_le (hx.1.mul hy.2) ((hy.1.mul hx.2).le (by omega))) ((hx.2.mul hy.2).le (by omega))
theorem Sq.neg {s : Nat} {x : Rat} (hx : Sq s x) : Sq s (-x) := ⟨hx.1.neg, hx.2⟩
theorem Sq.mul {s t : Nat} (hs : 1 ≤ s + t) {x y : Rat} (hx : Sq s x) (hy : Sq t y) : Sq (s + t) (x * y) := by
  rw [← Rat.num_divInt_den x, ← Rat.num_divInt_den y, Rat.divInt_mul_divInt]
  exact Sq.divInt hs (hx.1.mul hy.1) (hx.2.mul hy.2)
end Go.Proofs.YtliabkapejhohaaGreatDoor.RatZ
