import Derived.Test.YtjefbecmeobegaaGreatDoorSpQ
import Derived.Test.YtjefbecmeobegaaGreatDoorSpG
namespace Go.Proofs.YtjefbecmeobegaaGreatDoor.Sp
open Go Go.RowKit Sx NatA NatB NatC NatD NatI NatJ IntZ RatZ
theorem aPQ {a b : Nat} (ha : a ≠ 0) (hb : b ≠ 0) (h : dnc a = dnc b) : a = b := by
 have h1 := aHt ha
 rw [h, aHt hb] at h1
 omega
theorem aNi (x y : Rat) : aAz [.bool (I x.num).1, .string (I x.num).2, .string (dnc x.den)] [.bool (I y.num).1, .string (I y.num).2, .string (dnc y.den)] = decide (x = y) := by
 have e : aAz [.bool (I x.num).1, .string (I x.num).2, .string (dnc x.den)] [.bool (I y.num).1, .string (I y.num).2, .string (dnc y.den)] = ((I x.num).1 == (I y.num).1 && (aAL (.string (I x.num).2) (.string (I y.num).2) && (aAL (.string (dnc x.den)) (.string (dnc y.den)) && true))) := rfl
 rw [e, aH7, aH7, Bool.eq_iff_iff, Bool.and_true, Bool.and_eq_true, Bool.and_eq_true, beq_iff_eq, decide_eq_true_iff, decide_eq_true_iff, decide_eq_true_iff]
 constructor
 ·rintro ⟨h1, h2, h3⟩
  exact Rat.ext (aOX.1 (Prod.ext h1 h2)) (aPQ x.den_nz y.den_nz h3)
 ·rintro rfl
  exact ⟨rfl, rfl, rfl⟩
end Go.Proofs.YtjefbecmeobegaaGreatDoor.Sp
