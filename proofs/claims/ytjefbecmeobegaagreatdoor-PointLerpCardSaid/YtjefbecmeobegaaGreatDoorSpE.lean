import Derived.Test.YtjefbecmeobegaaGreatDoorSpQ
import Derived.Test.YtjefbecmeobegaaGreatDoorSpG
namespace Go.Proofs.YtjefbecmeobegaaGreatDoor.Sp
open Go Go.RowKit Go.Proofs.YtjefbecmeobegaaGreatDoor.Sx Go.Proofs.YtjefbecmeobegaaGreatDoor.NatA Go.Proofs.YtjefbecmeobegaaGreatDoor.NatB Go.Proofs.YtjefbecmeobegaaGreatDoor.NatC Go.Proofs.YtjefbecmeobegaaGreatDoor.NatD Go.Proofs.YtjefbecmeobegaaGreatDoor.NatI Go.Proofs.YtjefbecmeobegaaGreatDoor.NatJ Go.Proofs.YtjefbecmeobegaaGreatDoor.IntZ Go.Proofs.YtjefbecmeobegaaGreatDoor.RatZ
theorem aQc {a b : Nat} (ha : a ≠ 0) (hb : b ≠ 0) (h : dnc a = dnc b) : a = b := by
 have h1 := aH9 ha
 rw [h, aH9 hb] at h1
 omega
theorem aND (x y : Rat) : aAz [.bool (I x.num).1, .string (I x.num).2, .string (dnc x.den)] [.bool (I y.num).1, .string (I y.num).2, .string (dnc y.den)] = decide (x = y) := by
 have e : aAz [.bool (I x.num).1, .string (I x.num).2, .string (dnc x.den)] [.bool (I y.num).1, .string (I y.num).2, .string (dnc y.den)] = ((I x.num).1 == (I y.num).1 && (aAO (.string (I x.num).2) (.string (I y.num).2) && (aAO (.string (dnc x.den)) (.string (dnc y.den)) && true))) := rfl
 rw [e, aHO, aHO, Bool.eq_iff_iff, Bool.and_true, Bool.and_eq_true, Bool.and_eq_true, beq_iff_eq, decide_eq_true_iff, decide_eq_true_iff, decide_eq_true_iff]
 constructor
 ·rintro ⟨h1, h2, h3⟩
  exact Rat.ext (aPq.1 (Prod.ext h1 h2)) (aQc x.den_nz y.den_nz h3)
 ·rintro rfl
  exact ⟨rfl, rfl, rfl⟩
end Go.Proofs.YtjefbecmeobegaaGreatDoor.Sp
