/- What the laws of package integer share: equal integers, zero, signs. -/
import Derived.Test.YtpokflilobkoaaaDoorIntA
namespace Go.Proofs.YtpokflilobkoaaaDoor.IntL
open Go Go.RowKit Go.Proofs.YtpokflilobkoaaaDoorW.PrintWords Go.Proofs.YtpokflilobkoaaaDoorW.PrintLast Go.Proofs.YtpokflilobkoaaaDoor.P Go.Proofs.YtpokflilobkoaaaDoor.NatA Go.Proofs.YtpokflilobkoaaaDoor.NatB Go.Proofs.YtpokflilobkoaaaDoor.NatC Go.Proofs.YtpokflilobkoaaaDoor.NatJ Go.Proofs.YtpokflilobkoaaaDoor.IntA

theorem beq_I_of {x y : Int} (h : x = y) : ((I x).1 == (I y).1 && ((I x).2.toList == (I y).2.toList)) = true := by rw [h]; exact beq_I y
theorem beq_I_dec (x y : Int) : ((I x).1 == (I y).1 && ((I x).2.toList == (I y).2.toList)) = decide (x = y) := by
  by_cases h : x = y
  · rw [beq_I_of h, decide_eq_true h]
  · rw [decide_eq_false h, Bool.and_eq_false_iff]
    by_cases h1 : (I x).1 = (I y).1
    · right
      rw [beq_eq_false_iff_ne]
      intro e
      refine h (I_inj.1 (Prod.ext h1 (list_inj.1 e)))
    · left
      rw [beq_eq_false_iff_ne]
      exact h1
theorem zero_I : (!(I 0).1 && ((I 0).2.toList == ([] : List UInt8))) = true := by
  have h : (I 0).2.toList = ([] : List UInt8) := N_toList_nil.2 rfl
  rw [h]
  rfl
theorem zero_I_of {x : Int} (h : x = 0) : (!(I x).1 && ((I x).2.toList == ([] : List UInt8))) = true := by rw [h]; exact zero_I
theorem sgn_sign (z : Int) : sgn z = z.sign := by
  unfold sgn
  rcases Int.lt_trichotomy z 0 with h | h | h
  · rw [if_pos h, Int.sign_eq_neg_one_of_neg h]
  · rw [if_neg (by omega), if_pos h, h]
    rfl
  · rw [if_neg (by omega), if_neg (by omega), Int.sign_eq_one_of_pos h]
theorem sgn_mul (x y : Int) : sgn (x * y) = sgn x * sgn y := by rw [sgn_sign, sgn_sign, sgn_sign, Int.sign_mul]
theorem sgn_neg (x : Int) : sgn (-x) = -sgn x := by rw [sgn_sign, sgn_sign, Int.sign_neg]
theorem sgn_rng (x : Int) : -1 ≤ sgn x ∧ sgn x ≤ 1 := by
  unfold sgn
  split
  · omega
  · split <;> omega
theorem sgn_zero {x : Int} : sgn x = 0 ↔ x = 0 := by
  unfold sgn
  split
  · omega
  · split <;> omega
theorem sgn_lt {x : Int} : sgn x < 0 ↔ x < 0 := by
  unfold sgn
  split
  · omega
  · split <;> omega
end Go.Proofs.YtpokflilobkoaaaDoor.IntL
