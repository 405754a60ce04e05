/- For every three integers the Go function IntegerOrder answers true: Cmp is an order that Add preserves and that Mul scales by a sign. -/
import Derived.Test.YtpokflilobkoaaaDoorIntL
import Derived.Test.YtpokflilobkoaaaDoorIntAdd
import Derived.Test.YtpokflilobkoaaaDoorIntMul
import Derived.Test.YtpokflilobkoaaaDoorIntDiv
import Derived.Test.YtpokflilobkoaaaDoorIntSgn
import Derived.Test.YtpokflilobkoaaaDoorPxVoussoirlaw02IntegerOrder
namespace Go.Proofs.YtpokflilobkoaaaDoor.Pure
open Go.RowKit Go.Proofs.YtpokflilobkoaaaDoor.P Go.Proofs.YtpokflilobkoaaaDoorW.PrintWords Go.Proofs.YtpokflilobkoaaaDoorW.PrintLast Go.Proofs.YtpokflilobkoaaaDoor.NatA Go.Proofs.YtpokflilobkoaaaDoor.NatJ Go.Proofs.YtpokflilobkoaaaDoor.IntA Go.Proofs.YtpokflilobkoaaaDoor.IntL Go.Proofs.YtpokflilobkoaaaDoor.IntAdd Go.Proofs.YtpokflilobkoaaaDoor.IntMul Go.Proofs.YtpokflilobkoaaaDoor.IntDiv Go.Proofs.YtpokflilobkoaaaDoor.IntSgn

theorem IntegerOrder (n1 : Bool) (m1 : ByteArray) (n2 : Bool) (m2 : ByteArray) (n3 : Bool) (m3 : ByteArray) : ∃ k, voussoirlaw02_IntegerOrder.f k n1 m1 n2 m2 n3 m3 = some true := by
  refine Ev.rounds (g := fun k => voussoirlaw02_IntegerOrder.f k n1 m1 n2 m2 n3 m3) ?_
  have yes : Ev (fun k => voussoirlaw02_IntegerOrder.j0 k true n1 m1 n2 m2 n3 m3) true := Ev.step (fun k => by rw [voussoirlaw02_IntegerOrder.j0, if_pos rfl]) (Ev.bind ev_fixed (Ev.now _))
  by_cases h1 : (m1.size : Int) > 20
  · exact Ev.congr (fun k => if_pos h1) yes
  refine Ev.congr (fun k => if_neg h1) ?_
  by_cases h2 : (m2.size : Int) > 20
  · exact Ev.congr (fun k => if_pos h2) yes
  refine Ev.congr (fun k => if_neg h2) ?_
  by_cases h3 : (m3.size : Int) > 20
  · rw [decide_eq_true h3]
    exact yes
  rw [decide_eq_false h3]
  have s1 : m1.size ≤ 20 := by omega
  have s2 : m2.size ≤ 20 := by omega
  have s3 : m3.size ≤ 20 := by omega
  have z1 := I_Z_le n1 m1 s1
  have z2 := I_Z_le n2 m2 s2
  have z3 := I_Z_le n3 m3 s3
  have c12 := ev_icmp n1 m1 n2 m2 (by omega) (by omega)
  have c21 := ev_icmp n2 m2 n1 m1 (by omega) (by omega)
  have nm1 := ev_inorm n1 m1 (by omega)
  have nm2 := ev_inorm n2 m2 (by omega)
  have sb := ev_isub n1 m1 n2 m2 (by omega) (by omega)
  have ssb := I_sub_le z1 z2
  have sg1 := ev_isign (I (Z n1 m1 - Z n2 m2)).1 (I (Z n1 m1 - Z n2 m2)).2 (by omega)
  have sg3 := ev_isign n3 m3 (by omega)
  have a13 := ev_iadd n1 m1 n3 m3 (by omega) (by omega)
  have a23 := ev_iadd n2 m2 n3 m3 (by omega) (by omega)
  have p13 := ev_imul n1 m1 n3 m3 (by omega) (by omega)
  have p23 := ev_imul n2 m2 n3 m3 (by omega) (by omega)
  have sa13 := I_add_le z1 z3
  have sa23 := I_add_le z2 z3
  have sp13 := I_mul_le z1 z3
  have sp23 := I_mul_le z2 z3
  have ca := ev_icmp (I (Z n1 m1 + Z n3 m3)).1 (I (Z n1 m1 + Z n3 m3)).2 (I (Z n2 m2 + Z n3 m3)).1 (I (Z n2 m2 + Z n3 m3)).2 (by omega) (by omega)
  have cp := ev_icmp (I (Z n1 m1 * Z n3 m3)).1 (I (Z n1 m1 * Z n3 m3)).2 (I (Z n2 m2 * Z n3 m3)).1 (I (Z n2 m2 * Z n3 m3)).2 (by omega) (by omega)
  rw [Z_I] at sg1
  rw [Z_I, Z_I] at ca cp
  rw [show Z n1 m1 + Z n3 m3 - (Z n2 m2 + Z n3 m3) = Z n1 m1 - Z n2 m2 by omega] at ca
  rw [← Int.sub_mul, sgn_mul, Int.mul_comm (sgn (Z n1 m1 - Z n2 m2))] at cp
  have e21 : sgn (Z n2 m2 - Z n1 m1) = -sgn (Z n1 m1 - Z n2 m2) := by rw [← sgn_neg, Int.neg_sub]
  rw [e21] at c21
  have r := sgn_rng (Z n1 m1 - Z n2 m2)
  have r3 := sgn_rng (Z n3 m3)
  have e0 : (sgn (Z n1 m1 - Z n2 m2) == 0) = decide (Z n1 m1 = Z n2 m2) := by
    rw [Bool.eq_iff_iff, beq_iff_eq, sgn_zero, decide_eq_true_iff]
    omega
  obtain ⟨c, hc⟩ : ∃ c, c = sgn (Z n1 m1 - Z n2 m2) := ⟨_, rfl⟩
  obtain ⟨d, hd⟩ : ∃ d, d = sgn (Z n3 m3) := ⟨_, rfl⟩
  rw [← hc] at c12 c21 sg1 ca cp r e0
  rw [← hd] at sg3 cp r3
  have hdc : -1 ≤ d * c ∧ d * c ≤ 1 := by
    have h1 : d = -1 ∨ d = 0 ∨ d = 1 := by omega
    rcases h1 with h | h | h <;> rw [h] <;> omega
  refine Ev.step (fun k => by rw [voussoirlaw02_IntegerOrder.j0, if_neg (by decide)]) ?_
  refine Ev.bind c12 (Ev.congr (fun k => by rw [if_neg (by omega), if_neg (by omega)]) ?_)
  refine Ev.bind c21 (Ev.congr (fun k => if_pos (by unfold wrap64; omega)) ?_)
  refine Ev.bind nm1 (Ev.bind nm2 (Ev.congr (fun k => if_neg (by rw [e0, beq_I_dec, bne_self_eq_false]; decide)) ?_))
  refine Ev.bind sb (Ev.bind sg1 ?_)
  rw [bne_self_eq_false]
  refine Ev.step (fun k => by rw [voussoirlaw02_IntegerOrder.j1, if_neg (by decide)]) ?_
  refine Ev.bind sg3 (Ev.bind ev_fixed (Ev.congr (fun k => if_pos rfl) ?_))
  refine Ev.bind a13 (Ev.bind a23 (Ev.bind ca (Ev.congr (fun k => if_pos rfl) ?_)))
  refine Ev.bind p13 (Ev.bind p23 (Ev.bind cp ?_))
  rw [show wrap64 (d * c) = d * c by unfold wrap64; omega, beq_self_eq_true]
  exact Ev.now _
end Go.Proofs.YtpokflilobkoaaaDoor.Pure
