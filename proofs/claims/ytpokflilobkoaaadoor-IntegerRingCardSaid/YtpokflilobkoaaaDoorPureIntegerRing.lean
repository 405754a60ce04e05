/- For every three integers the Go function IntegerRing answers true: the laws of a commutative ring hold. -/
import Derived.Test.YtpokflilobkoaaaDoorIntL
import Derived.Test.YtpokflilobkoaaaDoorIntAdd
import Derived.Test.YtpokflilobkoaaaDoorIntMul
import Derived.Test.YtpokflilobkoaaaDoorIntDiv
import Derived.Test.YtpokflilobkoaaaDoorPxVoussoirlaw02IntegerRing
namespace Go.Proofs.YtpokflilobkoaaaDoor.Pure
open Go.RowKit Go.Proofs.YtpokflilobkoaaaDoor.P Go.Proofs.YtpokflilobkoaaaDoorW.PrintWords Go.Proofs.YtpokflilobkoaaaDoorW.PrintLast Go.Proofs.YtpokflilobkoaaaDoor.NatA Go.Proofs.YtpokflilobkoaaaDoor.NatJ Go.Proofs.YtpokflilobkoaaaDoor.IntA Go.Proofs.YtpokflilobkoaaaDoor.IntL Go.Proofs.YtpokflilobkoaaaDoor.IntAdd Go.Proofs.YtpokflilobkoaaaDoor.IntMul Go.Proofs.YtpokflilobkoaaaDoor.IntDiv

theorem IntegerRing (n1 : Bool) (m1 : ByteArray) (n2 : Bool) (m2 : ByteArray) (n3 : Bool) (m3 : ByteArray) : ∃ k, voussoirlaw02_IntegerRing.f k n1 m1 n2 m2 n3 m3 = some true := by
  refine Ev.rounds (g := fun k => voussoirlaw02_IntegerRing.f k n1 m1 n2 m2 n3 m3) ?_
  have yes : Ev (fun k => voussoirlaw02_IntegerRing.j0 k true n1 m1 n2 m2 n3 m3) true := Ev.step (fun k => by rw [voussoirlaw02_IntegerRing.j0, if_pos rfl]) (Ev.bind ev_fixed (Ev.now _))
  by_cases h1 : (m1.size : Int) > 20
  · exact Ev.congr (fun k => if_pos h1) yes
  refine Ev.congr (fun k => if_neg h1) ?_
  by_cases h2 : (m2.size : Int) > 20
  · exact Ev.congr (fun k => if_pos h2) yes
  refine Ev.congr (fun k => if_neg h2) ?_
  by_cases h3 : (m3.size : Int) > 20
  · rw [decide_eq_true h3]
    exact yes
  rw [decide_eq_false h3]
  have s1 : m1.size ≤ 20 := by omega
  have s2 : m2.size ≤ 20 := by omega
  have s3 : m3.size ≤ 20 := by omega
  have z1 := I_Z_le n1 m1 s1
  have z2 := I_Z_le n2 m2 s2
  have z3 := I_Z_le n3 m3 s3
  have ab := ev_iadd n1 m1 n2 m2 (by omega) (by omega)
  have ba := ev_iadd n2 m2 n1 m1 (by omega) (by omega)
  have bc := ev_iadd n2 m2 n3 m3 (by omega) (by omega)
  have pab := ev_imul n1 m1 n2 m2 (by omega) (by omega)
  have pba := ev_imul n2 m2 n1 m1 (by omega) (by omega)
  have pbc := ev_imul n2 m2 n3 m3 (by omega) (by omega)
  have pac := ev_imul n1 m1 n3 m3 (by omega) (by omega)
  have sab := I_add_le z1 z2
  have sbc := I_add_le z2 z3
  have tab := I_mul_le z1 z2
  have tbc := I_mul_le z2 z3
  have tac := I_mul_le z1 z3
  have abc := ev_iadd (I (Z n1 m1 + Z n2 m2)).1 (I (Z n1 m1 + Z n2 m2)).2 n3 m3 (by omega) (by omega)
  have a_bc := ev_iadd n1 m1 (I (Z n2 m2 + Z n3 m3)).1 (I (Z n2 m2 + Z n3 m3)).2 (by omega) (by omega)
  have mabc := ev_imul (I (Z n1 m1 * Z n2 m2)).1 (I (Z n1 m1 * Z n2 m2)).2 n3 m3 (by omega) (by omega)
  have ma_bc := ev_imul n1 m1 (I (Z n2 m2 * Z n3 m3)).1 (I (Z n2 m2 * Z n3 m3)).2 (by omega) (by omega)
  have d1 := ev_imul n1 m1 (I (Z n2 m2 + Z n3 m3)).1 (I (Z n2 m2 + Z n3 m3)).2 (by omega) (by omega)
  have d2 := ev_iadd (I (Z n1 m1 * Z n2 m2)).1 (I (Z n1 m1 * Z n2 m2)).2 (I (Z n1 m1 * Z n3 m3)).1 (I (Z n1 m1 * Z n3 m3)).2 (by omega) (by omega)
  have sb := ev_isub (I (Z n1 m1 + Z n2 m2)).1 (I (Z n1 m1 + Z n2 m2)).2 n2 m2 (by omega) (by omega)
  have ng := ev_ineg n1 m1 (by omega)
  have sng : (I (-Z n1 m1)).2.size ≤ 20 := by show (NatA.N (-Z n1 m1).natAbs).size ≤ 20; rw [Int.natAbs_neg]; exact z1
  have ann := ev_iadd n1 m1 (I (-Z n1 m1)).1 (I (-Z n1 m1)).2 (by omega) (by omega)
  have one : (I 1).2.size ≤ 1 := (N_size 1 1).2 (by decide)
  have m1' := ev_imul n1 m1 (I 1).1 (I 1).2 (by omega) (by omega)
  have m0 := ev_imul n1 m1 false (⟨#[]⟩ : ByteArray) (by omega) (by decide)
  have nm := ev_inorm n1 m1 (by omega)
  rw [Z_I] at abc a_bc mabc ma_bc d1 sb ann m1'
  rw [Z_I, Z_I] at d2
  rw [Int.add_sub_cancel] at sb
  rw [Int.mul_one] at m1'
  rw [show Z false (⟨#[]⟩ : ByteArray) = 0 from rfl, Int.mul_zero] at m0
  refine Ev.step (fun k => by rw [voussoirlaw02_IntegerRing.j0, if_neg (by decide)]) ?_
  refine Ev.bind ab (Ev.bind abc (Ev.bind bc (Ev.bind a_bc (Ev.congr (fun k => if_pos (beq_I_of (Int.add_assoc _ _ _))) ?_))))
  refine Ev.bind ab (Ev.bind ba ?_)
  rw [beq_I_of (Int.add_comm (Z n1 m1) (Z n2 m2))]
  refine Ev.step (fun k => by rw [voussoirlaw02_IntegerRing.j1]) ?_
  refine Ev.bind pab (Ev.bind mabc (Ev.bind pbc (Ev.bind ma_bc (Ev.congr (fun k => if_pos (beq_I_of (Int.mul_assoc _ _ _))) ?_))))
  refine Ev.bind pab (Ev.bind pba ?_)
  rw [beq_I_of (Int.mul_comm (Z n1 m1) (Z n2 m2))]
  refine Ev.step (fun k => by rw [voussoirlaw02_IntegerRing.j2]) ?_
  refine Ev.bind bc (Ev.bind d1 (Ev.bind pab (Ev.bind pac (Ev.bind d2 (Ev.bind (ev_ifrom 1 (by decide) (by decide)) (Ev.bind ev_fixed ?_))))))
  refine Ev.congr (fun k => by rw [if_pos rfl, if_pos rfl, if_pos rfl, if_pos (beq_I_of (Int.mul_add _ _ _))]) ?_
  refine Ev.bind ab (Ev.bind sb (Ev.bind nm (Ev.congr (fun k => if_pos (beq_I _)) ?_)))
  refine Ev.bind ng (Ev.bind ann (Ev.congr (fun k => if_pos (zero_I_of (by omega))) ?_))
  refine Ev.bind m1' (Ev.bind nm (Ev.congr (fun k => if_pos (beq_I _)) ?_))
  refine Ev.bind m0 ?_
  rw [zero_I]
  exact Ev.now _
end Go.Proofs.YtpokflilobkoaaaDoor.Pure
