/- For every two integers the Go function IntegerMultiplication answers true: Mul and Div agree with the reference implementation. -/
import Derived.Test.YtpokflilobkoaaaDoorIntMul
import Derived.Test.YtpokflilobkoaaaDoorIntDiv
import Derived.Test.YtpokflilobkoaaaDoorIntG
import Derived.Test.YtpokflilobkoaaaDoorIntR
import Derived.Test.YtpokflilobkoaaaDoorIntRm
import Derived.Test.YtpokflilobkoaaaDoorIntRd
import Derived.Test.YtpokflilobkoaaaDoorPxVoussoirlaw02IntegerMultiplication
namespace Go.Proofs.YtpokflilobkoaaaDoor.Pure
open Go.RowKit Go.Proofs.YtpokflilobkoaaaDoor.P Go.Proofs.YtpokflilobkoaaaDoorW.PrintWords Go.Proofs.YtpokflilobkoaaaDoorW.PrintLast Go.Proofs.YtpokflilobkoaaaDoor.NatA Go.Proofs.YtpokflilobkoaaaDoor.NatJ Go.Proofs.YtpokflilobkoaaaDoor.IntA Go.Proofs.YtpokflilobkoaaaDoor.IntMul Go.Proofs.YtpokflilobkoaaaDoor.IntDiv Go.Proofs.YtpokflilobkoaaaDoor.IntG Go.Proofs.YtpokflilobkoaaaDoor.IntR Go.Proofs.YtpokflilobkoaaaDoor.IntRm Go.Proofs.YtpokflilobkoaaaDoor.IntRd

theorem IntegerMultiplication (n1 : Bool) (m1 : ByteArray) (n2 : Bool) (m2 : ByteArray) : ∃ k, voussoirlaw02_IntegerMultiplication.f k n1 m1 n2 m2 = some true := by
  refine Ev.rounds (g := fun k => voussoirlaw02_IntegerMultiplication.f k n1 m1 n2 m2) ?_
  obtain ⟨b, h0, h1, h2⟩ := great [⟨n1, m1⟩, ⟨n2, m2⟩] (by simp)
  refine Ev.bind h1 ?_
  rcases h0 with rfl | rfl
  · have s1 : m1.size ≤ 40 := h2 rfl 0 (by simp)
    have s2 : m2.size ≤ 40 := h2 rfl 1 (by simp)
    refine Ev.congr (fun k => if_neg (by decide)) ?_
    refine Ev.bind (ev_idiv n1 m1 n2 m2 (by omega) (by omega)) (Ev.bind (rev_idiv n1 m1 n2 m2 (by omega) (by omega)) (Ev.bind ev_fixed (Ev.congr (fun k => if_pos rfl) ?_)))
    refine Ev.bind (ev_imul n1 m1 n2 m2 (by omega) (by omega)) (Ev.bind (rev_imul n1 m1 n2 m2 (by omega)) (Ev.congr (fun k => if_pos (beq_I _)) ?_))
    generalize idivR (Z n1 m1) (Z n2 m2) = d
    refine Ev.congr (fun k => by rw [if_pos (by rw [beq_self_eq_true, beq_self_eq_true]; rfl), if_pos (by rw [beq_self_eq_true, beq_self_eq_true]; rfl), beq_self_eq_true]) (Ev.now _)
  · exact Ev.congr (fun k => if_pos (by decide)) (Ev.bind ev_fixed (Ev.now _))
end Go.Proofs.YtpokflilobkoaaaDoor.Pure
