/- Signed integers: Mul. -/
import Derived.Test.YtpokflilobkoaaaDoorIntA
import Derived.Test.YtpokflilobkoaaaDoorPxIntegerMul
namespace Go.Proofs.YtpokflilobkoaaaDoor.IntMul
open Go Go.RowKit Go.Proofs.YtpokflilobkoaaaDoorW.PrintWords Go.Proofs.YtpokflilobkoaaaDoorW.PrintLast Go.Proofs.YtpokflilobkoaaaDoor.P Go.Proofs.YtpokflilobkoaaaDoor.NatA Go.Proofs.YtpokflilobkoaaaDoor.NatB Go.Proofs.YtpokflilobkoaaaDoor.NatC Go.Proofs.YtpokflilobkoaaaDoor.NatD Go.Proofs.YtpokflilobkoaaaDoor.NatI Go.Proofs.YtpokflilobkoaaaDoor.NatJ Go.Proofs.YtpokflilobkoaaaDoor.IntA

theorem ev_imul (n1 : Bool) (m1 : ByteArray) (n2 : Bool) (m2 : ByteArray) (h1 : m1.size ≤ 65536) (h2 : m2.size ≤ 65536) : Ev (fun k => integer_Mul.f k n1 m1 n2 m2) (I (Z n1 m1 * Z n2 m2)) := by
  have s1 := I_size n1 m1 h1
  have s2 := I_size n2 m2 h2
  unfold integer_Mul.f
  refine Ev.bind (ev_inorm n1 m1 (by omega)) (Ev.bind (ev_inorm n2 m2 (by omega)) ?_)
  generalize Z n1 m1 = x at *
  generalize Z n2 m2 = y at *
  have a := ev_mul (N x.natAbs) (N y.natAbs) s1 s2
  rw [V_N, V_N] at a
  refine Ev.bind a (Ev.congr (fun k => by show (integer_of.f (decide (x < 0) != decide (y < 0)) _).bind _ = _; rw [iof, Option.bind_some, sg_times]) (Ev.now _))
end Go.Proofs.YtpokflilobkoaaaDoor.IntMul
