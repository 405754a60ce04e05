/- Signed integers, the reference: Mul. -/
import Derived.Test.YtpokflilobkoaaaDoorIntR
import Derived.Test.YtpokflilobkoaaaDoorPxVoussoirref02Mul
namespace Go.Proofs.YtpokflilobkoaaaDoor.IntRm
open Go Go.RowKit Go.Proofs.YtpokflilobkoaaaDoorW.PrintWords Go.Proofs.YtpokflilobkoaaaDoorW.PrintLast Go.Proofs.YtpokflilobkoaaaDoor.P Go.Proofs.YtpokflilobkoaaaDoor.NatA Go.Proofs.YtpokflilobkoaaaDoor.NatB Go.Proofs.YtpokflilobkoaaaDoor.NatC Go.Proofs.YtpokflilobkoaaaDoor.NatD Go.Proofs.YtpokflilobkoaaaDoor.NatI Go.Proofs.YtpokflilobkoaaaDoor.NatJ Go.Proofs.YtpokflilobkoaaaDoor.NatK Go.Proofs.YtpokflilobkoaaaDoor.NatL Go.Proofs.YtpokflilobkoaaaDoor.IntA Go.Proofs.YtpokflilobkoaaaDoor.IntR

theorem rev_imul (n1 : Bool) (m1 : ByteArray) (n2 : Bool) (m2 : ByteArray) (hs : m1.size + m2.size ≤ 65536) : Ev (fun k => voussoirref02_Mul.f k n1 m1 n2 m2) (I (Z n1 m1 * Z n2 m2)) := by
  unfold voussoirref02_Mul.f Z
  rw [sg_mul]
  exact Ev.bind (rev_mul m1 m2 hs) (Ev.bind (rof_N _ _ (Nat.le_trans (N_size_mul m1 m2) (by omega))) (Ev.now _))
end Go.Proofs.YtpokflilobkoaaaDoor.IntRm
