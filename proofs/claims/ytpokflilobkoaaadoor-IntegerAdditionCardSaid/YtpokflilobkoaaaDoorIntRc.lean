/- Signed integers, the reference: Cmp, Norm. -/
import Derived.Test.YtpokflilobkoaaaDoorIntR
import Derived.Test.YtpokflilobkoaaaDoorPxSC
namespace Go.Proofs.YtpokflilobkoaaaDoor.IntRc
open Go Go.RowKit Go.Proofs.YtpokflilobkoaaaDoorW.PrintWords Go.Proofs.YtpokflilobkoaaaDoorW.PrintLast Go.Proofs.YtpokflilobkoaaaDoor.P Go.Proofs.YtpokflilobkoaaaDoor.NatA Go.Proofs.YtpokflilobkoaaaDoor.NatB Go.Proofs.YtpokflilobkoaaaDoor.NatC Go.Proofs.YtpokflilobkoaaaDoor.NatD Go.Proofs.YtpokflilobkoaaaDoor.NatI Go.Proofs.YtpokflilobkoaaaDoor.NatJ Go.Proofs.YtpokflilobkoaaaDoor.NatK Go.Proofs.YtpokflilobkoaaaDoor.NatL Go.Proofs.YtpokflilobkoaaaDoor.IntA Go.Proofs.YtpokflilobkoaaaDoor.IntR

theorem rev_icmp (n1 : Bool) (m1 : ByteArray) (n2 : Bool) (m2 : ByteArray) (h1 : m1.size ≤ 50000) (h2 : m2.size ≤ 50000) : Ev (fun k => voussoirref02_Cmp.f k n1 m1 n2 m2) (sgn (Z n1 m1 - Z n2 m2)) := by
  unfold voussoirref02_Cmp.f
  refine Ev.bind (rev_isub n1 m1 n2 m2 h1 h2) ?_
  have := rev_isign (I (Z n1 m1 - Z n2 m2)).1 (I (Z n1 m1 - Z n2 m2)).2 (Nat.le_trans (I_sub_le (I_Z_le n1 m1 h1) (I_Z_le n2 m2 h2)) (by decide))
  rw [Z_I] at this
  exact Ev.bind this (Ev.now _)
theorem rev_inorm (n : Bool) (m : ByteArray) (hm : m.size ≤ 67108864) : Ev (fun k => voussoirref02_Norm.f k n m) (I (Z n m)) := Ev.bind (rof n m hm) (Ev.now _)
end Go.Proofs.YtpokflilobkoaaaDoor.IntRc
