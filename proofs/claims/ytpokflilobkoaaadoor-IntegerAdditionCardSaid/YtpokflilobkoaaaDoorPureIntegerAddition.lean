/- For every two integers the Go function IntegerAddition answers true: Add, Sub, Neg, Cmp, Sign and Normalize agree with the reference implementation. -/
import Derived.Test.YtpokflilobkoaaaDoorIntAdd
import Derived.Test.YtpokflilobkoaaaDoorIntSgn
import Derived.Test.YtpokflilobkoaaaDoorIntDiv
import Derived.Test.YtpokflilobkoaaaDoorIntG
import Derived.Test.YtpokflilobkoaaaDoorIntR
import Derived.Test.YtpokflilobkoaaaDoorIntRc
import Derived.Test.YtpokflilobkoaaaDoorPxVoussoirlaw02IntegerAddition
namespace Go.Proofs.YtpokflilobkoaaaDoor.Pure
open Go.RowKit Go.Proofs.YtpokflilobkoaaaDoor.P Go.Proofs.YtpokflilobkoaaaDoorW.PrintWords Go.Proofs.YtpokflilobkoaaaDoorW.PrintLast Go.Proofs.YtpokflilobkoaaaDoor.NatA Go.Proofs.YtpokflilobkoaaaDoor.NatJ Go.Proofs.YtpokflilobkoaaaDoor.IntA Go.Proofs.YtpokflilobkoaaaDoor.IntAdd Go.Proofs.YtpokflilobkoaaaDoor.IntSgn Go.Proofs.YtpokflilobkoaaaDoor.IntDiv Go.Proofs.YtpokflilobkoaaaDoor.IntG Go.Proofs.YtpokflilobkoaaaDoor.IntR Go.Proofs.YtpokflilobkoaaaDoor.IntRc

theorem IntegerAddition (n1 : Bool) (m1 : ByteArray) (n2 : Bool) (m2 : ByteArray) : ∃ k, voussoirlaw02_IntegerAddition.f k n1 m1 n2 m2 = some true := by
  refine Ev.rounds (g := fun k => voussoirlaw02_IntegerAddition.f k n1 m1 n2 m2) ?_
  obtain ⟨b, h0, h1, h2⟩ := great [⟨n1, m1⟩, ⟨n2, m2⟩] (by simp)
  refine Ev.bind h1 ?_
  rcases h0 with rfl | rfl
  · have s1 : m1.size ≤ 40 := h2 rfl 0 (by simp)
    have s2 : m2.size ≤ 40 := h2 rfl 1 (by simp)
    refine Ev.congr (fun k => if_neg (by decide)) ?_
    refine Ev.bind ev_fixed (Ev.congr (fun k => if_pos rfl) ?_)
    refine Ev.bind (ev_iadd n1 m1 n2 m2 (by omega) (by omega)) (Ev.bind (rev_iadd n1 m1 n2 m2 (by omega) (by omega)) (Ev.congr (fun k => if_pos (beq_I _)) ?_))
    refine Ev.bind (ev_isub n1 m1 n2 m2 (by omega) (by omega)) (Ev.bind (rev_isub n1 m1 n2 m2 (by omega) (by omega)) (Ev.congr (fun k => if_pos (beq_I _)) ?_))
    refine Ev.bind (ev_ineg n1 m1 (by omega)) (Ev.bind (rev_ineg n1 m1 (by omega)) (Ev.congr (fun k => if_pos (beq_I _)) ?_))
    refine Ev.bind (ev_icmp n1 m1 n2 m2 (by omega) (by omega)) (Ev.bind (rev_icmp n1 m1 n2 m2 (by omega) (by omega)) (Ev.congr (fun k => if_pos rfl) ?_))
    refine Ev.bind (ev_isign n1 m1 (by omega)) (Ev.bind (rev_isign n1 m1 (by omega)) (Ev.congr (fun k => if_pos rfl) ?_))
    refine Ev.bind (ev_inorm n1 m1 (by omega)) (Ev.bind (rev_inorm n1 m1 (by omega)) ?_)
    rw [beq_I]
    exact Ev.now _
  · exact Ev.congr (fun k => if_pos (by decide)) (Ev.bind ev_fixed (Ev.now _))
end Go.Proofs.YtpokflilobkoaaaDoor.Pure
