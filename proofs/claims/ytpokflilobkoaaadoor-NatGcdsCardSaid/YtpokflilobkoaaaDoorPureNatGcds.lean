/- For every input of two strings the Go function NatGcds answers true: Gcd agrees with the reference implementation. -/
import Derived.Test.YtpokflilobkoaaaDoorNatM
import Derived.Test.YtpokflilobkoaaaDoorPx10LNatGcds
namespace Go.Proofs.YtpokflilobkoaaaDoor.Pure
open Go.RowKit Go.Proofs.YtpokflilobkoaaaDoor.P Go.Proofs.YtpokflilobkoaaaDoorW.PrintWords Go.Proofs.YtpokflilobkoaaaDoorW.PrintLast Go.Proofs.YtpokflilobkoaaaDoor.NatA Go.Proofs.YtpokflilobkoaaaDoor.NatI Go.Proofs.YtpokflilobkoaaaDoor.NatJ Go.Proofs.YtpokflilobkoaaaDoor.NatK Go.Proofs.YtpokflilobkoaaaDoor.NatL Go.Proofs.YtpokflilobkoaaaDoor.NatM

theorem NatGcds : voussoirlaw01_NatGcds.Pure := by
  intro a b _ _
  refine Ev.rounds (g := fun k => voussoirlaw01_NatGcds.f k a b) ?_
  have yes : Ev (fun k => voussoirlaw01_NatGcds.j0 k a b true) true := Ev.step (fun k => by rw [voussoirlaw01_NatGcds.j0, if_pos rfl]) (Ev.now _)
  refine Ev.bind ev_alive (Ev.congr (fun k => if_pos rfl) ?_)
  by_cases ha : (a.size : Int) > 16
  · exact Ev.congr (fun k => if_pos ha) yes
  · refine Ev.congr (fun k => if_neg ha) ?_
    by_cases hb : (b.size : Int) > 16
    · rw [decide_eq_true hb]
      exact yes
    · rw [decide_eq_false hb]
      refine Ev.step (fun k => by rw [voussoirlaw01_NatGcds.j0, if_neg (by decide)]) ?_
      refine Ev.bind (ev_gcd a b (by omega) (by omega)) (Ev.bind (rev_gcd a b (by omega) (by omega)) ?_)
      rw [beq_list]
      exact Ev.now _
end Go.Proofs.YtpokflilobkoaaaDoor.Pure
