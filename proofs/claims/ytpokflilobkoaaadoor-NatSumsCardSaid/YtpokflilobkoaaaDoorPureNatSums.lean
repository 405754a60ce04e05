/- For every input of two strings the Go function NatSums answers true: Normalize, Cmp, Add and Sub agree with the reference implementation. -/
import Derived.Test.YtpokflilobkoaaaDoorNatM
import Derived.Test.YtpokflilobkoaaaDoorPx12LNatSums
namespace Go.Proofs.YtpokflilobkoaaaDoor.Pure
open Go.RowKit Go.Proofs.YtpokflilobkoaaaDoor.P Go.Proofs.YtpokflilobkoaaaDoorW.PrintWords Go.Proofs.YtpokflilobkoaaaDoorW.PrintLast Go.Proofs.YtpokflilobkoaaaDoor.NatA Go.Proofs.YtpokflilobkoaaaDoor.NatC Go.Proofs.YtpokflilobkoaaaDoor.NatI Go.Proofs.YtpokflilobkoaaaDoor.NatJ Go.Proofs.YtpokflilobkoaaaDoor.NatK Go.Proofs.YtpokflilobkoaaaDoor.NatL Go.Proofs.YtpokflilobkoaaaDoor.NatM

theorem NatSums : voussoirlaw01_NatSums.Pure := by
  intro a b _ _
  refine Ev.rounds (g := fun k => voussoirlaw01_NatSums.f k a b) ?_
  have yes : Ev (fun k => voussoirlaw01_NatSums.j0 k a b true) true := Ev.step (fun k => by rw [voussoirlaw01_NatSums.j0, if_pos rfl]) (Ev.now _)
  refine Ev.bind ev_alive (Ev.congr (fun k => if_pos rfl) ?_)
  by_cases ha : (a.size : Int) > 300
  · exact Ev.congr (fun k => if_pos ha) yes
  refine Ev.congr (fun k => if_neg ha) ?_
  by_cases hb : (b.size : Int) > 300
  · rw [decide_eq_true hb]
    exact yes
  rw [decide_eq_false hb]
  refine Ev.step (fun k => by rw [voussoirlaw01_NatSums.j0, if_neg (by decide)]) ?_
  refine Ev.bind (ev_sub a b (by omega) (by omega)) (Ev.bind (rev_sub a b (by omega) (by omega)) ?_)
  refine Ev.bind (ev_normalize a (by omega)) (Ev.bind (rev_norm a (by omega)) (Ev.congr (fun k => if_pos rfl) ?_))
  refine Ev.bind (ev_cmp a b (by omega) (by omega)) (Ev.bind (rev_cmp a b (by omega) (by omega)) (Ev.congr (fun k => if_pos rfl) ?_))
  refine Ev.bind (ev_add a b (by omega) (by omega)) (Ev.bind (rev_add a b (by omega) (by omega)) (Ev.congr (fun k => by rw [if_pos rfl, if_pos rfl, beq_self_eq_true]) (Ev.now _)))
end Go.Proofs.YtpokflilobkoaaaDoor.Pure
