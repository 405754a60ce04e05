/- For every input of two strings the Go function NatMuls answers true: Mul and Div agree with the reference implementation. -/
import Derived.Test.YtpokflilobkoaaaDoorNatM
import Derived.Test.YtpokflilobkoaaaDoorPx10LNatMuls
namespace Go.Proofs.YtpokflilobkoaaaDoor.Pure
open Go.RowKit Go.Proofs.YtpokflilobkoaaaDoor.P Go.Proofs.YtpokflilobkoaaaDoorW.PrintWords Go.Proofs.YtpokflilobkoaaaDoorW.PrintLast Go.Proofs.YtpokflilobkoaaaDoor.NatA Go.Proofs.YtpokflilobkoaaaDoor.NatI Go.Proofs.YtpokflilobkoaaaDoor.NatJ Go.Proofs.YtpokflilobkoaaaDoor.NatK Go.Proofs.YtpokflilobkoaaaDoor.NatL Go.Proofs.YtpokflilobkoaaaDoor.NatM

theorem NatMuls : voussoirlaw01_NatMuls.Pure := by
  intro a b _ _
  refine Ev.rounds (g := fun k => voussoirlaw01_NatMuls.f k a b) ?_
  refine Ev.bind ev_alive (Ev.congr (fun k => if_pos rfl) ?_)
  obtain ⟨w, h1, h2⟩ := wide [a, b] (by simp)
  refine Ev.bind h1 ?_
  cases w with
  | true => exact Ev.congr (fun k => if_pos rfl) (Ev.now _)
  | false =>
    have ha : a.size ≤ 40 := h2 rfl 0 (by simp)
    have hb : b.size ≤ 40 := h2 rfl 1 (by simp)
    refine Ev.congr (fun k => if_neg (by decide)) ?_
    refine Ev.bind (ev_div a b (by omega) (by omega)) (Ev.bind (rev_div a b (by omega) (by omega)) (Ev.bind (ev_mul a b (by omega) (by omega)) (Ev.bind (rev_mul a b (by omega)) ?_)))
    refine Ev.congr (fun k => by rw [if_pos rfl, if_pos rfl, if_pos rfl, beq_self_eq_true]) (Ev.now _)
end Go.Proofs.YtpokflilobkoaaaDoor.Pure
