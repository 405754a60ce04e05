/- For every input of two strings the Go function NatDivides answers true: a = q * b + r with r < b, and a * b divided by b is a. -/
import Derived.Test.YtpokflilobkoaaaDoorNatM
import Derived.Test.YtpokflilobkoaaaDoorPx11LNatDivides
namespace Go.Proofs.YtpokflilobkoaaaDoor.Pure
open Go.RowKit Go.Proofs.YtpokflilobkoaaaDoor.P Go.Proofs.YtpokflilobkoaaaDoorW.PrintWords Go.Proofs.YtpokflilobkoaaaDoorW.PrintLast Go.Proofs.YtpokflilobkoaaaDoor.NatA Go.Proofs.YtpokflilobkoaaaDoor.NatC Go.Proofs.YtpokflilobkoaaaDoor.NatI Go.Proofs.YtpokflilobkoaaaDoor.NatJ Go.Proofs.YtpokflilobkoaaaDoor.NatK Go.Proofs.YtpokflilobkoaaaDoor.NatL Go.Proofs.YtpokflilobkoaaaDoor.NatM

theorem NatDivides : voussoirlaw01_NatDivides.Pure := by
  intro a b _ _
  refine Ev.rounds (g := fun k => voussoirlaw01_NatDivides.f k a b) ?_
  refine Ev.bind ev_alive (Ev.congr (fun k => if_pos rfl) ?_)
  obtain ⟨w, h1, h2⟩ := wide [a, b] (by simp)
  refine Ev.bind h1 ?_
  cases w with
  | true => exact Ev.congr (fun k => if_pos rfl) (Ev.now _)
  | false =>
    have ha : a.size ≤ 40 := h2 rfl 0 (by simp)
    have hb : b.size ≤ 40 := h2 rfl 1 (by simp)
    have hab : (N (V a * V b)).size ≤ 80 := size_mul a b (by omega)
    refine Ev.congr (fun k => if_neg (by decide)) ?_
    refine Ev.bind (ev_div a b (by omega) (by omega)) (Ev.bind (ev_normalize b (by omega)) ?_)
    unfold divR
    by_cases h0 : V b = 0
    · rw [if_pos h0]
      refine Ev.congr (fun k => by rw [if_pos (N_toList_nil.2 h0), if_neg (by decide), if_pos (Lib.toList_data _), Lib.toList_data]; rfl) (Ev.now true)
    · have hq := size_div a (V b) ha
      have hr := size_mod a (V b) ha
      have hqb : (N (V a / V b * V b)).size ≤ 80 := by
        have := size_mul (N (V a / V b)) b (s := 80) (by omega)
        rw [V_N] at this
        exact this
      have e1 := ev_div (N (V a * V b)) b (by omega) (by omega)
      have e2 := ev_mul (N (V a / V b)) b (by omega) (by omega)
      have e3 := ev_add (N (V a / V b * V b)) (N (V a % V b)) (by omega) (by omega)
      have e4 := ev_cmp (N (V a % V b)) b (by omega) (by omega)
      have hp : 0 < V b := by omega
      rw [V_N] at e1 e2 e4
      rw [V_N, V_N, Nat.div_add_mod'] at e3
      unfold divR at e1
      rw [if_neg h0, Nat.mul_div_cancel _ hp, Nat.mul_mod_left] at e1
      rw [if_neg h0]
      refine Ev.congr (fun k => if_neg (fun e => h0 (N_toList_nil.1 e))) ?_
      refine Ev.bind (ev_mul a b (by omega) (by omega)) (Ev.bind e1 (Ev.congr (fun k => if_pos rfl) ?_))
      refine Ev.bind e2 (Ev.bind e3 (Ev.bind (ev_normalize a (by omega)) (Ev.congr (fun k => if_pos rfl) ?_)))
      refine Ev.bind e4 (Ev.congr (fun k => by rw [if_pos (NatD.cmpI_neg.2 (Nat.mod_lt _ hp)), if_pos rfl]) ?_)
      refine Ev.bind (ev_normalize a (by omega)) (Ev.congr (fun k => by rw [if_pos rfl, nil_list, beq_self_eq_true]) (Ev.now _))
end Go.Proofs.YtpokflilobkoaaaDoor.Pure
