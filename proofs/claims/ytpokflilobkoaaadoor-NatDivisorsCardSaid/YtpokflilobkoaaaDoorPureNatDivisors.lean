/- For every input of three strings the Go function NatDivisors answers true: the greatest common divisor divides both numbers and leaves coprime quotients. -/
import Derived.Test.YtpokflilobkoaaaDoorNatM
import Derived.Test.YtpokflilobkoaaaDoorPx11LNatDivisors
namespace Go.Proofs.YtpokflilobkoaaaDoor.Pure
open Go.RowKit Go.Proofs.YtpokflilobkoaaaDoor.P Go.Proofs.YtpokflilobkoaaaDoorW.PrintWords Go.Proofs.YtpokflilobkoaaaDoorW.PrintLast Go.Proofs.YtpokflilobkoaaaDoor.NatA Go.Proofs.YtpokflilobkoaaaDoor.NatC Go.Proofs.YtpokflilobkoaaaDoor.NatI Go.Proofs.YtpokflilobkoaaaDoor.NatJ Go.Proofs.YtpokflilobkoaaaDoor.NatK Go.Proofs.YtpokflilobkoaaaDoor.NatL Go.Proofs.YtpokflilobkoaaaDoor.NatM

theorem NatDivisors : voussoirlaw01_NatDivisors.Pure := by
  intro a b c _ _ _
  refine Ev.rounds (g := fun k => voussoirlaw01_NatDivisors.f k a b c) ?_
  have yes : Ev (fun k => voussoirlaw01_NatDivisors.j0 k a b c true) true := Ev.step (fun k => by rw [voussoirlaw01_NatDivisors.j0, if_pos rfl]) (Ev.now _)
  refine Ev.bind ev_alive (Ev.congr (fun k => if_pos rfl) ?_)
  by_cases ha : (a.size : Int) > 12
  · exact Ev.congr (fun k => if_pos ha) yes
  refine Ev.congr (fun k => if_neg ha) ?_
  by_cases hb : (b.size : Int) > 12
  · exact Ev.congr (fun k => if_pos hb) yes
  refine Ev.congr (fun k => if_neg hb) ?_
  by_cases hc : (c.size : Int) > 8
  · rw [decide_eq_true hc]
    exact yes
  rw [decide_eq_false hc]
  refine Ev.step (fun k => by rw [voussoirlaw01_NatDivisors.j0, if_neg (by decide)]) ?_
  refine Ev.bind (ev_gcd a b (by omega) (by omega)) ?_
  obtain ⟨g, hg⟩ : ∃ g, g = Nat.gcd (V a) (V b) := ⟨_, rfl⟩
  rw [← hg]
  by_cases h0 : g = 0
  · have h1 := Nat.gcd_eq_zero_iff.1 (hg.symm.trans h0)
    refine Ev.congr (fun k => if_pos (N_toList_nil.2 h0)) ?_
    refine Ev.bind (ev_normalize a (by omega)) (Ev.congr (fun k => if_pos (N_toList_nil.2 h1.1)) ?_)
    refine Ev.bind (ev_normalize b (by omega)) ?_
    rw [h1.2, nil_list, beq_self_eq_true]
    exact Ev.now _
  · have hgs : (N g).size ≤ 12 := by
      by_cases hz : V a = 0
      · rw [hg, hz, Nat.gcd_zero_left]
        exact N_small (by omega)
      · rw [hg]
        exact size_gcd a _ (by omega) hz
    have hga : g ∣ V a := by rw [hg]; exact Nat.gcd_dvd_left _ _
    have hgb : g ∣ V b := by rw [hg]; exact Nat.gcd_dvd_right _ _
    have e1 := ev_div a (N g) (by omega) (by omega)
    have e2 := ev_div b (N g) (by omega) (by omega)
    rw [V_N] at e1 e2
    unfold divR at e1 e2
    rw [if_neg h0, Nat.mod_eq_zero_of_dvd hga] at e1
    rw [if_neg h0, Nat.mod_eq_zero_of_dvd hgb] at e2
    have e3 := ev_gcd (N (V a / g)) (N (V b / g)) (Nat.le_trans (size_div a g (s := 12) (by omega)) (by decide)) (Nat.le_trans (size_div b g (s := 12) (by omega)) (by decide))
    have hco : Nat.gcd (V a / g) (V b / g) = 1 := by
      rw [hg]
      exact Nat.coprime_div_gcd_div_gcd (by rw [← hg]; omega)
    rw [V_N, V_N, hco] at e3
    have e4 := ev_gcd b a (by omega) (by omega)
    rw [Nat.gcd_comm, ← hg] at e4
    have hac := size_mul a c (s := 20) (by omega)
    have hbc := size_mul b c (s := 20) (by omega)
    have e5 := ev_gcd (N (V a * V c)) (N (V b * V c)) (by omega) (by omega)
    rw [V_N, V_N, Nat.gcd_mul_right, ← hg] at e5
    have e6 := ev_mul (N g) c (by omega) (by omega)
    rw [V_N] at e6
    refine Ev.congr (fun k => if_neg (fun e => h0 (N_toList_nil.1 e))) ?_
    refine Ev.bind e1 (Ev.bind e2 (Ev.congr (fun k => by rw [if_pos (N_toList_nil.2 rfl), if_pos (N_toList_nil.2 rfl)]) ?_))
    refine Ev.bind e3 (Ev.congr (fun k => if_pos one_list.symm) ?_)
    refine Ev.bind e4 (Ev.congr (fun k => if_pos rfl) ?_)
    refine Ev.bind (ev_mul a c (by omega) (by omega)) (Ev.bind (ev_mul b c (by omega) (by omega)) (Ev.bind e5 (Ev.bind e6 ?_)))
    rw [beq_list]
    exact Ev.now _
end Go.Proofs.YtpokflilobkoaaaDoor.Pure
