/- For every input of three strings the Go function NatRing answers true: addition and multiplication are commutative and associative, multiplication distributes over addition, Sub undoes Add. -/
import Derived.Test.YtpokflilobkoaaaDoorNatM
import Derived.Test.YtpokflilobkoaaaDoorPx32
namespace Go.Proofs.YtpokflilobkoaaaDoor.Pure
open Go.RowKit Go.Proofs.YtpokflilobkoaaaDoor.P Go.Proofs.YtpokflilobkoaaaDoorW.PrintWords Go.Proofs.YtpokflilobkoaaaDoorW.PrintLast Go.Proofs.YtpokflilobkoaaaDoor.NatA Go.Proofs.YtpokflilobkoaaaDoor.NatC Go.Proofs.YtpokflilobkoaaaDoor.NatD Go.Proofs.YtpokflilobkoaaaDoor.NatI Go.Proofs.YtpokflilobkoaaaDoor.NatJ Go.Proofs.YtpokflilobkoaaaDoor.NatK Go.Proofs.YtpokflilobkoaaaDoor.NatL Go.Proofs.YtpokflilobkoaaaDoor.NatM

theorem NatRing : voussoirlaw01_NatRing.Pure := by
  intro a b c _ _ _
  refine Ev.rounds (g := fun k => voussoirlaw01_NatRing.f k a b c) ?_
  refine Ev.bind ev_alive (Ev.congr (fun k => if_pos rfl) ?_)
  obtain ⟨w, h1, h2⟩ := wide [a, b, c] (by simp)
  refine Ev.bind h1 ?_
  cases w with
  | true => exact Ev.congr (fun k => if_pos rfl) (Ev.now _)
  | false =>
    have ha : a.size ≤ 40 := h2 rfl 0 (by simp)
    have hb : b.size ≤ 40 := h2 rfl 1 (by simp)
    have hc : c.size ≤ 40 := h2 rfl 2 (by simp)
    refine Ev.congr (fun k => if_neg (by decide)) ?_
    have sab := N_size_add a b ha hb
    have sbc := N_size_add b c hb hc
    have mab := size_mul a b (s := 80) (by omega)
    have mac := size_mul a c (s := 80) (by omega)
    have mbc := size_mul b c (s := 80) (by omega)
    have ab := ev_add a b (by omega) (by omega)
    have ba := ev_add b a (by omega) (by omega)
    have bc := ev_add b c (by omega) (by omega)
    have pab := ev_mul a b (by omega) (by omega)
    have pba := ev_mul b a (by omega) (by omega)
    have pbc := ev_mul b c (by omega) (by omega)
    have pac := ev_mul a c (by omega) (by omega)
    have na := ev_normalize a (by omega)
    have d1 := ev_sub (N (V a + V b)) b (by omega) (by omega)
    rw [V_N] at d1
    unfold subR at d1
    rw [if_neg (by omega), Nat.add_sub_cancel] at d1
    have s1 := ev_add (N (V a + V b)) c (by omega) (by omega)
    have s2 := ev_add a (N (V b + V c)) (by omega) (by omega)
    have p1 := ev_mul (N (V a * V b)) c (by omega) (by omega)
    have p2 := ev_mul a (N (V b * V c)) (by omega) (by omega)
    have q1 := ev_mul a (N (V b + V c)) (by omega) (by omega)
    have q2 := ev_add (N (V a * V b)) (N (V a * V c)) (by omega) (by omega)
    have o1 := ev_mul a (⟨#[1]⟩ : ByteArray) (by omega) (by decide)
    have o0 := ev_mul a (⟨#[]⟩ : ByteArray) (by omega) (by decide)
    rw [V_N] at s1 s2 p1 p2 q1
    rw [V_N, V_N] at q2
    rw [show V (⟨#[1]⟩ : ByteArray) = 1 from rfl, Nat.mul_one] at o1
    rw [show V (⟨#[]⟩ : ByteArray) = 0 from rfl, Nat.mul_zero] at o0
    refine Ev.bind ab (Ev.bind d1 (Ev.bind ab (Ev.bind ba (Ev.congr (fun k => if_pos (N_toList.2 (Nat.add_comm _ _))) ?_))))
    refine Ev.bind pab (Ev.bind pba (Ev.congr (fun k => if_pos (N_toList.2 (Nat.mul_comm _ _))) ?_))
    refine Ev.bind ab (Ev.bind s1 (Ev.bind bc (Ev.bind s2 (Ev.congr (fun k => if_pos (N_toList.2 (Nat.add_assoc _ _ _))) ?_))))
    refine Ev.bind pab (Ev.bind p1 (Ev.bind pbc (Ev.bind p2 (Ev.congr (fun k => if_pos (N_toList.2 (Nat.mul_assoc _ _ _))) ?_))))
    refine Ev.bind bc (Ev.bind q1 (Ev.bind pab (Ev.bind pac (Ev.bind q2 (Ev.congr (fun k => by rw [if_pos (N_toList.2 (Nat.mul_add _ _ _)), if_pos rfl]) ?_)))))
    refine Ev.bind na (Ev.congr (fun k => if_pos rfl) ?_)
    refine Ev.bind o1 (Ev.bind na (Ev.congr (fun k => if_pos rfl) ?_))
    refine Ev.bind o0 ?_
    rw [nil_list, beq_self_eq_true]
    exact Ev.now _
end Go.Proofs.YtpokflilobkoaaaDoor.Pure
