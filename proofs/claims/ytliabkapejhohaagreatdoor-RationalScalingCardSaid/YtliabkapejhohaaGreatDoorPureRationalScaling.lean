/- The law RationalScaling: what its function answers. -/
import Derived.Test.YtliabkapejhohaaGreatDoorSp3
namespace Go.Proofs.YtliabkapejhohaaGreatDoor.Sp
open Go Go.RowKit Go.Proofs.YtliabkapejhohaaGreatDoor.Sx Go.Proofs.YtliabkapejhohaaGreatDoor.NatA Go.Proofs.YtliabkapejhohaaGreatDoor.NatB Go.Proofs.YtliabkapejhohaaGreatDoor.NatC Go.Proofs.YtliabkapejhohaaGreatDoor.NatD Go.Proofs.YtliabkapejhohaaGreatDoor.NatI Go.Proofs.YtliabkapejhohaaGreatDoor.NatJ Go.Proofs.YtliabkapejhohaaGreatDoor.IntZ Go.Proofs.YtliabkapejhohaaGreatDoor.RatZ

set_option maxHeartbeats 1000000 in
theorem g_RationalScaling : Sx.Good Tryz.prog X.G 4 ⟨[.agg 2, .agg 2, .agg 2], .v1 .one⟩ F_z3 := good_tree okT3 (fun _ _ => X.G_below) 400 (by kernel_rfl) (by kernel_rfl : _ = some t_voussoirlaw03_RationalScaling) fun ds rs h => by
  obtain ⟨n, a, m, b, l, c, rfl, rfl⟩ := F_z3.inv h
  refine ⟨0, go_pure (by kernel_rfl) (pu_len_s under_str a) (go_pure (by kernel_rfl) (pu_gt_i _ _ .i64 (a.size : Int) 20) (go_ite (b := decide ((a.size : Int) > 20)) (by kernel_rfl) (fun _ => go_call F_awake (by kernel_rfl) (by kernel_rfl) awk rfl (go_ret (by kernel_rfl))) (fun ha => ?_)))⟩
  refine go_pure (by kernel_rfl) (pu_len_s under_str b) (go_pure (by kernel_rfl) (pu_gt_i _ _ .i64 (b.size : Int) 20) (go_ite (b := decide ((b.size : Int) > 20)) (by kernel_rfl) (fun _ => go_call F_awake (by kernel_rfl) (by kernel_rfl) awk rfl (go_ret (by kernel_rfl))) (fun hb => ?_)))
  refine go_pure (by kernel_rfl) (pu_len_s under_str c) (go_pure (by kernel_rfl) (pu_gt_i _ _ .i64 (c.size : Int) 20) (go_ite (b := decide ((c.size : Int) > 20)) (by kernel_rfl) (fun _ => go_call F_awake (by kernel_rfl) (by kernel_rfl) awk rfl (go_ret (by kernel_rfl))) (fun hc => ?_)))
  have ha : a.size ≤ 20 := len_le ha
  have hb : b.size ≤ 20 := len_le hb
  have hc : c.size ≤ 20 := len_le hc
  have s1 : Sz 20 (Z n a) := .of ha
  have s2 : Sz 20 (Z m b) := .of hb
  have s3 : Sz 20 (Z l c) := .of hc
  obtain ⟨x, hx⟩ : ∃ x, x = Z n a := ⟨_, rfl⟩
  obtain ⟨y, hy⟩ : ∃ x, x = Z m b := ⟨_, rfl⟩
  obtain ⟨z, hz⟩ : ∃ x, x = Z l c := ⟨_, rfl⟩
  obtain ⟨u, hu⟩ : ∃ u, u = x * z := ⟨_, rfl⟩
  obtain ⟨v, hv⟩ : ∃ u, u = y * z := ⟨_, rfl⟩
  obtain ⟨p, hp⟩ : ∃ p, p = Rat.divInt x y := ⟨_, rfl⟩
  obtain ⟨q, hq⟩ : ∃ p, p = Rat.divInt u v := ⟨_, rfl⟩
  have c1 : F_isign [b_ l, s_ c] = some [i_ (sgn z)] := by rw [hz]; exact I1.eq (by omega)
  have c2 : F_make [b_ n, s_ a, b_ m, s_ b] = some (encR p ++ [b_ (!decide (y = 0))]) := by rw [hp, hx, hy]; exact I2.eq (by omega) (by omega)
  have c3 : F_imul [b_ n, s_ a, b_ l, s_ c] = some (enc u) := by rw [hu, hx, hz]; exact I2.eq (by omega) (by omega)
  have c4 : F_imul [b_ m, s_ b, b_ l, s_ c] = some (enc v) := by rw [hv, hy, hz]; exact I2.eq (by omega) (by omega)
  rw [← hx] at s1
  rw [← hy] at s2
  rw [← hz] at s3
  have s4 := s1.mul s3
  have s5 := s2.mul s3
  rw [← hu] at s4
  rw [← hv] at s5
  have c5 : F_make (enc u ++ enc v) = some (encR q ++ [b_ (!decide (v = 0))]) := by rw [hq]; exact I2.can (s4.le (by decide)) (s5.le (by decide))
  have c6 : F_isign [b_ m, s_ b] = some [i_ (sgn y)] := by rw [hy]; exact I1.eq (by omega)
  refine go_call F_isign (by kernel_rfl) (by kernel_rfl) c1 rfl (go_pure (by kernel_rfl) (pu_eq_i _ _ .i64 (sgn z) 0) (go_ite (b := sgn z == 0) (by kernel_rfl) (fun _ => go_call F_awake (by kernel_rfl) (by kernel_rfl) awk rfl (go_ret (by kernel_rfl))) (fun hk => ?_)))
  rw [sgn_zero] at hk
  have hk := of_decide_eq_false hk
  have hpq : p = q := by rw [hp, hq, hu, hv, Rat.divInt_mul_right hk]
  have e1 : ((!decide (y = 0)) == (!decide (v = 0))) = true := by
    have : decide (v = 0) = decide (y = 0) := by
      rw [Bool.eq_iff_iff, decide_eq_true_iff, decide_eq_true_iff, hv, Int.mul_eq_zero]
      exact ⟨fun h => h.resolve_right hk, .inl⟩
    rw [this]
    exact beq_self_eq_true _
  have e2 : ((!decide (y = 0)) == (sgn y != 0)) = true := by
    show ((!decide (y = 0)) == !(sgn y == 0)) = true
    rw [sgn_zero]
    exact beq_self_eq_true _
  clear hp hq hu hv hx hy hz
  refine go_call F_make (by kernel_rfl) (by kernel_rfl) c2 rfl (go_call F_imul (by kernel_rfl) (by kernel_rfl) c3 rfl (go_call F_imul (by kernel_rfl) (by kernel_rfl) c4 rfl (go_call F_make (by kernel_rfl) (by kernel_rfl) c5 rfl ?_)))
  refine go_pure (by kernel_rfl) (eq_rat _ p q) (go_yes (b := decide (p = q)) (by kernel_rfl) (decide_eq_true hpq) (go_pure (by kernel_rfl) (pu_eq_b _ _ (!decide (y = 0)) (!decide (v = 0)) under_bool) (go_yes (b := (!decide (y = 0)) == (!decide (v = 0))) (by kernel_rfl) e1 ?_)))
  exact go_call F_isign (by kernel_rfl) (by kernel_rfl) c6 rfl (go_pure (by kernel_rfl) (pu_ne_i _ _ .i64 (sgn y) 0) (go_pure (by kernel_rfl) (pu_eq_b _ _ (!decide (y = 0)) (sgn y != 0) under_bool) (go_yes (b := (!decide (y = 0)) == (sgn y != 0)) (by kernel_rfl) e2 (go_call F_awake (by kernel_rfl) (by kernel_rfl) awk rfl (go_ret (by kernel_rfl))))))
end Go.Proofs.YtliabkapejhohaaGreatDoor.Sp
