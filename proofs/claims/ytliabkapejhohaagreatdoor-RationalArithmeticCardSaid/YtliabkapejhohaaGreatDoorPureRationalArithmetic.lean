import Derived.Test.YtliabkapejhohaaGreatDoorSpW
namespace Go.Proofs.YtliabkapejhohaaGreatDoor.Sp
open Go Go.RowKit Go.Proofs.YtliabkapejhohaaGreatDoor.Sx Go.Proofs.YtliabkapejhohaaGreatDoor.NatA Go.Proofs.YtliabkapejhohaaGreatDoor.NatB Go.Proofs.YtliabkapejhohaaGreatDoor.NatC Go.Proofs.YtliabkapejhohaaGreatDoor.NatD Go.Proofs.YtliabkapejhohaaGreatDoor.NatI Go.Proofs.YtliabkapejhohaaGreatDoor.NatJ Go.Proofs.YtliabkapejhohaaGreatDoor.IntZ Go.Proofs.YtliabkapejhohaaGreatDoor.RatZ
set_option maxHeartbeats 2000000 in
theorem g_RationalArithmetic : Sx.Good Tryz.prog X.G 10 ⟨[.agg 3, .agg 3], .v1 .one⟩ F_r2 := good_tree okW (fun _ _ => X.G_below) 400 (by kernel_rfl) (by kernel_rfl : _ = some t_voussoirlaw03_RationalArithmetic) fun ds rs h => by
  obtain ⟨n, a, b, m, c, d, rfl, rfl⟩ := F_r2.inv h
  refine ⟨0, ?_⟩
  refine go_pure (by kernel_rfl) (pu_len_s under_str a) (go_pure (by kernel_rfl) (pu_gt_i _ _ .i64 (a.size : Int) 24) (go_ite (b := decide ((a.size : Int) > 24)) (by kernel_rfl) (fun _ => go_call F_awake (by kernel_rfl) (by kernel_rfl) awk rfl (go_ret (by kernel_rfl))) (fun h_a => ?_)))
  refine go_pure (by kernel_rfl) (pu_len_s under_str b) (go_pure (by kernel_rfl) (pu_gt_i _ _ .i64 (b.size : Int) 24) (go_ite (b := decide ((b.size : Int) > 24)) (by kernel_rfl) (fun _ => go_call F_awake (by kernel_rfl) (by kernel_rfl) awk rfl (go_ret (by kernel_rfl))) (fun h_b => ?_)))
  refine go_pure (by kernel_rfl) (pu_len_s under_str c) (go_pure (by kernel_rfl) (pu_gt_i _ _ .i64 (c.size : Int) 24) (go_ite (b := decide ((c.size : Int) > 24)) (by kernel_rfl) (fun _ => go_call F_awake (by kernel_rfl) (by kernel_rfl) awk rfl (go_ret (by kernel_rfl))) (fun h_c => ?_)))
  refine go_pure (by kernel_rfl) (pu_len_s under_str d) (go_pure (by kernel_rfl) (pu_gt_i _ _ .i64 (d.size : Int) 24) (go_ite (b := decide ((d.size : Int) > 24)) (by kernel_rfl) (fun _ => go_call F_awake (by kernel_rfl) (by kernel_rfl) awk rfl (go_ret (by kernel_rfl))) (fun h_d => ?_)))
  have h_a : a.size ≤ 24 := len_le h_a
  have h_b : b.size ≤ 24 := len_le h_b
  have h_c : c.size ≤ 24 := len_le h_c
  have h_d : d.size ≤ 24 := len_le h_d
  obtain ⟨x, hx⟩ : ∃ x, x = qv n a b := ⟨_, rfl⟩
  have s_x : Sq 24 x := by rw [hx]; exact .qv (by decide) h_a h_b
  obtain ⟨y, hy⟩ : ∃ x, x = qv m c d := ⟨_, rfl⟩
  have s_y : Sq 24 y := by rw [hy]; exact .qv (by decide) h_c h_d
  obtain ⟨p1, hp1⟩ : ∃ p, p = x / y := ⟨_, rfl⟩
  have s_p1 : Sq 48 p1 := by rw [hp1]; exact sq_div (by decide) s_x s_y
  have c2 : F_rdiv [b_ n, s_ a, s_ b, b_ m, s_ c, s_ d] = some (encR p1 ++ [b_ (!decide (y = 0))]) := by rw [hp1, hx, hy]; exact R2.eq (by omega) (by omega) (by omega) (by omega)
  obtain ⟨p3, hp3⟩ : ∃ p, p = x + y := ⟨_, rfl⟩
  have s_p3 : Sq 49 p3 := by rw [hp3]; exact Sq.add s_x s_y
  have c4 : F_radd [b_ n, s_ a, s_ b, b_ m, s_ c, s_ d] = some (encR p3) := by rw [hp3, hx, hy]; exact R2.eq (by omega) (by omega) (by omega) (by omega)
  obtain ⟨p5, hp5⟩ : ∃ p, p = x - y := ⟨_, rfl⟩
  have s_p5 : Sq 49 p5 := by rw [hp5]; exact sq_sub s_x s_y
  have c6 : F_rsub [b_ n, s_ a, s_ b, b_ m, s_ c, s_ d] = some (encR p5) := by rw [hp5, hx, hy]; exact R2.eq (by omega) (by omega) (by omega) (by omega)
  obtain ⟨p7, hp7⟩ : ∃ p, p = x * y := ⟨_, rfl⟩
  have s_p7 : Sq 48 p7 := by rw [hp7]; exact Sq.mul (by decide) s_x s_y
  have c8 : F_rmul [b_ n, s_ a, s_ b, b_ m, s_ c, s_ d] = some (encR p7) := by rw [hp7, hx, hy]; exact R2.eq (by omega) (by omega) (by omega) (by omega)
  obtain ⟨p9, hp9⟩ : ∃ p, p = -x := ⟨_, rfl⟩
  have c10 : F_rneg [b_ n, s_ a, s_ b] = some (encR p9) := by rw [hp9, hx]; exact R1.eq (by omega) (by omega)
  obtain ⟨k, hk⟩ : ∃ k, k = sgn (x - y).num := ⟨_, rfl⟩
  have c11 : F_rcmp [b_ n, s_ a, s_ b, b_ m, s_ c, s_ d] = some [i_ k] := by rw [hk, hx, hy]; exact R2.eq (by omega) (by omega) (by omega) (by omega)
  have c12 : F_rnorm [b_ n, s_ a, s_ b] = some (encR x) := by rw [hx]; exact R1.eq (by omega) (by omega)
  have c13 : F_rnorm [b_ m, s_ c, s_ d] = some (encR y) := by rw [hy]; exact R1.eq (by omega) (by omega)
  have c14 : F_radd (encR x ++ encR y) = some (encR p3) := by rw [hp3]; exact R2.can (s_x.le (by decide)) (s_y.le (by decide))
  clear hx hy hp1 hp3 hp5 hp7 hp9 hk
  refine go_call F_rdiv (by kernel_rfl) (by kernel_rfl) c2 rfl ?_
  refine go_call F_rdiv (by kernel_rfl) (by kernel_rfl) c2 rfl ?_
  refine go_call F_radd (by kernel_rfl) (by kernel_rfl) c4 rfl ?_
  refine go_call F_radd (by kernel_rfl) (by kernel_rfl) c4 rfl ?_
  refine go_pure (by kernel_rfl) (eq_rat _ p3 p3) ?_
  refine go_yes (b := decide (p3 = p3)) (by kernel_rfl) (decide_eq_true rfl) ?_
  refine go_call F_rsub (by kernel_rfl) (by kernel_rfl) c6 rfl ?_
  refine go_call F_rsub (by kernel_rfl) (by kernel_rfl) c6 rfl ?_
  refine go_pure (by kernel_rfl) (eq_rat _ p5 p5) ?_
  refine go_yes (b := decide (p5 = p5)) (by kernel_rfl) (decide_eq_true rfl) ?_
  refine go_call F_rmul (by kernel_rfl) (by kernel_rfl) c8 rfl ?_
  refine go_call F_rmul (by kernel_rfl) (by kernel_rfl) c8 rfl ?_
  refine go_pure (by kernel_rfl) (eq_rat _ p7 p7) ?_
  refine go_yes (b := decide (p7 = p7)) (by kernel_rfl) (decide_eq_true rfl) ?_
  refine go_call F_rneg (by kernel_rfl) (by kernel_rfl) c10 rfl ?_
  refine go_call F_rneg (by kernel_rfl) (by kernel_rfl) c10 rfl ?_
  refine go_pure (by kernel_rfl) (eq_rat _ p9 p9) ?_
  refine go_yes (b := decide (p9 = p9)) (by kernel_rfl) (decide_eq_true rfl) ?_
  refine go_pure (by kernel_rfl) (eq_rat _ p1 p1) ?_
  refine go_yes (b := decide (p1 = p1)) (by kernel_rfl) (decide_eq_true rfl) ?_
  refine go_pure (by kernel_rfl) (pu_eq_b _ _ (!decide (y = 0)) (!decide (y = 0)) under_bool) ?_
  refine go_yes (b := (!decide (y = 0)) == (!decide (y = 0))) (by kernel_rfl) (beq_self_eq_true _) ?_
  refine go_call F_rcmp (by kernel_rfl) (by kernel_rfl) c11 rfl ?_
  refine go_call F_rcmp (by kernel_rfl) (by kernel_rfl) c11 rfl ?_
  refine go_pure (by kernel_rfl) (pu_eq_i _ _ .i64 k k) ?_
  refine go_yes (b := k == k) (by kernel_rfl) (beq_self_eq_true _) ?_
  refine go_call F_radd (by kernel_rfl) (by kernel_rfl) c4 rfl ?_
  refine go_call F_rnorm (by kernel_rfl) (by kernel_rfl) c12 rfl ?_
  refine go_call F_rnorm (by kernel_rfl) (by kernel_rfl) c13 rfl ?_
  refine go_call F_radd (by kernel_rfl) (by kernel_rfl) c14 rfl ?_
  refine go_pure (by kernel_rfl) (eq_rat _ p3 p3) ?_
  refine go_yes (b := decide (p3 = p3)) (by kernel_rfl) (decide_eq_true rfl) ?_
  exact go_call F_awake (by kernel_rfl) (by kernel_rfl) awk rfl (go_ret (by kernel_rfl))
end Go.Proofs.YtliabkapejhohaaGreatDoor.Sp
