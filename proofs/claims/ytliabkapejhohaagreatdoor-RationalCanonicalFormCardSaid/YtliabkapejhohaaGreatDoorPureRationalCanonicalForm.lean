import Derived.Test.YtliabkapejhohaaGreatDoorSpW
namespace Go.Proofs.YtliabkapejhohaaGreatDoor.Sp
open Go Go.RowKit Go.Proofs.YtliabkapejhohaaGreatDoor.Sx Go.Proofs.YtliabkapejhohaaGreatDoor.NatA Go.Proofs.YtliabkapejhohaaGreatDoor.NatB Go.Proofs.YtliabkapejhohaaGreatDoor.NatC Go.Proofs.YtliabkapejhohaaGreatDoor.NatD Go.Proofs.YtliabkapejhohaaGreatDoor.NatI Go.Proofs.YtliabkapejhohaaGreatDoor.NatJ Go.Proofs.YtliabkapejhohaaGreatDoor.IntZ Go.Proofs.YtliabkapejhohaaGreatDoor.RatZ
set_option maxHeartbeats 2000000 in
theorem g_RationalCanonicalForm : Sx.Good Tryz.prog X.G 5 ⟨[.agg 3, .agg 2, .agg 2], .v1 .one⟩ F_rzz := good_tree okW (fun _ _ => X.G_below) 400 (by kernel_rfl) (by kernel_rfl : _ = some t_voussoirlaw03_RationalCanonicalForm) fun ds rs h => by
  obtain ⟨n, a, b, m, c, l, d, rfl, rfl⟩ := F_rzz.inv h
  refine ⟨0, ?_⟩
  refine go_pure (by kernel_rfl) (pu_len_s under_str a) (go_pure (by kernel_rfl) (pu_gt_i _ _ .i64 (a.size : Int) 24) (go_ite (b := decide ((a.size : Int) > 24)) (by kernel_rfl) (fun _ => go_call F_awake (by kernel_rfl) (by kernel_rfl) awk rfl (go_ret (by kernel_rfl))) (fun h_a => ?_)))
  refine go_pure (by kernel_rfl) (pu_len_s under_str b) (go_pure (by kernel_rfl) (pu_gt_i _ _ .i64 (b.size : Int) 24) (go_ite (b := decide ((b.size : Int) > 24)) (by kernel_rfl) (fun _ => go_call F_awake (by kernel_rfl) (by kernel_rfl) awk rfl (go_ret (by kernel_rfl))) (fun h_b => ?_)))
  refine go_pure (by kernel_rfl) (pu_len_s under_str c) (go_pure (by kernel_rfl) (pu_gt_i _ _ .i64 (c.size : Int) 24) (go_ite (b := decide ((c.size : Int) > 24)) (by kernel_rfl) (fun _ => go_call F_awake (by kernel_rfl) (by kernel_rfl) awk rfl (go_ret (by kernel_rfl))) (fun h_c => ?_)))
  refine go_pure (by kernel_rfl) (pu_len_s under_str d) (go_pure (by kernel_rfl) (pu_gt_i _ _ .i64 (d.size : Int) 24) (go_ite (b := decide ((d.size : Int) > 24)) (by kernel_rfl) (fun _ => go_call F_awake (by kernel_rfl) (by kernel_rfl) awk rfl (go_ret (by kernel_rfl))) (fun h_d => ?_)))
  have h_a : a.size ≤ 24 := len_le h_a
  have h_b : b.size ≤ 24 := len_le h_b
  have h_c : c.size ≤ 24 := len_le h_c
  have h_d : d.size ≤ 24 := len_le h_d
  obtain ⟨x, hx⟩ : ∃ x, x = qv n a b := ⟨_, rfl⟩
  have s_x : Sq 24 x := by rw [hx]; exact .qv (by decide) h_a h_b
  obtain ⟨u, hu⟩ : ∃ u, u = x.num := ⟨_, rfl⟩
  obtain ⟨v, hv⟩ : ∃ v, v = (x.den : Int) := ⟨_, rfl⟩
  obtain ⟨z, hz⟩ : ∃ v, v = Z l d := ⟨_, rfl⟩
  obtain ⟨q, hq⟩ : ∃ q, q = Rat.divInt (Z m c) z := ⟨_, rfl⟩
  have c1 : F_numden [b_ n, s_ a, s_ b] = some (enc u ++ enc v) := by rw [hu, hv, hx]; exact R1.eq (by omega) (by omega)
  have c2 : F_make [b_ m, s_ c, b_ l, s_ d] = some (encR q ++ [b_ (!decide (z = 0))]) := by rw [hq, hz]; exact I2.eq (by omega) (by omega)
  have c3 : F_rnorm [b_ n, s_ a, s_ b] = some (encR x) := by rw [hx]; exact R1.eq (by omega) (by omega)
  obtain ⟨k, hk⟩ : ∃ k, k = sgn x.num := ⟨_, rfl⟩
  have c4 : F_rsign [b_ n, s_ a, s_ b] = some [i_ k] := by rw [hk, hx]; exact R1.eq (by omega) (by omega)
  clear hx hu hv hz hq hk
  refine go_call F_numden (by kernel_rfl) (by kernel_rfl) c1 rfl ?_
  refine go_call F_numden (by kernel_rfl) (by kernel_rfl) c1 rfl ?_
  refine go_call F_make (by kernel_rfl) (by kernel_rfl) c2 rfl ?_
  refine go_call F_make (by kernel_rfl) (by kernel_rfl) c2 rfl ?_
  refine go_call F_rnorm (by kernel_rfl) (by kernel_rfl) c3 rfl ?_
  refine go_call F_rnorm (by kernel_rfl) (by kernel_rfl) c3 rfl ?_
  refine go_pure (by kernel_rfl) (eq_rat _ x x) ?_
  refine go_yes (b := decide (x = x)) (by kernel_rfl) (decide_eq_true rfl) ?_
  refine go_pure (by kernel_rfl) (eq_int _ u u) ?_
  refine go_yes (b := decide (u = u)) (by kernel_rfl) (decide_eq_true rfl) ?_
  refine go_pure (by kernel_rfl) (eq_int _ v v) ?_
  refine go_yes (b := decide (v = v)) (by kernel_rfl) (decide_eq_true rfl) ?_
  refine go_call F_rsign (by kernel_rfl) (by kernel_rfl) c4 rfl ?_
  refine go_call F_rsign (by kernel_rfl) (by kernel_rfl) c4 rfl ?_
  refine go_pure (by kernel_rfl) (pu_eq_i _ _ .i64 k k) ?_
  refine go_yes (b := k == k) (by kernel_rfl) (beq_self_eq_true _) ?_
  refine go_pure (by kernel_rfl) (eq_rat _ q q) ?_
  refine go_yes (b := decide (q = q)) (by kernel_rfl) (decide_eq_true rfl) ?_
  refine go_pure (by kernel_rfl) (pu_eq_b _ _ (!decide (z = 0)) (!decide (z = 0)) under_bool) ?_
  refine go_yes (b := (!decide (z = 0)) == (!decide (z = 0))) (by kernel_rfl) (beq_self_eq_true _) ?_
  exact go_call F_awake (by kernel_rfl) (by kernel_rfl) awk rfl (go_ret (by kernel_rfl))
end Go.Proofs.YtliabkapejhohaaGreatDoor.Sp
