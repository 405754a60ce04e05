/- The law RationalOrder: what its function answers. -/
import Derived.Test.YtliabkapejhohaaGreatDoorSpY
namespace Go.Proofs.YtliabkapejhohaaGreatDoor.Sp
open Go Go.RowKit Go.Proofs.YtliabkapejhohaaGreatDoor.Sx Go.Proofs.YtliabkapejhohaaGreatDoor.NatA Go.Proofs.YtliabkapejhohaaGreatDoor.NatB Go.Proofs.YtliabkapejhohaaGreatDoor.NatC Go.Proofs.YtliabkapejhohaaGreatDoor.NatD Go.Proofs.YtliabkapejhohaaGreatDoor.NatI Go.Proofs.YtliabkapejhohaaGreatDoor.NatJ Go.Proofs.YtliabkapejhohaaGreatDoor.IntZ Go.Proofs.YtliabkapejhohaaGreatDoor.RatZ

set_option maxHeartbeats 2000000 in
theorem g_RationalOrder : Sx.Good Tryz.prog X.G 9 ⟨[.agg 3, .agg 3, .agg 3], .v1 .one⟩ F_r3 := good_tree okT3 (fun _ _ => X.G_below) 400 (by kernel_rfl) (by kernel_rfl : _ = some t_voussoirlaw03_RationalOrder) fun ds rs h => by
  obtain ⟨n, a, b, m, c, d, l, e, f, rfl, rfl⟩ := F_r3.inv h
  refine ⟨0, ?_⟩
  refine go_pure (by kernel_rfl) (pu_len_s under_str a) (go_pure (by kernel_rfl) (pu_gt_i _ _ .i64 (a.size : Int) 24) (go_ite (b := decide ((a.size : Int) > 24)) (by kernel_rfl) (fun _ => go_call F_awake (by kernel_rfl) (by kernel_rfl) awk rfl (go_ret (by kernel_rfl))) (fun h_a => ?_)))
  refine go_pure (by kernel_rfl) (pu_len_s under_str b) (go_pure (by kernel_rfl) (pu_gt_i _ _ .i64 (b.size : Int) 24) (go_ite (b := decide ((b.size : Int) > 24)) (by kernel_rfl) (fun _ => go_call F_awake (by kernel_rfl) (by kernel_rfl) awk rfl (go_ret (by kernel_rfl))) (fun h_b => ?_)))
  refine go_pure (by kernel_rfl) (pu_len_s under_str c) (go_pure (by kernel_rfl) (pu_gt_i _ _ .i64 (c.size : Int) 24) (go_ite (b := decide ((c.size : Int) > 24)) (by kernel_rfl) (fun _ => go_call F_awake (by kernel_rfl) (by kernel_rfl) awk rfl (go_ret (by kernel_rfl))) (fun h_c => ?_)))
  refine go_pure (by kernel_rfl) (pu_len_s under_str d) (go_pure (by kernel_rfl) (pu_gt_i _ _ .i64 (d.size : Int) 24) (go_ite (b := decide ((d.size : Int) > 24)) (by kernel_rfl) (fun _ => go_call F_awake (by kernel_rfl) (by kernel_rfl) awk rfl (go_ret (by kernel_rfl))) (fun h_d => ?_)))
  refine go_pure (by kernel_rfl) (pu_len_s under_str e) (go_pure (by kernel_rfl) (pu_gt_i _ _ .i64 (e.size : Int) 24) (go_ite (b := decide ((e.size : Int) > 24)) (by kernel_rfl) (fun _ => go_call F_awake (by kernel_rfl) (by kernel_rfl) awk rfl (go_ret (by kernel_rfl))) (fun h_e => ?_)))
  refine go_pure (by kernel_rfl) (pu_len_s under_str f) (go_pure (by kernel_rfl) (pu_gt_i _ _ .i64 (f.size : Int) 24) (go_ite (b := decide ((f.size : Int) > 24)) (by kernel_rfl) (fun _ => go_call F_awake (by kernel_rfl) (by kernel_rfl) awk rfl (go_ret (by kernel_rfl))) (fun h_f => ?_)))
  have h_a : a.size ≤ 24 := len_le h_a
  have h_b : b.size ≤ 24 := len_le h_b
  have h_c : c.size ≤ 24 := len_le h_c
  have h_d : d.size ≤ 24 := len_le h_d
  have h_e : e.size ≤ 24 := len_le h_e
  have h_f : f.size ≤ 24 := len_le h_f
  obtain ⟨x, hx⟩ : ∃ x, x = qv n a b := ⟨_, rfl⟩
  have s_x : Sq 24 x := by rw [hx]; exact .qv (by decide) h_a h_b
  obtain ⟨y, hy⟩ : ∃ x, x = qv m c d := ⟨_, rfl⟩
  have s_y : Sq 24 y := by rw [hy]; exact .qv (by decide) h_c h_d
  obtain ⟨z, hz⟩ : ∃ x, x = qv l e f := ⟨_, rfl⟩
  have s_z : Sq 24 z := by rw [hz]; exact .qv (by decide) h_e h_f
  have c1 : F_rcmp [b_ n, s_ a, s_ b, b_ m, s_ c, s_ d] = some [i_ (sgn (x - y).num)] := by rw [hx, hy]; exact R2.eq (by omega) (by omega) (by omega) (by omega)
  have c2 : F_rcmp [b_ m, s_ c, s_ d, b_ n, s_ a, s_ b] = some [i_ (sgn (y - x).num)] := by rw [hy, hx]; exact R2.eq (by omega) (by omega) (by omega) (by omega)
  have w64 : ∀ i : Int, -10 ≤ i → i ≤ 10 → IntKind.i64.wrap i = i := fun i h0 h1 => by rw [IntKind.wrap_i64]; omega
  have b3 : ∀ z : Int, -1 ≤ sgn z ∧ sgn z ≤ 1 := fun z => by { unfold sgn; split <;> (try split) <;> omega }
  obtain ⟨k, hk⟩ : ∃ k, k = sgn (x - y).num := ⟨_, rfl⟩
  obtain ⟨j, hj⟩ : ∃ k, k = sgn (y - x).num := ⟨_, rfl⟩
  obtain ⟨t, ht⟩ : ∃ k, k = sgn z.num := ⟨_, rfl⟩
  have bk := b3 (x - y).num
  have bj := b3 (y - x).num
  have bt := b3 z.num
  rw [← hk] at c1 bk
  rw [← hj] at c2 bj
  rw [← ht] at bt
  have f3 : k = 0 - j := by rw [hk, hj]; have e : y - x = -(x - y) := (by grind); have e2 : (-(x - y)).num = -(x - y).num := rfl; rw [e, e2, sgn_neg_int]; omega
  have f4 : (k != IntKind.i64.wrap (0 - j)) = false := by rw [w64 _ (by omega) (by omega), ← f3]; simp
  have c5 : F_rnorm [b_ n, s_ a, s_ b] = some (encR x) := by rw [hx]; exact R1.eq (by omega) (by omega)
  have c6 : F_rnorm [b_ m, s_ c, s_ d] = some (encR y) := by rw [hy]; exact R1.eq (by omega) (by omega)
  have f7 : (!((k == 0) == decide (x = y))) = false := by have e : (k == 0) = decide (x = y) := by { rw [Bool.eq_iff_iff, beq_iff_eq, decide_eq_true_iff, hk, sgn_num_zero]; constructor <;> intro h <;> grind }; rw [e]; simp
  obtain ⟨p8, hp8⟩ : ∃ p, p = x + z := ⟨_, rfl⟩
  have s_p8 : Sq 49 p8 := by rw [hp8]; exact Sq.add s_x s_z
  have c9 : F_radd [b_ n, s_ a, s_ b, b_ l, s_ e, s_ f] = some (encR p8) := by rw [hp8, hx, hz]; exact R2.eq (by omega) (by omega) (by omega) (by omega)
  obtain ⟨p10, hp10⟩ : ∃ p, p = y + z := ⟨_, rfl⟩
  have s_p10 : Sq 49 p10 := by rw [hp10]; exact Sq.add s_y s_z
  have c11 : F_radd [b_ m, s_ c, s_ d, b_ l, s_ e, s_ f] = some (encR p10) := by rw [hp10, hy, hz]; exact R2.eq (by omega) (by omega) (by omega) (by omega)
  have g1 : F_rcmp (encR p8 ++ encR p10) = some [i_ k] := by { have e : k = sgn (p8 - p10).num := by { rw [hk, hp8, hp10, show x + z - (y + z) = x - y from (by grind)] }; rw [e]; exact R2.can (s_p8.le (by decide)) (s_p10.le (by decide)) }
  have f13 : (k != k) = false := by simp
  obtain ⟨p14, hp14⟩ : ∃ p, p = x - y := ⟨_, rfl⟩
  have s_p14 : Sq 49 p14 := by rw [hp14]; exact sq_sub s_x s_y
  have c15 : F_rsub [b_ n, s_ a, s_ b, b_ m, s_ c, s_ d] = some (encR p14) := by rw [hp14, hx, hy]; exact R2.eq (by omega) (by omega) (by omega) (by omega)
  have g2 : F_rsign (encR p14) = some [i_ k] := by { rw [hk, ← hp14]; exact R1.can (s_p14.le (by decide)) }
  obtain ⟨p16, hp16⟩ : ∃ p, p = x * z := ⟨_, rfl⟩
  have s_p16 : Sq 48 p16 := by rw [hp16]; exact Sq.mul (by decide) s_x s_z
  have c17 : F_rmul [b_ n, s_ a, s_ b, b_ l, s_ e, s_ f] = some (encR p16) := by rw [hp16, hx, hz]; exact R2.eq (by omega) (by omega) (by omega) (by omega)
  obtain ⟨p18, hp18⟩ : ∃ p, p = y * z := ⟨_, rfl⟩
  have s_p18 : Sq 48 p18 := by rw [hp18]; exact Sq.mul (by decide) s_y s_z
  have c19 : F_rmul [b_ m, s_ c, s_ d, b_ l, s_ e, s_ f] = some (encR p18) := by rw [hp18, hy, hz]; exact R2.eq (by omega) (by omega) (by omega) (by omega)
  have g3 : F_rcmp (encR p16 ++ encR p18) = some [i_ (k * t)] := by { have e : k * t = sgn (p16 - p18).num := by { rw [hk, ht, hp16, hp18, show x * z - y * z = (x - y) * z from (by grind), sgn_mul_rat] }; rw [e]; exact R2.can (s_p16.le (by decide)) (s_p18.le (by decide)) }
  have g4 : F_rsign [b_ l, s_ e, s_ f] = some [i_ t] := by { rw [ht, hz]; exact R1.eq (by omega) (by omega) }
  have bkt : -10 ≤ k * t ∧ k * t ≤ 10 := by { have h1 : k = -1 ∨ k = 0 ∨ k = 1 := (by omega); rcases h1 with h1 | h1 | h1 <;> rw [h1] <;> omega }
  have f20 : (k * t != IntKind.i64.wrap (k * t)) = false := by rw [w64 _ bkt.1 bkt.2]; simp
  obtain ⟨u, hu⟩ : ∃ k, k = sgn (y - z).num := ⟨_, rfl⟩
  obtain ⟨v, hv⟩ : ∃ k, k = sgn (x - z).num := ⟨_, rfl⟩
  have g5 : F_rcmp [b_ m, s_ c, s_ d, b_ l, s_ e, s_ f] = some [i_ u] := by { rw [hu, hy, hz]; exact R2.eq (by omega) (by omega) (by omega) (by omega) }
  have g6 : F_rcmp [b_ n, s_ a, s_ b, b_ l, s_ e, s_ f] = some [i_ v] := by { rw [hv, hx, hz]; exact R2.eq (by omega) (by omega) (by omega) (by omega) }
  have g7 : ¬ k < 0 → ¬ u < 0 → v ≥ 0 := by { rw [hk, hu, hv]; intro h1 h2; rw [sgn_lt] at h1 h2; have h3 := mt (sgn_lt (x - z).num).1; have h4 := Rat.num_nonneg.1 (show 0 ≤ (x - y).num by omega); have h5 := Rat.num_nonneg.1 (show 0 ≤ (y - z).num by omega); have h6 : 0 ≤ x - z := (by grind); have h7 := Rat.num_nonneg.2 h6; have h8 := h3 (by omega); omega }
  clear hx hy hz hp8 hp10 hp14 hp16 hp18 hk hj ht hu hv
  refine go_call F_rcmp (by kernel_rfl) (by kernel_rfl) c1 rfl ?_
  refine go_call F_rcmp (by kernel_rfl) (by kernel_rfl) c2 rfl ?_
  refine go_pure (by kernel_rfl) (pu_neg_i .i64 j) ?_
  refine go_pure (by kernel_rfl) (pu_ne_i _ _ .i64 k (IntKind.i64.wrap (0 - j))) ?_
  refine go_no (b := k != IntKind.i64.wrap (0 - j)) (by kernel_rfl) (f4) ?_
  refine go_pure (by kernel_rfl) (pu_eq_i _ _ .i64 k 0) ?_
  refine go_call F_rnorm (by kernel_rfl) (by kernel_rfl) c5 rfl ?_
  refine go_call F_rnorm (by kernel_rfl) (by kernel_rfl) c6 rfl ?_
  refine go_pure (by kernel_rfl) (eq_rat _ x y) ?_
  refine go_pure (by kernel_rfl) (pu_ne_b _ _ (k == 0) (decide (x = y)) under_bool) ?_
  refine go_no (b := !((k == 0) == decide (x = y))) (by kernel_rfl) (f7) ?_
  refine go_call F_radd (by kernel_rfl) (by kernel_rfl) c9 rfl ?_
  refine go_call F_radd (by kernel_rfl) (by kernel_rfl) c11 rfl ?_
  refine go_call F_rcmp (by kernel_rfl) (by kernel_rfl) g1 rfl ?_
  refine go_pure (by kernel_rfl) (pu_ne_i _ _ .i64 k k) ?_
  refine go_no (b := k != k) (by kernel_rfl) (f13) ?_
  refine go_call F_rsub (by kernel_rfl) (by kernel_rfl) c15 rfl ?_
  refine go_call F_rsign (by kernel_rfl) (by kernel_rfl) g2 rfl ?_
  refine go_pure (by kernel_rfl) (pu_ne_i _ _ .i64 k k) ?_
  refine go_no (b := k != k) (by kernel_rfl) (f13) ?_
  refine go_call F_rmul (by kernel_rfl) (by kernel_rfl) c17 rfl ?_
  refine go_call F_rmul (by kernel_rfl) (by kernel_rfl) c19 rfl ?_
  refine go_call F_rcmp (by kernel_rfl) (by kernel_rfl) g3 rfl ?_
  refine go_call F_rsign (by kernel_rfl) (by kernel_rfl) g4 rfl ?_
  refine go_pure (by kernel_rfl) (pu_mul_i _ _ .i64 k t) ?_
  refine go_pure (by kernel_rfl) (pu_ne_i _ _ .i64 (k * t) (IntKind.i64.wrap (k * t))) ?_
  refine go_no (b := k * t != IntKind.i64.wrap (k * t)) (by kernel_rfl) (f20) ?_
  refine go_pure (by kernel_rfl) (pu_lt_i _ _ .i64 k 0) ?_
  refine go_ite (b := decide (k < 0)) (by kernel_rfl) (fun _ => go_call F_awake (by kernel_rfl) (by kernel_rfl) awk rfl (go_ret (by kernel_rfl))) (fun hk0 => ?_)
  refine go_call F_rcmp (by kernel_rfl) (by kernel_rfl) g5 rfl ?_
  refine go_pure (by kernel_rfl) (pu_lt_i _ _ .i64 u 0) ?_
  refine go_ite (b := decide (u < 0)) (by kernel_rfl) (fun _ => go_call F_awake (by kernel_rfl) (by kernel_rfl) awk rfl (go_ret (by kernel_rfl))) (fun hu0 => ?_)
  refine go_call F_rcmp (by kernel_rfl) (by kernel_rfl) g6 rfl ?_
  refine go_pure (by kernel_rfl) (pu_ge_i _ _ .i64 v 0) ?_
  refine go_yes (b := decide (v ≥ 0)) (by kernel_rfl) (decide_eq_true (g7 (of_decide_eq_false hk0) (of_decide_eq_false hu0))) ?_
  exact go_call F_awake (by kernel_rfl) (by kernel_rfl) awk rfl (go_ret (by kernel_rfl))
end Go.Proofs.YtliabkapejhohaaGreatDoor.Sp
