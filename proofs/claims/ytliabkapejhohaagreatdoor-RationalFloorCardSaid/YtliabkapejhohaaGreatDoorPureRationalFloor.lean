import Derived.Test.YtliabkapejhohaaGreatDoorSpW
namespace Go.Proofs.YtliabkapejhohaaGreatDoor.Sp
open Go Go.RowKit Go.Proofs.YtliabkapejhohaaGreatDoor.Sx Go.Proofs.YtliabkapejhohaaGreatDoor.NatA Go.Proofs.YtliabkapejhohaaGreatDoor.NatB Go.Proofs.YtliabkapejhohaaGreatDoor.NatC Go.Proofs.YtliabkapejhohaaGreatDoor.NatD Go.Proofs.YtliabkapejhohaaGreatDoor.NatI Go.Proofs.YtliabkapejhohaaGreatDoor.NatJ Go.Proofs.YtliabkapejhohaaGreatDoor.IntZ Go.Proofs.YtliabkapejhohaaGreatDoor.RatZ
set_option maxHeartbeats 2000000 in
theorem g_RationalFloor : Sx.Good Tryz.prog X.G 7 ⟨[.agg 3], .v1 .one⟩ F_r1 := good_tree okW (fun _ _ => X.G_below) 400 (by kernel_rfl) (by kernel_rfl : _ = some t_voussoirlaw03_RationalFloor) fun ds rs h => by
  obtain ⟨n, a, b, rfl, rfl⟩ := F_r1.inv h
  refine ⟨0, ?_⟩
  refine go_pure (by kernel_rfl) (pu_len_s under_str a) (go_pure (by kernel_rfl) (pu_gt_i _ _ .i64 (a.size : Int) 24) (go_ite (b := decide ((a.size : Int) > 24)) (by kernel_rfl) (fun _ => go_call F_awake (by kernel_rfl) (by kernel_rfl) awk rfl (go_ret (by kernel_rfl))) (fun h_a => ?_)))
  refine go_pure (by kernel_rfl) (pu_len_s under_str b) (go_pure (by kernel_rfl) (pu_gt_i _ _ .i64 (b.size : Int) 24) (go_ite (b := decide ((b.size : Int) > 24)) (by kernel_rfl) (fun _ => go_call F_awake (by kernel_rfl) (by kernel_rfl) awk rfl (go_ret (by kernel_rfl))) (fun h_b => ?_)))
  have h_a : a.size ≤ 24 := len_le h_a
  have h_b : b.size ≤ 24 := len_le h_b
  obtain ⟨x, hx⟩ : ∃ x, x = qv n a b := ⟨_, rfl⟩
  have s_x : Sq 24 x := by rw [hx]; exact .qv (by decide) h_a h_b
  obtain ⟨w, hw⟩ : ∃ w, w = x.floor := ⟨_, rfl⟩
  have s_w : Sz 24 w := by rw [hw]; exact floor_sz s_x
  obtain ⟨q, hq⟩ : ∃ q, q = Rat.divInt w 1 := ⟨_, rfl⟩
  have s_q : Sq 24 q := by rw [hq]; exact Sq.divInt (by decide) s_w (Sz.one.le (by decide))
  obtain ⟨o, ho⟩ : ∃ q, q = Rat.divInt 1 1 := ⟨_, rfl⟩
  have s_o : Sq 8 o := by rw [ho]; exact sq_one
  obtain ⟨p, hp⟩ : ∃ p, p = x - q := ⟨_, rfl⟩
  have s_p : Sq 49 p := by rw [hp]; exact sq_sub s_x s_q
  have c1 : F_floor [b_ n, s_ a, s_ b] = some (enc w) := by rw [hw, hx]; exact R1.eq (by omega) (by omega)
  have c2 : F_ifrom [i_ 1] = some (enc 1) := by exact from_ok (by decide) (by decide)
  have c3 : F_make (enc w ++ enc 1) = some (encR q ++ [b_ (!decide ((1 : Int) = 0))]) := by rw [hq]; exact I2.can (s_w.le (by decide)) (Sz.one.le (by decide))
  have c4 : F_rsub ([b_ n, s_ a, s_ b] ++ encR q) = some (encR p) := by rw [hp, hx]; exact R2.left (by omega) (by omega) (s_q.le (by decide))
  have c5 : F_rsign (encR p) = some [i_ (sgn p.num)] := by exact R1.can (s_p.le (by decide))
  have f6 : sgn p.num ≥ 0 := by rw [hp, hq, hw]; exact floor_ge x
  have c7 : F_rfrom [i_ 1] = some (encR o) := by rw [ho]; exact F_rfrom.eq (by decide) (by decide)
  have c8 : F_rcmp (encR p ++ encR o) = some [i_ (sgn (p - o).num)] := by exact R2.can (s_p.le (by decide)) (s_o.le (by decide))
  have f9 : sgn (p - o).num < 0 := by rw [hp, hq, hw, ho]; exact floor_lt x
  clear hx hw hq ho hp
  refine go_call F_floor (by kernel_rfl) (by kernel_rfl) c1 rfl ?_
  refine go_call F_ifrom (by kernel_rfl) (by kernel_rfl) c2 rfl ?_
  refine go_call F_make (by kernel_rfl) (by kernel_rfl) c3 rfl ?_
  refine go_call F_rsub (by kernel_rfl) (by kernel_rfl) c4 rfl ?_
  refine go_call F_floor (by kernel_rfl) (by kernel_rfl) c1 rfl ?_
  refine go_pure (by kernel_rfl) (eq_int _ w w) ?_
  refine go_yes (b := decide (w = w)) (by kernel_rfl) (decide_eq_true rfl) ?_
  refine go_yes (b := !decide ((1 : Int) = 0)) (by kernel_rfl) (rfl) ?_
  refine go_call F_rsign (by kernel_rfl) (by kernel_rfl) c5 rfl ?_
  refine go_pure (by kernel_rfl) (pu_ge_i _ _ .i64 (sgn p.num) 0) ?_
  refine go_yes (b := decide (sgn p.num ≥ 0)) (by kernel_rfl) (decide_eq_true f6) ?_
  refine go_call F_rfrom (by kernel_rfl) (by kernel_rfl) c7 rfl ?_
  refine go_call F_rcmp (by kernel_rfl) (by kernel_rfl) c8 rfl ?_
  refine go_pure (by kernel_rfl) (pu_lt_i _ _ .i64 (sgn (p - o).num) 0) ?_
  refine go_yes (b := decide (sgn (p - o).num < 0)) (by kernel_rfl) (decide_eq_true f9) ?_
  exact go_call F_awake (by kernel_rfl) (by kernel_rfl) awk rfl (go_ret (by kernel_rfl))
end Go.Proofs.YtliabkapejhohaaGreatDoor.Sp
