/- The law RationalFieldLaws: what its function answers. -/
import Derived.Test.YtliabkapejhohaaGreatDoorSpY
namespace Go.Proofs.YtliabkapejhohaaGreatDoor.Sp
open Go Go.RowKit Go.Proofs.YtliabkapejhohaaGreatDoor.Sx Go.Proofs.YtliabkapejhohaaGreatDoor.NatA Go.Proofs.YtliabkapejhohaaGreatDoor.NatB Go.Proofs.YtliabkapejhohaaGreatDoor.NatC Go.Proofs.YtliabkapejhohaaGreatDoor.NatD Go.Proofs.YtliabkapejhohaaGreatDoor.NatI Go.Proofs.YtliabkapejhohaaGreatDoor.NatJ Go.Proofs.YtliabkapejhohaaGreatDoor.IntZ Go.Proofs.YtliabkapejhohaaGreatDoor.RatZ

set_option maxHeartbeats 2000000 in
theorem g_RationalFieldLaws : Sx.Good Tryz.prog X.G 8 ⟨[.agg 3, .agg 3, .agg 3], .v1 .one⟩ F_r3 := good_tree okT3 (fun _ _ => X.G_below) 400 (by kernel_rfl) (by kernel_rfl : _ = some t_voussoirlaw03_RationalFieldLaws) fun ds rs h => by
  obtain ⟨n, a, b, m, c, d, l, e, f, rfl, rfl⟩ := F_r3.inv h
  refine ⟨0, ?_⟩
  refine go_pure (by kernel_rfl) (pu_len_s under_str a) (go_pure (by kernel_rfl) (pu_gt_i _ _ .i64 (a.size : Int) 24) (go_ite (b := decide ((a.size : Int) > 24)) (by kernel_rfl) (fun _ => go_call F_awake (by kernel_rfl) (by kernel_rfl) awk rfl (go_ret (by kernel_rfl))) (fun h_a => ?_)))
  refine go_pure (by kernel_rfl) (pu_len_s under_str b) (go_pure (by kernel_rfl) (pu_gt_i _ _ .i64 (b.size : Int) 24) (go_ite (b := decide ((b.size : Int) > 24)) (by kernel_rfl) (fun _ => go_call F_awake (by kernel_rfl) (by kernel_rfl) awk rfl (go_ret (by kernel_rfl))) (fun h_b => ?_)))
  refine go_pure (by kernel_rfl) (pu_len_s under_str c) (go_pure (by kernel_rfl) (pu_gt_i _ _ .i64 (c.size : Int) 24) (go_ite (b := decide ((c.size : Int) > 24)) (by kernel_rfl) (fun _ => go_call F_awake (by kernel_rfl) (by kernel_rfl) awk rfl (go_ret (by kernel_rfl))) (fun h_c => ?_)))
  refine go_pure (by kernel_rfl) (pu_len_s under_str d) (go_pure (by kernel_rfl) (pu_gt_i _ _ .i64 (d.size : Int) 24) (go_ite (b := decide ((d.size : Int) > 24)) (by kernel_rfl) (fun _ => go_call F_awake (by kernel_rfl) (by kernel_rfl) awk rfl (go_ret (by kernel_rfl))) (fun h_d => ?_)))
  refine go_pure (by kernel_rfl) (pu_len_s under_str e) (go_pure (by kernel_rfl) (pu_gt_i _ _ .i64 (e.size : Int) 24) (go_ite (b := decide ((e.size : Int) > 24)) (by kernel_rfl) (fun _ => go_call F_awake (by kernel_rfl) (by kernel_rfl) awk rfl (go_ret (by kernel_rfl))) (fun h_e => ?_)))
  refine go_pure (by kernel_rfl) (pu_len_s under_str f) (go_pure (by kernel_rfl) (pu_gt_i _ _ .i64 (f.size : Int) 24) (go_ite (b := decide ((f.size : Int) > 24)) (by kernel_rfl) (fun _ => go_call F_awake (by kernel_rfl) (by kernel_rfl) awk rfl (go_ret (by kernel_rfl))) (fun h_f => ?_)))
  have h_a : a.size ≤ 24 := len_le h_a
  have h_b : b.size ≤ 24 := len_le h_b
  have h_c : c.size ≤ 24 := len_le h_c
  have h_d : d.size ≤ 24 := len_le h_d
  have h_e : e.size ≤ 24 := len_le h_e
  have h_f : f.size ≤ 24 := len_le h_f
  obtain ⟨x, hx⟩ : ∃ x, x = qv n a b := ⟨_, rfl⟩
  have s_x : Sq 24 x := by rw [hx]; exact .qv (by decide) h_a h_b
  obtain ⟨y, hy⟩ : ∃ x, x = qv m c d := ⟨_, rfl⟩
  have s_y : Sq 24 y := by rw [hy]; exact .qv (by decide) h_c h_d
  obtain ⟨z, hz⟩ : ∃ x, x = qv l e f := ⟨_, rfl⟩
  have s_z : Sq 24 z := by rw [hz]; exact .qv (by decide) h_e h_f
  obtain ⟨p1, hp1⟩ : ∃ p, p = x + y := ⟨_, rfl⟩
  have s_p1 : Sq 49 p1 := by rw [hp1]; exact Sq.add s_x s_y
  have c2 : F_radd [b_ n, s_ a, s_ b, b_ m, s_ c, s_ d] = some (encR p1) := by rw [hp1, hx, hy]; exact R2.eq (by omega) (by omega) (by omega) (by omega)
  obtain ⟨p3, hp3⟩ : ∃ p, p = p1 + z := ⟨_, rfl⟩
  have s_p3 : Sq 74 p3 := by rw [hp3]; exact Sq.add s_p1 s_z
  have c4 : F_radd (encR p1 ++ [b_ l, s_ e, s_ f]) = some (encR p3) := by rw [hp3, hz]; exact R2.right (by omega) (by omega) (s_p1.le (by decide))
  obtain ⟨p5, hp5⟩ : ∃ p, p = y + z := ⟨_, rfl⟩
  have s_p5 : Sq 49 p5 := by rw [hp5]; exact Sq.add s_y s_z
  have c6 : F_radd [b_ m, s_ c, s_ d, b_ l, s_ e, s_ f] = some (encR p5) := by rw [hp5, hy, hz]; exact R2.eq (by omega) (by omega) (by omega) (by omega)
  obtain ⟨p7, hp7⟩ : ∃ p, p = x + p5 := ⟨_, rfl⟩
  have s_p7 : Sq 74 p7 := by rw [hp7]; exact Sq.add s_x s_p5
  have c8 : F_radd ([b_ n, s_ a, s_ b] ++ encR p5) = some (encR p7) := by rw [hp7, hx]; exact R2.left (by omega) (by omega) (s_p5.le (by decide))
  have f9 : p3 = p7 := by rw [hp3, hp7, hp1, hp5, Rat.add_assoc]
  have c10 : F_radd [b_ n, s_ a, s_ b, b_ m, s_ c, s_ d] = some (encR p1) := by rw [hp1, hx, hy]; exact R2.eq (by omega) (by omega) (by omega) (by omega)
  obtain ⟨p11, hp11⟩ : ∃ p, p = y + x := ⟨_, rfl⟩
  have s_p11 : Sq 49 p11 := by rw [hp11]; exact Sq.add s_y s_x
  have c12 : F_radd [b_ m, s_ c, s_ d, b_ n, s_ a, s_ b] = some (encR p11) := by rw [hp11, hy, hx]; exact R2.eq (by omega) (by omega) (by omega) (by omega)
  have f13 : p1 = p11 := by rw [hp1, hp11, Rat.add_comm]
  obtain ⟨p14, hp14⟩ : ∃ p, p = x * y := ⟨_, rfl⟩
  have s_p14 : Sq 48 p14 := by rw [hp14]; exact Sq.mul (by decide) s_x s_y
  have c15 : F_rmul [b_ n, s_ a, s_ b, b_ m, s_ c, s_ d] = some (encR p14) := by rw [hp14, hx, hy]; exact R2.eq (by omega) (by omega) (by omega) (by omega)
  obtain ⟨p16, hp16⟩ : ∃ p, p = p14 * z := ⟨_, rfl⟩
  have s_p16 : Sq 72 p16 := by rw [hp16]; exact Sq.mul (by decide) s_p14 s_z
  have c17 : F_rmul (encR p14 ++ [b_ l, s_ e, s_ f]) = some (encR p16) := by rw [hp16, hz]; exact R2.right (by omega) (by omega) (s_p14.le (by decide))
  obtain ⟨p18, hp18⟩ : ∃ p, p = y * z := ⟨_, rfl⟩
  have s_p18 : Sq 48 p18 := by rw [hp18]; exact Sq.mul (by decide) s_y s_z
  have c19 : F_rmul [b_ m, s_ c, s_ d, b_ l, s_ e, s_ f] = some (encR p18) := by rw [hp18, hy, hz]; exact R2.eq (by omega) (by omega) (by omega) (by omega)
  obtain ⟨p20, hp20⟩ : ∃ p, p = x * p18 := ⟨_, rfl⟩
  have s_p20 : Sq 72 p20 := by rw [hp20]; exact Sq.mul (by decide) s_x s_p18
  have c21 : F_rmul ([b_ n, s_ a, s_ b] ++ encR p18) = some (encR p20) := by rw [hp20, hx]; exact R2.left (by omega) (by omega) (s_p18.le (by decide))
  have f22 : p16 = p20 := by rw [hp16, hp20, hp14, hp18, Rat.mul_assoc]
  have c23 : F_rmul [b_ n, s_ a, s_ b, b_ m, s_ c, s_ d] = some (encR p14) := by rw [hp14, hx, hy]; exact R2.eq (by omega) (by omega) (by omega) (by omega)
  obtain ⟨p24, hp24⟩ : ∃ p, p = y * x := ⟨_, rfl⟩
  have s_p24 : Sq 48 p24 := by rw [hp24]; exact Sq.mul (by decide) s_y s_x
  have c25 : F_rmul [b_ m, s_ c, s_ d, b_ n, s_ a, s_ b] = some (encR p24) := by rw [hp24, hy, hx]; exact R2.eq (by omega) (by omega) (by omega) (by omega)
  have f26 : p14 = p24 := by rw [hp14, hp24, Rat.mul_comm]
  have c27 : F_radd [b_ m, s_ c, s_ d, b_ l, s_ e, s_ f] = some (encR p5) := by rw [hp5, hy, hz]; exact R2.eq (by omega) (by omega) (by omega) (by omega)
  obtain ⟨p28, hp28⟩ : ∃ p, p = x * p5 := ⟨_, rfl⟩
  have s_p28 : Sq 73 p28 := by rw [hp28]; exact Sq.mul (by decide) s_x s_p5
  have c29 : F_rmul ([b_ n, s_ a, s_ b] ++ encR p5) = some (encR p28) := by rw [hp28, hx]; exact R2.left (by omega) (by omega) (s_p5.le (by decide))
  have c30 : F_rmul [b_ n, s_ a, s_ b, b_ m, s_ c, s_ d] = some (encR p14) := by rw [hp14, hx, hy]; exact R2.eq (by omega) (by omega) (by omega) (by omega)
  obtain ⟨p31, hp31⟩ : ∃ p, p = x * z := ⟨_, rfl⟩
  have s_p31 : Sq 48 p31 := by rw [hp31]; exact Sq.mul (by decide) s_x s_z
  have c32 : F_rmul [b_ n, s_ a, s_ b, b_ l, s_ e, s_ f] = some (encR p31) := by rw [hp31, hx, hz]; exact R2.eq (by omega) (by omega) (by omega) (by omega)
  obtain ⟨p33, hp33⟩ : ∃ p, p = p14 + p31 := ⟨_, rfl⟩
  have s_p33 : Sq 97 p33 := by rw [hp33]; exact Sq.add s_p14 s_p31
  have c34 : F_radd (encR p14 ++ encR p31) = some (encR p33) := by rw [hp33]; exact R2.can (s_p14.le (by decide)) (s_p31.le (by decide))
  have f35 : p28 = p33 := by rw [hp28, hp33, hp5, hp14, hp31, Rat.mul_add]
  have c36 : F_rnorm [b_ n, s_ a, s_ b] = some (encR x) := by rw [hx]; exact R1.eq (by omega) (by omega)
  have c37 : F_rmul [b_ n, s_ a, s_ b, b_ m, s_ c, s_ d] = some (encR p14) := by rw [hp14, hx, hy]; exact R2.eq (by omega) (by omega) (by omega) (by omega)
  obtain ⟨p38, hp38⟩ : ∃ p, p = p14 / y := ⟨_, rfl⟩
  have s_p38 : Sq 72 p38 := by rw [hp38]; exact sq_div (by decide) s_p14 s_y
  have c39 : F_rdiv (encR p14 ++ [b_ m, s_ c, s_ d]) = some (encR p38 ++ [b_ (!decide (y = 0))]) := by rw [hp38, hy]; exact R2.right (by omega) (by omega) (s_p14.le (by decide))
  have c40 : F_radd [b_ n, s_ a, s_ b, b_ m, s_ c, s_ d] = some (encR p1) := by rw [hp1, hx, hy]; exact R2.eq (by omega) (by omega) (by omega) (by omega)
  obtain ⟨p41, hp41⟩ : ∃ p, p = p1 - y := ⟨_, rfl⟩
  have s_p41 : Sq 74 p41 := by rw [hp41]; exact sq_sub s_p1 s_y
  have c42 : F_rsub (encR p1 ++ [b_ m, s_ c, s_ d]) = some (encR p41) := by rw [hp41, hy]; exact R2.right (by omega) (by omega) (s_p1.le (by decide))
  have f43 : p41 = x := by rw [hp41, hp1]; grind
  obtain ⟨p44, hp44⟩ : ∃ p, p = Rat.divInt 0 1 := ⟨_, rfl⟩
  have s_p44 : Sq 8 p44 := by rw [hp44]; exact sq_zero
  have c45 : F_rfrom [i_ 0] = some (encR p44) := by rw [hp44]; exact F_rfrom.eq (by decide) (by decide)
  obtain ⟨p46, hp46⟩ : ∃ p, p = x + p44 := ⟨_, rfl⟩
  have s_p46 : Sq 33 p46 := by rw [hp46]; exact Sq.add s_x s_p44
  have c47 : F_radd ([b_ n, s_ a, s_ b] ++ encR p44) = some (encR p46) := by rw [hp46, hx]; exact R2.left (by omega) (by omega) (s_p44.le (by decide))
  have f48 : p46 = x := by rw [hp46, hp44, rat_zero, Rat.add_zero]
  obtain ⟨p49, hp49⟩ : ∃ p, p = Rat.divInt 1 1 := ⟨_, rfl⟩
  have s_p49 : Sq 8 p49 := by rw [hp49]; exact sq_one
  have c50 : F_rfrom [i_ 1] = some (encR p49) := by rw [hp49]; exact F_rfrom.eq (by decide) (by decide)
  obtain ⟨p51, hp51⟩ : ∃ p, p = x * p49 := ⟨_, rfl⟩
  have s_p51 : Sq 32 p51 := by rw [hp51]; exact Sq.mul (by decide) s_x s_p49
  have c52 : F_rmul ([b_ n, s_ a, s_ b] ++ encR p49) = some (encR p51) := by rw [hp51, hx]; exact R2.left (by omega) (by omega) (s_p49.le (by decide))
  have f53 : p51 = x := by rw [hp51, hp49, rat_one, Rat.mul_one]
  obtain ⟨p54, hp54⟩ : ∃ p, p = x - x := ⟨_, rfl⟩
  have s_p54 : Sq 49 p54 := by rw [hp54]; exact sq_sub s_x s_x
  have c55 : F_rsub [b_ n, s_ a, s_ b, b_ n, s_ a, s_ b] = some (encR p54) := by rw [hp54, hx]; exact R2.eq (by omega) (by omega) (by omega) (by omega)
  have f56 : p54 = p44 := by rw [hp54, hp44, rat_zero]; grind
  have c57 : F_rsign [b_ m, s_ c, s_ d] = some [i_ (sgn y.num)] := by rw [hy]; exact R1.eq (by omega) (by omega)
  have f58 : ((!decide (y = 0)) == (sgn y.num != 0)) = true := by have e : (sgn y.num == 0) = decide (y = 0) := by { rw [Bool.eq_iff_iff, beq_iff_eq, decide_eq_true_iff, sgn_num_zero] }; show ((!decide (y = 0)) == !(sgn y.num == 0)) = true; rw [e]; exact beq_self_eq_true _
  have f59 : y ≠ 0 → p38 = x := by intro hy0; rw [hp38, hp14, Rat.div_def, Rat.mul_assoc, Rat.mul_inv_cancel y hy0, Rat.mul_one]
  clear hx hy hz hp1 hp3 hp5 hp7 hp11 hp14 hp16 hp18 hp20 hp24 hp28 hp31 hp33 hp38 hp41 hp44 hp46 hp49 hp51 hp54
  refine go_call F_radd (by kernel_rfl) (by kernel_rfl) c2 rfl ?_
  refine go_call F_radd (by kernel_rfl) (by kernel_rfl) c4 rfl ?_
  refine go_call F_radd (by kernel_rfl) (by kernel_rfl) c6 rfl ?_
  refine go_call F_radd (by kernel_rfl) (by kernel_rfl) c8 rfl ?_
  refine go_pure (by kernel_rfl) (ne_rat _ p3 p7) ?_
  refine go_no (b := !decide (p3 = p7)) (by kernel_rfl) (ne_no f9) ?_
  refine go_call F_radd (by kernel_rfl) (by kernel_rfl) c10 rfl ?_
  refine go_call F_radd (by kernel_rfl) (by kernel_rfl) c12 rfl ?_
  refine go_pure (by kernel_rfl) (ne_rat _ p1 p11) ?_
  refine go_no (b := !decide (p1 = p11)) (by kernel_rfl) (ne_no f13) ?_
  refine go_call F_rmul (by kernel_rfl) (by kernel_rfl) c15 rfl ?_
  refine go_call F_rmul (by kernel_rfl) (by kernel_rfl) c17 rfl ?_
  refine go_call F_rmul (by kernel_rfl) (by kernel_rfl) c19 rfl ?_
  refine go_call F_rmul (by kernel_rfl) (by kernel_rfl) c21 rfl ?_
  refine go_pure (by kernel_rfl) (ne_rat _ p16 p20) ?_
  refine go_no (b := !decide (p16 = p20)) (by kernel_rfl) (ne_no f22) ?_
  refine go_call F_rmul (by kernel_rfl) (by kernel_rfl) c23 rfl ?_
  refine go_call F_rmul (by kernel_rfl) (by kernel_rfl) c25 rfl ?_
  refine go_pure (by kernel_rfl) (ne_rat _ p14 p24) ?_
  refine go_no (b := !decide (p14 = p24)) (by kernel_rfl) (ne_no f26) ?_
  refine go_call F_radd (by kernel_rfl) (by kernel_rfl) c27 rfl ?_
  refine go_call F_rmul (by kernel_rfl) (by kernel_rfl) c29 rfl ?_
  refine go_call F_rmul (by kernel_rfl) (by kernel_rfl) c30 rfl ?_
  refine go_call F_rmul (by kernel_rfl) (by kernel_rfl) c32 rfl ?_
  refine go_call F_radd (by kernel_rfl) (by kernel_rfl) c34 rfl ?_
  refine go_pure (by kernel_rfl) (ne_rat _ p28 p33) ?_
  refine go_no (b := !decide (p28 = p33)) (by kernel_rfl) (ne_no f35) ?_
  refine go_call F_rnorm (by kernel_rfl) (by kernel_rfl) c36 rfl ?_
  refine go_call F_rmul (by kernel_rfl) (by kernel_rfl) c37 rfl ?_
  refine go_call F_rdiv (by kernel_rfl) (by kernel_rfl) c39 rfl ?_
  refine go_call F_radd (by kernel_rfl) (by kernel_rfl) c40 rfl ?_
  refine go_call F_rsub (by kernel_rfl) (by kernel_rfl) c42 rfl ?_
  refine go_pure (by kernel_rfl) (eq_rat _ p41 x) ?_
  refine go_yes (b := decide (p41 = x)) (by kernel_rfl) (decide_eq_true f43) ?_
  refine go_call F_rfrom (by kernel_rfl) (by kernel_rfl) c45 rfl ?_
  refine go_call F_radd (by kernel_rfl) (by kernel_rfl) c47 rfl ?_
  refine go_pure (by kernel_rfl) (eq_rat _ p46 x) ?_
  refine go_yes (b := decide (p46 = x)) (by kernel_rfl) (decide_eq_true f48) ?_
  refine go_call F_rfrom (by kernel_rfl) (by kernel_rfl) c50 rfl ?_
  refine go_call F_rmul (by kernel_rfl) (by kernel_rfl) c52 rfl ?_
  refine go_pure (by kernel_rfl) (eq_rat _ p51 x) ?_
  refine go_yes (b := decide (p51 = x)) (by kernel_rfl) (decide_eq_true f53) ?_
  refine go_call F_rsub (by kernel_rfl) (by kernel_rfl) c55 rfl ?_
  refine go_call F_rfrom (by kernel_rfl) (by kernel_rfl) c45 rfl ?_
  refine go_pure (by kernel_rfl) (eq_rat _ p54 p44) ?_
  refine go_yes (b := decide (p54 = p44)) (by kernel_rfl) (decide_eq_true f56) ?_
  refine go_call F_rsign (by kernel_rfl) (by kernel_rfl) c57 rfl ?_
  refine go_pure (by kernel_rfl) (pu_ne_i _ _ .i64 (sgn y.num) 0) ?_
  refine go_pure (by kernel_rfl) (pu_eq_b _ _ (!decide (y = 0)) (sgn y.num != 0) under_bool) ?_
  refine go_yes (b := (!decide (y = 0)) == (sgn y.num != 0)) (by kernel_rfl) (f58) ?_
  refine go_pure (by kernel_rfl) (pu_not (!decide (y = 0))) ?_
  refine go_ite (b := !!decide (y = 0)) (by kernel_rfl) (fun _ => go_call F_awake (by kernel_rfl) (by kernel_rfl) awk rfl (go_ret (by kernel_rfl))) (fun hz => ?_)
  have hy0 : y ≠ 0 := fun h => by rw [h] at hz; simp at hz
  refine go_pure (by kernel_rfl) (eq_rat _ p38 x) ?_
  refine go_yes (b := decide (p38 = x)) (by kernel_rfl) (decide_eq_true (f59 hy0)) ?_
  exact go_call F_awake (by kernel_rfl) (by kernel_rfl) awk rfl (go_ret (by kernel_rfl))
end Go.Proofs.YtliabkapejhohaaGreatDoor.Sp
