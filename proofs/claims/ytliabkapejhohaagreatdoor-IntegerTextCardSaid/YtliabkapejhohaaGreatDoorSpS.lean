import Derived.Test.YtliabkapejhohaaGreatDoorSpR
import Derived.Test.YtliabkapejhohaaGreatDoorSpI
import Derived.Test.YtliabkapejhohaaGreatDoorTr2
namespace Go.Proofs.YtliabkapejhohaaGreatDoor.Sp
open Go Go.RowKit Go.Proofs.YtliabkapejhohaaGreatDoor.Sx Go.Proofs.YtliabkapejhohaaGreatDoor.NatA Go.Proofs.YtliabkapejhohaaGreatDoor.NatB Go.Proofs.YtliabkapejhohaaGreatDoor.NatC Go.Proofs.YtliabkapejhohaaGreatDoor.NatD Go.Proofs.YtliabkapejhohaaGreatDoor.NatI Go.Proofs.YtliabkapejhohaaGreatDoor.NatJ Go.Proofs.YtliabkapejhohaaGreatDoor.IntZ Go.Proofs.YtliabkapejhohaaGreatDoor.RatZ
theorem sgn_pos {z : Int} : sgn z > 0 ↔ z > 0 := by
  unfold sgn
  split
  · omega
  · split <;> omega
theorem sgn_neg {z : Int} : sgn z < 0 ↔ z < 0 := by
  unfold sgn
  split
  · omega
  · split <;> omega
theorem Sz.sg {s : Nat} {x : Nat} (b : Bool) (h : (N x).size ≤ s) : Sz s (sg b x) := by
  show (N (IntZ.sg b x).natAbs).size ≤ s
  rw [natAbs_sg]
  exact h
theorem r_iof : Sx.Good Tryz.prog X.G 60 ⟨[.one, .one], .v1 (.agg 2)⟩ F_inorm := good_tree okR (fun _ _ => X.G_below) 400 (by kernel_rfl) (by kernel_rfl : _ = some t_voussoirref02_of) fun ds rs h => by
  obtain ⟨n, a, rfl, ha, rfl⟩ := I1.inv h
  refine ⟨0, go_call F_norm rfl rfl (S1.eq (by omega)) rfl ?_⟩
  show _ = some (enc (sg n (V a)))
  generalize NatA.V a = x
  refine go_ite rfl (fun h => ?_) (fun h => ?_)
  · subst h
    refine go_pure rfl (pu_ne_s _ _ _ _) (go_ret ?_)
    show some [b_ (!decide (N x = (⟨#[]⟩ : ByteArray))), s_ (N x)] = some [b_ (I (sg true x)).1, s_ (I (sg true x)).2]
    rw [enc_true, enc_abs]
  · subst h
    refine go_ret ?_
    show some [b_ false, s_ (N x)] = some [b_ (I (sg false x)).1, s_ (I (sg false x)).2]
    rw [enc_abs, enc_false]
def tbS0 : Tb := (60, F_inorm) :: tbR
theorem okS0 : TbOk Tryz.prog X.G tbS0 := .cons (by kernel_rfl) r_iof okR
theorem r_inorm : Sx.Good Tryz.prog X.G 65 ⟨[.agg 2], .v1 (.agg 2)⟩ F_inorm := good_tree okS0 (fun _ _ => X.G_below) 400 (by kernel_rfl) (by kernel_rfl : _ = some t_voussoirref02_Norm) fun ds rs h => by
  obtain ⟨n, a, rfl, ha, rfl⟩ := I1.inv h
  exact ⟨0, go_call F_inorm rfl rfl (I1.eq ha) rfl (go_ret rfl)⟩
def tbS1 : Tb := (65, F_inorm) :: tbS0
theorem okS1 : TbOk Tryz.prog X.G tbS1 := .cons (by kernel_rfl) r_inorm okS0
theorem r_ineg : Sx.Good Tryz.prog X.G 93 ⟨[.agg 2], .v1 (.agg 2)⟩ F_ineg := good_tree okS1 (fun _ _ => X.G_below) 400 (by kernel_rfl) (by kernel_rfl : _ = some t_voussoirref02_Neg) fun ds rs h => by
  obtain ⟨n, a, rfl, ha, rfl⟩ := I1.inv h
  refine ⟨0, go_pure rfl (pu_not _) (go_call F_inorm rfl rfl (I1.eq ha) rfl (go_ret ?_))⟩
  show some (enc (sg (!n) (V a))) = some (enc (-sg n (V a)))
  rw [sg_not]
def tbS2 : Tb := (93, F_ineg) :: tbS1
theorem okS2 : TbOk Tryz.prog X.G tbS2 := .cons (by kernel_rfl) r_ineg okS1
theorem r_iadd : Sx.Good Tryz.prog X.G 92 ⟨[.agg 2, .agg 2], .v1 (.agg 2)⟩ F_iadd := good_tree okS2 (fun _ _ => X.G_below) 400 (by kernel_rfl) (by kernel_rfl : _ = some t_voussoirref02_Add) fun ds rs h => by
  obtain ⟨n, a, m, b, rfl, ha, hb, rfl⟩ := I2.inv h
  have sA : (N (V a + V b)).size ≤ 9001 := N_size_add a b (s := 9000) ha hb
  have sa : (N (V a - V b)).size ≤ 9000 := Nat.le_trans (N_size_V (Nat.sub_le _ _)) ha
  have sb : (N (V b - V a)).size ≤ 9000 := Nat.le_trans (N_size_V (Nat.sub_le _ _)) hb
  refine ⟨0, go_pure rfl (pu_eq_b _ _ _ _ under_bool) ?_⟩
  show _ = some (enc (sg n (V a) + sg m (V b)))
  refine go_ite rfl (fun e => ?_) (fun e => ?_)
  · obtain rfl : n = m := by simpa using e
    refine go_call F_add rfl rfl (S2.eq (by omega) (by omega)) rfl (go_call F_inorm rfl rfl (I1.eq (by omega)) rfl (go_ret ?_))
    show some (enc (sg n (V (N (V a + V b))))) = _
    rw [V_N, sg_add_same]
  · obtain rfl : m = !n := ne_not (by rw [e]; decide)
    refine go_call F_sub rfl rfl (S2.eq (by omega) (by omega)) rfl ?_
    by_cases hl : V a < V b
    · unfold subR
      rw [if_pos hl]
      refine go_false rfl (go_call F_sub rfl rfl (S2.eq (by omega) (by omega)) rfl ?_)
      unfold subR
      rw [if_neg (by omega)]
      refine go_call F_inorm rfl rfl (I1.eq (Nat.le_trans sb (by decide))) rfl (go_ret ?_)
      have e2 := sg_sub_other (!n) (V b) (V a) (by omega)
      rw [Bool.not_not, Int.add_comm] at e2
      show some (enc (sg (!n) (V (N (V b - V a))))) = _
      rw [V_N, e2]
    · unfold subR
      rw [if_neg hl]
      refine go_true rfl (go_call F_inorm rfl rfl (I1.eq (Nat.le_trans sa (by decide))) rfl (go_ret ?_))
      show some (enc (sg n (V (N (V a - V b))))) = _
      rw [V_N, sg_sub_other n _ _ (by omega)]
def tbS3 : Tb := (92, F_iadd) :: tbS2
theorem okS3 : TbOk Tryz.prog X.G tbS3 := .cons (by kernel_rfl) r_iadd okS2
theorem r_isub : Sx.Good Tryz.prog X.G 108 ⟨[.agg 2, .agg 2], .v1 (.agg 2)⟩ F_isub := good_tree okS3 (fun _ _ => X.G_below) 400 (by kernel_rfl) (by kernel_rfl : _ = some t_voussoirref02_Sub) fun ds rs h => by
  obtain ⟨n, a, m, b, rfl, ha, hb, rfl⟩ := I2.inv h
  have s2 : Sz 9000 (Z m b) := .of hb
  exact ⟨0, go_call F_ineg rfl rfl (I1.eq (by omega)) rfl (go_call F_iadd rfl rfl (I2.left ha s2.neg) rfl (go_ret rfl))⟩
def tbS4 : Tb := (108, F_isub) :: tbS3
theorem okS4 : TbOk Tryz.prog X.G tbS4 := .cons (by kernel_rfl) r_isub okS3
theorem r_imul : Sx.Good Tryz.prog X.G 87 ⟨[.agg 2, .agg 2], .v1 (.agg 2)⟩ F_imul := good_tree okS4 (fun _ _ => X.G_below) 400 (by kernel_rfl) (by kernel_rfl : _ = some t_voussoirref02_Mul) fun ds rs h => by
  obtain ⟨n, a, m, b, rfl, ha, hb, rfl⟩ := I2.inv h
  have sm : (N (V a * V b)).size ≤ 18000 := Nat.le_trans (N_size_mul a b) (by omega)
  refine ⟨0, go_pure rfl (pu_ne_b _ _ _ _ under_bool) (go_call F_mul rfl rfl (S2.eq (by omega) (by omega)) rfl (go_call F_inorm rfl rfl (I1.eq (by omega)) rfl (go_ret ?_)))⟩
  show some (enc (sg (n != m) (V (N (V a * V b))))) = some (enc (sg n (V a) * sg m (V b)))
  rw [V_N, sg_mul]
def tbS5 : Tb := (87, F_imul) :: tbS4
theorem okS5 : TbOk Tryz.prog X.G tbS5 := .cons (by kernel_rfl) r_imul okS4
theorem r_isign : Sx.Good Tryz.prog X.G 79 ⟨[.agg 2], .v1 .one⟩ F_isign := good_tree okS5 (fun _ _ => X.G_below) 400 (by kernel_rfl) (by kernel_rfl : _ = some t_voussoirref02_Sign) fun ds rs h => by
  obtain ⟨n, a, rfl, ha, rfl⟩ := I1.inv h
  refine ⟨0, go_call F_norm rfl rfl (S1.eq (by omega)) rfl ?_⟩
  show _ = some [i_ (sgn (sg n (V a)))]
  rw [sgn_sg]
  generalize NatA.V a = x
  refine go_pure rfl (pu_eq_s _ _ _ _) ?_
  refine go_ite rfl (fun h => ?_) (fun h => ?_)
  · rw [if_pos (N_nil.1 (of_decide_eq_true h))]
    exact go_ret rfl
  · rw [if_neg (fun e => of_decide_eq_false h (N_nil.2 e))]
    refine go_ite rfl (fun h => ?_) (fun h => ?_)
    · rw [if_pos h]
      exact go_ret rfl
    · rw [if_neg (by rw [h]; decide)]
      exact go_ret rfl
def tbS6 : Tb := (79, F_isign) :: tbS5
theorem okS6 : TbOk Tryz.prog X.G tbS6 := .cons (by kernel_rfl) r_isign okS5
theorem r_ifrom : Sx.Good Tryz.prog X.G 88 ⟨[.one], .v1 (.agg 2)⟩ F_ifrom := good_tree okS6 (fun _ _ => X.G_below) 400 (by kernel_rfl) (by kernel_rfl : _ = some t_voussoirref02_From) fun ds rs h => by
  obtain ⟨n, rfl, h0, h1, rfl⟩ := F_ifrom.inv h
  refine ⟨0, go_pure rfl (pu_lt_i _ _ _ _ _) ?_⟩
  have w64 : ∀ i : Int, -9223372036854775808 ≤ i → i ≤ 9223372036854775807 → IntKind.i64.wrap i = i := fun i h0 h1 => by rw [IntKind.wrap_i64]; omega
  have wu : ∀ i : Int, 0 ≤ i → i < 18446744073709551616 → IntKind.u64.wrap i = i := fun i h0 h1 => by rw [IntKind.wrap_u64]; omega
  have sx : ∀ x : Nat, x < 18446744073709551616 → (N x).size ≤ 19000 := fun x h => Nat.le_trans ((N_size x 8).2 (by omega)) (by decide)
  refine go_ite rfl (fun h => ?_) (fun h => ?_)
  · have h := of_decide_eq_true h
    obtain ⟨x, hx⟩ : ∃ x : Nat, -n = x := ⟨(-n).toNat, by omega⟩
    refine go_pure rfl (pu_add_i _ _ _ _ _) (go_pure rfl (pu_neg_i _ _) (go_pure rfl (pu_conv under_u64 _ _ under_i64) (go_pure rfl (pu_add_i _ _ _ _ _) ?_)))
    rw [w64 (n + 1) (by omega) (by omega), w64 (0 - (n + 1)) (by omega) (by omega), wu (0 - (n + 1)) (by omega) (by omega), wu _ (by omega) (by omega), show 0 - (n + 1) + 1 = (x : Int) by omega]
    refine go_call F_from rfl rfl (F_from.eq (by omega)) rfl (go_call F_inorm rfl rfl (I1.eq (sx x (by omega))) rfl (go_ret ?_))
    show some (enc (sg true (V (N x)))) = _
    rw [V_N, show n = sg true x by unfold sg; rw [if_pos rfl]; omega]
  · have h := of_decide_eq_false h
    obtain ⟨x, rfl⟩ := Int.eq_ofNat_of_zero_le (show 0 ≤ n by omega)
    refine go_pure rfl (pu_conv under_u64 _ _ under_i64) ?_
    rw [wu _ (by omega) (by omega)]
    refine go_call F_from rfl rfl (F_from.eq (by omega)) rfl (go_call F_inorm rfl rfl (I1.eq (sx x (by omega))) rfl (go_ret ?_))
    show some (enc (sg false (V (N x)))) = _
    rw [V_N]
    rfl
def tbS7 : Tb := (88, F_ifrom) :: tbS6
theorem okS7 : TbOk Tryz.prog X.G tbS7 := .cons (by kernel_rfl) r_ifrom okS6
set_option maxHeartbeats 2000000 in
theorem r_idiv : Sx.Good Tryz.prog X.G 76 ⟨[.agg 2, .agg 2], .tup [.agg 2, .agg 2, .one]⟩ F_idiv := good_tree okS7 (fun _ _ => X.G_below) 400 (by kernel_rfl) (by kernel_rfl : _ = some t_voussoirref02_Div) fun ds rs h => by
  obtain ⟨n1, a, n2, b, rfl, ha, hb, rfl⟩ := I2.inv h
  have vb := V_lt b
  have s1 : (N (V a / V b)).size ≤ 9000 := size_div a _ ha
  have s2 : (N (V a % V b)).size ≤ 9000 := size_mod a _ ha
  have s3 : (N (V b)).size ≤ 9000 := N_small hb
  have z2 : Z n2 b = sg n2 (V b) := rfl
  have zf : Z false b = sg false (V b) := rfl
  refine ⟨0, go_call F_div rfl rfl (S2.eq (by omega) (by omega)) rfl ?_⟩
  show _ = some (gdiv (sg n1 (V a)) (sg n2 (V b)))
  have sgb := I1.eq (lim := 19000) (g := fun x => [i_ (sgn x)]) (n := n2) (a := b) (by omega)
  have ofb := I1.eq (lim := 19000) (g := enc) (n := false) (a := b) (by omega)
  rw [z2] at sgb
  rw [zf] at ofb
  generalize hA : NatA.V a = A at *
  generalize hB : NatA.V b = B at *
  unfold divR gdiv idivR
  by_cases h0 : B = 0
  · rw [if_pos h0, if_pos (by rw [h0]; unfold sg; split <;> rfl)]
    exact go_pure rfl (pu_not _) (go_true rfl (go_ret rfl))
  rw [if_neg h0, if_neg (by unfold sg; split <;> omega)]
  have hb0 : 0 < B := by omega
  obtain ⟨q, hq⟩ : ∃ q, q = A / B := ⟨_, rfl⟩
  obtain ⟨r, hr⟩ : ∃ r, r = A % B := ⟨_, rfl⟩
  have hqr : B * q + r = A := by rw [hq, hr]; exact Nat.div_add_mod A B
  have hrl : r < B := by rw [hr]; exact Nat.mod_lt _ hb0
  have hqr' : (A : Int) = (B : Int) * q + r := by rw [← hqr, Int.natCast_add, Int.natCast_mul]
  rw [← hq, ← hr]
  rw [← hq] at s1
  rw [← hr] at s2
  have ofN : ∀ (b : Bool) (x : Nat), (N x).size ≤ 19000 → F_inorm [b_ b, s_ (N x)] = some (enc (sg b x)) := fun b x h => by
    have := I1.eq (lim := 19000) (g := enc) (n := b) (a := N x) h
    unfold Z at this
    rw [V_N] at this
    exact this
  refine go_pure rfl (pu_not _) (go_false rfl (go_call F_inorm rfl rfl (ofN _ r (by omega)) rfl (go_pure rfl (pu_ne_b _ _ _ _ under_bool) (go_call F_inorm rfl rfl (ofN _ q (by omega)) rfl (go_call F_isign rfl rfl (I1.can (Sz.sg n1 (s := 19000) (by omega))) rfl (go_pure rfl (pu_lt_i _ _ _ _ _) ?_))))))
  by_cases hneg : sg n1 r < 0
  · refine go_true (congrArg (fun x => some (b_ x)) (decide_eq_true (sgn_neg.2 hneg))) (go_call F_inorm rfl rfl ofb rfl ?_)
    have hn1 : n1 = true ∧ r ≠ 0 := by
      unfold sg at hneg
      cases n1
      · rw [if_neg (by decide)] at hneg; omega
      · exact ⟨rfl, by rw [if_pos rfl] at hneg; omega⟩
    obtain ⟨rfl, hr0⟩ := hn1
    have e := ediv_sg (x := sg true A) (q := -((q + 1 : Nat) : Int)) (r := ((B - r : Nat) : Int)) (b := n2) hb0 (by show -(A : Int) = _; rw [hqr', Int.mul_neg, Int.natCast_add, Int.mul_add]; omega) (by omega) (by omega)
    have i1 : Sz 9000 (sg true r) := Sz.sg _ s2
    have i2 : Sz 9000 (sg false B) := Sz.sg _ s3
    have i4 : Sz 9000 1 := (Sz.i64 (by decide) (by decide)).le (by decide)
    refine go_call F_iadd rfl rfl (I2.can i1 i2) rfl ?_
    rw [show sg true r + sg false B = ((B - r : Nat) : Int) by show -(r : Int) + (B : Int) = _; omega]
    refine go_call F_isign rfl rfl sgb rfl (go_pure rfl (pu_gt_i _ _ _ _ _) ?_)
    rw [e.1, e.2]
    cases n2 with
    | false =>
      refine go_true (congrArg (fun x => some (b_ x)) (decide_eq_true (sgn_pos.2 (by show (B : Int) > 0; omega)))) (go_call F_ifrom rfl rfl (F_ifrom.eq (by decide) (by decide)) rfl (go_call F_isub rfl rfl (I2.can (Sz.sg _ s1) i4) rfl (go_ret ?_)))
      show some (enc (sg (true != false) q - 1) ++ enc ((B - r : Nat) : Int) ++ [b_ true]) = _
      rw [show sg (true != false) q - 1 = -((q + 1 : Nat) : Int) by show -(q : Int) - 1 = _; omega]
      rfl
    | true =>
      refine go_false (congrArg (fun x => some (b_ x)) (decide_eq_false (by rw [sgn_pos]; show ¬ -(B : Int) > 0; omega))) (go_call F_ifrom rfl rfl (F_ifrom.eq (by decide) (by decide)) rfl (go_call F_iadd rfl rfl (I2.can (Sz.sg _ s1) i4) rfl (go_ret ?_)))
      show some (enc (sg (true != true) q + 1) ++ enc ((B - r : Nat) : Int) ++ [b_ true]) = _
      rw [show sg (true != true) q + 1 = - -((q + 1 : Nat) : Int) by show (q : Int) + 1 = _; omega]
      rfl
  · refine go_false (congrArg (fun x => some (b_ x)) (decide_eq_false (fun e => hneg (sgn_neg.1 e)))) (go_ret ?_)
    have e := ediv_sg (x := sg n1 A) (q := sg n1 q) (r := sg n1 r) (b := n2) hb0 (by
      have h1 := sg_mul false n1 B q
      have h2 := sg_add_same n1 (B * q) r
      rw [hqr] at h2
      rw [h2, show sg n1 (B * q) = (B : Int) * sg n1 q from by
        have h3 : sg false B = (B : Int) := rfl
        rw [h3] at h1
        rw [h1]
        cases n1 <;> rfl]) (by omega) (by
      unfold sg
      split <;> omega)
    show some (enc (sg (n1 != n2) q) ++ enc (sg n1 r) ++ [b_ true]) = _
    rw [e.1, e.2, show (if n2 = true then -sg n1 q else sg n1 q) = sg (n1 != n2) q by cases n1 <;> cases n2 <;> simp [sg]]
    rfl
def tbS8 : Tb := (76, F_idiv) :: tbS7
theorem okS8 : TbOk Tryz.prog X.G tbS8 := .cons (by kernel_rfl) r_idiv okS7
end Go.Proofs.YtliabkapejhohaaGreatDoor.Sp
