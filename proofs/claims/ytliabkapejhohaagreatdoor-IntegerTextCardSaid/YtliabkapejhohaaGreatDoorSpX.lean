import Derived.Test.YtliabkapejhohaaGreatDoorSpR
import Derived.Test.YtliabkapejhohaaGreatDoorSpP
namespace Go.Proofs.YtliabkapejhohaaGreatDoor.Sp
open Go Go.RowKit Go.Proofs.YtliabkapejhohaaGreatDoorW.PrintWords Go.Proofs.YtliabkapejhohaaGreatDoor.Sx Go.Proofs.YtliabkapejhohaaGreatDoor.NatA Go.Proofs.YtliabkapejhohaaGreatDoor.NatB Go.Proofs.YtliabkapejhohaaGreatDoor.NatC Go.Proofs.YtliabkapejhohaaGreatDoor.NatD Go.Proofs.YtliabkapejhohaaGreatDoor.NatI Go.Proofs.YtliabkapejhohaaGreatDoor.NatJ Go.Proofs.YtliabkapejhohaaGreatDoor.NatN Go.Proofs.YtliabkapejhohaaGreatDoor.NatR
theorem rnum_loop {C : Cf} (n : Nat) (hn : n < 18446744073709551616) (e0 e2 e3 e4 e5 : D) : ∀ r : Nat, r ≤ (N n).size → Rn Tryz.prog C t_voussoirref01_Num_l0 [t_voussoirref01_Num_l0] [e0, s_ (N n), e2, e3, e4, e5, w_ (val 256 ((nb n).drop r)), i_ ((r : Int) - 1)] [w_ n, b_ true]
  | 0, _ => by
    rw [List.drop_zero, val_nb]
    exact rF (by omega) (pu_ge_i 3 true .i64 (((0 : Nat) : Int) - 1) 0) rr
  | r + 1, hr => by
    have hbl : (nb n).length = (N n).size := by rw [← bytes_N, bytesOf_length]
    have h8 := (N_size n 8).2 (by omega)
    have up : ∀ i, i ≤ (nb n).length → 0 ≤ val 256 ((nb n).drop i) ∧ val 256 ((nb n).drop i) ≤ n := fun i hi => by
      have h1 := val_split 256 (nb n) i hi
      rw [val_nb] at h1
      have h2 := val_nonneg (B := 256) (by decide) (dig_take (dig_nb n) i)
      have h3 := val_nonneg (B := 256) (by decide) (dig_drop (dig_nb n) i)
      have h4 : (1 : Int) ≤ 256 ^ i := Int.pow_pos (by decide)
      have h5 := Int.mul_le_mul_of_nonneg_right h4 h3
      omega
    have hb := dig_rd (dig_nb n) (i := r) (by omega)
    have h1 := up (r + 1) (by omega)
    have h2 := up r (by omega)
    have h3 := val_drop 256 (nb n) r (by omega)
    have px := pu_ix (P := Tryz.prog) under_s (N n) r (by omega) .i64
    rw [bytes_N] at px
    have p1 : (Pu.bin .mul 68 true).run Tryz.prog [.one (w_ (val 256 ((nb n).drop (r + 1)))), .one (w_ 256)] = some (w_ (val 256 ((nb n).drop (r + 1)) * 256)) := by rw [pu_mul_i, wu (by omega) (by omega)]
    have p2 : (Pu.conv 5 68).run Tryz.prog [.one (y_ (rd (nb n) r))] = some (w_ (rd (nb n) r)) := by rw [pu_conv under_w .u8 _ under_y, wu (by omega) (by omega)]
    have p3 : (Pu.bin .add 68 false).run Tryz.prog [.one (w_ (val 256 ((nb n).drop (r + 1)) * 256)), .one (w_ (rd (nb n) r))] = some (w_ (val 256 ((nb n).drop r))) := by rw [pu_add_i, wu (by omega) (by omega), show val 256 ((nb n).drop (r + 1)) * 256 + rd (nb n) r = val 256 ((nb n).drop r) by omega]
    have es : ((r + 1 : Nat) : Int) - 1 = (r : Int) := by omega
    rw [es]
    exact rT (by omega) (pu_ge_i 3 true .i64 (r : Int) 0) (rp p1 (rp px (rp p2 (rp p3 (rp (pu_sb 3 true (r : Int) 1 (by omega)) (ra (rnum_loop n hn e0 e2 e3 e4 e5 r (by omega))))))))
theorem r_num : Sx.Good Tryz.prog X.G 63 ⟨[.one], .tup [.one, .one]⟩ F_u64 := good_tree okR7 (fun _ _ => X.G_below) 400 (by kernel_rfl) (by kernel_rfl : _ = some t_voussoirref01_Num) fun ds rs h => by
  obtain ⟨a, rfl, ha, rfl⟩ := S1.inv h
  have c1 : F_norm5 [s_ a] = some [s_ (N (V a))] := S1.eq (by omega)
  have sa := N_small ha
  generalize V a = x at *
  have h8 := N_size x 8
  unfold u64R
  by_cases h : x < 18446744073709551616
  · have hs := h8.2 (by omega)
    rw [if_pos h]
    have lp := rnum_loop (C := cfOf tbR7) x h (s_ a) (i_ (N x).size) (b_ false) (i_ (N x).size) (i_ (((N x).size : Int) - 1)) (N x).size (Nat.le_refl _)
    rw [List.drop_eq_nil_of_le (by rw [← bytes_N, bytesOf_length]; exact Nat.le_refl _), show val 256 ([] : List Int) = 0 from rfl] at lp
    exact rc F_norm5 c1 (rp (pu_len_s under_s (N x)) (rF (by omega) (pu_gt_i 3 true .i64 (N x).size 8) (rp (pu_len_s under_s (N x)) (rp (pu_sb 3 true ((N x).size : Int) 1 (by omega)) (rl lp)))))
  · rw [if_neg h]
    have hs : 8 < (N x).size := by
      rcases Nat.lt_or_ge 8 (N x).size with h' | h'
      · exact h'
      · exact absurd (h8.1 h') (by omega)
    exact rc F_norm5 c1 (rp (pu_len_s under_s (N x)) (rT (by omega) (pu_gt_i 3 true .i64 (N x).size 8) rr))
def tbR8 : Tb := (63, F_u64) :: tbR7
theorem okR8 : TbOk Tryz.prog X.G tbR8 := .cons (by kernel_rfl) r_num okR7
theorem nine {x : Nat} (h : x < 10) : strOfNums [48 + (x : Int)] = text x := by
  unfold text strOfNums
  rw [Lib.decDigits_one h, show (48 : Int) + x = ((48 + x : Nat) : Int) by omega, List.map_singleton, Int.toNat_natCast]
theorem rtext_loop (e0 e1 : D) (n : Nat) : ∀ out : ByteArray, 0 < n → (N n).size ≤ 20000 → out.size + Lib.nDigits n ≤ 1000000 → Rn Tryz.prog (cfOf tbR8) t_voussoirref01_Text_l0 [t_voussoirref01_Text_l0] [e0, e1, s_ (N n), s_ out] [s_ (text n ++ out)] := by
  induction n using Nat.strongRecOn with
  | _ n ih =>
    intro out h0 hs ho
    have d1 : F_div [s_ (N n), s_ (⟨#[10]⟩ : ByteArray)] = some [s_ (N (n / 10)), s_ (N (n % 10)), b_ true] := by
      have h1 : F_div [s_ (N n), s_ (⟨#[10]⟩ : ByteArray)] = some [s_ (divR (V (N n)) (V (⟨#[10]⟩ : ByteArray))).1, s_ (divR (V (N n)) (V (⟨#[10]⟩ : ByteArray))).2.1, b_ (divR (V (N n)) (V (⟨#[10]⟩ : ByteArray))).2.2] := S2.eq hs (by decide)
      rw [V_N, show V (⟨#[10]⟩ : ByteArray) = 10 from rfl] at h1
      unfold divR at h1
      rw [if_neg (by decide)] at h1
      exact h1
    have hm : n % 10 < 10 := Nat.mod_lt _ (by decide)
    have s1 : (N (n % 10)).size ≤ 1 := (N_size _ _).2 (by omega)
    have n1 : F_u64 [s_ (N (n % 10))] = some [w_ ((n % 10 : Nat) : Int), b_ true] := by
      have h1 : F_u64 [s_ (N (n % 10))] = some [w_ (u64R (n % 10)).1, b_ (u64R (n % 10)).2] := S1.eqN (by omega)
      unfold u64R at h1
      rw [if_pos (by omega)] at h1
      exact h1
    have hts : (text (n % 10)).size = 1 := by rw [text_size, Lib.nDigits_small hm]
    have p1 : (Pu.bin .add 68 true).run Tryz.prog [.one (w_ 48), .one (w_ ((n % 10 : Nat) : Int))] = some (w_ (48 + ((n % 10 : Nat) : Int))) := by rw [pu_add_i, wu (by omega) (by omega)]
    have p2 := pu_cv8 (P := Tryz.prog) under_y .u64 (48 + ((n % 10 : Nat) : Int)) under_w (by omega)
    have p3 := pu_bstr (P := Tryz.prog) [48 + ((n % 10 : Nat) : Int)]
    rw [nine hm] at p3
    have p4 := pu_add_s (P := Tryz.prog) 9 false (text (n % 10)) out (by omega)
    refine rT (mt nil_N.1 (by omega)) (pu_nes 9 true (N n) ⟨#[]⟩) (rc F_div d1 (rc F_u64 n1 (rp p1 (rp p2 (rp p3 (rp p4 (ra (env' := [e0, e1, s_ (N (n / 10)), s_ (text (n % 10) ++ out)]) ?_)))))))
    by_cases h10 : n < 10
    · rw [Nat.div_eq_of_lt h10, Nat.mod_eq_of_lt h10]
      have hne : ¬ (text n ++ out) = (⟨#[]⟩ : ByteArray) := fun e => by
        have := congrArg ByteArray.size e
        rw [ByteArray.size_append, text_size, Lib.nDigits_small h10] at this
        have h2 : (⟨#[]⟩ : ByteArray).size = 0 := rfl
        omega
      exact rF (not_not_intro (nil_N.2 rfl)) (pu_nes 9 true (N 0) ⟨#[]⟩) (rF hne (pu_eq_s 9 true (text n ++ out) ⟨#[]⟩) rr)
    · rw [Lib.nDigits_big h10] at ho
      have e : text n ++ out = text (n / 10) ++ (text (n % 10) ++ out) := by
        rw [← ba_assoc]
        refine congrArg (· ++ out) ?_
        unfold text
        rw [ba_append, Lib.decDigits_one hm]
        have : Lib.decDigits n = Lib.decDigits (n / 10) ++ [UInt8.ofNat (48 + n % 10)] := by rw [Lib.decDigits, dif_neg h10]
        rw [this]
      rw [e]
      exact ih (n / 10) (by omega) _ (by omega) (Nat.le_trans ((N_size _ (N n).size).2 (Nat.lt_of_le_of_lt (Nat.div_le_self _ _) ((N_size n _).1 (Nat.le_refl _)))) hs) (by rw [ByteArray.size_append, hts]; omega)
theorem r_text : Sx.Good Tryz.prog X.G 66 ⟨[.one], .v1 .one⟩ F_text := good_tree okR8 (fun _ _ => X.G_below) 400 (by kernel_rfl) (by kernel_rfl : _ = some t_voussoirref01_Text) fun ds rs h => by
  obtain ⟨a, rfl, ha, rfl⟩ := S1.inv h
  have c1 : F_norm5 [s_ a] = some [s_ (N (V a))] := S1.eq (by omega)
  by_cases h : V a = 0
  · rw [h] at c1
    rw [h]
    have e : text 0 = (⟨#[48]⟩ : ByteArray) := by unfold text; rw [Lib.decDigits_one (by decide)]; rfl
    rw [e]
    exact rc F_norm5 c1 (rl (env' := [s_ a, s_ (N 0), s_ (N 0), s_ ⟨#[]⟩]) (rF (not_not_intro (nil_N.2 rfl)) (pu_nes 9 true (N 0) ⟨#[]⟩) (rT rfl (pu_eq_s 9 true ⟨#[]⟩ ⟨#[]⟩) rr)))
  · have h3 : text (V a) ++ (⟨#[]⟩ : ByteArray) = text (V a) := by apply ByteArray.ext; rw [ByteArray.data_append]; simp
    have hd : Lib.nDigits (V a) ≤ 3 * a.size + 1 := nDigits_le (3 * a.size) (V a) (Nat.lt_of_lt_of_le (V_lt a) (by
      rw [show 3 * a.size + 1 = 3 * a.size + 1 from rfl, Nat.pow_succ, Nat.pow_mul]
      exact Nat.le_trans (Nat.pow_le_pow_left (by decide) _) (Nat.le_mul_of_pos_right _ (by decide))))
    have lp := rtext_loop (s_ a) (s_ (N (V a))) (V a) (⟨#[]⟩ : ByteArray) (by omega) (Nat.le_trans (N_small (Nat.le_refl a.size)) (by omega)) (by rw [show (⟨#[]⟩ : ByteArray).size = 0 from rfl]; omega)
    rw [h3] at lp
    exact rc F_norm5 c1 (rl lp)
def pres (s : ByteArray) : List D := if (L s).all dig = true then [s_ (N (dv (L s))), b_ true] else [s_ (⟨#[]⟩ : ByteArray), b_ false]
theorem rparse_l0 (s : ByteArray) (hs : s.size ≤ 1000) (e1 e2 e3 e4 e5 e6 : D) (r : Nat) : ∀ i : Nat, i + r = s.size → ((L s).take i).all dig = true →
    Rn Tryz.prog (cfOf tbR7) t_voussoirref01_Parse_l0 [t_voussoirref01_Parse_l0] [s_ s, e1, e2, e3, e4, e5, e6, s_ (N (dv ((L s).take i))), i_ i] (pres s) := by
  have hL := L_length s
  induction r with
  | zero =>
    intro i hi hd
    rw [take_ge s i (by omega)] at hd ⊢
    unfold pres
    rw [if_pos hd]
    exact rp (pu_len_s under_s s) (rF (by omega) (pu_lt_i 3 false .i64 i s.size) rr)
  | succ r ih =>
    intro i hi hd
    have e1' := bt_L s i (by omega)
    have e2' := take_L s i (by omega)
    obtain ⟨c, hc⟩ : ∃ c, c = ((L s)[i]'(by omega)).toNat := ⟨_, rfl⟩
    rw [← hc] at e1'
    have e3' := dv_snoc ((L s).take i) ((L s)[i]'(by omega))
    rw [← e2', ← hc] at e3'
    have px := pu_ix (P := Tryz.prog) under_s s i (by omega) .i64
    rw [← bt_nat, e1'] at px
    have hdg : dig ((L s)[i]'(by omega)) = (decide (48 ≤ c) && decide (c ≤ 57)) := by unfold dig; rw [← hc]
    have no : dig ((L s)[i]'(by omega)) = false → pres s = [s_ (⟨#[]⟩ : ByteArray), b_ false] := fun h => by
      have : (L s).all dig = false := by
        cases ha : (L s).all dig with
        | false => rfl
        | true => rw [List.all_eq_true.1 ha _ (List.getElem_mem (by omega))] at h; cases h
      unfold pres
      rw [this, if_neg (by decide)]
    by_cases h1 : c < 48
    · rw [no (by rw [hdg, decide_eq_false (by omega)]; rfl)]
      exact rp (pu_len_s under_s s) (rT (by omega) (pu_lt_i 3 false .i64 i s.size) (rp px (rT (by omega) (pu_lt_i 5 true .u8 c 48) rr)))
    by_cases h2 : c > 57
    · rw [no (by rw [hdg, decide_eq_false (p := c ≤ 57) (by omega), Bool.and_false])]
      exact rp (pu_len_s under_s s) (rT (by omega) (pu_lt_i 3 false .i64 i s.size) (rp px (rF (by omega) (pu_lt_i 5 true .u8 c 48) (rp px (rT (by omega) (pu_gt_i 5 true .u8 c 57) rr)))))
    have hdt : ((L s).take (i + 1)).all dig = true := by
      rw [e2', List.all_append, hd]
      simp only [List.all_cons, List.all_nil, Bool.and_true, Bool.true_and]
      rw [hdg, decide_eq_true (by omega), decide_eq_true (by omega)]
      rfl
    have s1 : (N (dv ((L s).take i))).size ≤ 1000 := Nat.le_trans (N_dv_size _ hd) (by rw [List.length_take]; omega)
    have m1 := mul_byte (b := N (dv ((L s).take i))) (by omega) (show 10 < 256 by decide)
    rw [V_N] at m1
    have s2 : (N (dv ((L s).take i) * 10)).size ≤ 1001 := Nat.le_trans ((N_size _ ((N (dv ((L s).take i))).size + 1)).2 (by
      have := (N_size (dv ((L s).take i)) _).1 (Nat.le_refl _)
      rw [Nat.pow_succ]
      omega)) (by omega)
    have s3 : (N (c - 48)).size ≤ 1 := (N_size _ _).2 (by omega)
    have a1 : F_add [s_ (N (dv ((L s).take i) * 10)), s_ (N (c - 48))] = some [s_ (N (dv ((L s).take i) * 10 + (c - 48)))] := S2.eqN (by omega) (by omega)
    rw [show dv ((L s).take i) * 10 + (c - 48) = dv ((L s).take (i + 1)) by omega] at a1
    have p1 : (Pu.bin .sub 5 true).run Tryz.prog [.one (y_ c), .one (y_ 48)] = some (y_ ((c - 48 : Nat) : Int)) := by rw [pu_sub_i, u8_wrap (by omega), show (c : Int) - 48 = ((c - 48 : Nat) : Int) by omega]
    have p2 : (Pu.conv 5 68).run Tryz.prog [.one (y_ ((c - 48 : Nat) : Int))] = some (w_ ((c - 48 : Nat) : Int)) := by rw [pu_conv under_w .u8 _ under_y, IntKind.wrap_u64, Int.emod_eq_of_lt (by omega) (by omega)]
    have p3 := pu_bstr (P := Tryz.prog) [(10 : Int)]
    have c2 := F_from.eq (n := c - 48) (by omega)
    have next := ih (i + 1) (by omega) hdt
    exact rp (pu_len_s under_s s) (rT (by omega) (pu_lt_i 3 false .i64 i s.size) (rp px (rF (by omega) (pu_lt_i 5 true .u8 c 48) (rp px (rF (by omega) (pu_gt_i 5 true .u8 c 57) (rp px (rp p1 (rp p2 (rp p3 (rc F_mul m1 (rc F_from c2 (rc F_add a1 (rp (pu_ad 3 true (i : Int) 1 (by omega)) (ra next))))))))))))))
theorem rparse_l1 (s : ByteArray) (hs : s.size ≤ 1000) (e1 e2 e3 e4 : D) (r : Nat) : ∀ i : Nat, i + r = s.size → ((L s).take i).all dig = true →
    Rn Tryz.prog (cfOf tbR7) t_voussoirref01_Parse_l1 [t_voussoirref01_Parse_l1] [s_ s, e1, e2, e3, e4, s_ (N (dv ((L s).take i))), i_ i] (pres s) := by
  have hL := L_length s
  induction r with
  | zero =>
    intro i hi hd
    rw [take_ge s i (by omega)] at hd ⊢
    unfold pres
    rw [if_pos hd]
    exact rp (pu_len_s under_s s) (rF (by omega) (pu_lt_i 3 false .i64 i s.size) rr)
  | succ r ih =>
    intro i hi hd
    have e1' := bt_L s i (by omega)
    have e2' := take_L s i (by omega)
    obtain ⟨c, hc⟩ : ∃ c, c = ((L s)[i]'(by omega)).toNat := ⟨_, rfl⟩
    rw [← hc] at e1'
    have e3' := dv_snoc ((L s).take i) ((L s)[i]'(by omega))
    rw [← e2', ← hc] at e3'
    have px := pu_ix (P := Tryz.prog) under_s s i (by omega) .i64
    rw [← bt_nat, e1'] at px
    have hdg : dig ((L s)[i]'(by omega)) = (decide (48 ≤ c) && decide (c ≤ 57)) := by unfold dig; rw [← hc]
    have no : dig ((L s)[i]'(by omega)) = false → pres s = [s_ (⟨#[]⟩ : ByteArray), b_ false] := fun h => by
      have : (L s).all dig = false := by
        cases ha : (L s).all dig with
        | false => rfl
        | true => rw [List.all_eq_true.1 ha _ (List.getElem_mem (by omega))] at h; cases h
      unfold pres
      rw [this, if_neg (by decide)]
    by_cases h1 : c < 48
    · rw [no (by rw [hdg, decide_eq_false (by omega)]; rfl)]
      exact rp (pu_len_s under_s s) (rT (by omega) (pu_lt_i 3 false .i64 i s.size) (rp px (rT (by omega) (pu_lt_i 5 true .u8 c 48) rr)))
    by_cases h2 : c > 57
    · rw [no (by rw [hdg, decide_eq_false (p := c ≤ 57) (by omega), Bool.and_false])]
      exact rp (pu_len_s under_s s) (rT (by omega) (pu_lt_i 3 false .i64 i s.size) (rp px (rF (by omega) (pu_lt_i 5 true .u8 c 48) (rp px (rT (by omega) (pu_gt_i 5 true .u8 c 57) rr)))))
    have hdt : ((L s).take (i + 1)).all dig = true := by
      rw [e2', List.all_append, hd]
      simp only [List.all_cons, List.all_nil, Bool.and_true, Bool.true_and]
      rw [hdg, decide_eq_true (by omega), decide_eq_true (by omega)]
      rfl
    have s1 : (N (dv ((L s).take i))).size ≤ 1000 := Nat.le_trans (N_dv_size _ hd) (by rw [List.length_take]; omega)
    have m1 := mul_byte (b := N (dv ((L s).take i))) (by omega) (show 10 < 256 by decide)
    rw [V_N] at m1
    have s2 : (N (dv ((L s).take i) * 10)).size ≤ 1001 := Nat.le_trans ((N_size _ ((N (dv ((L s).take i))).size + 1)).2 (by
      have := (N_size (dv ((L s).take i)) _).1 (Nat.le_refl _)
      rw [Nat.pow_succ]
      omega)) (by omega)
    have s3 : (N (c - 48)).size ≤ 1 := (N_size _ _).2 (by omega)
    have a1 : F_add [s_ (N (dv ((L s).take i) * 10)), s_ (N (c - 48))] = some [s_ (N (dv ((L s).take i) * 10 + (c - 48)))] := S2.eqN (by omega) (by omega)
    rw [show dv ((L s).take i) * 10 + (c - 48) = dv ((L s).take (i + 1)) by omega] at a1
    have p1 : (Pu.bin .sub 5 true).run Tryz.prog [.one (y_ c), .one (y_ 48)] = some (y_ ((c - 48 : Nat) : Int)) := by rw [pu_sub_i, u8_wrap (by omega), show (c : Int) - 48 = ((c - 48 : Nat) : Int) by omega]
    have p2 : (Pu.conv 5 68).run Tryz.prog [.one (y_ ((c - 48 : Nat) : Int))] = some (w_ ((c - 48 : Nat) : Int)) := by rw [pu_conv under_w .u8 _ under_y, IntKind.wrap_u64, Int.emod_eq_of_lt (by omega) (by omega)]
    have p3 := pu_bstr (P := Tryz.prog) [(10 : Int)]
    have c2 := F_from.eq (n := c - 48) (by omega)
    have next := ih (i + 1) (by omega) hdt
    exact rp (pu_len_s under_s s) (rT (by omega) (pu_lt_i 3 false .i64 i s.size) (rp px (rF (by omega) (pu_lt_i 5 true .u8 c 48) (rp px (rF (by omega) (pu_gt_i 5 true .u8 c 57) (rp px (rp p1 (rp p2 (rp p3 (rc F_mul m1 (rc F_from c2 (rc F_add a1 (rp (pu_ad 3 true (i : Int) 1 (by omega)) (ra next))))))))))))))
theorem r_parse : Sx.Good Tryz.prog X.G 58 ⟨[.one], .tup [.one, .one]⟩ F_parse := good_tree okR7 (fun _ _ => X.G_below) 400 (by kernel_rfl) (by kernel_rfl : _ = some t_voussoirref01_Parse) fun ds rs h => by
  obtain ⟨s, rfl, hs, rfl⟩ := F_parse.inv h
  by_cases h0 : s.size = 0
  · rw [parseR_no s (by rw [(L_nil s).2 h0]; rfl)]
    exact rp (pu_len_s under_s s) (rT (by omega) (pu_eq_i 3 true .i64 s.size 0) rr)
  have rest : (s.size ≤ 1 ∨ (L s).head? ≠ some 48) → pres s = [s_ (parseR s).1, b_ (parseR s).2] := fun h1 => by
    unfold pres
    cases hd : (L s).all dig with
    | false => rw [parseR_no s (num_false_dig hd), if_neg (by decide)]
    | true => rw [parseR_yes s (num_true (fun e => h0 ((L_nil s).1 e)) hd (by rw [L_length]; exact h1)), if_pos rfl]
  have px := pu_ix (P := Tryz.prog) under_s s 0 (by omega) .i64
  rw [← bt_nat] at px
  by_cases h48 : bt s 0 = 48
  · by_cases h1 : (s.size : Int) > 1
    · rw [parseR_no s (num_zero (by rw [L_length]; omega) ((bt_head s (by omega)).1 h48))]
      exact rp (pu_len_s under_s s) (rF (by omega) (pu_eq_i 3 true .i64 s.size 0) (rp px (rT h48 (pu_eq_i 5 true .u8 (bt s 0) 48) (rp (pu_len_s under_s s) (rT h1 (pu_gt_i 3 true .i64 s.size 1) rr)))))
    · have lp := rparse_l0 s hs (i_ s.size) (b_ false) (y_ (bt s 0)) (b_ true) (i_ s.size) (b_ false) s.size 0 (by omega) rfl
      rw [rest (.inl (by omega)), List.take_zero, show dv [] = 0 from rfl, N_zero] at lp
      exact rp (pu_len_s under_s s) (rF (by omega) (pu_eq_i 3 true .i64 s.size 0) (rp px (rT h48 (pu_eq_i 5 true .u8 (bt s 0) 48) (rp (pu_len_s under_s s) (rF h1 (pu_gt_i 3 true .i64 s.size 1) (rl lp))))))
  · have lp := rparse_l1 s hs (i_ s.size) (b_ false) (y_ (bt s 0)) (b_ false) s.size 0 (by omega) rfl
    rw [rest (.inr fun e => h48 ((bt_head s (by omega)).2 e)), List.take_zero, show dv [] = 0 from rfl, N_zero] at lp
    exact rp (pu_len_s under_s s) (rF (by omega) (pu_eq_i 3 true .i64 s.size 0) (rp px (rF h48 (pu_eq_i 5 true .u8 (bt s 0) 48) (rl lp))))
def tbRX : Tb := [(63, F_u64), (66, F_text), (58, F_parse)] ++ tbR
theorem okRX : TbOk Tryz.prog X.G tbRX := .cons (by kernel_rfl) r_num (.cons (by kernel_rfl) r_text (.cons (by kernel_rfl) r_parse okR))
end Go.Proofs.YtliabkapejhohaaGreatDoor.Sp
