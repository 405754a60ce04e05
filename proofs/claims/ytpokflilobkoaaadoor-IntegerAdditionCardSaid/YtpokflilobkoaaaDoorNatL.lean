/- What the reference's Div, Gcd and Add come to. -/
import Derived.Test.YtpokflilobkoaaaDoorNatK
namespace Go.Proofs.YtpokflilobkoaaaDoor.NatL
open Go Go.RowKit Go.Proofs.YtpokflilobkoaaaDoorW.PrintWords Go.Proofs.YtpokflilobkoaaaDoor.P Go.Proofs.YtpokflilobkoaaaDoor.NatA Go.Proofs.YtpokflilobkoaaaDoor.NatB Go.Proofs.YtpokflilobkoaaaDoor.NatC Go.Proofs.YtpokflilobkoaaaDoor.NatD Go.Proofs.YtpokflilobkoaaaDoor.NatE Go.Proofs.YtpokflilobkoaaaDoor.NatI Go.Proofs.YtpokflilobkoaaaDoor.NatJ Go.Proofs.YtpokflilobkoaaaDoor.NatK

theorem cmpI_le {x y : Nat} : cmpI x y ≤ 0 ↔ x ≤ y := by
  unfold cmpI
  split
  · omega
  · split <;> omega
theorem V_head (a : ByteArray) (i m : Nat) (h : i < a.size) : V (a.extract i (i + 1) ++ N m) = (rd (bytesOf a) i).toNat + 256 * m := by
  have h1 := V_int (a.extract i (i + 1) ++ N m)
  have h2 := bdig a i
  rw [bytes_append, bytes_extract, bytes_N, val_append, val_nb, drop_cons _ _ (by rw [bytesOf_length]; exact h), show i + 1 - i = 0 + 1 by omega, List.take_succ_cons, List.take_zero, val_single] at h1
  simp only [List.length_cons, List.length_nil, Nat.zero_add, Int.pow_succ, Int.pow_zero, Int.one_mul] at h1
  omega
theorem rdiv1 (a b : ByteArray) (quot : List Int) (X i q M : Nat) (hb : b.size ≤ 60000) (hX : (N X).size ≤ 60001) (hq : q < 256) (hmq : ∀ m, V b * m ≤ X ↔ m ≤ q) (hM : X - V b * q = M) (hi : i < quot.length) (R : ByteArray × ByteArray × Bool)
    (K : Ev (fun k => voussoirref01_Div.l0 k a b (quot.set i (q : Int)) (N M) (wrap64 ((i : Int) - 1))) R) (r : Nat) : ∀ (lo hi : Nat), lo + r = hi → hi ≤ 255 → lo ≤ q → q ≤ hi → Ev (fun k => voussoirref01_Div.l1 k a b quot (N X) i lo hi) R := by
  induction r using Nat.strongRecOn with
  | _ r ih =>
    intro lo hi' hr hh h1 h2
    by_cases hlt : lo < hi'
    · obtain ⟨mid, hm⟩ : ∃ mid, mid = (lo + hi' + 1) / 2 := ⟨_, rfl⟩
      have m1 : mid < 256 ∧ lo < mid ∧ mid ≤ hi' := by omega
      have hsm : (N (V b * mid)).size ≤ 67108864 := by
        have := (N_size (V b * mid) (b.size + 1)).2 (by rw [Nat.pow_succ]; exact Nat.mul_lt_mul'' (V_lt b) m1.1)
        omega
      have st : ∀ k, voussoirref01_Div.l1 (k + 1) a b quot (N X) i lo hi' = (voussoirref01_small.f k b (mid : Int)).bind fun t315 => ((voussoirref01_Cmp.f k t315 (N X)).bind fun t316 => (if t316 ≤ 0 then (voussoirref01_Div.l1 k a b quot (N X) i mid hi') else (voussoirref01_Div.l1 k a b quot (N X) i lo (wrap64 ((mid : Int) - 1))))) := fun k => by
        have e1 : wrap64 (Int.tdiv (wrap64 ((wrap64 ((lo : Int) + hi')) + 1)) 2) = (mid : Int) := by
          rw [w64 (i := (lo : Int) + hi') (by omega) (by omega), w64 (i := (lo : Int) + hi' + 1) (by omega) (by omega), tdiv_nat (by omega), w64 (by omega) (by omega)]
          omega
        rw [voussoirref01_Div.l1, if_pos (by omega), e1]
      refine Ev.step st ?_
      refine Ev.bind (rev_small b mid m1.1 (by omega)) ?_
      refine Ev.bind (rev_cmp (N (V b * mid)) (N X) hsm (by omega)) ?_
      rw [V_N, V_N]
      by_cases hc : mid ≤ q
      · refine Ev.congr (fun k => if_pos (cmpI_le.2 ((hmq mid).2 hc))) ?_
        exact ih (hi' - mid) (by omega) mid hi' (by omega) hh hc h2
      · refine Ev.congr (fun k => by rw [if_neg (fun e => hc ((hmq mid).1 (cmpI_le.1 e))), w64 (by omega) (by omega), show (mid : Int) - 1 = ((mid - 1 : Nat) : Int) by omega]) ?_
        exact ih (mid - 1 - lo) (by omega) lo (mid - 1) (by omega) (by omega) h1 (by omega)
    · have e : lo = q := by omega
      subst e
      refine Ev.step (fun k => by rw [voussoirref01_Div.l1, if_neg (by omega)]) ?_
      refine Ev.bind (rev_small b lo hq (by omega)) ?_
      have hle : V b * lo ≤ X := (hmq lo).2 (Nat.le_refl _)
      have hs : (N (V b * lo)).size ≤ 60001 := Nat.le_trans ((N_size _ (N X).size).2 (Nat.lt_of_le_of_lt hle ((N_size X _).1 (Nat.le_refl _)))) hX
      have h3 := rev_sub (N X) (N (V b * lo)) (by omega) (by omega)
      rw [V_N, V_N] at h3
      unfold subR at h3
      rw [if_neg (by omega), hM] at h3
      refine Ev.bind h3 ?_
      refine Ev.congr (fun k => by rw [if_pos (by omega), if_pos (by omega), Int.emod_eq_of_lt (by omega) (by omega), Int.toNat_natCast]) K
theorem rdiv0 (a b : ByteArray) (ha : a.size ≤ 60000) (hb : b.size ≤ 60000) (hb0 : 0 < V b) (r : Nat) : ∀ (quot : List Int) (p : Nat), r ≤ a.size → quot.length = a.size → Dig 256 quot → p < V b →
    val 256 ((bytesOf a).drop r) = val 256 (quot.drop r) * V b + p → Ev (fun k => voussoirref01_Div.l0 k a b quot (N p) ((r : Int) - 1)) (N (V a / V b), N (V a % V b), true) := by
  induction r with
  | zero =>
    intro quot p hr hl hd hp hv
    refine Ev.step (fun k => by rw [voussoirref01_Div.l0, if_neg (by omega)]) ?_
    rw [List.drop_zero, List.drop_zero, ← V_int] at hv
    have h0 := val_nonneg (by decide) hd
    obtain ⟨Q, hQ⟩ := Int.eq_ofNat_of_zero_le h0
    have h1 := rnorm_str quot hd (by omega)
    rw [hQ, Int.toNat_natCast] at h1
    rw [hQ] at hv
    have h2 : V a = V b * Q + p := by
      rw [← Int.natCast_mul] at hv
      have := Nat.mul_comm (V b) Q
      omega
    rw [h2, Nat.mul_add_div hb0, Nat.div_eq_of_lt hp, Nat.add_zero, Nat.mul_add_mod, Nat.mod_eq_of_lt hp]
    exact Ev.bind h1 (Ev.now _)
  | succ r ih =>
    intro quot p hr hl hd hp hv
    have hb1 := bdig a r
    have hps : (N p).size ≤ b.size := N_size_V (Nat.le_of_lt hp)
    have hes : (a.extract r (r + 1)).size = 1 := by rw [ByteArray.size_extract]; omega
    obtain ⟨X, hX⟩ : ∃ X, X = (rd (bytesOf a) r).toNat + 256 * p := ⟨_, rfl⟩
    have hXl : X < 256 * V b := by omega
    have hXs : (N X).size ≤ b.size + 1 := (N_size X _).2 (by
      have := V_lt b
      rw [Nat.pow_succ]
      omega)
    have h1 := rev_norm (a.extract r (r + 1) ++ N p) (by rw [ByteArray.size_append, hes]; omega)
    rw [V_head a r p (by omega), ← hX] at h1
    refine Ev.step (fun k => by rw [voussoirref01_Div.l0, if_pos (by omega), if_pos (by omega), w64 (by omega) (by omega), if_pos (by omega), if_pos (by omega), show (((r + 1 : Nat) : Int) - 1).toNat = r by omega, show (((r + 1 : Nat) : Int) - 1 + 1).toNat = r + 1 by omega, if_pos (by rw [hes]; omega)]) ?_
    refine Ev.bind h1 ?_
    have hq : X / V b < 256 := Nat.div_lt_of_lt_mul (by rw [Nat.mul_comm]; exact hXl)
    refine Ev.congr (fun k => by rw [show ((r + 1 : Nat) : Int) - 1 = (r : Int) by omega]) ?_
    obtain ⟨q, hQ⟩ : ∃ q, q = X / V b := ⟨_, rfl⟩
    obtain ⟨M, hM⟩ : ∃ M, M = X % V b := ⟨_, rfl⟩
    have h3 : V b * q + M = X := by rw [hQ, hM]; exact Nat.div_add_mod _ _
    have hMl : M < V b := by rw [hM]; exact Nat.mod_lt _ hb0
    have hmq : ∀ m, V b * m ≤ X ↔ m ≤ q := fun m => by rw [hQ, Nat.mul_comm]; exact (Nat.le_div_iff_mul_le hb0).symm
    rw [← hQ] at hq
    clear hQ hM
    refine rdiv1 a b quot X r q M hb (by omega) hq hmq (by omega) (by omega) _ ?_ 255 0 255 (by omega) (by omega) (by omega) (by omega)
    refine Ev.congr (fun k => by rw [w64 (by omega) (by omega)]) ?_
    refine ih (quot.set r (q : Int)) M (by omega) (by rw [List.length_set, hl]) (dig_set hd _ (by omega) (by omega)) hMl ?_
    rw [drop_cons (bytesOf a) r (by rw [bytesOf_length]; omega), val, drop_set_self _ _ _ (by omega), val, hv]
    have h2 : (X : Int) = rd (bytesOf a) r + 256 * p := by omega
    have h4 : ((V b * q + M : Nat) : Int) = X := by rw [h3]
    rw [Int.natCast_add, Int.natCast_mul] at h4
    clear h3 hmq ih hXl hXs hMl
    generalize val 256 (quot.drop (r + 1)) = Z
    generalize (V b : Int) = D at *
    generalize rd (bytesOf a) r = x at *
    generalize (q : Int) = q at *
    generalize (M : Int) = M at *
    generalize (p : Int) = p at *
    generalize (X : Int) = X at *
    grind
theorem rev_div (a b : ByteArray) (ha : a.size ≤ 60000) (hb : b.size ≤ 60000) : Ev (fun k => voussoirref01_Div.f k a b) (divR (V a) (V b)) := by
  unfold voussoirref01_Div.f divR
  refine Ev.bind (rev_norm b (by omega)) ?_
  by_cases h : V b = 0
  · rw [if_pos h]
    exact Ev.congr (fun k => if_pos (N_toList_nil.2 h)) (Ev.now _)
  · rw [if_neg h]
    refine Ev.congr (fun k => by rw [if_neg (fun e => h (N_toList_nil.1 e)), if_pos (by omega), if_pos (by omega), w64 (by omega) (by omega), Int.toNat_natCast, ← N_zero]) ?_
    exact rdiv0 a b ha hb (by omega) a.size _ 0 (Nat.le_refl _) List.length_replicate (dig_replicate (by decide) _) (by omega) (by rw [List.drop_eq_nil_of_le (by rw [bytesOf_length]; exact Nat.le_refl _), List.drop_eq_nil_of_le (by rw [List.length_replicate]; exact Nat.le_refl _)]; simp [val])
/-! ### Add -/
theorem radd0 (a b : ByteArray) (M : Nat) (hM : M ≤ 60000) (ha : a.size ≤ M) (hb : b.size ≤ M) (r : Nat) : ∀ (i : Nat) (l : List Int) (c : Int), i + r = M + 1 → l.length = i → Dig 256 l → (0 ≤ c ∧ c ≤ 1) →
    val 256 l + 256 ^ i * c = val 256 ((bytesOf a).take i) + val 256 ((bytesOf b).take i) → Ev (fun k => voussoirref01_Add.l0 k a b l c i) (N (V a + V b)) := by
  have fin : ∀ (i : Nat) (l : List Int), l.length = i → i ≤ M + 1 → Dig 256 l → ¬ i < a.size → ¬ i < b.size → val 256 l = val 256 ((bytesOf a).take i) + val 256 ((bytesOf b).take i) → Ev (fun k => voussoirref01_Add.l0 k a b l 0 i) (N (V a + V b)) := fun i l hl hi hd h1 h2 hv => by
    refine Ev.step (fun k => by rw [voussoirref01_Add.l0, if_neg (by omega), if_neg (by omega), decide_eq_false (by omega)]) ?_
    refine Ev.step (fun k => by rw [voussoirref01_Add.j1, if_neg (by decide)]) ?_
    rw [List.take_of_length_le (by rw [bytesOf_length]; omega), List.take_of_length_le (by rw [bytesOf_length]; omega), ← V_int, ← V_int] at hv
    have := rnorm_str l hd (by omega)
    rw [show (val 256 l).toNat = V a + V b by omega] at this
    exact Ev.bind this (Ev.now _)
  induction r with
  | zero =>
    intro i l c hi hl hd hc hv
    have hc0 : c = 0 := by
      rcases (show c = 0 ∨ c = 1 by omega) with h | h
      · exact h
      · rw [List.take_of_length_le (by rw [bytesOf_length]; omega), List.take_of_length_le (by rw [bytesOf_length]; omega), ← V_int, ← V_int, h, Int.mul_one] at hv
        have h0 := val_nonneg (by decide) hd
        have h1 := V_lt a
        have h2 := V_lt b
        have h3 : 256 ^ a.size ≤ 256 ^ M := Nat.pow_le_pow_right (by decide) ha
        have h4 : 256 ^ b.size ≤ 256 ^ M := Nat.pow_le_pow_right (by decide) hb
        have h5 : (256 : Int) ^ i = ((256 ^ M : Nat) : Int) * 256 := by rw [show i = M + 1 by omega, Int.pow_succ, Int.natCast_pow]; rfl
        omega
    subst hc0
    exact fin i l hl (by omega) hd (by omega) (by omega) (by rw [Int.mul_zero] at hv; omega)
  | succ r ih =>
    intro i l c hi hl hd hc hv
    by_cases hgo : i < a.size ∨ i < b.size ∨ c > 0
    · have h1 := bdig a i
      have h2 := bdig b i
      have e1 := val_take_next 256 (bytesOf a) i
      have e2 := val_take_next 256 (bytesOf b) i
      obtain ⟨n, hn⟩ : ∃ n, n = c + (rd (bytesOf a) i + rd (bytesOf b) i) := ⟨_, rfl⟩
      have hdm : 256 * (n / 256) + n % 256 = n := Int.mul_ediv_add_emod _ _
      have main : Ev (fun k => voussoirref01_Add.j1 k a b l c i true) (N (V a + V b)) := by
        refine Ev.step (fun k => by rw [voussoirref01_Add.j1, if_pos rfl, at_eq, Option.bind_some, at_eq, Option.bind_some, if_pos (by omega), w64 (i := rd (bytesOf a) i + rd (bytesOf b) i) (by omega) (by omega), w64 (i := c + (rd (bytesOf a) i + rd (bytesOf b) i)) (by omega) (by omega), ← hn, tmod_nat (by omega), tdiv_nat (by omega), w64 (i := n / 256) (by omega) (by omega), w64 (by omega) (by omega), Int.emod_eq_of_lt (a := n % 256) (by omega) (by omega), show (i : Int) + 1 = ((i + 1 : Nat) : Int) by omega]) ?_
        refine ih (i + 1) _ _ (by omega) (by simp [hl]) (dig_snoc hd (by omega)) (by omega) ?_
        rw [val_snoc, hl, e1, e2, Int.pow_succ]
        grind
      by_cases hx : i < a.size
      · exact Ev.step (fun k => by rw [voussoirref01_Add.l0, if_pos (by omega)]) main
      · by_cases hy : i < b.size
        · exact Ev.step (fun k => by rw [voussoirref01_Add.l0, if_neg (by omega), if_pos (by omega)]) main
        · exact Ev.step (fun k => by rw [voussoirref01_Add.l0, if_neg (by omega), if_neg (by omega), decide_eq_true (by omega)]) main
    · obtain rfl : c = 0 := by omega
      exact fin i l hl (by omega) hd (by omega) (by omega) (by rw [Int.mul_zero] at hv; omega)
theorem rev_add (a b : ByteArray) (ha : a.size ≤ 60000) (hb : b.size ≤ 60000) : Ev (fun k => voussoirref01_Add.f k a b) (N (V a + V b)) :=
  radd0 a b 60000 (Nat.le_refl _) ha hb 60001 0 [] 0 (by omega) rfl (dig_nil _) (by omega) (by simp [val])
end Go.Proofs.YtpokflilobkoaaaDoor.NatL
