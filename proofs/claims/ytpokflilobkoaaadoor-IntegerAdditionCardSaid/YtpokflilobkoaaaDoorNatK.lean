/- What the reference's functions come to. -/
import Derived.Test.YtpokflilobkoaaaDoorNatJ
import Derived.Test.YtpokflilobkoaaaDoorPxRA
import Derived.Test.YtpokflilobkoaaaDoorPxRB
namespace Go.Proofs.YtpokflilobkoaaaDoor.NatK
open Go Go.RowKit Go.Proofs.YtpokflilobkoaaaDoorW.PrintWords Go.Proofs.YtpokflilobkoaaaDoor.P Go.Proofs.YtpokflilobkoaaaDoor.NatA Go.Proofs.YtpokflilobkoaaaDoor.NatB Go.Proofs.YtpokflilobkoaaaDoor.NatC Go.Proofs.YtpokflilobkoaaaDoor.NatD Go.Proofs.YtpokflilobkoaaaDoor.NatE Go.Proofs.YtpokflilobkoaaaDoor.NatI Go.Proofs.YtpokflilobkoaaaDoor.NatJ

/-! ### Norm, Cmp -/
theorem rnorm0 (a : ByteArray) (ha : a.size ≤ 1099511627776) (n : Nat) : n ≤ a.size → ∀ k, n + 1 ≤ k → voussoirref01_Norm.l0 k a n = some (N (V (a.extract 0 n))) := by
  induction n with
  | zero =>
    intro h k hk
    obtain ⟨k, rfl⟩ : ∃ m, k = m + 1 := ⟨k - 1, by omega⟩
    rw [voussoirref01_Norm.l0, if_neg (by omega), if_pos (by omega), if_pos (by omega), N_V (.inl (size_extract a 0 (by omega)))]
    rfl
  | succ n ih =>
    intro h k hk
    obtain ⟨k, rfl⟩ : ∃ m, k = m + 1 := ⟨k - 1, by omega⟩
    have hw : wrap64 (((n + 1 : Nat) : Int) - 1) = (n : Int) := by rw [w64 (by omega) (by omega)]; omega
    rw [voussoirref01_Norm.l0, if_pos (by omega), hw, if_pos (by omega), if_pos (by omega)]
    have hx := V_extract a n (by omega)
    by_cases hb : bt a (n : Int) = 0
    · rw [if_pos hb, ih (by omega) k (by omega)]
      rw [hb, Int.mul_zero, Int.add_zero] at hx
      rw [Int.ofNat_inj.1 hx]
    · rw [if_neg hb, if_pos (by omega), if_pos (by omega), Int.toNat_natCast, N_extract a n (by omega) hb]
theorem rnorm_k (a : ByteArray) (ha : a.size ≤ 1099511627776) (k : Nat) (hk : a.size + 1 ≤ k) : voussoirref01_Norm.f k a = some (N (V a)) := by
  unfold voussoirref01_Norm.f
  rw [rnorm0 a ha a.size (Nat.le_refl _) k hk, extract_all]
theorem rnorm (a : ByteArray) (ha : a.size ≤ 1099511627776) : ∃ K, ∀ k, K ≤ k → voussoirref01_Norm.f k a = some (N (V a)) := ⟨a.size + 1, fun k hk => rnorm_k a ha k hk⟩
/-! ### Cmp -/
theorem rcmp0 (x y : Nat) (hs : (N x).size = (N y).size) (hx : (N x).size ≤ 1099511627776) (r : Nat) : r ≤ (N x).size → (nb x).drop r = (nb y).drop r → ∀ k, r + 1 ≤ k → voussoirref01_Cmp.l0 k (N x) (N y) ((r : Int) - 1) = some (cmpI x y) := by
  have lx : (nb x).length = (N x).size := by rw [← bytesOf_length, bytes_N]
  have ly : (nb y).length = (N x).size := by rw [hs, ← bytesOf_length, bytes_N]
  induction r with
  | zero =>
    intro hi hd k hk
    obtain ⟨k, rfl⟩ : ∃ m, k = m + 1 := ⟨k - 1, by omega⟩
    rw [List.drop_zero, List.drop_zero] at hd
    have : x = y := by
      have := congrArg (val 256) hd
      rw [val_nb, val_nb] at this
      exact Int.ofNat_inj.1 this
    rw [voussoirref01_Cmp.l0, if_neg (by omega)]
    unfold cmpI
    rw [if_neg (by omega), if_pos this]
  | succ r ih =>
    intro hi hd k hk
    obtain ⟨k, rfl⟩ : ∃ m, k = m + 1 := ⟨k - 1, by omega⟩
    rw [show ((r + 1 : Nat) : Int) - 1 = (r : Int) by omega, voussoirref01_Cmp.l0, if_pos (by omega), if_pos (by omega), if_pos (by omega), if_pos (by omega), bt_nat, bt_nat, bytes_N, bytes_N]
    by_cases hl : rd (nb x) (r : Int) < rd (nb y) (r : Int)
    · have := val_lt_of (B := 256) (by decide) (dig_nb x) (dig_nb y) (by omega) r (by omega) hd hl
      rw [val_nb, val_nb] at this
      rw [if_pos hl]
      unfold cmpI
      rw [if_pos (by omega)]
    · rw [if_neg hl]
      by_cases hg : rd (nb x) (r : Int) > rd (nb y) (r : Int)
      · have := val_lt_of (B := 256) (by decide) (dig_nb y) (dig_nb x) (by omega) r (by omega) hd.symm hg
        rw [val_nb, val_nb] at this
        rw [if_pos hg]
        unfold cmpI
        rw [if_neg (by omega), if_neg (by omega)]
      · rw [if_neg hg, w64 (by omega) (by omega)]
        exact ih (by omega) (drop_eq (by omega) (by omega) hd (by omega)) k (by omega)
theorem rcmp_k (a b : ByteArray) (ha : a.size ≤ 1099511627776) (hb : b.size ≤ 1099511627776) (k : Nat) (hk : a.size + b.size + 10 ≤ k) : voussoirref01_Cmp.f k a b = some (cmpI (V a) (V b)) := by
  have sa := N_small ha
  have sa' := N_small (Nat.le_refl a.size)
  unfold voussoirref01_Cmp.f
  rw [rnorm_k a ha k (by omega), Option.bind_some, rnorm_k b hb k (by omega), Option.bind_some]
  by_cases hl : (N (V a)).size < (N (V b)).size
  · rw [if_pos (by omega)]
    unfold cmpI
    rw [if_pos (lt_of_size hl)]
  · rw [if_neg (by omega)]
    by_cases hg : (N (V a)).size > (N (V b)).size
    · have := lt_of_size (x := V b) (y := V a) hg
      rw [if_pos (by omega)]
      unfold cmpI
      rw [if_neg (by omega), if_neg (by omega)]
    · have hs : (N (V a)).size = (N (V b)).size := by omega
      have lx : (nb (V a)).length = (N (V a)).size := by rw [← bytesOf_length, bytes_N]
      have ly : (nb (V b)).length = (N (V a)).size := by rw [hs, ← bytesOf_length, bytes_N]
      rw [if_neg (by omega), w64 (by omega) (by omega)]
      exact rcmp0 _ _ hs sa (N (V a)).size (Nat.le_refl _) (by rw [List.drop_eq_nil_of_le (by omega), List.drop_eq_nil_of_le (by omega)]) k (by omega)
theorem rev_norm (a : ByteArray) (ha : a.size ≤ 67108864) : Ev (fun k => voussoirref01_Norm.f k a) (N (V a)) := ⟨_, fun k hk => rnorm_k a (by omega) k hk⟩
theorem rev_cmp (a b : ByteArray) (ha : a.size ≤ 67108864) (hb : b.size ≤ 67108864) : Ev (fun k => voussoirref01_Cmp.f k a b) (cmpI (V a) (V b)) := ⟨_, fun k hk => rcmp_k a b (by omega) (by omega) k hk⟩
theorem V_lt_int (a : ByteArray) : (V a : Int) < 256 ^ a.size := by
  have := val_lt (B := 256) (by decide) (dig_bytes a)
  rw [← V_int, bytesOf_length] at this
  exact this
/-- The byte at an index, 0 beyond the end. -/
theorem at_eq (a : ByteArray) (i : Nat) : voussoirref01_at.f a i = some (rd (bytesOf a) i) := by
  unfold voussoirref01_at.f
  by_cases h : i < a.size
  · have := bt_dig a (i : Int)
    rw [if_pos (by omega), if_pos (by omega), w64 (by omega) (by omega), bt_nat]
  · rw [if_neg (by omega), rd_over (by rw [bytesOf_length]; omega)]
theorem bdig (a : ByteArray) (i : Nat) : 0 ≤ rd (bytesOf a) (i : Int) ∧ rd (bytesOf a) (i : Int) < 256 := dig_rd' (by decide) (dig_bytes a) i
theorem dig_snoc {B : Int} {l : List Int} {x : Int} (h : Dig B l) (h0 : 0 ≤ x ∧ x < B) : Dig B (l ++ [x]) := dig_append.2 ⟨h, dig_cons.2 ⟨h0, dig_nil _⟩⟩
theorem val_snoc (B : Int) (l : List Int) (x : Int) : val B (l ++ [x]) = val B l + B ^ l.length * x := by rw [val_append, val_single]
theorem rnorm_str (l : List Int) (hl : Dig 256 l) (hs : l.length ≤ 67108864) : Ev (fun k => voussoirref01_Norm.f k (strOfNums l)) (N (val 256 l).toNat) := by
  have h := rev_norm (strOfNums l) (by rw [size_str]; exact hs)
  have e : V (strOfNums l) = (val 256 l).toNat := by have := V_str hl; omega
  rw [e] at h
  exact h
/-! ### Sub -/
theorem rsub0 (a b : ByteArray) (ha : a.size ≤ 67108864) (hge : V b ≤ V a) (r : Nat) : ∀ (i : Nat) (l : List Int) (c : Int), i + r = a.size → l.length = i → Dig 256 l → (0 ≤ c ∧ c ≤ 1) →
    val 256 l + val 256 ((bytesOf b).take i) = val 256 ((bytesOf a).take i) + 256 ^ i * c → Ev (fun k => voussoirref01_Sub.l0 k a b l c i) (N (V a - V b), true) := by
  induction r with
  | zero =>
    intro i l c hi hl hd hc hv
    refine Ev.step (fun k => by rw [voussoirref01_Sub.l0, if_neg (by omega)]) ?_
    have hva := V_int a
    have hvb := V_int b
    rw [List.take_of_length_le (l := bytesOf a) (by rw [bytesOf_length]; omega), ← hva] at hv
    -- what b holds beyond a's length is 0
    have hb2 : val 256 ((bytesOf b).take i) = (V b : Int) := by
      by_cases hbl : b.size ≤ i
      · rw [List.take_of_length_le (by rw [bytesOf_length]; omega), hvb]
      · have h1 := val_split 256 (bytesOf b) i (by rw [bytesOf_length]; omega)
        have h2 := val_nonneg (by decide) (dig_take (dig_bytes b) i)
        have h3 := val_nonneg (by decide) (dig_drop (dig_bytes b) i)
        have h4 : (0 : Int) < 256 ^ i := Int.pow_pos (by decide)
        have h5 : (V a : Int) < 256 ^ i := by rw [show i = a.size by omega]; exact V_lt_int a
        have h6 : val 256 ((bytesOf b).drop i) = 0 := by
          rcases (show val 256 ((bytesOf b).drop i) = 0 ∨ 1 ≤ val 256 ((bytesOf b).drop i) by omega) with h | h
          · exact h
          · have := Int.mul_le_mul_of_nonneg_left h (Int.le_of_lt h4)
            rw [Int.mul_one] at this
            omega
        rw [h6, Int.mul_zero] at h1
        omega
    rw [hb2] at hv
    have hl0 := val_lt (by decide) hd
    rw [hl] at hl0
    have hc0 : c = 0 := by
      rcases (show c = 0 ∨ c = 1 by omega) with h | h
      · exact h
      · rw [h, Int.mul_one] at hv
        omega
    rw [hc0, Int.mul_zero] at hv
    have h := rnorm_str l hd (by omega)
    rw [show (val 256 l).toNat = V a - V b by omega] at h
    exact Ev.bind h (Ev.now _)
  | succ r ih =>
    intro i l c hi hl hd hc hv
    have h1 := bdig a i
    have h2 := bdig b i
    have e1 := val_take_next 256 (bytesOf a) i
    have e2 := val_take_next 256 (bytesOf b) i
    refine Ev.step (fun k => by rw [voussoirref01_Sub.l0, if_pos (by omega), at_eq, Option.bind_some, at_eq, Option.bind_some, w64 (i := rd (bytesOf a) i - rd (bytesOf b) i) (by omega) (by omega), w64 (i := rd (bytesOf a) i - rd (bytesOf b) i - c) (by omega) (by omega), w64 (i := (i : Int) + 1) (by omega) (by omega)]) ?_
    by_cases hn : rd (bytesOf a) i - rd (bytesOf b) i - c < 0
    · refine Ev.congr (fun k => by rw [if_pos hn, if_pos (by omega), w64 (by omega) (by omega), Int.emod_eq_of_lt (by omega) (by omega), show (i : Int) + 1 = ((i + 1 : Nat) : Int) by omega]) ?_
      refine ih (i + 1) _ 1 (by omega) (by simp [hl]) (dig_snoc hd (by omega)) (by omega) ?_
      rw [val_snoc, hl, e1, e2, Int.pow_succ]
      grind
    · refine Ev.congr (fun k => by rw [if_neg hn, if_pos (by omega), Int.emod_eq_of_lt (by omega) (by omega), show (i : Int) + 1 = ((i + 1 : Nat) : Int) by omega]) ?_
      refine ih (i + 1) _ 0 (by omega) (by simp [hl]) (dig_snoc hd (by omega)) (by omega) ?_
      rw [val_snoc, hl, e1, e2]
      grind
theorem rev_sub (a b : ByteArray) (ha : a.size ≤ 67108864) (hb : b.size ≤ 67108864) : Ev (fun k => voussoirref01_Sub.f k a b) (subR (V a) (V b)) := by
  unfold voussoirref01_Sub.f subR
  refine Ev.bind (rev_cmp a b ha hb) ?_
  by_cases h : V a < V b
  · rw [if_pos h]
    exact Ev.congr (fun k => if_pos (cmpI_neg.2 h)) (Ev.now _)
  · rw [if_neg h]
    exact Ev.congr (fun k => if_neg (fun e => h (cmpI_neg.1 e))) (rsub0 a b ha (by omega) a.size 0 [] 0 (by omega) rfl (dig_nil _) (by omega) (by simp [val]))
/-! ### Mul -/
/-- a times b's digits within the sums. -/
theorem rmul1 (a b : ByteArray) (hs : a.size + b.size ≤ 65536) (i : Nat) (hi : i < a.size) (R : ByteArray) (T : Int) (hT : T + 256 ^ i * (rd (bytesOf a) i * V b) < 256 ^ (a.size + b.size + 1)) (r : Nat) : ∀ (j : Nat) (z : List Int) (c : Int), j + r = a.size + b.size + 1 - i → z.length = a.size + b.size + 1 → Dig 256 z → (0 ≤ c ∧ c < 256) →
    val 256 z + 256 ^ (i + j) * c = T + 256 ^ i * (rd (bytesOf a) i * val 256 ((bytesOf b).take j)) →
    (∀ z', z'.length = a.size + b.size + 1 → Dig 256 z' → val 256 z' = T + 256 ^ i * (rd (bytesOf a) i * V b) → Ev (fun k => voussoirref01_Mul.l0 k a b z' ((i + 1 : Nat) : Int)) R) →
    Ev (fun k => voussoirref01_Mul.l1 k a b z i c j) R := by
  have ha := bdig a i
  have fin : ∀ (j : Nat) (z : List Int), z.length = a.size + b.size + 1 → Dig 256 z → ¬ j < b.size → val 256 z = T + 256 ^ i * (rd (bytesOf a) i * val 256 ((bytesOf b).take j)) →
    (∀ z', z'.length = a.size + b.size + 1 → Dig 256 z' → val 256 z' = T + 256 ^ i * (rd (bytesOf a) i * V b) → Ev (fun k => voussoirref01_Mul.l0 k a b z' ((i + 1 : Nat) : Int)) R) → Ev (fun k => voussoirref01_Mul.l1 k a b z i 0 j) R := fun j z hz hd hj hv K => by
    refine Ev.step (fun k => by rw [voussoirref01_Mul.l1, if_neg (by omega), decide_eq_false (by omega)]) ?_
    refine Ev.step (fun k => by rw [voussoirref01_Mul.j2, if_neg (by decide), w64 (by omega) (by omega), show (i : Int) + 1 = ((i + 1 : Nat) : Int) by omega]) ?_
    exact K z hz hd (by rw [hv, List.take_of_length_le (by rw [bytesOf_length]; omega), V_int])
  induction r with
  | zero =>
    intro j z c hj hz hd hc hv K
    have hc0 : c = 0 := by
      rcases (show c = 0 ∨ 1 ≤ c by omega) with h | h
      · exact h
      · rw [List.take_of_length_le (l := bytesOf b) (by rw [bytesOf_length]; omega), ← V_int] at hv
        have h0 := val_nonneg (by decide) hd
        have h1 : (0 : Int) < 256 ^ (i + j) := Int.pow_pos (by decide)
        have h2 := Int.mul_le_mul_of_nonneg_left h (Int.le_of_lt h1)
        rw [Int.mul_one, show i + j = a.size + b.size + 1 by omega] at h2
        rw [show i + j = a.size + b.size + 1 by omega] at hv
        omega
    subst hc0
    exact fin j z hz hd (by omega) (by rw [Int.mul_zero] at hv; omega) K
  | succ r ih =>
    intro j z c hj hz hd hc hv K
    by_cases hgo : j < b.size ∨ c > 0
    · have hb := bdig b j
      have hzr := dig_rd hd (i := i + j) (by omega)
      have hp : 0 ≤ rd (bytesOf a) i * rd (bytesOf b) j := Int.mul_nonneg ha.1 hb.1
      have hp2 : rd (bytesOf a) i * rd (bytesOf b) j ≤ 255 * 255 := Int.mul_le_mul (by omega) (by omega) hb.1 (by omega)
      obtain ⟨n, hn⟩ : ∃ n, n = rd z ((i + j : Nat) : Int) + rd (bytesOf a) i * rd (bytesOf b) j + c := ⟨_, rfl⟩
      have hdm : 256 * (n / 256) + n % 256 = n := Int.mul_ediv_add_emod _ _
      have step : ∀ k, voussoirref01_Mul.j2 (k + 1) a b z i c j true = voussoirref01_Mul.l1 k a b (z.set (i + j) (n % 256)) i (n / 256) ((j + 1 : Nat) : Int) := fun k => by
        rw [voussoirref01_Mul.j2, if_pos rfl, w64 (i := (i : Int) + j) (by omega) (by omega), if_pos (by omega), if_pos (by omega), at_eq, Option.bind_some, at_eq, Option.bind_some, w64 (i := rd (bytesOf a) i * rd (bytesOf b) j) (by omega) (by omega), show (i : Int) + j = ((i + j : Nat) : Int) by omega, w64 (i := rd z ((i + j : Nat) : Int) + rd (bytesOf a) i * rd (bytesOf b) j) (by omega) (by omega), w64 (i := rd z ((i + j : Nat) : Int) + rd (bytesOf a) i * rd (bytesOf b) j + c) (by omega) (by omega), ← hn, tmod_nat (by omega), tdiv_nat (by omega), w64 (i := n / 256) (by omega) (by omega), w64 (i := (j : Int) + 1) (by omega) (by omega), Int.toNat_natCast, show (j : Int) + 1 = ((j + 1 : Nat) : Int) by omega]
      have main : Ev (fun k => voussoirref01_Mul.j2 k a b z i c j true) R := by
        refine Ev.step step (ih (j + 1) _ _ (by omega) (by rw [List.length_set, hz]) (dig_set hd _ (by omega) (by omega)) (by omega) ?_ K)
        rw [val_put _ _ _ _ (by omega), val_take_next, show i + (j + 1) = i + j + 1 by omega, Int.pow_succ]
        have e1 : (256 : Int) ^ (i + j) = 256 ^ i * 256 ^ j := Int.pow_add _ _ _
        grind
      by_cases hj' : j < b.size
      · exact Ev.step (fun k => by rw [voussoirref01_Mul.l1, if_pos (by omega)]) main
      · exact Ev.step (fun k => by rw [voussoirref01_Mul.l1, if_neg (by omega), decide_eq_true (by omega)]) main
    · obtain rfl : c = 0 := by omega
      exact fin j z hz hd (by omega) (by rw [Int.mul_zero] at hv; omega) K
theorem rmul2 (z : List Int) (hd : Dig 256 z) (hs : z.length ≤ 67108864) (r : Nat) : ∀ (i : Nat) (l : List Int), i + r = z.length → l = z.take i → Ev (fun k => voussoirref01_Mul.l2 k l z (z.length : Int) i) (N (val 256 z).toNat) := by
  induction r with
  | zero =>
    intro i l hi hl
    refine Ev.step (fun k => by rw [voussoirref01_Mul.l2, if_neg (by omega)]) ?_
    rw [hl, List.take_of_length_le (by omega)]
    exact Ev.bind (rnorm_str z hd hs) (Ev.now _)
  | succ r ih =>
    intro i l hi hl
    have hr := dig_rd hd (i := i) (by omega)
    have hll : l.length = i := by rw [hl, List.length_take]; omega
    refine Ev.step (fun k => by rw [voussoirref01_Mul.l2, if_pos (by omega), if_pos (by omega), if_pos (by omega), if_pos (by omega), Int.emod_eq_of_lt hr.1 hr.2, w64 (by omega) (by omega), show (i : Int) + 1 = ((i + 1 : Nat) : Int) by omega]) ?_
    exact ih (i + 1) _ (by omega) (by rw [hl, take_snoc z i (by omega)])
theorem rmul0 (a b : ByteArray) (hs : a.size + b.size ≤ 65536) (r : Nat) : ∀ (i : Nat) (z : List Int), i + r = a.size → z.length = a.size + b.size + 1 → Dig 256 z → val 256 z = val 256 ((bytesOf a).take i) * V b → Ev (fun k => voussoirref01_Mul.l0 k a b z i) (N (V a * V b)) := by
  induction r with
  | zero =>
    intro i z hi hz hd hv
    refine Ev.step (fun k => by rw [voussoirref01_Mul.l0, if_neg (by omega)]) ?_
    rw [List.take_of_length_le (by rw [bytesOf_length]; omega), ← V_int, ← Int.natCast_mul] at hv
    have := rmul2 z hd (by omega) z.length 0 [] (by omega) rfl
    rw [hv, Int.toNat_natCast] at this
    exact this
  | succ r ih =>
    intro i z hi hz hd hv
    have ha := bdig a i
    have e1 := val_take_next 256 (bytesOf a) i
    refine Ev.step (fun k => by rw [voussoirref01_Mul.l0, if_pos (by omega)]) ?_
    refine rmul1 a b hs i (by omega) _ (val 256 z) ?_ (a.size + b.size + 1 - i) 0 z 0 (by omega) hz hd (by omega) (by simp [val]) (fun z' hz' hd' hv' => ih (i + 1) z' (by omega) hz' hd' (by rw [hv', hv, e1, Int.add_mul, Int.mul_assoc]))
    have h1 : val 256 z + 256 ^ i * (rd (bytesOf a) i * V b) = val 256 ((bytesOf a).take (i + 1)) * V b := by rw [hv, e1, Int.add_mul, Int.mul_assoc]
    rw [h1]
    have h2 := val_lt (by decide) (dig_take (dig_bytes a) (i + 1))
    rw [List.length_take, bytesOf_length, Nat.min_eq_left (by omega)] at h2
    have h3' := V_lt_int b
    have h4 := val_nonneg (by decide) (dig_take (dig_bytes a) (i + 1))
    have h5 : val 256 ((bytesOf a).take (i + 1)) * V b ≤ 256 ^ (i + 1) * 256 ^ b.size := Int.mul_le_mul (Int.le_of_lt h2) (Int.le_of_lt h3') (by omega) (Int.le_of_lt (Int.pow_pos (by decide)))
    rw [← Int.pow_add] at h5
    have h6 : (256 : Int) ^ (i + 1 + b.size) < 256 ^ (a.size + b.size + 1) := by
      have := Nat.pow_lt_pow_right (show 1 < 256 by decide) (show i + 1 + b.size < a.size + b.size + 1 by omega)
      have e : ∀ m : Nat, (256 : Int) ^ m = ((256 ^ m : Nat) : Int) := fun m => by rw [Int.natCast_pow]; rfl
      rw [e, e]
      exact Int.ofNat_lt.2 this
    exact Int.lt_of_le_of_lt h5 h6
theorem rev_mul (a b : ByteArray) (hs : a.size + b.size ≤ 65536) : Ev (fun k => voussoirref01_Mul.f k a b) (N (V a * V b)) := by
  have h : ∀ k, voussoirref01_Mul.f k a b = voussoirref01_Mul.l0 k a b (List.replicate (a.size + b.size + 1) 0) ((0 : Nat) : Int) := fun k => by
    unfold voussoirref01_Mul.f
    rw [w64 (i := (a.size : Int) + b.size) (by omega) (by omega), w64 (by omega) (by omega), if_pos (by omega), if_pos (by omega), show ((a.size : Int) + b.size + 1).toNat = a.size + b.size + 1 by omega]
    rfl
  refine Ev.congr h (rmul0 a b hs a.size 0 _ (by omega) List.length_replicate (dig_replicate (by decide) _) ?_)
  rw [val_replicate]
  simp [val]
theorem rev_small (a : ByteArray) (n : Nat) (hn : n < 256) (hs : a.size ≤ 65000) : Ev (fun k => voussoirref01_small.f k a n) (N (V a * n)) := by
  have hd : Dig 256 [(n : Int) % 256] := dig_cons.2 ⟨by omega, dig_nil _⟩
  have e : V (strOfNums [(n : Int) % 256]) = n := by
    have := V_str hd
    rw [val_single] at this
    omega
  have := rev_mul a (strOfNums [(n : Int) % 256]) (by rw [size_str]; simp; omega)
  rw [e] at this
  exact Ev.bind this (Ev.now _)
end Go.Proofs.YtpokflilobkoaaaDoor.NatK
