import Derived.Test.YtjefbecmeobegaaGreatDoorNatD
import Derived.Test.YtjefbecmeobegaaGreatDoorPxNatMul
namespace Go.Proofs.YtjefbecmeobegaaGreatDoor.NatE
open Go Go.RowKit YtjefbecmeobegaaGreatDoorW.PrintWords P NatA NatB NatC NatD
theorem aHP (B : Int) (z : List Int) (i : Nat) (d : Int) (h : i < z.length) : val B (z.set i d) = val B z - B ^ i * rd z i + B ^ i * d := by
 rw [aCV B z i d h, Int.mul_sub]
 omega
theorem mul1 (x y : List Int) (hx : Dig 4294967296 x) (hy : Dig 4294967296 y) (i : Nat) (hi : i < x.length) (hs : x.length + y.length ≤ 268435456) (xl : Int) (r : Nat) : ∀ (j : Nat) (z : List Int) (c : Int) (T : Int), j + r = y.length → z.length = x.length + y.length → Dig 4294967296 z → (0 ≤ c ∧ c < 4294967296) →
  (∀ q : Nat, i + y.length ≤ q → rd z q = 0) →
  val 4294967296 z + 4294967296 ^ (i + j) * c = T + 4294967296 ^ i * (rd x i * val 4294967296 (y.take j)) → ∀ k, r + 1 ≤ k →
  ∃ z', z'.length = x.length + y.length ∧ Dig 4294967296 z' ∧ (∀ q : Nat, i + 1 + y.length ≤ q → rd z' q = 0) ∧ val 4294967296 z' = T + 4294967296 ^ i * (rd x i * val 4294967296 y) ∧
   nat_Mul.l1 k x y z i c xl i (y.length : Int) j = nat_Mul.l0 (k - r - 1) x y z' xl (i + 1 : Nat) := by
 induction r with
 | zero =>
  intro j z c T hj hz hd hc h0 hv k hk
  obtain ⟨k, rfl⟩ : ∃ m, k = m + 1 := ⟨k - 1, by omega⟩
  refine ⟨z.set (i + y.length) c, by rw [List.length_set, hz], aAU hd _ hc.1 hc.2, fun q hq => ?_, ?_, ?_⟩
  ·rw [aE4 _ _ _ _ (by omega), if_neg (by omega)]
   exact h0 q (by omega)
  ·rw [aHP _ _ _ _ (by omega), h0 (i + y.length) (Nat.le_refl _), Int.mul_zero, Int.sub_zero]
   rw [List.take_of_length_le (l := y) (by omega)] at hv
   rw [show y.length = j by omega]
   exact hv
  ·rw [nat_Mul.l1, if_neg (by omega), w64 (by omega) (by omega), if_pos (by omega), if_pos (by omega), w64 (by omega) (by omega), Int.emod_eq_of_lt hc.1 hc.2]
   congr 2
 | succ r ih =>
  intro j z c T hj hz hd hc h0 hv k hk
  obtain ⟨k, rfl⟩ : ∃ m, k = m + 1 := ⟨k - 1, by omega⟩
  have h1 := aAy hx (i := i) (by omega)
  have h2 := aAy hy (i := j) (by omega)
  have h3 := aAy hd (i := i + j) (by omega)
  have hp : 0 ≤ rd x i * rd y j := Int.mul_nonneg h1.1 h2.1
  have hp2 : rd x i * rd y j ≤ 4294967295 * 4294967295 := Int.mul_le_mul (by omega) (by omega) h2.1 (by omega)
  obtain ⟨S, hS⟩ : ∃ S, S = rd x i * rd y j + rd z ((i + j : Nat) : Int) + c := ⟨_, rfl⟩
  obtain ⟨z', e1, e2, e3, e4, e5⟩ := ih (j + 1) (z.set (i + j) (S % 4294967296)) (S / 4294967296) T (by omega) (by rw [List.length_set, hz]) (aAU hd _ (by omega) (by omega)) (by omega)
   (fun q hq => by rw [aE4 _ _ _ _ (by omega), if_neg (by omega)]; exact h0 q hq)
   (by
    rw [aHP _ _ _ _ (by omega), aAm, show i + (j + 1) = i + j + 1 by omega, Int.pow_succ]
    have e : (4294967296 : Int) ^ (i + j) * (S % 4294967296) + 4294967296 ^ (i + j) * 4294967296 * (S / 4294967296) = 4294967296 ^ (i + j) * rd x i * rd y j + 4294967296 ^ (i + j) * rd z ((i + j : Nat) : Int) + 4294967296 ^ (i + j) * c := by
     rw [Int.mul_assoc, ← Int.mul_add, Int.mul_assoc, ← Int.mul_add, ← Int.mul_add]
     congr 1
     omega
    have e' : (4294967296 : Int) ^ i * (rd x i * (val 4294967296 (y.take j) + 4294967296 ^ j * rd y j)) = 4294967296 ^ i * (rd x i * val 4294967296 (y.take j)) + 4294967296 ^ (i + j) * rd x i * rd y j := by
     rw [Int.mul_add, Int.mul_add, Int.pow_add]
     congr 1
     simp only [Int.mul_assoc]
     congr 1
     rw [← Int.mul_assoc, ← Int.mul_assoc, Int.mul_comm (rd x i)]
    omega) k (by omega)
  refine ⟨z', e1, e2, e3, e4, ?_⟩
  rw [nat_Mul.l1, if_pos (by omega), if_pos (by omega), if_pos (by omega), if_pos (by omega), if_pos (by omega), w64 (i := (i : Int) + j) (by omega) (by omega), if_pos (by omega), if_pos (by omega), w64 (i := (j : Int) + 1) (by omega) (by omega)]
  rw [wu h1.1 (by omega), wu h2.1 (by omega), show (i : Int) + j = ((i + j : Nat) : Int) by omega, wu h3.1 (by omega), wu hp (by omega), wu (n := rd x i * rd y j + rd z ((i + j : Nat) : Int)) (by omega) (by omega), wu (by omega) (by omega), ← hS, Int.toNat_natCast, show (j : Int) + 1 = ((j + 1 : Nat) : Int) by omega, e5]
  congr 1
  omega
theorem mul0 (x y : List Int) (hx : Dig 4294967296 x) (hy : Dig 4294967296 y) (hs : x.length + y.length ≤ 268435456) (r : Nat) : ∀ (i : Nat) (z : List Int), i + r = x.length → z.length = x.length + y.length → Dig 4294967296 z → (∀ q : Nat, i + y.length ≤ q → rd z q = 0) →
  val 4294967296 z = val 4294967296 (x.take i) * val 4294967296 y → ∀ k, 10 * (x.length + y.length) + r * (y.length + 2) + 6 ≤ k → nat_Mul.l0 k x y z (x.length : Int) i = some (N (val 4294967296 x * val 4294967296 y).toNat) := by
 induction r with
 | zero =>
  intro i z hi hz hd h0 hv k hk
  obtain ⟨k, rfl⟩ : ∃ m, k = m + 1 := ⟨k - 1, by omega⟩
  rw [List.take_of_length_le (l := x) (by omega)] at hv
  rw [nat_Mul.l0, if_neg (by omega), aEV _ hd (by omega) k (by omega), Option.bind_some, hv]
 | succ r ih =>
  intro i z hi hz hd h0 hv k hk
  obtain ⟨k, rfl⟩ : ∃ m, k = m + 1 := ⟨k - 1, by omega⟩
  rw [show (r + 1) * (y.length + 2) = r * (y.length + 2) + (y.length + 2) from Nat.succ_mul _ _] at hk
  obtain ⟨z', e1, e2, e3, e4, e5⟩ := mul1 x y hx hy i (by omega) hs (x.length : Int) y.length 0 z 0 (val 4294967296 z) (by omega) hz hd (by omega) h0 (by simp [val]) k (by omega)
  rw [nat_Mul.l0, if_pos (by omega)]
  refine Eq.trans e5 (ih (i + 1) z' (by omega) e1 e2 e3 ?_ (k - y.length - 1) (by omega))
  rw [e4, hv, aAm, Int.add_mul, Int.mul_assoc]
theorem aRd (a b : ByteArray) (ha : a.size ≤ 65536) (hb : b.size ≤ 65536) (k : Nat) (hk : 20 * (a.size + b.size) + a.size * (b.size + 2) + 40 ≤ k) : nat_Mul.f k a b = some (N (V a * V b)) := by
 have la := aCv a
 have lb' := aCv b
 have h1 : (lb (V a)).length * ((lb (V b)).length + 2) ≤ a.size * (b.size + 2) := Nat.mul_le_mul la (by omega)
 unfold nat_Mul.f
 rw [aBT a (by omega) k (by omega), Option.bind_some, aBT b (by omega) k (by omega), Option.bind_some, w64 (by omega) (by omega), if_pos (by omega), if_pos (by omega), show (((lb (V a)).length : Int) + (lb (V b)).length).toNat = (lb (V a)).length + (lb (V b)).length by omega]
 have h9 := mul0 (lb (V a)) (lb (V b)) (aBn _) (aBn _) (by omega) (lb (V a)).length 0 (List.replicate ((lb (V a)).length + (lb (V b)).length) 0) (by omega) List.length_replicate (aAN (by decide) _) (fun q _ => aC3 _ _) (by rw [aCo]; simp [val]) k (by omega)
 rw [aBv, aBv, ← Int.natCast_mul, Int.toNat_natCast] at h9
 exact h9
theorem aRe {h l y : Int} (hh : 0 ≤ h ∧ h < y) (hl : 0 ≤ l ∧ l < 4294967296) (hy : y < 4294967296) : bits_Div32.f h l y = some ((h * 4294967296 + l) / y, (h * 4294967296 + l) % y) := by
 unfold bits_Div32.f
 have h0 : 0 ≤ h * 4294967296 + l := by omega
 have h1 : 0 ≤ (h * 4294967296 + l) / y := Int.ediv_nonneg h0 (by omega)
 have h2 : (h * 4294967296 + l) / y < 4294967296 := by
  apply Int.ediv_lt_of_lt_mul (by omega)
  have := Int.mul_le_mul_of_nonneg_right (show h + 1 ≤ y by omega) (show (0 : Int) ≤ 4294967296 by omega)
  omega
 have h3 := Int.emod_nonneg (h * 4294967296 + l) (show y ≠ 0 by omega)
 have h4 := Int.emod_lt_of_pos (h * 4294967296 + l) (show 0 < y by omega)
 rw [if_neg (by omega), if_neg (by omega), wu (n := y) (by omega) (by omega), if_neg (by omega), wu (n := h) (by omega) (by omega), wu (n := l) (by omega) (by omega), wu (n := h * 4294967296) (by omega) (by omega), or_hi hl.1 hl.2 hh.1 (by omega), aDP h0, aDQ h0, wu h1 (by omega), Int.emod_eq_of_lt h1 h2, Int.emod_eq_of_lt (a := (h * 4294967296 + l) % y) h3 (by omega)]
theorem aIL (l : List Int) (i : Nat) (x : Int) (h : i < l.length) : (l.set i x).drop i = x :: l.drop (i + 1) := by
 rw [aMZ l i x h, List.drop_left' (by rw [List.length_take]; omega)]
theorem aQz (l : List Int) (hl : Dig 4294967296 l) (y : Int) (hy : 0 < y ∧ y < 4294967296) (hs : l.length ≤ 268435456) (p : Nat) : ∀ (i : Nat) (z : List Int) (c : Int), i + p = l.length → z.length = l.length → Dig 4294967296 z → (0 ≤ c ∧ c < y) →
  val 4294967296 (l.drop p) = y * val 4294967296 (z.drop p) + c → ∀ k, p + 1 ≤ k →
  ∃ z', z'.length = l.length ∧ Dig 4294967296 z' ∧ val 4294967296 z' = val 4294967296 l / y ∧ nat_short.l0 k l y z c (l.length : Int) i = some (z', val 4294967296 l % y) := by
 induction p with
 | zero =>
  intro i z c hi hz hd hc hv k hk
  obtain ⟨k, rfl⟩ : ∃ m, k = m + 1 := ⟨k - 1, by omega⟩
  rw [List.drop_zero, List.drop_zero] at hv
  have e1 : val 4294967296 l / y = val 4294967296 z ∧ val 4294967296 l % y = c := by
   rw [hv]
   constructor
   ·rw [Int.add_comm, Int.add_mul_ediv_left _ _ (by omega), Int.ediv_eq_zero_of_lt hc.1 hc.2, Int.zero_add]
   ·rw [Int.add_comm, Int.add_mul_emod_self_left, Int.emod_eq_of_lt hc.1 hc.2]
  exact ⟨z, hz, hd, e1.1.symm, by rw [nat_short.l0, if_neg (by omega), e1.2]⟩
 | succ p ih =>
  intro i z c hi hz hd hc hv k hk
  obtain ⟨k, rfl⟩ : ∃ m, k = m + 1 := ⟨k - 1, by omega⟩
  have h1 := aAy hl (i := p) (by omega)
  have hw : wrap64 (wrap64 ((l.length : Int) - 1) - i) = (p : Int) := by rw [w64 (i := (l.length : Int) - 1) (by omega) (by omega), w64 (by omega) (by omega)]; omega
  have h2 := aRe hc h1 hy.2
  have h0 : 0 ≤ c * 4294967296 + rd l p := by omega
  have h3 := Int.emod_nonneg (c * 4294967296 + rd l p) (show y ≠ 0 by omega)
  have h4 := Int.emod_lt_of_pos (c * 4294967296 + rd l p) hy.1
  have h5 : 0 ≤ (c * 4294967296 + rd l p) / y := Int.ediv_nonneg h0 (by omega)
  have h6 : (c * 4294967296 + rd l p) / y < 4294967296 := by
   apply Int.ediv_lt_of_lt_mul hy.1
   have := Int.mul_le_mul_of_nonneg_right (show c + 1 ≤ y by omega) (show (0 : Int) ≤ 4294967296 by omega)
   omega
  obtain ⟨z', e1, e2, e3, e4⟩ := ih (i + 1) (z.set p ((c * 4294967296 + rd l p) / y)) ((c * 4294967296 + rd l p) % y) (by omega) (by rw [List.length_set, hz]) (aAU hd _ h5 h6) ⟨h3, h4⟩
   (by
    rw [aIL _ _ _ (by omega), val, aCU _ _ _ (by omega), hv, Int.mul_add, Int.mul_add]
    have := Int.mul_ediv_add_emod (c * 4294967296 + rd l p) y
    have e : (4294967296 : Int) * (y * val 4294967296 (z.drop (p + 1))) = y * (4294967296 * val 4294967296 (z.drop (p + 1))) := by rw [← Int.mul_assoc, ← Int.mul_assoc, Int.mul_comm y]
    omega) k (by omega)
  refine ⟨z', e1, e2, e3, ?_⟩
  rw [nat_short.l0, if_pos (by omega), hw, if_pos (by omega), if_pos (by omega), h2, Option.bind_some]
  dsimp only
  rw [if_pos (by omega), Int.toNat_natCast, w64 (by omega) (by omega), show (i : Int) + 1 = ((i + 1 : Nat) : Int) by omega]
  exact e4
theorem aHQ (l : List Int) (hl : Dig 4294967296 l) (y : Int) (hy : 0 < y ∧ y < 4294967296) (hs : l.length ≤ 268435456) (k : Nat) (hk : l.length + 1 ≤ k) :
  ∃ z, z.length = l.length ∧ Dig 4294967296 z ∧ val 4294967296 z = val 4294967296 l / y ∧ nat_short.f k l y = some (z, val 4294967296 l % y) := by
 obtain ⟨z, e1, e2, e3, e4⟩ := aQz l hl y hy hs l.length 0 (List.replicate l.length 0) 0 (by omega) List.length_replicate (aAN (by decide) _) ⟨Int.le_refl _, hy.1⟩ (by rw [List.drop_eq_nil_of_le (Nat.le_refl _), List.drop_eq_nil_of_le (by rw [List.length_replicate]; exact Nat.le_refl _)]; simp [val]) k (by omega)
 refine ⟨z, e1, e2, e3, ?_⟩
 unfold nat_short.f
 rw [if_pos (by omega), if_pos (by omega), Int.toNat_natCast]
 exact e4
end Go.Proofs.YtjefbecmeobegaaGreatDoor.NatE
