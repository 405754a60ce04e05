import Derived.Test.YtjefbecmeobegaaGreatDoorNatC
import Derived.Test.YtjefbecmeobegaaGreatDoorPxNatAdd
import Derived.Test.YtjefbecmeobegaaGreatDoorPxNatSub
namespace Go.Proofs.YtjefbecmeobegaaGreatDoor.NatD
open Go Go.RowKit YtjefbecmeobegaaGreatDoorW.PrintWords P NatA NatB NatC
theorem aDB {l : List Int} {i : Nat} (h : l.length ≤ i) : rd l (i : Int) = 0 := by
 rw [aBo, List.getD_eq_getElem?_getD, List.getElem?_eq_none h]
 rfl
theorem aAm (B : Int) (l : List Int) (i : Nat) : val B (l.take (i + 1)) = val B (l.take i) + B ^ i * rd l i := by
 by_cases h : i < l.length
 ·exact aB3 B l i h
 ·rw [aDB (by omega), Int.mul_zero, Int.add_zero, List.take_of_length_le (by omega), List.take_of_length_le (by omega)]
theorem add0 (x y : List Int) (hx : Dig 4294967296 x) (hy : Dig 4294967296 y) (hl : y.length ≤ x.length) (hs : x.length ≤ 268435456) (r : Nat) : ∀ (i : Nat) (z : List Int) (c : Int), i + r = x.length → z.length = x.length + 1 → Dig 4294967296 z → (0 ≤ c ∧ c ≤ 1) →
  val 4294967296 (z.take i) + 4294967296 ^ i * c = val 4294967296 (x.take i) + val 4294967296 (y.take i) → ∀ k, 10 * x.length + r + 20 ≤ k → nat_Add.l0 k x y z c (x.length : Int) i = some (N (val 4294967296 x + val 4294967296 y).toNat) := by
 induction r with
 | zero =>
  intro i z c hi hz hd hc hv k hk
  obtain ⟨k, rfl⟩ : ∃ m, k = m + 1 := ⟨k - 1, by omega⟩
  rw [nat_Add.l0, if_neg (by omega), if_pos (by omega), if_pos (by omega), Int.toNat_natCast]
  have hw : val 4294967296 (z.set x.length c) = val 4294967296 x + val 4294967296 y := by
   rw [List.take_of_length_le (l := x) (by omega), List.take_of_length_le (l := y) (by omega)] at hv
   have := aCc 4294967296 z x.length c (by omega)
   rw [List.take_of_length_le (by rw [List.length_set]; omega)] at this
   rw [this, ← hv, show x.length = i by omega]
  rw [aEV _ (aAU hd _ hc.1 (by omega)) (by rw [List.length_set]; omega) k (by rw [List.length_set]; omega), hw, Option.bind_some]
 | succ r ih =>
  intro i z c hi hz hd hc hv k hk
  obtain ⟨k, rfl⟩ : ∃ m, k = m + 1 := ⟨k - 1, by omega⟩
  have h1 := aAy hx (i := i) (by omega)
  have h2 := aGf (by decide) hy i
  have hstep : nat_Add.l0 k x y (z.set i ((rd x i + rd y i + c) % 4294967296)) ((rd x i + rd y i + c) / 4294967296) (x.length : Int) ((i + 1 : Nat) : Int) = some (N (val 4294967296 x + val 4294967296 y).toNat) := by
   refine ih (i + 1) _ _ (by omega) (by rw [List.length_set, hz]) (aAU hd _ (by omega) (by omega)) (by omega) ?_ k (by omega)
   rw [aCc _ _ _ _ (by omega), aAm _ x, aAm _ y, Int.pow_succ]
   have e : (4294967296 : Int) ^ i * ((rd x i + rd y i + c) % 4294967296) + 4294967296 ^ i * 4294967296 * ((rd x i + rd y i + c) / 4294967296) = 4294967296 ^ i * rd x i + 4294967296 ^ i * rd y i + 4294967296 ^ i * c := by
    rw [Int.mul_assoc, ← Int.mul_add, ← Int.mul_add, ← Int.mul_add]
    congr 1
    omega
   omega
  rw [nat_Add.l0, if_pos (by omega), w64 (i := (i : Int) + 1) (by omega) (by omega), show (i : Int) + 1 = ((i + 1 : Nat) : Int) by omega]
  by_cases hlt : i < y.length
  ·rw [if_pos (by omega), if_pos (by omega), if_pos (by omega), aLT h1 h2 hc, Option.bind_some]
   dsimp only
   rw [if_pos (by omega), Int.toNat_natCast]
   exact hstep
  ·have h0 := aDB (l := y) (i := i) (by omega)
   rw [h0] at hstep
   rw [if_neg (by omega), if_pos (by omega), if_pos (by omega), aLT h1 (by omega) hc, Option.bind_some]
   dsimp only
   rw [if_pos (by omega), Int.toNat_natCast]
   exact hstep
theorem add1 (x y : List Int) (hx : Dig 4294967296 x) (hy : Dig 4294967296 y) (hl : y.length ≤ x.length) (hs : x.length ≤ 268435456) (k : Nat) (hk : 11 * x.length + 30 ≤ k) : nat_Add.j0 k x y = some (N (val 4294967296 x + val 4294967296 y).toNat) := by
 obtain ⟨k, rfl⟩ : ∃ m, k = m + 1 := ⟨k - 1, by omega⟩
 rw [nat_Add.j0, w64 (by omega) (by omega), if_pos (by omega), if_pos (by omega), show ((x.length : Int) + 1).toNat = x.length + 1 by omega]
 exact add0 x y hx hy hl hs x.length 0 _ 0 (by omega) (List.length_replicate ..) (aAN (by decide) _) (by omega) (by simp [val]) k (by omega)
theorem aCv (a : ByteArray) : (lb (V a)).length ≤ a.size := by
 refine (aDk _ _).2 (Nat.lt_of_lt_of_le (aHT a) ?_)
 exact Nat.pow_le_pow_left (by decide) _
theorem aRf (a b : ByteArray) (ha : a.size ≤ 268435456) (hb : b.size ≤ 268435456) (k : Nat) (hk : 20 * (a.size + b.size) + 40 ≤ k) : nat_Add.f k a b = some (N (V a + V b)) := by
 have la := aCv a
 have lb' := aCv b
 unfold nat_Add.f
 rw [aBT a (by omega) k (by omega), Option.bind_some, aBT b (by omega) k (by omega), Option.bind_some]
 by_cases h : (lb (V a)).length < (lb (V b)).length
 ·rw [if_pos (by omega), add1 _ _ (aBn _) (aBn _) (by omega) (by omega) k (by omega), aBv, aBv]
  congr 2
  omega
 ·rw [if_neg (by omega), add1 _ _ (aBn _) (aBn _) (by omega) (by omega) k (by omega), aBv, aBv]
  congr 2
theorem sub0 (x y : List Int) (hx : Dig 4294967296 x) (hy : Dig 4294967296 y) (hge : val 4294967296 y ≤ val 4294967296 x) (hl : y.length ≤ x.length) (hs : x.length ≤ 268435456) (r : Nat) : ∀ (i : Nat) (z : List Int) (c : Int), i + r = x.length → z.length = x.length → Dig 4294967296 z → (0 ≤ c ∧ c ≤ 1) →
  val 4294967296 (z.take i) - 4294967296 ^ i * c = val 4294967296 (x.take i) - val 4294967296 (y.take i) → ∀ k, 10 * x.length + r + 20 ≤ k → nat_Sub.l0 k x y z c (x.length : Int) i = some (N (val 4294967296 x - val 4294967296 y).toNat, true) := by
 induction r with
 | zero =>
  intro i z c hi hz hd hc hv k hk
  obtain ⟨k, rfl⟩ : ∃ m, k = m + 1 := ⟨k - 1, by omega⟩
  rw [nat_Sub.l0, if_neg (by omega)]
  have hw : val 4294967296 z = val 4294967296 x - val 4294967296 y := by
   rw [List.take_of_length_le (l := x) (by omega), List.take_of_length_le (l := y) (by omega), List.take_of_length_le (l := z) (by omega)] at hv
   have h3 := aBp (B := 4294967296) (by decide) hd
   rw [hz, ← show i = x.length by omega] at h3
   have h4 := aAw (B := 4294967296) (by decide) hd
   rcases (by omega : c = 0 ∨ c = 1) with rfl | rfl
   ·omega
   ·omega
  rw [aEV _ hd (by omega) k (by omega), hw, Option.bind_some]
 | succ r ih =>
  intro i z c hi hz hd hc hv k hk
  obtain ⟨k, rfl⟩ : ∃ m, k = m + 1 := ⟨k - 1, by omega⟩
  have h1 := aAy hx (i := i) (by omega)
  have h2 := aGf (by decide) hy i
  have hstep : nat_Sub.l0 k x y (z.set i ((rd x i - rd y i - c) % 4294967296)) (if rd x i < rd y i + c then 1 else 0) (x.length : Int) ((i + 1 : Nat) : Int) = some (N (val 4294967296 x - val 4294967296 y).toNat, true) := by
   refine ih (i + 1) _ _ (by omega) (by rw [List.length_set, hz]) (aAU hd _ (by omega) (by omega)) (by split <;> omega) ?_ k (by omega)
   rw [aCc _ _ _ _ (by omega), aAm _ x, aAm _ y, Int.pow_succ]
   have e : (4294967296 : Int) ^ i * ((rd x i - rd y i - c) % 4294967296) - 4294967296 ^ i * 4294967296 * (if rd x i < rd y i + c then 1 else 0) = 4294967296 ^ i * rd x i - 4294967296 ^ i * rd y i - 4294967296 ^ i * c := by
    rw [Int.mul_assoc, ← Int.mul_sub, ← Int.mul_sub, ← Int.mul_sub]
    congr 1
    split <;> omega
   omega
  rw [nat_Sub.l0, if_pos (by omega), w64 (i := (i : Int) + 1) (by omega) (by omega), show (i : Int) + 1 = ((i + 1 : Nat) : Int) by omega]
  by_cases hlt : i < y.length
  ·rw [if_pos (by omega), if_pos (by omega), if_pos (by omega), aJh h1 h2 hc, Option.bind_some]
   dsimp only
   rw [if_pos (by omega), Int.toNat_natCast]
   exact hstep
  ·have h0 := aDB (l := y) (i := i) (by omega)
   rw [h0] at hstep
   rw [if_neg (by omega), if_pos (by omega), if_pos (by omega), aJh h1 (by omega) hc, Option.bind_some]
   dsimp only
   rw [if_pos (by omega), Int.toNat_natCast]
   exact hstep
theorem aHR {x y : Nat} (h : y ≤ x) : (lb y).length ≤ (lb x).length := (aDk _ _).2 (Nat.lt_of_le_of_lt h ((aDk x _).1 (Nat.le_refl _)))
theorem aEU {x y : Nat} : aDO x y < 0 ↔ x < y := by
 unfold aDO
 split
 ·simp [*]
 ·split <;> simp <;> omega
def aDM (x y : Nat) : ByteArray × Bool := if x < y then ((⟨#[]⟩ : ByteArray), false) else (N (x - y), true)
theorem aRg (a b : ByteArray) (ha : a.size ≤ 268435456) (hb : b.size ≤ 268435456) (k : Nat) (hk : 20 * (a.size + b.size) + 40 ≤ k) : nat_Sub.f k a b = some (aDM (V a) (V b)) := by
 have la := aCv a
 unfold nat_Sub.f aDM
 rw [aLR a b (by omega) (by omega) k (by omega), Option.bind_some]
 by_cases h : V a < V b
 ·rw [if_pos (aEU.2 h), if_pos h]
 ·rw [if_neg (fun e => h (aEU.1 e)), if_neg h, aBT a (by omega) k (by omega), Option.bind_some, aBT b (by omega) k (by omega), Option.bind_some, if_pos (by omega), if_pos (by omega), Int.toNat_natCast]
  have h9 := sub0 (lb (V a)) (lb (V b)) (aBn _) (aBn _) (by rw [aBv, aBv]; omega) (aHR (by omega)) (by omega) (lb (V a)).length 0 (List.replicate (lb (V a)).length 0) 0 (by omega) List.length_replicate (aAN (by decide) _) (by omega) (by simp [val]) k (by omega)
  rw [aBv, aBv] at h9
  refine Eq.trans h9 ?_
  congr 3
  omega
end Go.Proofs.YtjefbecmeobegaaGreatDoor.NatD
