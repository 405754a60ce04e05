import Derived.Test.YtjefbecmeobegaaGreatDoorSpB
namespace Go.Proofs.YtjefbecmeobegaaGreatDoor.Sp
open Go Go.RowKit Go.Proofs.YtjefbecmeobegaaGreatDoor.Sx Go.Proofs.YtjefbecmeobegaaGreatDoor.NatA Go.Proofs.YtjefbecmeobegaaGreatDoor.NatB Go.Proofs.YtjefbecmeobegaaGreatDoor.NatC Go.Proofs.YtjefbecmeobegaaGreatDoor.NatD Go.Proofs.YtjefbecmeobegaaGreatDoor.NatI Go.Proofs.YtjefbecmeobegaaGreatDoor.NatJ Go.Proofs.YtjefbecmeobegaaGreatDoor.IntZ Go.Proofs.YtjefbecmeobegaaGreatDoor.RatZ Go.Proofs.YtjefbecmeobegaaGreatDoor.PtZ
theorem aIx (u : Nat) : ∀ c ∈ Lib.decDigits u, 48 ≤ c.toNat ∧ c.toNat ≤ 57 := by
 induction u using Nat.strongRecOn with
 | _ u ih =>
  have one : ∀ i, i < 10 → 48 ≤ (UInt8.ofNat (48 + i)).toNat ∧ (UInt8.ofNat (48 + i)).toNat ≤ 57 := fun i h => by
   rw [UInt8.toNat_ofNat']
   omega
  intro c hc
  rw [Lib.decDigits] at hc
  split at hc
  ·rw [List.mem_singleton] at hc
   rw [hc]
   exact one u ‹_›
  ·rcases List.mem_append.1 hc with hc | hc
   ·exact ih (u / 10) (by omega) c hc
   ·rw [List.mem_singleton] at hc
    rw [hc]
    exact one _ (by omega)
def aOJ (l : List UInt8) : Nat := l.foldl (fun n c => 10 * n + (c.toNat - 48)) 0
theorem aIU (u : Nat) : aOJ (Lib.decDigits u) = u := by
 induction u using Nat.strongRecOn with
 | _ u ih =>
  have one : ∀ i, i < 10 → (UInt8.ofNat (48 + i)).toNat - 48 = i := fun i h => by
   rw [UInt8.toNat_ofNat']
   omega
  rw [Lib.decDigits]
  split
  ·unfold aOJ
   rw [List.foldl_cons, List.foldl_nil, one u ‹_›]
   omega
  ·have := ih (u / 10) (by omega)
   unfold aOJ at this ⊢
   rw [List.foldl_append, this, List.foldl_cons, List.foldl_nil, one _ (by omega)]
   omega
theorem aKF {u v : Nat} (h : Lib.decDigits u = Lib.decDigits v) : u = v := by rw [← aIU u, h, aIU]
abbrev lst (a : ByteArray) : List UInt8 := a.data.toList
theorem aDI {a b : ByteArray} (h : lst a = lst b) : a = b := by
 apply ByteArray.ext
 exact Array.ext' h
theorem aEL (a b : ByteArray) : lst (a ++ b) = lst a ++ lst b := by
 unfold lst
 rw [ByteArray.data_append, Array.toList_append]
theorem aGf (z : Int) : lst (aAR z) = if z < 0 then 45 :: Lib.decDigits z.natAbs else Lib.decDigits z.natAbs := by
 unfold aAR text
 split
 ·rw [aEL]
  rfl
 ·rfl
theorem aCt (z : Int) : ∀ c ∈ lst (aAR z), c ≠ 47 ∧ c ≠ 44 := by
 have dig : ∀ c : UInt8, 48 ≤ c.toNat → c ≠ 47 ∧ c ≠ 44 := fun c h => ⟨fun e => by rw [e] at h; exact absurd h (by decide), fun e => by rw [e] at h; exact absurd h (by decide)⟩
 intro c hc
 rw [aGf] at hc
 split at hc
 ·rcases List.mem_cons.1 hc with rfl | hc
  ·decide
  ·exact dig c (aIx _ c hc).1
 ·exact dig c (aIx _ c hc).1
theorem aL6 (u : Nat) (l : List UInt8) : Lib.decDigits u ≠ 45 :: l := fun h => by
 have := (aIx u 45 (by rw [h]; exact List.mem_cons_self ..)).1
 exact absurd this (by decide)
theorem aGg {x y : Int} (h : aAR x = aAR y) : x = y := by
 have h := congrArg lst h
 rw [aGf, aGf] at h
 split at h <;> split at h
 ·have := aKF (List.cons.inj h).2
  omega
 ·exact absurd h.symm (aL6 _ _)
 ·exact absurd h (aL6 _ _)
 ·have := aKF h
  omega
theorem aFu {s : UInt8} : ∀ {a a' b b' : List UInt8}, (∀ c ∈ a, c ≠ s) → (∀ c ∈ a', c ≠ s) → a ++ s :: b = a' ++ s :: b' → a = a' ∧ b = b'
 | [], [], _, _, _, _, h => ⟨rfl, (List.cons.inj h).2⟩
 | [], c :: _, _, _, _, h2, h => absurd (List.cons.inj h).1.symm (h2 c (List.mem_cons_self ..))
 | c :: _, [], _, _, h1, _, h => absurd (List.cons.inj h).1 (h1 c (List.mem_cons_self ..))
 | c :: a, c' :: a', _, _, h1, h2, h => by
  obtain ⟨e1, e2⟩ := List.cons.inj h
  obtain ⟨e3, e4⟩ := aFu (fun c hc => h1 c (List.mem_cons_of_mem _ hc)) (fun c hc => h2 c (List.mem_cons_of_mem _ hc)) e2
  exact ⟨by rw [e1, e3], e4⟩
theorem aGh (q : Rat) : lst (aAv q) = if q.den = 1 then lst (aAR q.num) else lst (aAR q.num) ++ 47 :: lst (aAR (q.den : Int)) := by
 unfold aAv
 split
 ·rfl
 ·rw [aEL, aEL, List.append_assoc]
  rfl
theorem aFv (q : Rat) : ∀ c ∈ lst (aAv q), c ≠ 44 := by
 intro c hc
 rw [aGh] at hc
 split at hc
 ·exact (aCt _ c hc).2
 ·rcases List.mem_append.1 hc with hc | hc
  ·exact (aCt _ c hc).2
  ·rcases List.mem_cons.1 hc with rfl | hc
   ·decide
   ·exact (aCt _ c hc).2
theorem aGi {x y : Rat} (h : aAv x = aAv y) : x = y := by
 have h := congrArg lst h
 rw [aGh, aGh] at h
 split at h <;> split at h
 ·exact Rat.ext (aGg (aDI h)) (by omega)
 ·exact absurd rfl ((aCt x.num 47 (by rw [h]; exact List.mem_append.2 (.inr (List.mem_cons_self ..)))).1)
 ·exact absurd rfl ((aCt y.num 47 (by rw [← h]; exact List.mem_append.2 (.inr (List.mem_cons_self ..)))).1)
 ·obtain ⟨h1, h2⟩ := aFu (fun c hc => (aCt _ c hc).1) (fun c hc => (aCt _ c hc).1) h
  have := aGg (aDI h2)
  exact Rat.ext (aGg (aDI h1)) (by omega)
theorem aIV (v : V3) : lst (aAY v) = 40 :: (lst (aAv v.1) ++ 44 :: 32 :: (lst (aAv v.2.1) ++ 44 :: 32 :: (lst (aAv v.2.2) ++ [41]))) := by
 unfold aAY aBO
 rw [aEL, aEL]
 have e : lst (⟨(Lib.join ([aAv v.1, aAv v.2.1, aAv v.2.2].map (·.data.toList)) (⟨#[44, 32]⟩ : ByteArray).data.toList).toArray⟩ : ByteArray) = Lib.join [lst (aAv v.1), lst (aAv v.2.1), lst (aAv v.2.2)] [44, 32] := rfl
 rw [e, Lib.join_cons]
 have t : Lib.joinTail [44, 32] [lst (aAv v.2.1), lst (aAv v.2.2)] = 44 :: 32 :: (lst (aAv v.2.1) ++ 44 :: 32 :: (lst (aAv v.2.2) ++ [])) := by
  show (([44, 32] ++ lst (aAv v.2.1)) ++ (([44, 32] ++ lst (aAv v.2.2)) ++ [])) = _
  simp
 rw [t, List.append_nil]
 show [40] ++ (lst (aAv v.1) ++ _) ++ [41] = _
 simp
theorem aNF {u v : V3} : aAY u = aAY v ↔ u = v := by
 constructor
 ·intro h
  have h := congrArg lst h
  rw [aIV, aIV] at h
  obtain ⟨h1, h2⟩ := aFu (aFv _) (aFv _) (List.cons.inj h).2
  obtain ⟨h3, h4⟩ := aFu (aFv _) (aFv _) (List.cons.inj h2).2
  have h5 := List.append_cancel_right (List.cons.inj h4).2
  exact Prod.ext (aGi (aDI h1)) (Prod.ext (aGi (aDI h3)) (aGi (aDI h5)))
 ·intro h
  rw [h]
theorem aOK (u v : V3) : decide (aAY u = aAY v) = decide (u = v) := by
 rw [Bool.eq_iff_iff, decide_eq_true_iff, decide_eq_true_iff]
 exact aNF
end Go.Proofs.YtjefbecmeobegaaGreatDoor.Sp
