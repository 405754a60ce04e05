import Derived.Test.YtjefbecmeobegaaGreatDoorNatJ
import Derived.Test.YtjefbecmeobegaaGreatDoorPxNatGcd
namespace Go.Proofs.YtjefbecmeobegaaGreatDoor.NatQ
open Go Go.RowKit YtjefbecmeobegaaGreatDoorW.PrintWords P NatA NatB NatC NatD NatE NatI NatJ
theorem aKa (x y : Nat) : Nat.gcd y (x % y) = Nat.gcd x y := by rw [Nat.gcd_comm y (x % y), ← Nat.gcd_rec, Nat.gcd_comm]
theorem gcd1 (y : Nat) : ∀ x : Nat, x < 18446744073709551616 → y < 18446744073709551616 → Ev (fun k => nat_Gcd.l1 k x y) (N (Nat.gcd x y)) := by
 induction y using Nat.strongRecOn with
 | _ y ih =>
  intro x hx hy
  refine Ev.step (fun k => by rw [nat_Gcd.l1]) ?_
  by_cases h : y = 0
  ·subst h
   rw [Nat.gcd_zero_right]
   refine Ev.congr (fun k => if_pos (by omega)) ?_
   exact Ev.bind (aKZ x hx) (Ev.now _)
  ·refine Ev.congr (fun k => by rw [if_neg (by omega), aDQ (by omega), ← Int.natCast_emod]) ?_
   rw [← aKa]
   exact ih (x % y) (Nat.mod_lt _ (by omega)) y hy (Nat.lt_trans (Nat.mod_lt _ (by omega)) hy)
theorem gcd0 (n : Nat) : ∀ (a b : ByteArray), V b = n → a.size ≤ 67108864 → b.size ≤ 67108864 → Ev (fun k => nat_Gcd.l0 k a b) (N (Nat.gcd (V a) (V b))) := by
 induction n using Nat.strongRecOn with
 | _ n ih =>
  intro a b hn ha hb
  refine Ev.step (fun k => by rw [nat_Gcd.l0]) ?_
  refine Ev.bind (aDL b hb) ?_
  by_cases h : V b = 0
  ·refine Ev.congr (fun k => if_pos (aFA.2 h)) ?_
   rw [h, Nat.gcd_zero_right]
   exact Ev.bind (aDL a ha) (Ev.now _)
  ·refine Ev.congr (fun k => if_neg (fun e => h (aFA.1 e))) ?_
   refine Ev.bind (aKb a ha) ?_
   refine Ev.bind (aKb b hb) ?_
   have big : ∀ p q, Ev (fun k => nat_Gcd.j1 k a b p q false) (N (Nat.gcd (V a) (V b))) := fun p q => by
    refine Ev.step (fun k => by rw [nat_Gcd.j1, if_neg (by decide)]) ?_
    refine Ev.bind (aMU a b ha hb) ?_
    have hlt : V a % V b < V b := Nat.mod_lt _ (by omega)
    have := ih (V a % V b) (by omega) b (N (V a % V b)) (V_N _) hb (by have := aKi (n := V a % V b) (a := b) (by omega); omega)
    rw [V_N, aKa] at this
    unfold aC2
    rw [if_neg h]
    exact this
   unfold aFC
   by_cases hx : V a < 18446744073709551616
   ·rw [if_pos hx]
    by_cases hy : V b < 18446744073709551616
    ·rw [if_pos hy]
     refine Ev.congr (fun k => if_pos rfl) ?_
     refine Ev.step (fun k => by rw [nat_Gcd.j1, if_pos rfl]) ?_
     exact gcd1 (V b) (V a) hx hy
    ·rw [if_neg hy]
     exact Ev.congr (fun k => if_pos rfl) (big _ _)
   ·rw [if_neg hx]
    exact Ev.congr (fun k => if_neg (by decide)) (big _ _)
theorem aQp (a b : ByteArray) (ha : a.size ≤ 67108864) (hb : b.size ≤ 67108864) : Ev (fun k => nat_Gcd.f k a b) (N (Nat.gcd (V a) (V b))) := gcd0 _ a b rfl ha hb
end Go.Proofs.YtjefbecmeobegaaGreatDoor.NatQ
