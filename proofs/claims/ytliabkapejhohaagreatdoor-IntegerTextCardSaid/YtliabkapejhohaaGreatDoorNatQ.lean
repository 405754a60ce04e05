import Derived.Test.YtliabkapejhohaaGreatDoorNatJ
import Derived.Test.YtliabkapejhohaaGreatDoorPxNatGcd
namespace Go.Proofs.YtliabkapejhohaaGreatDoor.NatQ
open Go Go.RowKit Go.Proofs.YtliabkapejhohaaGreatDoorW.PrintWords Go.Proofs.YtliabkapejhohaaGreatDoor.P Go.Proofs.YtliabkapejhohaaGreatDoor.NatA Go.Proofs.YtliabkapejhohaaGreatDoor.NatB Go.Proofs.YtliabkapejhohaaGreatDoor.NatC Go.Proofs.YtliabkapejhohaaGreatDoor.NatD Go.Proofs.YtliabkapejhohaaGreatDoor.NatE Go.Proofs.YtliabkapejhohaaGreatDoor.NatI Go.Proofs.YtliabkapejhohaaGreatDoor.NatJ
theorem gcd_step (x y : Nat) : Nat.gcd y (x % y) = Nat.gcd x y := by rw [Nat.gcd_comm y (x % y), ← Nat.gcd_rec, Nat.gcd_comm]
theorem gcd1 (y : Nat) : ∀ x : Nat, x < 18446744073709551616 → y < 18446744073709551616 → Ev (fun k => nat_Gcd.l1 k x y) (N (Nat.gcd x y)) := by
  induction y using Nat.strongRecOn with
  | _ y ih =>
    intro x hx hy
    refine Ev.step (fun k => by rw [nat_Gcd.l1]) ?_
    by_cases h : y = 0
    · subst h
      rw [Nat.gcd_zero_right]
      refine Ev.congr (fun k => if_pos (by omega)) ?_
      exact Ev.bind (ev_from x hx) (Ev.now _)
    · refine Ev.congr (fun k => by rw [if_neg (by omega), tmod_nat (by omega), ← Int.natCast_emod]) ?_
      rw [← gcd_step]
      exact ih (x % y) (Nat.mod_lt _ (by omega)) y hy (Nat.lt_trans (Nat.mod_lt _ (by omega)) hy)
theorem gcd0 (n : Nat) : ∀ (a b : ByteArray), V b = n → a.size ≤ 67108864 → b.size ≤ 67108864 → Ev (fun k => nat_Gcd.l0 k a b) (N (Nat.gcd (V a) (V b))) := by
  induction n using Nat.strongRecOn with
  | _ n ih =>
    intro a b hn ha hb
    refine Ev.step (fun k => by rw [nat_Gcd.l0]) ?_
    refine Ev.bind (ev_normalize b hb) ?_
    by_cases h : V b = 0
    · refine Ev.congr (fun k => if_pos (N_toList_nil.2 h)) ?_
      rw [h, Nat.gcd_zero_right]
      exact Ev.bind (ev_normalize a ha) (Ev.now _)
    · refine Ev.congr (fun k => if_neg (fun e => h (N_toList_nil.1 e))) ?_
      refine Ev.bind (ev_u64 a ha) ?_
      refine Ev.bind (ev_u64 b hb) ?_
      have big : ∀ p q, Ev (fun k => nat_Gcd.j1 k a b p q false) (N (Nat.gcd (V a) (V b))) := fun p q => by
        refine Ev.step (fun k => by rw [nat_Gcd.j1, if_neg (by decide)]) ?_
        refine Ev.bind (ev_div a b ha hb) ?_
        have hlt : V a % V b < V b := Nat.mod_lt _ (by omega)
        have := ih (V a % V b) (by omega) b (N (V a % V b)) (V_N _) hb (by have := N_size_V (n := V a % V b) (a := b) (by omega); omega)
        rw [V_N, gcd_step] at this
        unfold divR
        rw [if_neg h]
        exact this
      unfold u64R
      by_cases hx : V a < 18446744073709551616
      · rw [if_pos hx]
        by_cases hy : V b < 18446744073709551616
        · rw [if_pos hy]
          refine Ev.congr (fun k => if_pos rfl) ?_
          refine Ev.step (fun k => by rw [nat_Gcd.j1, if_pos rfl]) ?_
          exact gcd1 (V b) (V a) hx hy
        · rw [if_neg hy]
          exact Ev.congr (fun k => if_pos rfl) (big _ _)
      · rw [if_neg hx]
        exact Ev.congr (fun k => if_neg (by decide)) (big _ _)
theorem ev_gcd (a b : ByteArray) (ha : a.size ≤ 67108864) (hb : b.size ≤ 67108864) : Ev (fun k => nat_Gcd.f k a b) (N (Nat.gcd (V a) (V b))) := gcd0 _ a b rfl ha hb
end Go.Proofs.YtliabkapejhohaaGreatDoor.NatQ
