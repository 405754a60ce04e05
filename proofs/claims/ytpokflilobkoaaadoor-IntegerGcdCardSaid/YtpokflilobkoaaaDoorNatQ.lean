/- What Gcd comes to; the chapter's examples. -/
import Derived.Test.YtpokflilobkoaaaDoorNatJ
import Derived.Test.YtpokflilobkoaaaDoorPxVoussoirlaw01NatAlive
import Derived.Test.YtpokflilobkoaaaDoorPxNatGcd
namespace Go.Proofs.YtpokflilobkoaaaDoor.NatQ
open Go Go.RowKit Go.Proofs.YtpokflilobkoaaaDoorW.PrintWords Go.Proofs.YtpokflilobkoaaaDoor.P Go.Proofs.YtpokflilobkoaaaDoor.NatA Go.Proofs.YtpokflilobkoaaaDoor.NatB Go.Proofs.YtpokflilobkoaaaDoor.NatC Go.Proofs.YtpokflilobkoaaaDoor.NatD Go.Proofs.YtpokflilobkoaaaDoor.NatE Go.Proofs.YtpokflilobkoaaaDoor.NatI Go.Proofs.YtpokflilobkoaaaDoor.NatJ

/-! ### Gcd -/
theorem gcd_step (x y : Nat) : Nat.gcd y (x % y) = Nat.gcd x y := by rw [Nat.gcd_comm y (x % y), ← Nat.gcd_rec, Nat.gcd_comm]
theorem gcd1 (y : Nat) : ∀ x : Nat, x < 18446744073709551616 → y < 18446744073709551616 → Ev (fun k => nat_Gcd.l1 k x y) (N (Nat.gcd x y)) := by
  induction y using Nat.strongRecOn with
  | _ y ih =>
    intro x hx hy
    refine Ev.step (fun k => by rw [nat_Gcd.l1]) ?_
    by_cases h : y = 0
    · subst h
      rw [Nat.gcd_zero_right]
      refine Ev.congr (fun k => if_pos (by omega)) ?_
      exact Ev.bind (ev_from x hx) (Ev.now _)
    · refine Ev.congr (fun k => by rw [if_neg (by omega), tmod_nat (by omega), ← Int.natCast_emod]) ?_
      rw [← gcd_step]
      exact ih (x % y) (Nat.mod_lt _ (by omega)) y hy (Nat.lt_trans (Nat.mod_lt _ (by omega)) hy)
theorem gcd0 (n : Nat) : ∀ (a b : ByteArray), V b = n → a.size ≤ 67108864 → b.size ≤ 67108864 → Ev (fun k => nat_Gcd.l0 k a b) (N (Nat.gcd (V a) (V b))) := by
  induction n using Nat.strongRecOn with
  | _ n ih =>
    intro a b hn ha hb
    refine Ev.step (fun k => by rw [nat_Gcd.l0]) ?_
    refine Ev.bind (ev_normalize b hb) ?_
    by_cases h : V b = 0
    · refine Ev.congr (fun k => if_pos (N_toList_nil.2 h)) ?_
      rw [h, Nat.gcd_zero_right]
      exact Ev.bind (ev_normalize a ha) (Ev.now _)
    · refine Ev.congr (fun k => if_neg (fun e => h (N_toList_nil.1 e))) ?_
      refine Ev.bind (ev_u64 a ha) ?_
      refine Ev.bind (ev_u64 b hb) ?_
      have big : ∀ p q, Ev (fun k => nat_Gcd.j1 k a b p q false) (N (Nat.gcd (V a) (V b))) := fun p q => by
        refine Ev.step (fun k => by rw [nat_Gcd.j1, if_neg (by decide)]) ?_
        refine Ev.bind (ev_div a b ha hb) ?_
        have hlt : V a % V b < V b := Nat.mod_lt _ (by omega)
        have := ih (V a % V b) (by omega) b (N (V a % V b)) (V_N _) hb (by have := N_size_V (n := V a % V b) (a := b) (by omega); omega)
        rw [V_N, gcd_step] at this
        unfold divR
        rw [if_neg h]
        exact this
      unfold u64R
      by_cases hx : V a < 18446744073709551616
      · rw [if_pos hx]
        by_cases hy : V b < 18446744073709551616
        · rw [if_pos hy]
          refine Ev.congr (fun k => if_pos rfl) ?_
          refine Ev.step (fun k => by rw [nat_Gcd.j1, if_pos rfl]) ?_
          exact gcd1 (V b) (V a) hx hy
        · rw [if_neg hy]
          exact Ev.congr (fun k => if_pos rfl) (big _ _)
      · rw [if_neg hx]
        exact Ev.congr (fun k => if_neg (by decide)) (big _ _)
theorem ev_gcd (a b : ByteArray) (ha : a.size ≤ 67108864) (hb : b.size ≤ 67108864) : Ev (fun k => nat_Gcd.f k a b) (N (Nat.gcd (V a) (V b))) := gcd0 _ a b rfl ha hb
/-! ### the examples -/
theorem ev_alive : Ev (fun k => voussoirlaw01_natAlive.f k) true := by
  have e142 : N 142 = (⟨#[142]⟩ : ByteArray) := N_V (a := ⟨#[142]⟩) (.inr (by decide))
  have e6 : N 6 = (⟨#[6]⟩ : ByteArray) := N_V (a := ⟨#[6]⟩) (.inr (by decide))
  have e256 : N 256 = (⟨#[0, 1]⟩ : ByteArray) := N_V (a := ⟨#[0, 1]⟩) (.inr (by decide))
  have f1 := ev_from 1000 (by decide)
  have f2 := ev_from 7 (by decide)
  have f3 := ev_div (N 1000) (N 7) (Nat.le_trans ((N_size 1000 2).2 (by decide)) (by decide)) (Nat.le_trans ((N_size 7 1).2 (by decide)) (by decide))
  have f4 := ev_add (⟨#[255]⟩ : ByteArray) (⟨#[1]⟩ : ByteArray) (by decide) (by decide)
  have f5 := ev_gcd (⟨#[12]⟩ : ByteArray) (⟨#[18]⟩ : ByteArray) (by decide) (by decide)
  have f6 := ev_format (⟨#[0, 1]⟩ : ByteArray) (by decide)
  rw [V_N, V_N, show divR 1000 7 = (N 142, N 6, true) from rfl, e142, e6] at f3
  rw [show V (⟨#[255]⟩ : ByteArray) + V (⟨#[1]⟩ : ByteArray) = 256 from rfl, e256] at f4
  rw [show Nat.gcd (V (⟨#[12]⟩ : ByteArray)) (V (⟨#[18]⟩ : ByteArray)) = 6 from by decide, e6] at f5
  have t256 : text 256 = (⟨#[50, 53, 54]⟩ : ByteArray) := by
    unfold text
    rw [Lib.decDigits, dif_neg (by decide), Lib.decDigits_two (by decide) (by decide)]
    rfl
  rw [show V (⟨#[0, 1]⟩ : ByteArray) = 256 from rfl, t256] at f6
  unfold voussoirlaw01_natAlive.f
  refine Ev.bind f1 (Ev.bind f2 (Ev.bind f3 (Ev.bind f4 ?_)))
  refine Ev.congr (fun k => by rw [if_pos (Lib.toList_data _), if_pos rfl, if_pos (Lib.toList_data _), if_pos (Lib.toList_data _)]) ?_
  refine Ev.bind f5 ?_
  refine Ev.congr (fun k => by rw [if_pos (Lib.toList_data _)]) ?_
  refine Ev.bind f6 ?_
  rw [Lib.toList_data]
  exact Ev.now _
end Go.Proofs.YtpokflilobkoaaaDoor.NatQ
