/- Signed integers: Gcd of a list. -/
import Derived.Test.YtpokflilobkoaaaDoorIntA
import Derived.Test.YtpokflilobkoaaaDoorNatQ
import Derived.Test.YtpokflilobkoaaaDoorPxIntegerGcd
namespace Go.Proofs.YtpokflilobkoaaaDoor.IntGcd
open Go Go.RowKit Go.Proofs.YtpokflilobkoaaaDoorW.PrintWords Go.Proofs.YtpokflilobkoaaaDoorW.PrintLast Go.Proofs.YtpokflilobkoaaaDoor.P Go.Proofs.YtpokflilobkoaaaDoor.NatA Go.Proofs.YtpokflilobkoaaaDoor.NatB Go.Proofs.YtpokflilobkoaaaDoor.NatC Go.Proofs.YtpokflilobkoaaaDoor.NatD Go.Proofs.YtpokflilobkoaaaDoor.NatI Go.Proofs.YtpokflilobkoaaaDoor.NatJ Go.Proofs.YtpokflilobkoaaaDoor.NatQ Go.Proofs.YtpokflilobkoaaaDoor.IntA

theorem rdT (l : List S36) (i : Nat) : rd_T36 l (i : Int) = l.getD i z36 := by unfold rd_T36; rw [Int.toNat_natCast]
theorem rdT_mid (p : List S36) (s : S36) (r : List S36) : rd_T36 (p ++ s :: r) (p.length : Int) = s := by
  rw [rdT, List.getD_eq_getElem?_getD, List.getElem?_append_right (Nat.le_refl _), Nat.sub_self]
  rfl
/-- The greatest common divisor of what came before and of a list's magnitudes. -/
def gl (x : Nat) (l : List S36) : Nat := l.foldl (fun g s => Nat.gcd g (V s.f1)) x
theorem gl_nil (x : Nat) : gl x [] = x := rfl
theorem gl_cons (x : Nat) (s : S36) (l : List S36) : gl x (s :: l) = gl (Nat.gcd x (V s.f1)) l := rfl
theorem gcd_size {x : Nat} {m : ByteArray} {s : Nat} (hx : (N x).size ≤ s) (hm : m.size ≤ s) : (N (Nat.gcd x (V m))).size ≤ s := by
  by_cases h : x = 0
  · rw [h, Nat.gcd_zero_left]
    exact N_small hm
  · exact (N_size _ _).2 (Nat.lt_of_le_of_lt (Nat.le_of_dvd (by omega) (Nat.gcd_dvd_left _ _)) ((N_size _ _).1 hx))
theorem igcd0 (r : List S36) : ∀ (p : List S36) (x : Nat), (p ++ r).length ≤ 1000000 → (∀ s ∈ r, s.f1.size ≤ 67108864) → (N x).size ≤ 67108864 →
    Ev (fun k => integer_Gcd.l0 k (N x) (p ++ r) ((p ++ r).length : Int) (p.length : Int)) (I ((gl x r : Nat) : Int)) := by
  induction r with
  | nil =>
    intro p x _ _ _
    refine Ev.step (fun k => by rw [integer_Gcd.l0, if_neg (by rw [List.append_nil]; omega), iof, Option.bind_some]) ?_
    exact Ev.now _
  | cons s r ih =>
    intro p x hl hs hx
    have hs1 := hs s (List.mem_cons_self ..)
    have hlen : (p ++ s :: r).length = p.length + r.length + 1 := by rw [List.length_append, List.length_cons]; omega
    have e : p ++ s :: r = (p ++ [s]) ++ r := by rw [List.append_assoc]; rfl
    refine Ev.step (fun k => by rw [integer_Gcd.l0, if_pos (by omega), if_pos (by omega), if_pos (by omega), rdT_mid, w64 (by omega) (by omega)]) ?_
    have g := ev_gcd (N x) s.f1 hx hs1
    rw [V_N] at g
    refine Ev.bind g ?_
    have := ih (p ++ [s]) (Nat.gcd x (V s.f1)) (by rw [← e]; exact hl) (fun t ht => hs t (List.mem_cons_of_mem _ ht)) (gcd_size hx hs1)
    rw [← e, show (((p ++ [s]).length : Nat) : Int) = (p.length : Int) + 1 by rw [List.length_append, List.length_singleton]; omega] at this
    rw [gl_cons]
    exact this
theorem ev_igcd (l : List S36) (hl : l.length ≤ 1000000) (hs : ∀ s ∈ l, s.f1.size ≤ 67108864) : Ev (fun k => integer_Gcd.f k l) (I ((gl 0 l : Nat) : Int)) := by
  have := igcd0 l [] 0 hl hs (by rw [N_zero]; decide)
  rw [N_zero] at this
  exact this
end Go.Proofs.YtpokflilobkoaaaDoor.IntGcd
