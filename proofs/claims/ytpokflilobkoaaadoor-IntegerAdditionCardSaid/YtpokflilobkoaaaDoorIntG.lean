/- The laws' look at the sizes. -/
import Derived.Test.YtpokflilobkoaaaDoorIntA
import Derived.Test.YtpokflilobkoaaaDoorPxVoussoirlaw02Great
namespace Go.Proofs.YtpokflilobkoaaaDoor.IntG
open Go Go.RowKit Go.Proofs.YtpokflilobkoaaaDoorW.PrintWords Go.Proofs.YtpokflilobkoaaaDoorW.PrintLast Go.Proofs.YtpokflilobkoaaaDoor.P Go.Proofs.YtpokflilobkoaaaDoor.NatA Go.Proofs.YtpokflilobkoaaaDoor.NatB Go.Proofs.YtpokflilobkoaaaDoor.NatC Go.Proofs.YtpokflilobkoaaaDoor.NatD Go.Proofs.YtpokflilobkoaaaDoor.NatI Go.Proofs.YtpokflilobkoaaaDoor.NatJ Go.Proofs.YtpokflilobkoaaaDoor.IntA

theorem rdT (l : List S36) (i : Nat) : rd_T36 l (i : Int) = l.getD i z36 := by unfold rd_T36; rw [Int.toNat_natCast]
theorem great0 (l : List S36) (hl : l.length ≤ 100) (r : Nat) : ∀ i, i + r = l.length → ∃ b : Int, (b = 0 ∨ b = 1) ∧ Ev (fun k => voussoirlaw02_Great.l0 k l (l.length : Int) i) b ∧ (b = 0 → ∀ j, i ≤ j → j < l.length → ((l.getD j z36).f1).size ≤ 40) := by
  induction r with
  | zero =>
    intro i hi
    refine ⟨0, .inl rfl, Ev.step (fun k => by rw [voussoirlaw02_Great.l0, if_neg (by omega)]) (Ev.now _), fun _ j h1 h2 => by omega⟩
  | succ r ih =>
    intro i hi
    obtain ⟨b, h0, h1, h2⟩ := ih (i + 1) (by omega)
    by_cases h : ((l.getD i z36).f1).size > 40
    · exact ⟨1, .inr rfl, Ev.step (fun k => by rw [voussoirlaw02_Great.l0, if_pos (by omega), if_pos (by omega), if_pos (by omega), rdT, if_pos (by omega)]) (Ev.now _), fun e => by cases e⟩
    · refine ⟨b, h0, Ev.step (fun k => by rw [voussoirlaw02_Great.l0, if_pos (by omega), if_pos (by omega), if_pos (by omega), rdT, if_neg (by omega), w64 (by omega) (by omega), show (i : Int) + 1 = ((i + 1 : Nat) : Int) by omega]) h1, fun e j h3 h4 => ?_⟩
      by_cases hj : j = i
      · subst hj
        omega
      · exact h2 e j (by omega) h4
theorem great (l : List S36) (hl : l.length ≤ 100) : ∃ b : Int, (b = 0 ∨ b = 1) ∧ Ev (fun k => voussoirlaw02_Great.f k l) b ∧ (b = 0 → ∀ j, j < l.length → ((l.getD j z36).f1).size ≤ 40) := by
  obtain ⟨b, h0, h1, h2⟩ := great0 l hl l.length 0 (by omega)
  exact ⟨b, h0, h1, fun e j hj => h2 e j (by omega) hj⟩
end Go.Proofs.YtpokflilobkoaaaDoor.IntG
