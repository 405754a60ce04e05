/- What the laws of package nat share: the look at the sizes; sizes of results. -/
import Derived.Test.YtpokflilobkoaaaDoorNatL
import Derived.Test.YtpokflilobkoaaaDoorPx10
namespace Go.Proofs.YtpokflilobkoaaaDoor.NatM
open Go Go.RowKit Go.Proofs.YtpokflilobkoaaaDoorW.PrintWords Go.Proofs.YtpokflilobkoaaaDoorW.PrintLast Go.Proofs.YtpokflilobkoaaaDoor.P Go.Proofs.YtpokflilobkoaaaDoor.NatA Go.Proofs.YtpokflilobkoaaaDoor.NatB Go.Proofs.YtpokflilobkoaaaDoor.NatC Go.Proofs.YtpokflilobkoaaaDoor.NatI Go.Proofs.YtpokflilobkoaaaDoor.NatJ Go.Proofs.YtpokflilobkoaaaDoor.NatK Go.Proofs.YtpokflilobkoaaaDoor.NatL

theorem rdOf_nat (l : List ByteArray) (i : Nat) : rdOf ByteArray.empty l (i : Int) = l.getD i ByteArray.empty := by unfold rdOf; rw [Int.toNat_natCast]
theorem wide0 (l : List ByteArray) (hl : l.length ≤ 100) (r : Nat) : ∀ i, i + r = l.length → ∃ b, Ev (fun k => voussoirlaw01_wide.l0 k l (l.length : Int) i) b ∧ (b = false → ∀ j, i ≤ j → j < l.length → (l.getD j ByteArray.empty).size ≤ 40) := by
  induction r with
  | zero =>
    intro i hi
    refine ⟨false, Ev.step (fun k => by rw [voussoirlaw01_wide.l0, if_neg (by omega)]) (Ev.now _), fun _ j h1 h2 => by omega⟩
  | succ r ih =>
    intro i hi
    obtain ⟨b, h1, h2⟩ := ih (i + 1) (by omega)
    by_cases h : (l.getD i ByteArray.empty).size > 40
    · exact ⟨true, Ev.step (fun k => by rw [voussoirlaw01_wide.l0, if_pos (by omega), if_pos (by omega), if_pos (by omega), rdOf_nat, if_pos (by omega)]) (Ev.now _), fun e => by cases e⟩
    · refine ⟨b, Ev.step (fun k => by rw [voussoirlaw01_wide.l0, if_pos (by omega), if_pos (by omega), if_pos (by omega), rdOf_nat, if_neg (by omega), w64 (by omega) (by omega), show (i : Int) + 1 = ((i + 1 : Nat) : Int) by omega]) h1, fun e j h3 h4 => ?_⟩
      by_cases hj : j = i
      · subst hj
        omega
      · exact h2 e j (by omega) h4
theorem wide (l : List ByteArray) (hl : l.length ≤ 100) : ∃ b, Ev (fun k => voussoirlaw01_wide.f k l) b ∧ (b = false → ∀ j, j < l.length → (l.getD j ByteArray.empty).size ≤ 40) := by
  obtain ⟨b, h1, h2⟩ := wide0 l hl l.length 0 (by omega)
  exact ⟨b, h1, fun e j hj => h2 e j (by omega) hj⟩
theorem size_div (a : ByteArray) (x : Nat) {s : Nat} (ha : a.size ≤ s) : (N (V a / x)).size ≤ s := Nat.le_trans (N_size_V (Nat.div_le_self _ _)) ha
theorem size_mod (a : ByteArray) (x : Nat) {s : Nat} (ha : a.size ≤ s) : (N (V a % x)).size ≤ s := Nat.le_trans (N_size_V (Nat.mod_le _ _)) ha
theorem size_mul (a b : ByteArray) {s : Nat} (ha : a.size + b.size ≤ s) : (N (V a * V b)).size ≤ s := Nat.le_trans (N_size_mul a b) ha
theorem size_gcd (a : ByteArray) (x : Nat) {s : Nat} (ha : a.size ≤ s) (h : V a ≠ 0) : (N (Nat.gcd (V a) x)).size ≤ s := Nat.le_trans (N_size_V (Nat.le_of_dvd (by omega) (Nat.gcd_dvd_left _ _))) ha
theorem N_one : (⟨#[1]⟩ : ByteArray) = N 1 := (N_V (a := ⟨#[1]⟩) (.inr (by decide))).symm
theorem one_list : ([1] : List UInt8) = (N 1).toList := by rw [← N_one, Lib.toList_data]
theorem nil_list : ([] : List UInt8) = (N 0).toList := (N_toList_nil.2 rfl).symm
theorem beq_list (a : ByteArray) : (a.toList == a.toList) = true := beq_self_eq_true _
end Go.Proofs.YtpokflilobkoaaaDoor.NatM
