/- For every input of two strings and a number the Go function NatStrings answers true: Format, Parse, FromUint64 and Uint64 agree with the reference implementation, and Parse undoes Format. -/
import Derived.Test.YtpokflilobkoaaaDoorNatO
import Derived.Test.YtpokflilobkoaaaDoorPx30LNatStrings
namespace Go.Proofs.YtpokflilobkoaaaDoor.Pure
open Go.RowKit Go.Proofs.YtpokflilobkoaaaDoor.P Go.Proofs.YtpokflilobkoaaaDoorW.PrintWords Go.Proofs.YtpokflilobkoaaaDoorW.PrintLast Go.Proofs.YtpokflilobkoaaaDoor.NatA Go.Proofs.YtpokflilobkoaaaDoor.NatC Go.Proofs.YtpokflilobkoaaaDoor.NatD Go.Proofs.YtpokflilobkoaaaDoor.NatI Go.Proofs.YtpokflilobkoaaaDoor.NatJ Go.Proofs.YtpokflilobkoaaaDoor.NatK Go.Proofs.YtpokflilobkoaaaDoor.NatL Go.Proofs.YtpokflilobkoaaaDoor.NatM Go.Proofs.YtpokflilobkoaaaDoor.NatN Go.Proofs.YtpokflilobkoaaaDoor.NatO

theorem text_L (n : Nat) : L (text n) = Lib.decDigits n := rfl
theorem L_inj {s : ByteArray} {l : List UInt8} (h : L s = l) : s = ⟨l.toArray⟩ := by
  apply ByteArray.ext
  unfold L at h
  rw [← h]
theorem NatStrings : voussoirlaw01_NatStrings.Pure := by
  intro a s m _ _ hm
  have hm' : 0 ≤ m ∧ m ≤ 18446744073709551615 := by simpa [Lit.wf, IntKind.min, IntKind.max, IntKind.signed, IntKind.bits] using hm
  obtain ⟨n, rfl⟩ := Int.eq_ofNat_of_zero_le hm'.1
  refine Ev.rounds (g := fun k => voussoirlaw01_NatStrings.f k a s n) ?_
  have yes : Ev (fun k => voussoirlaw01_NatStrings.j0 k a s n true) true := Ev.step (fun k => by rw [voussoirlaw01_NatStrings.j0, if_pos rfl]) (Ev.now _)
  refine Ev.bind ev_alive (Ev.congr (fun k => if_pos rfl) ?_)
  obtain ⟨w, h1, h2⟩ := wide [a] (by simp)
  refine Ev.bind h1 ?_
  cases w with
  | true => exact Ev.congr (fun k => if_pos rfl) yes
  | false =>
    have ha : a.size ≤ 40 := h2 rfl 0 (by simp)
    refine Ev.congr (fun k => if_neg (by decide)) ?_
    by_cases hs : (s.size : Int) > 90
    · rw [decide_eq_true hs]
      exact yes
    rw [decide_eq_false hs]
    have hn : n < 18446744073709551616 := by omega
    have hd : Lib.nDigits (V a) ≤ 3 * 40 + 1 := nDigits_le (3 * 40) (V a) (Nat.lt_of_lt_of_le (Nat.lt_of_lt_of_le (V_lt a) (Nat.pow_le_pow_right (by decide) ha)) (by decide))
    have b1 := ev_parse (text (V a)) (by rw [text_size]; omega)
    rw [parseR_yes _ (by rw [text_L]; exact num_dec _), text_L, dv_dec] at b1
    have u1 := ev_u64 (N n) (Nat.le_trans ((N_size n 8).2 (by omega)) (by decide))
    rw [V_N] at u1
    unfold u64R at u1
    rw [if_pos hn] at u1
    have f1 := ev_from n hn
    refine Ev.step (fun k => by rw [voussoirlaw01_NatStrings.j0, if_neg (by decide)]) ?_
    refine Ev.bind (ev_parse s (by omega)) (Ev.bind (rev_parse s (by omega)) (Ev.bind (ev_u64 a (by omega)) (Ev.bind (rev_num a (by omega)) ?_)))
    refine Ev.bind (ev_format a (by omega)) (Ev.bind b1 (Ev.bind f1 (Ev.bind u1 ?_)))
    refine Ev.congr (fun k => by rw [if_pos rfl, if_pos (beq_self_eq_true _), if_pos rfl, if_pos (beq_self_eq_true _)]) ?_
    refine Ev.bind (rev_text a (by omega)) (Ev.congr (fun k => by rw [if_pos rfl, if_pos rfl]) ?_)
    refine Ev.bind (ev_normalize a (by omega)) (Ev.congr (fun k => if_pos rfl) ?_)
    refine Ev.bind f1 (Ev.bind (rev_of n hn) (Ev.congr (fun k => by rw [if_pos rfl, if_pos rfl, if_pos rfl]) ?_))
    cases hp : num (L s) with
    | false =>
      rw [parseR_no s hp]
      exact Ev.congr (fun k => if_neg (by decide)) (Ev.now _)
    | true =>
      rw [parseR_yes s hp]
      have hsz : (N (dv (L s))).size ≤ 67108864 := by
        have hall : (L s).all dig = true := by
          unfold num at hp
          simp only [Bool.and_eq_true] at hp
          exact hp.1.2
        have := N_dv_size (L s) hall
        rw [L_length] at this
        omega
      have g1 := ev_format (N (dv (L s))) hsz
      rw [V_N] at g1
      have e : text (dv (L s)) = s := by
        unfold text
        rw [dec_dv (L s) hp]
        exact (L_inj rfl).symm
      rw [e] at g1
      refine Ev.congr (fun k => if_pos rfl) (Ev.bind g1 ?_)
      rw [beq_list]
      exact Ev.now _
end Go.Proofs.YtpokflilobkoaaaDoor.Pure
