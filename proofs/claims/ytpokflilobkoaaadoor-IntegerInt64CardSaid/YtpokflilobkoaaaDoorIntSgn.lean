/- Signed integers: Sign, Cmp. -/
import Derived.Test.YtpokflilobkoaaaDoorIntAdd
import Derived.Test.YtpokflilobkoaaaDoorPxID
namespace Go.Proofs.YtpokflilobkoaaaDoor.IntSgn
open Go Go.RowKit Go.Proofs.YtpokflilobkoaaaDoorW.PrintWords Go.Proofs.YtpokflilobkoaaaDoorW.PrintLast Go.Proofs.YtpokflilobkoaaaDoor.P Go.Proofs.YtpokflilobkoaaaDoor.NatA Go.Proofs.YtpokflilobkoaaaDoor.NatB Go.Proofs.YtpokflilobkoaaaDoor.NatC Go.Proofs.YtpokflilobkoaaaDoor.NatD Go.Proofs.YtpokflilobkoaaaDoor.NatI Go.Proofs.YtpokflilobkoaaaDoor.NatJ Go.Proofs.YtpokflilobkoaaaDoor.IntA Go.Proofs.YtpokflilobkoaaaDoor.IntAdd

theorem ev_isign (n : Bool) (m : ByteArray) (hm : m.size ≤ 67108864) : Ev (fun k => integer_Sign.f k n m) (sgn (Z n m)) := by
  unfold integer_Sign.f sgn
  refine Ev.bind (ev_inorm n m hm) ?_
  generalize Z n m = z
  by_cases h : z < 0
  · rw [if_pos h]
    exact Ev.congr (fun k => if_pos (decide_eq_true h)) (Ev.now _)
  · rw [if_neg h]
    refine Ev.congr (fun k => if_neg (by show ¬ decide (z < 0) = true; rw [decide_eq_false h]; decide)) ?_
    by_cases h0 : z = 0
    · rw [if_pos h0]
      exact Ev.congr (fun k => if_pos (N_toList_nil.2 (by omega))) (Ev.now _)
    · rw [if_neg h0]
      exact Ev.congr (fun k => if_neg (fun e => h0 (by have := N_toList_nil.1 e; omega))) (Ev.now _)
theorem ev_icmp (n1 : Bool) (m1 : ByteArray) (n2 : Bool) (m2 : ByteArray) (h1 : m1.size ≤ 65536) (h2 : m2.size ≤ 65536) : Ev (fun k => integer_Cmp.f k n1 m1 n2 m2) (sgn (Z n1 m1 - Z n2 m2)) := by
  unfold integer_Cmp.f
  refine Ev.bind (ev_isub n1 m1 n2 m2 (by omega) (by omega)) ?_
  have := ev_isign (I (Z n1 m1 - Z n2 m2)).1 (I (Z n1 m1 - Z n2 m2)).2 (Nat.le_trans (I_sub_le (I_Z_le n1 m1 h1) (I_Z_le n2 m2 h2)) (by decide))
  rw [Z_I] at this
  exact Ev.bind this (Ev.now _)
end Go.Proofs.YtpokflilobkoaaaDoor.IntSgn
