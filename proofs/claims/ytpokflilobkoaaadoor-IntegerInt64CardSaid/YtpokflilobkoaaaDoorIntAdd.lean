/- Signed integers: Add, Neg, Sub. -/
import Derived.Test.YtpokflilobkoaaaDoorIntA
import Derived.Test.YtpokflilobkoaaaDoorPxIC
namespace Go.Proofs.YtpokflilobkoaaaDoor.IntAdd
open Go Go.RowKit Go.Proofs.YtpokflilobkoaaaDoorW.PrintWords Go.Proofs.YtpokflilobkoaaaDoorW.PrintLast Go.Proofs.YtpokflilobkoaaaDoor.P Go.Proofs.YtpokflilobkoaaaDoor.NatA Go.Proofs.YtpokflilobkoaaaDoor.NatB Go.Proofs.YtpokflilobkoaaaDoor.NatC Go.Proofs.YtpokflilobkoaaaDoor.NatD Go.Proofs.YtpokflilobkoaaaDoor.NatI Go.Proofs.YtpokflilobkoaaaDoor.NatJ Go.Proofs.YtpokflilobkoaaaDoor.IntA

theorem ev_iadd (n1 : Bool) (m1 : ByteArray) (n2 : Bool) (m2 : ByteArray) (h1 : m1.size ≤ 67108864) (h2 : m2.size ≤ 67108864) : Ev (fun k => integer_Add.f k n1 m1 n2 m2) (I (Z n1 m1 + Z n2 m2)) := by
  have s1 := I_size n1 m1 h1
  have s2 := I_size n2 m2 h2
  unfold integer_Add.f
  refine Ev.bind (ev_inorm n1 m1 h1) (Ev.bind (ev_inorm n2 m2 h2) ?_)
  generalize Z n1 m1 = x at *
  generalize Z n2 m2 = y at *
  show Ev (fun k => if (decide (x < 0) == decide (y < 0)) = true then _ else _) _
  by_cases h : (decide (x < 0) == decide (y < 0)) = true
  · refine Ev.congr (fun k => if_pos h) ?_
    have a := ev_add (N x.natAbs) (N y.natAbs) s1 s2
    rw [V_N, V_N] at a
    refine Ev.bind a (Ev.congr (fun k => by show (integer_of.f (decide (x < 0)) _).bind _ = _; rw [iof, Option.bind_some, sg_same h]) (Ev.now _))
  · refine Ev.congr (fun k => if_neg h) ?_
    have a := ev_sub (N x.natAbs) (N y.natAbs) s1 s2
    have b := ev_sub (N y.natAbs) (N x.natAbs) s2 s1
    rw [V_N, V_N] at a b
    unfold subR at a b
    by_cases hl : x.natAbs < y.natAbs
    · rw [if_pos hl] at a
      rw [if_neg (by omega)] at b
      refine Ev.bind a (Ev.congr (fun k => if_neg (by decide)) (Ev.bind b (Ev.congr (fun k => by show (integer_of.f (decide (y < 0)) _).bind _ = _; rw [iof, Option.bind_some, sg_left (fun e => h (by rw [beq_iff_eq] at e ⊢; exact e.symm)) (by omega), Int.add_comm]) (Ev.now _))))
    · rw [if_neg hl] at a
      refine Ev.bind a (Ev.congr (fun k => if_pos rfl) (Ev.congr (fun k => by show (integer_of.f (decide (x < 0)) _).bind _ = _; rw [iof, Option.bind_some, sg_left h (by omega)]) (Ev.now _)))
theorem ev_ineg (n : Bool) (m : ByteArray) (hm : m.size ≤ 67108864) : Ev (fun k => integer_Neg.f k n m) (I (-Z n m)) := by
  unfold integer_Neg.f
  refine Ev.bind (ev_inorm n m hm) (Ev.congr (fun k => by show (integer_of.f (!decide (Z n m < 0)) (N (Z n m).natAbs)).bind _ = _; rw [iof, Option.bind_some, sg_neg]) (Ev.now _))
theorem ev_isub (n1 : Bool) (m1 : ByteArray) (n2 : Bool) (m2 : ByteArray) (h1 : m1.size ≤ 67108864) (h2 : m2.size ≤ 67108864) : Ev (fun k => integer_Sub.f k n1 m1 n2 m2) (I (Z n1 m1 - Z n2 m2)) := by
  unfold integer_Sub.f
  refine Ev.bind (ev_ineg n2 m2 h2) ?_
  have := ev_iadd n1 m1 (I (-Z n2 m2)).1 (I (-Z n2 m2)).2 h1 (by show (N (-Z n2 m2).natAbs).size ≤ _; rw [Int.natAbs_neg]; exact I_size n2 m2 h2)
  rw [Z_I, ← Int.sub_eq_add_neg] at this
  exact Ev.bind this (Ev.now _)
end Go.Proofs.YtpokflilobkoaaaDoor.IntAdd
