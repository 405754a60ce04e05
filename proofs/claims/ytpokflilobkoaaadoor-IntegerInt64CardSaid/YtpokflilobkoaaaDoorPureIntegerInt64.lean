/- For every two int64 numbers the Go function IntegerInt64 answers true. -/
import Derived.Test.YtpokflilobkoaaaDoorIntL
import Derived.Test.YtpokflilobkoaaaDoorIntAdd
import Derived.Test.YtpokflilobkoaaaDoorIntMul
import Derived.Test.YtpokflilobkoaaaDoorIntDiv
import Derived.Test.YtpokflilobkoaaaDoorIntSgn
import Derived.Test.YtpokflilobkoaaaDoorIntP
import Derived.Test.YtpokflilobkoaaaDoorPxVoussoirlaw02IntegerInt64
namespace Go.Proofs.YtpokflilobkoaaaDoor.Pure
open Go Go.RowKit Go.Proofs.YtpokflilobkoaaaDoor.P Go.Proofs.YtpokflilobkoaaaDoorW.PrintWords Go.Proofs.YtpokflilobkoaaaDoorW.PrintLast Go.Proofs.YtpokflilobkoaaaDoor.NatA Go.Proofs.YtpokflilobkoaaaDoor.NatJ Go.Proofs.YtpokflilobkoaaaDoor.IntA Go.Proofs.YtpokflilobkoaaaDoor.IntL Go.Proofs.YtpokflilobkoaaaDoor.IntAdd Go.Proofs.YtpokflilobkoaaaDoor.IntMul Go.Proofs.YtpokflilobkoaaaDoor.IntDiv Go.Proofs.YtpokflilobkoaaaDoor.IntSgn Go.Proofs.YtpokflilobkoaaaDoor.IntP

theorem mul_rng {a b : Int} (ha : a.natAbs ≤ 2147483648) (hb : b.natAbs ≤ 2147483648) : (a * b).natAbs ≤ 4611686018427387904 := by
  rw [Int.natAbs_mul]
  exact Nat.le_trans (Nat.mul_le_mul ha hb) (by decide)
theorem IntegerInt64 : voussoirlaw02_IntegerInt64.Pure := by
  intro a b wa wb
  have ra : -9223372036854775808 ≤ a ∧ a ≤ 9223372036854775807 := by simpa [Lit.wf, IntKind.min, IntKind.max, IntKind.signed, IntKind.bits] using wa
  have rb : -9223372036854775808 ≤ b ∧ b ≤ 9223372036854775807 := by simpa [Lit.wf, IntKind.min, IntKind.max, IntKind.signed, IntKind.bits] using wb
  refine Ev.rounds (g := fun k => voussoirlaw02_IntegerInt64.f k a b) ?_
  have sa : (I a).2.size ≤ 8 := size_of_natAbs (by omega)
  have sb : (I b).2.size ≤ 8 := size_of_natAbs (by omega)
  have i := ev_i64 (I a).1 (I a).2 (by omega)
  have c := ev_icmp (I a).1 (I a).2 (I b).1 (I b).2 (by omega) (by omega)
  have ad := ev_iadd (I a).1 (I a).2 (I b).1 (I b).2 (by omega) (by omega)
  have mu := ev_imul (I a).1 (I a).2 (I b).1 (I b).2 (by omega) (by omega)
  have su := ev_isub (I a).1 (I a).2 (I b).1 (I b).2 (by omega) (by omega)
  have r := ev_iformat (I a).1 (I a).2 (by omega)
  have p := ev_iparse (itext a) (by
    have h := itext_size a
    have d := dec_len (s := 8) sa
    omega)
  rw [Z_I] at i r
  rw [Z_I, Z_I] at c ad mu su
  rw [iparse_itext] at p
  unfold i64R at i
  rw [if_pos ra] at i
  have fin : Ev (fun k => (integer_Format.f k (I a).1 (I a).2).bind fun t => (integer_Parse.f k t).bind fun u => (voussoirlaw02_fixed.f k).bind fun v => (if v = true then (if u.2.2 = true then (some (u.1 == (I a).1 && (u.2.1.toList == (I a).2.toList))) else (some false)) else (some false))) true := by
    refine Ev.bind r (Ev.bind p (Ev.bind ev_fixed (Ev.congr (fun k => by rw [if_pos rfl, if_pos rfl, beq_I]) (Ev.now _))))
  have no : Ev (fun k => voussoirlaw02_IntegerInt64.j1 k a b false (I a).1 (I a).2 (I b).1 (I b).2) true :=
    Ev.step (fun k => by rw [voussoirlaw02_IntegerInt64.j1, if_neg (by decide)]) fin
  unfold voussoirlaw02_IntegerInt64.f
  refine Ev.bind (ev_ifrom a ra.1 ra.2) (Ev.bind (ev_ifrom b rb.1 rb.2) (Ev.bind i (Ev.congr (fun k => by rw [if_pos rfl, if_pos rfl]) (Ev.bind c ?_))))
  have e1 : (decide (sgn (a - b) < 0) != decide (a < b)) = false := by
    rw [show decide (sgn (a - b) < 0) = decide (a < b) from by rw [decide_eq_decide]; have := @sgn_lt (a - b); omega]
    exact bne_self_eq_false _
  have e2 : (((I a).1 == (I b).1 && ((I a).2.toList == (I b).2.toList)) != (a == b)) = false := by
    rw [beq_I_dec]
    by_cases h : a = b
    · rw [decide_eq_true h, beq_iff_eq.2 h]; rfl
    · rw [decide_eq_false h, beq_eq_false_iff_ne.2 h]; rfl
  refine Ev.congr (fun k => by rw [if_neg (by rw [e1]; decide), e2]) ?_
  refine Ev.step (fun k => by rw [voussoirlaw02_IntegerInt64.j0, if_neg (by decide)]) ?_
  by_cases a1 : a > -2147483648
  · refine Ev.congr (fun k => if_pos a1) ?_
    by_cases a2 : a < 2147483648
    · refine Ev.congr (fun k => if_pos a2) ?_
      by_cases b1 : b > -2147483648
      · refine Ev.congr (fun k => if_pos b1) ?_
        by_cases b2 : b < 2147483648
        · rw [decide_eq_true b2]
          have m := mul_rng (a := a) (b := b) (by omega) (by omega)
          have m1 : -9223372036854775808 ≤ a * b := by omega
          have m2 : a * b ≤ 9223372036854775807 := by omega
          have ne : ∀ z : Int, ¬ (!((I z).1 == (I z).1) || (!((I z).2.toList == (I z).2.toList))) = true := fun z => by rw [beq_self_eq_true, beq_self_eq_true]; decide
          refine Ev.step (fun k => by rw [voussoirlaw02_IntegerInt64.j1, if_pos rfl, w64 (i := a + b) (by omega) (by omega), w64 m1 m2, w64 (i := a - b) (by omega) (by omega)]) ?_
          refine Ev.bind ad (Ev.bind (ev_ifrom (a + b) (by omega) (by omega)) (Ev.congr (fun k => if_neg (ne _)) ?_))
          refine Ev.bind mu (Ev.bind (ev_ifrom (a * b) m1 m2) (Ev.congr (fun k => if_neg (ne _)) ?_))
          refine Ev.bind su (Ev.bind (ev_ifrom (a - b) (by omega) (by omega)) ?_)
          rw [show (!((I (a - b)).1 == (I (a - b)).1) || (!((I (a - b)).2.toList == (I (a - b)).2.toList))) = false by rw [beq_self_eq_true, beq_self_eq_true]; rfl]
          exact Ev.step (fun k => by rw [voussoirlaw02_IntegerInt64.j2, if_neg (by decide)]) fin
        · rw [decide_eq_false b2]
          exact no
      · exact Ev.congr (fun k => if_neg b1) no
    · exact Ev.congr (fun k => if_neg a2) no
  · exact Ev.congr (fun k => if_neg a1) no
end Go.Proofs.YtpokflilobkoaaaDoor.Pure
