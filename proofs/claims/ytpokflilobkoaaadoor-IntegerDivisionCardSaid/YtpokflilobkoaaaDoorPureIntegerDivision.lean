/- For every two integers the Go function IntegerDivision answers true: a = q*b + r with 0 <= r < |b|, and Div fails exactly for b = 0. -/
import Derived.Test.YtpokflilobkoaaaDoorIntL
import Derived.Test.YtpokflilobkoaaaDoorIntAdd
import Derived.Test.YtpokflilobkoaaaDoorIntMul
import Derived.Test.YtpokflilobkoaaaDoorIntDiv
import Derived.Test.YtpokflilobkoaaaDoorIntSgn
import Derived.Test.YtpokflilobkoaaaDoorPxVoussoirlaw02IntegerDivision
namespace Go.Proofs.YtpokflilobkoaaaDoor.Pure
open Go.RowKit Go.Proofs.YtpokflilobkoaaaDoor.P Go.Proofs.YtpokflilobkoaaaDoorW.PrintWords Go.Proofs.YtpokflilobkoaaaDoorW.PrintLast Go.Proofs.YtpokflilobkoaaaDoor.NatA Go.Proofs.YtpokflilobkoaaaDoor.NatJ Go.Proofs.YtpokflilobkoaaaDoor.IntA Go.Proofs.YtpokflilobkoaaaDoor.IntL Go.Proofs.YtpokflilobkoaaaDoor.IntAdd Go.Proofs.YtpokflilobkoaaaDoor.IntMul Go.Proofs.YtpokflilobkoaaaDoor.IntDiv Go.Proofs.YtpokflilobkoaaaDoor.IntSgn

theorem IntegerDivision (n1 : Bool) (m1 : ByteArray) (n2 : Bool) (m2 : ByteArray) : ∃ k, voussoirlaw02_IntegerDivision.f k n1 m1 n2 m2 = some true := by
  refine Ev.rounds (g := fun k => voussoirlaw02_IntegerDivision.f k n1 m1 n2 m2) ?_
  have yes : Ev (fun k => voussoirlaw02_IntegerDivision.j0 k true n1 m1 n2 m2) true := Ev.step (fun k => by rw [voussoirlaw02_IntegerDivision.j0, if_pos rfl]) (Ev.bind ev_fixed (Ev.now _))
  by_cases h1 : (m1.size : Int) > 30
  · exact Ev.congr (fun k => if_pos h1) yes
  refine Ev.congr (fun k => if_neg h1) ?_
  by_cases h2 : (m2.size : Int) > 30
  · rw [decide_eq_true h2]
    exact yes
  rw [decide_eq_false h2]
  have s1 : m1.size ≤ 30 := by omega
  have s2 : m2.size ≤ 30 := by omega
  have z1 := I_Z_le n1 m1 s1
  have z2 := I_Z_le n2 m2 s2
  have dv := ev_idiv n1 m1 n2 m2 (by omega) (by omega)
  have sb := ev_isign n2 m2 (by omega)
  refine Ev.step (fun k => by rw [voussoirlaw02_IntegerDivision.j0, if_neg (by decide)]) ?_
  refine Ev.bind dv (Ev.bind sb ?_)
  unfold idivR
  by_cases h0 : Z n2 m2 = 0
  · rw [if_pos h0]
    have e : (!false && ((⟨#[]⟩ : ByteArray).toList == ([] : List UInt8))) = true := by rw [Lib.toList_data]; rfl
    refine Ev.congr (fun k => if_pos (sgn_zero.2 h0)) (Ev.bind ev_fixed (Ev.congr (fun k => by rw [if_pos rfl, if_neg (by decide), if_pos e]) ?_))
    show Ev (fun k => some (!false && ((⟨#[]⟩ : ByteArray).toList == ([] : List UInt8)))) true
    rw [e]
    exact Ev.now _
  rw [if_neg h0]
  have hr0 := Int.emod_nonneg (Z n1 m1) h0
  have hr1 := Int.emod_lt (Z n1 m1) h0
  have hqr := Int.mul_ediv_add_emod (Z n1 m1) (Z n2 m2)
  have sq : (I (Z n1 m1 / Z n2 m2)).2.size ≤ 31 := by
    refine size_of_natAbs ?_
    have h := lt_of_I z1
    have h3 := Int.natAbs_ediv_le_natAbs (Z n1 m1) (Z n2 m2)
    have h4 : 256 ^ 30 ≤ 256 ^ 31 := by decide
    omega
  have sr : (I (Z n1 m1 % Z n2 m2)).2.size ≤ 30 := size_of_natAbs (by
    have h := lt_of_I z2
    omega)
  have pq := ev_imul (I (Z n1 m1 / Z n2 m2)).1 (I (Z n1 m1 / Z n2 m2)).2 n2 m2 (by omega) (by omega)
  have tq := I_mul_le sq z2
  have ad := ev_iadd (I (Z n1 m1 / Z n2 m2 * Z n2 m2)).1 (I (Z n1 m1 / Z n2 m2 * Z n2 m2)).2 (I (Z n1 m1 % Z n2 m2)).1 (I (Z n1 m1 % Z n2 m2)).2 (by omega) (by omega)
  have nm := ev_inorm n1 m1 (by omega)
  have sgr := ev_isign (I (Z n1 m1 % Z n2 m2)).1 (I (Z n1 m1 % Z n2 m2)).2 (by omega)
  rw [Z_I] at pq sgr
  rw [Z_I, Z_I, show Z n1 m1 / Z n2 m2 * Z n2 m2 + Z n1 m1 % Z n2 m2 = Z n1 m1 by rw [Int.mul_comm]; exact hqr] at ad
  have fin : ∀ (n4 : Bool) (m4 : ByteArray), m4.size ≤ 30 → Z n4 m4 = (Z n2 m2).natAbs → Ev (fun k => voussoirlaw02_IntegerDivision.j1 k true n1 m1 n2 m2 (I (Z n1 m1 / Z n2 m2)).1 (I (Z n1 m1 / Z n2 m2)).2 (I (Z n1 m1 % Z n2 m2)).1 (I (Z n1 m1 % Z n2 m2)).2 n4 m4) true := fun n4 m4 s4 h4 => by
    have cm := ev_icmp (I (Z n1 m1 % Z n2 m2)).1 (I (Z n1 m1 % Z n2 m2)).2 n4 m4 (by omega) (by omega)
    rw [Z_I, h4] at cm
    refine Ev.step (fun k => by rw [voussoirlaw02_IntegerDivision.j1]) ?_
    refine Ev.bind ev_fixed (Ev.congr (fun k => by rw [if_pos rfl, if_pos rfl]) ?_)
    refine Ev.bind pq (Ev.bind ad (Ev.bind nm (Ev.congr (fun k => if_pos (beq_I _)) ?_)))
    refine Ev.bind sgr (Ev.congr (fun k => if_pos (by
      have := @sgn_lt (Z n1 m1 % Z n2 m2)
      omega)) ?_)
    refine Ev.bind cm ?_
    rw [decide_eq_true (sgn_lt.2 (by omega))]
    exact Ev.now _
  refine Ev.congr (fun k => if_neg (fun e => h0 (sgn_zero.1 e))) (Ev.bind sb ?_)
  by_cases hn : Z n2 m2 < 0
  · refine Ev.congr (fun k => if_pos (sgn_lt.2 hn)) (Ev.bind (ev_ineg n2 m2 (by omega)) ?_)
    exact fin _ _ (by show (NatA.N (-Z n2 m2).natAbs).size ≤ 30; rw [Int.natAbs_neg]; exact z2) (by rw [Z_I]; omega)
  · exact Ev.congr (fun k => if_neg (fun e => hn (sgn_lt.1 e))) (fin n2 m2 s2 (by omega))
end Go.Proofs.YtpokflilobkoaaaDoor.Pure
