/- Signed integers, the reference: Div. -/
import Derived.Test.YtpokflilobkoaaaDoorIntR
import Derived.Test.YtpokflilobkoaaaDoorPxSB
namespace Go.Proofs.YtpokflilobkoaaaDoor.IntRd
open Go Go.RowKit Go.Proofs.YtpokflilobkoaaaDoorW.PrintWords Go.Proofs.YtpokflilobkoaaaDoorW.PrintLast Go.Proofs.YtpokflilobkoaaaDoor.P Go.Proofs.YtpokflilobkoaaaDoor.NatA Go.Proofs.YtpokflilobkoaaaDoor.NatB Go.Proofs.YtpokflilobkoaaaDoor.NatC Go.Proofs.YtpokflilobkoaaaDoor.NatD Go.Proofs.YtpokflilobkoaaaDoor.NatI Go.Proofs.YtpokflilobkoaaaDoor.NatJ Go.Proofs.YtpokflilobkoaaaDoor.NatK Go.Proofs.YtpokflilobkoaaaDoor.NatL Go.Proofs.YtpokflilobkoaaaDoor.IntA Go.Proofs.YtpokflilobkoaaaDoor.IntR

theorem rof0 (n : Nat) : ∀ l : List Int, n < 18446744073709551616 → l.length + (nb n).length ≤ 1000000 → Ev (fun k => voussoirref01_Of.l0 k n l) (strOfNums (l ++ nb n)) := by
  induction n using Nat.strongRecOn with
  | _ n ih =>
    intro l hn hl
    by_cases h : n = 0
    · subst h
      rw [nb_zero, List.append_nil]
      exact Ev.step (fun k => by rw [voussoirref01_Of.l0, if_neg (by omega)]) (Ev.now _)
    · rw [nb_pos h, List.length_cons] at hl
      have e : strOfNums (l ++ nb n) = strOfNums ((l ++ [((n % 256 : Nat) : Int)]) ++ nb (n / 256)) := by rw [nb_pos h, List.append_assoc]; rfl
      rw [e]
      refine Ev.step (fun k => by rw [voussoirref01_Of.l0, if_pos (by omega), if_pos (by omega), tdiv_nat (by omega), tmod_nat (by omega), wu (by omega) (by omega), show (n : Int) / 256 = ((n / 256 : Nat) : Int) by omega, show (n : Int) % 256 % 256 = ((n % 256 : Nat) : Int) by omega]) ?_
      exact ih (n / 256) (by omega) _ (by omega) (by rw [List.length_append, List.length_singleton]; omega)
theorem rev_of (n : Nat) (hn : n < 18446744073709551616) : Ev (fun k => voussoirref01_Of.f k n) (N n) :=
  rof0 n [] hn (by have := (nb_length n 8).2 (by omega); simp; omega)
theorem rev_ifrom (n : Int) (h0 : -9223372036854775808 ≤ n) (h1 : n ≤ 9223372036854775807) : Ev (fun k => voussoirref02_From.f k n) (I n) := by
  unfold voussoirref02_From.f
  by_cases h : n < 0
  · obtain ⟨x, hx⟩ : ∃ x : Nat, -n = x := ⟨(-n).toNat, by omega⟩
    have f := rev_of x (by omega)
    have s : (N x).size ≤ 67108864 := Nat.le_trans ((N_size x 8).2 (by omega)) (by decide)
    refine Ev.congr (fun k => by rw [if_pos h, w64 (i := n + 1) (by omega) (by omega), w64 (i := -(n + 1)) (by omega) (by omega), wu (n := -(n + 1)) (by omega) (by omega), wu (by omega) (by omega), show -(n + 1) + 1 = (x : Int) by omega]) ?_
    have e : n = sg true x := by unfold sg; rw [if_pos rfl]; omega
    rw [e]
    exact Ev.bind f (Ev.bind (rof_N true x s) (Ev.now _))
  · obtain ⟨x, hx⟩ := Int.eq_ofNat_of_zero_le (show 0 ≤ n by omega)
    have f := rev_of x (by omega)
    have s : (N x).size ≤ 67108864 := Nat.le_trans ((N_size x 8).2 (by omega)) (by decide)
    refine Ev.congr (fun k => by rw [if_neg h, wu (by omega) (by omega), hx]) ?_
    have e : n = sg false x := by unfold sg; rw [if_neg (by decide)]; exact hx
    rw [e]
    exact Ev.bind f (Ev.bind (rof_N false x s) (Ev.now _))
theorem sgn_pos {z : Int} : sgn z > 0 ↔ z > 0 := by
  unfold sgn
  split
  · omega
  · split <;> omega
theorem sgn_neg {z : Int} : sgn z < 0 ↔ z < 0 := by
  unfold sgn
  split
  · omega
  · split <;> omega
theorem rev_idiv (n1 : Bool) (m1 : ByteArray) (n2 : Bool) (m2 : ByteArray) (h1 : m1.size ≤ 40000) (h2 : m2.size ≤ 40000) : Ev (fun k => voussoirref02_Div.f k n1 m1 n2 m2) (idivR (Z n1 m1) (Z n2 m2)) := by
  have d := rev_div m1 m2 (by omega) (by omega)
  have sb := rev_isign n2 m2 (by omega)
  have ob := rof false m2 (by omega)
  unfold voussoirref02_Div.f idivR
  have vb := V_lt m2
  have s1 : (N (V m1 / V m2)).size ≤ 40000 := size_div m1 _ h1
  have s2 : (N (V m1 % V m2)).size ≤ 40000 := size_mod m1 _ h1
  have s3 : (N (V m2)).size ≤ 40000 := N_small h2
  unfold Z at *
  generalize V m1 = a at *
  generalize V m2 = b at *
  unfold divR at d
  by_cases hb : b = 0
  · rw [if_pos hb] at d
    rw [if_pos (by rw [hb]; unfold sg; split <;> rfl)]
    exact Ev.bind d (Ev.congr (fun k => if_neg (by decide)) (Ev.now _))
  rw [if_neg hb] at d
  rw [if_neg (by unfold sg; split <;> omega)]
  have hb0 : 0 < b := by omega
  obtain ⟨q, hq⟩ : ∃ q, q = a / b := ⟨_, rfl⟩
  obtain ⟨r, hr⟩ : ∃ r, r = a % b := ⟨_, rfl⟩
  have hqr : b * q + r = a := by rw [hq, hr]; exact Nat.div_add_mod a b
  have hrl : r < b := by rw [hr]; exact Nat.mod_lt _ hb0
  have hqr' : (a : Int) = (b : Int) * q + r := by rw [← hqr, Int.natCast_add, Int.natCast_mul]
  rw [← hq, ← hr] at d
  rw [← hq] at s1
  rw [← hr] at s2
  refine Ev.bind d (Ev.congr (fun k => if_pos rfl) ?_)
  refine Ev.bind (rof_N n1 r (by omega)) (Ev.bind (rof_N (n1 != n2) q (by omega)) ?_)
  have sr := rev_isign (I (sg n1 r)).1 (I (sg n1 r)).2 (by show (N (sg n1 r).natAbs).size ≤ _; rw [natAbs_sg]; omega)
  rw [Z_I] at sr
  refine Ev.bind sr ?_
  by_cases hneg : sg n1 r < 0
  · refine Ev.congr (fun k => if_pos (sgn_neg.2 hneg)) (Ev.bind ob ?_)
    have hn1 : n1 = true ∧ r ≠ 0 := by
      unfold sg at hneg
      cases n1
      · rw [if_neg (by decide)] at hneg; omega
      · exact ⟨rfl, by rw [if_pos rfl] at hneg; omega⟩
    obtain ⟨rfl, hr0⟩ := hn1
    have e := ediv_sg (x := sg true a) (q := -((q + 1 : Nat) : Int)) (r := ((b - r : Nat) : Int)) (b := n2) hb0 (by show -(a : Int) = _; rw [hqr', Int.mul_neg, Int.natCast_add, Int.mul_add]; omega) (by omega) (by omega)
    have i1 : (I (sg true r)).2.size ≤ 40000 := by show (N (sg true r).natAbs).size ≤ _; rw [natAbs_sg]; exact s2
    have i2 : (I (sg false b)).2.size ≤ 40000 := by show (N (sg false b).natAbs).size ≤ _; rw [natAbs_sg]; exact s3
    have i3 : (I (sg (true != n2) q)).2.size ≤ 40000 := by show (N (sg (true != n2) q).natAbs).size ≤ _; rw [natAbs_sg]; exact s1
    have i4 : (I 1).2.size ≤ 50000 := Nat.le_trans ((N_size 1 1).2 (by decide)) (by decide)
    have t1 := rev_iadd (I (sg true r)).1 (I (sg true r)).2 (I (sg false b)).1 (I (sg false b)).2 (by omega) (by omega)
    rw [Z_I, Z_I, show sg true r + sg false b = ((b - r : Nat) : Int) by show -(r : Int) + (b : Int) = _; omega] at t1
    refine Ev.bind t1 (Ev.bind sb ?_)
    have fr := rev_ifrom 1 (by decide) (by decide)
    rw [e.1, e.2]
    cases n2 with
    | false =>
      have t2 := rev_isub (I (sg (true != false) q)).1 (I (sg (true != false) q)).2 (I 1).1 (I 1).2 (by omega) i4
      rw [Z_I, Z_I, show sg (true != false) q - 1 = -((q + 1 : Nat) : Int) by show -(q : Int) - 1 = _; omega] at t2
      exact Ev.congr (fun k => if_pos (sgn_pos.2 (by show (b : Int) > 0; omega))) (Ev.bind fr (Ev.bind t2 (Ev.now _)))
    | true =>
      have t2 := rev_iadd (I (sg (true != true) q)).1 (I (sg (true != true) q)).2 (I 1).1 (I 1).2 (by omega) i4
      rw [Z_I, Z_I, show sg (true != true) q + 1 = - -((q + 1 : Nat) : Int) by show (q : Int) + 1 = _; omega] at t2
      exact Ev.congr (fun k => if_neg (by rw [sgn_pos]; show ¬ -(b : Int) > 0; omega)) (Ev.bind fr (Ev.bind t2 (Ev.now _)))
  · refine Ev.congr (fun k => if_neg (fun e => hneg (sgn_neg.1 e))) ?_
    have e := ediv_sg (x := sg n1 a) (q := sg n1 q) (r := sg n1 r) (b := n2) hb0 (by
      have h1 := sg_mul false n1 b q
      have h2 := sg_add_same n1 (b * q) r
      rw [hqr] at h2
      rw [h2, show sg n1 (b * q) = (b : Int) * sg n1 q from by
        have h3 : sg false b = (b : Int) := rfl
        rw [h3] at h1
        rw [h1]
        cases n1 <;> rfl]) (by omega) (by
      unfold sg
      split <;> omega)
    rw [e.1, e.2, show (if n2 = true then -sg n1 q else sg n1 q) = sg (n1 != n2) q by cases n1 <;> cases n2 <;> simp [sg]]
    exact Ev.now _
end Go.Proofs.YtpokflilobkoaaaDoor.IntRd
