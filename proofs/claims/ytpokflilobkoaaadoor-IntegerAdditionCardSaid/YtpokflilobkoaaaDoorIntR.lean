/- Signed integers, the reference: Add, Neg, Sub, Sign. -/
import Derived.Test.YtpokflilobkoaaaDoorIntA
import Derived.Test.YtpokflilobkoaaaDoorNatL
import Derived.Test.YtpokflilobkoaaaDoorPxSA
namespace Go.Proofs.YtpokflilobkoaaaDoor.IntR
open Go Go.RowKit Go.Proofs.YtpokflilobkoaaaDoorW.PrintWords Go.Proofs.YtpokflilobkoaaaDoorW.PrintLast Go.Proofs.YtpokflilobkoaaaDoor.P Go.Proofs.YtpokflilobkoaaaDoor.NatA Go.Proofs.YtpokflilobkoaaaDoor.NatB Go.Proofs.YtpokflilobkoaaaDoor.NatC Go.Proofs.YtpokflilobkoaaaDoor.NatD Go.Proofs.YtpokflilobkoaaaDoor.NatI Go.Proofs.YtpokflilobkoaaaDoor.NatJ Go.Proofs.YtpokflilobkoaaaDoor.NatK Go.Proofs.YtpokflilobkoaaaDoor.NatL Go.Proofs.YtpokflilobkoaaaDoor.IntA

theorem rof (b : Bool) (m : ByteArray) (hm : m.size ≤ 67108864) : Ev (fun k => voussoirref02_of.f k b m) (I (sg b (V m))) := by
  unfold voussoirref02_of.f
  refine Ev.bind (rev_norm m hm) ?_
  generalize V m = x
  have h := iof b x
  unfold integer_of.f at h
  cases b with
  | true =>
    rw [if_pos rfl] at h
    exact Ev.congr (fun k => by rw [if_pos rfl, h]) (Ev.now _)
  | false =>
    rw [if_neg (by decide)] at h
    exact Ev.congr (fun k => by rw [if_neg (by decide), h]) (Ev.now _)
theorem rof_N (b : Bool) (x : Nat) (hm : (N x).size ≤ 67108864) : Ev (fun k => voussoirref02_of.f k b (N x)) (I (sg b x)) := by
  have := rof b (N x) hm
  rw [V_N] at this
  exact this
theorem sg_add_same (b : Bool) (x y : Nat) : sg b (x + y) = sg b x + sg b y := by
  unfold sg
  cases b
  · rw [if_neg (by decide), if_neg (by decide), if_neg (by decide)]; omega
  · rw [if_pos rfl, if_pos rfl, if_pos rfl]; omega
theorem sg_sub_other (b : Bool) (x y : Nat) (h : y ≤ x) : sg b (x - y) = sg b x + sg (!b) y := by
  unfold sg
  cases b
  · rw [if_neg (by decide), if_neg (by decide), if_pos (by decide)]; omega
  · rw [if_pos rfl, if_pos rfl, if_neg (by decide)]; omega
theorem ne_not {a b : Bool} (h : ¬ (a == b) = true) : b = !a := by cases a <;> cases b <;> simp_all
theorem rev_iadd (n1 : Bool) (m1 : ByteArray) (n2 : Bool) (m2 : ByteArray) (h1 : m1.size ≤ 50000) (h2 : m2.size ≤ 50000) : Ev (fun k => voussoirref02_Add.f k n1 m1 n2 m2) (I (Z n1 m1 + Z n2 m2)) := by
  unfold voussoirref02_Add.f Z
  by_cases h : (n1 == n2) = true
  · obtain rfl : n1 = n2 := by simpa using h
    refine Ev.congr (fun k => if_pos h) (Ev.bind (rev_add m1 m2 (by omega) (by omega)) ?_)
    rw [← sg_add_same]
    exact Ev.bind (rof_N n1 _ (Nat.le_trans (N_size_add m1 m2 (s := 50000) h1 h2) (by decide))) (Ev.now _)
  · obtain rfl := ne_not h
    refine Ev.congr (fun k => if_neg h) ?_
    have a := rev_sub m1 m2 (by omega) (by omega)
    have b := rev_sub m2 m1 (by omega) (by omega)
    unfold subR at a b
    by_cases hl : V m1 < V m2
    · rw [if_pos hl] at a
      rw [if_neg (by omega)] at b
      have e := sg_sub_other (!n1) (V m2) (V m1) (by omega)
      rw [Bool.not_not, Int.add_comm] at e
      rw [← e]
      exact Ev.bind a (Ev.congr (fun k => if_neg (by decide)) (Ev.bind b (Ev.bind (rof_N (!n1) _ (Nat.le_trans (N_size_V (Nat.sub_le _ _)) (by omega))) (Ev.now _))))
    · rw [if_neg hl] at a
      rw [← sg_sub_other n1 _ _ (by omega)]
      exact Ev.bind a (Ev.congr (fun k => if_pos rfl) (Ev.bind (rof_N n1 _ (Nat.le_trans (N_size_V (Nat.sub_le _ _)) (by omega))) (Ev.now _)))
theorem sg_not (b : Bool) (x : Nat) : sg (!b) x = -sg b x := by
  unfold sg
  cases b
  · rw [if_pos (by decide), if_neg (by decide)]
  · rw [if_neg (by decide), if_pos rfl, Int.neg_neg]
theorem rev_ineg (n : Bool) (m : ByteArray) (hm : m.size ≤ 67108864) : Ev (fun k => voussoirref02_Neg.f k n m) (I (-Z n m)) := by
  unfold voussoirref02_Neg.f Z
  rw [← sg_not]
  exact Ev.bind (rof (!n) m hm) (Ev.now _)
theorem rev_isub (n1 : Bool) (m1 : ByteArray) (n2 : Bool) (m2 : ByteArray) (h1 : m1.size ≤ 50000) (h2 : m2.size ≤ 50000) : Ev (fun k => voussoirref02_Sub.f k n1 m1 n2 m2) (I (Z n1 m1 - Z n2 m2)) := by
  unfold voussoirref02_Sub.f
  refine Ev.bind (rev_ineg n2 m2 (by omega)) ?_
  have := rev_iadd n1 m1 (I (-Z n2 m2)).1 (I (-Z n2 m2)).2 h1 (by show (N (-Z n2 m2).natAbs).size ≤ _; rw [Int.natAbs_neg]; exact I_size n2 m2 h2)
  rw [Z_I, ← Int.sub_eq_add_neg] at this
  exact Ev.bind this (Ev.now _)
theorem sgn_sg (n : Bool) (x : Nat) : sgn (sg n x) = if x = 0 then 0 else if n = true then -1 else 1 := by
  cases n with
  | true =>
    show (if -(x : Int) < 0 then (-1 : Int) else if -(x : Int) = 0 then 0 else 1) = if x = 0 then 0 else -1
    by_cases h : x = 0
    · rw [if_neg (by omega), if_pos (by omega), if_pos h]
    · rw [if_pos (by omega), if_neg h]
  | false =>
    show (if (x : Int) < 0 then (-1 : Int) else if (x : Int) = 0 then 0 else 1) = if x = 0 then 0 else 1
    by_cases h : x = 0
    · rw [if_neg (by omega), if_pos (by omega), if_pos h]
    · rw [if_neg (by omega), if_neg (by omega), if_neg h]
theorem rev_isign (n : Bool) (m : ByteArray) (hm : m.size ≤ 67108864) : Ev (fun k => voussoirref02_Sign.f k n m) (sgn (Z n m)) := by
  unfold voussoirref02_Sign.f Z
  rw [sgn_sg]
  refine Ev.bind (rev_norm m hm) ?_
  generalize V m = x
  by_cases h0 : x = 0
  · rw [if_pos h0]
    exact Ev.congr (fun k => if_pos (N_toList_nil.2 h0)) (Ev.now _)
  · rw [if_neg h0]
    refine Ev.congr (fun k => if_neg (fun e => h0 (N_toList_nil.1 e))) ?_
    cases n with
    | true => exact Ev.congr (fun k => if_pos rfl) (Ev.now _)
    | false => exact Ev.congr (fun k => if_neg (by decide)) (Ev.now _)
end Go.Proofs.YtpokflilobkoaaaDoor.IntR
