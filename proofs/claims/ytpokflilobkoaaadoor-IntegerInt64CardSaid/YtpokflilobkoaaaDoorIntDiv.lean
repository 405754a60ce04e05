/- Signed integers: Div, FromInt64, Format; the laws' examples. -/
import Derived.Test.YtpokflilobkoaaaDoorIntA
import Derived.Test.YtpokflilobkoaaaDoorPxIB
import Derived.Test.YtpokflilobkoaaaDoorPxVoussoirlaw02Fixed
namespace Go.Proofs.YtpokflilobkoaaaDoor.IntDiv
open Go Go.RowKit Go.Proofs.YtpokflilobkoaaaDoorW.PrintWords Go.Proofs.YtpokflilobkoaaaDoorW.PrintLast Go.Proofs.YtpokflilobkoaaaDoor.P Go.Proofs.YtpokflilobkoaaaDoor.NatA Go.Proofs.YtpokflilobkoaaaDoor.NatB Go.Proofs.YtpokflilobkoaaaDoor.NatC Go.Proofs.YtpokflilobkoaaaDoor.NatD Go.Proofs.YtpokflilobkoaaaDoor.NatI Go.Proofs.YtpokflilobkoaaaDoor.NatJ Go.Proofs.YtpokflilobkoaaaDoor.IntA

theorem ev_idiv (n1 : Bool) (m1 : ByteArray) (n2 : Bool) (m2 : ByteArray) (h1 : m1.size ≤ 60000) (h2 : m2.size ≤ 60000) : Ev (fun k => integer_Div.f k n1 m1 n2 m2) (idivR (Z n1 m1) (Z n2 m2)) := by
  have s1 := I_size n1 m1 h1
  have s2 := I_size n2 m2 h2
  unfold integer_Div.f
  refine Ev.bind (ev_inorm n1 m1 (by omega)) (Ev.bind (ev_inorm n2 m2 (by omega)) ?_)
  generalize Z n1 m1 = x at *
  generalize Z n2 m2 = y at *
  have d := ev_div (N x.natAbs) (N y.natAbs) (by omega) (by omega)
  rw [V_N, V_N] at d
  unfold divR at d
  unfold idivR
  by_cases hy : y = 0
  · rw [if_pos (by omega)] at d
    rw [if_pos hy]
    exact Ev.bind d (Ev.congr (fun k => if_neg (by decide)) (Ev.now _))
  rw [if_neg (by omega)] at d
  rw [if_neg hy]
  refine Ev.bind d (Ev.congr (fun k => if_pos rfl) ?_)
  have hxs := sg_self x
  have hys := sg_self y
  obtain ⟨a, ha⟩ : ∃ a, a = x.natAbs := ⟨_, rfl⟩
  obtain ⟨b, hb⟩ : ∃ b, b = y.natAbs := ⟨_, rfl⟩
  rw [← ha] at hxs
  rw [← hb] at hys
  have hb0 : 0 < b := by omega
  obtain ⟨q, hq⟩ : ∃ q, q = a / b := ⟨_, rfl⟩
  obtain ⟨r, hr⟩ : ∃ r, r = a % b := ⟨_, rfl⟩
  have hqr : b * q + r = a := by rw [hq, hr]; exact Nat.div_add_mod a b
  have hrl : r < b := by rw [hr]; exact Nat.mod_lt _ hb0
  have hqr' : (a : Int) = (b : Int) * q + r := by rw [← hqr, Int.natCast_add, Int.natCast_mul]
  have hqs : (N q).size ≤ 60000 := Nat.le_trans ((N_size _ (N a).size).2 (Nat.lt_of_le_of_lt (by rw [hq]; exact Nat.div_le_self _ _) ((N_size a _).1 (Nat.le_refl _)))) (by rw [ha]; exact s1)
  have hrs : (N r).size ≤ 60000 := Nat.le_trans ((N_size _ (N b).size).2 (Nat.lt_trans hrl ((N_size b _).1 (Nat.le_refl _)))) (by rw [hb]; exact s2)
  rw [← ha, ← hb, ← hq, ← hr]
  -- the plain way
  have plain : x / y = sg (decide (x < 0) != decide (y < 0)) q → x % y = r → Ev (fun k => integer_Div.j0 k (N q) (N r) false (I x).1 (I x).2 (I y).1 (I y).2) ((I (x / y)).1, (I (x / y)).2, (I (x % y)).1, (I (x % y)).2, true) := fun e1 e2 => by
    refine Ev.step (fun k => by rw [integer_Div.j0, if_neg (by decide), iof, Option.bind_some, iof, Option.bind_some, dec_nn]) ?_
    rw [e1, e2]
    exact Ev.now _
  by_cases hx : x < 0
  · rw [decide_eq_true hx] at hxs
    have hxa : x = -(a : Int) := by rw [← hxs]; rfl
    refine Ev.congr (fun k => if_pos (decide_eq_true hx)) ?_
    show Ev (fun k => integer_Div.j0 k (N q) (N r) ((N r).toList != ([] : List UInt8)) (I x).1 (I x).2 (I y).1 (I y).2) _
    by_cases h0 : r = 0
    · rw [show ((N r).toList != ([] : List UInt8)) = false from by rw [bne_eq_false_iff_eq]; exact N_toList_nil.2 h0]
      have e := ediv_sg (x := x) (q := -(q : Int)) (r := 0) (b := decide (y < 0)) hb0 (by rw [hxa, hqr', h0, Int.mul_neg]; omega) (Int.le_refl _) (by omega)
      rw [hys] at e
      refine plain ?_ (by rw [e.2, h0]; rfl)
      rw [e.1, decide_eq_true hx]
      cases decide (y < 0) <;> simp [sg]
    · rw [show ((N r).toList != ([] : List UInt8)) = true from by rw [bne_iff_ne]; exact fun e => h0 (N_toList_nil.1 e)]
      have e := ediv_sg (x := x) (q := -((q + 1 : Nat) : Int)) (r := ((b - r : Nat) : Int)) (b := decide (y < 0)) hb0 (by rw [hxa, hqr', Int.mul_neg, Int.natCast_add, Int.mul_add]; omega) (by omega) (by omega)
      rw [hys] at e
      have a1 := ev_add (N q) (N 1) (by omega) (Nat.le_trans ((N_size 1 1).2 (by decide)) (by decide))
      have n1 := ev_normalize (I y).2 (Nat.le_trans s2 (by decide))
      have t1 := ev_sub (N b) (N r) (by rw [hb]; omega) (by omega)
      rw [V_N, V_N] at a1 t1
      rw [V_I, ← hb] at n1
      unfold subR at t1
      rw [if_neg (by omega)] at t1
      refine Ev.step (fun k => by rw [integer_Div.j0, if_pos rfl]) ?_
      refine Ev.bind (ev_from 1 (by decide)) (Ev.bind a1 (Ev.bind n1 (Ev.bind t1 (Ev.congr (fun k => by rw [iof, Option.bind_some, iof, Option.bind_some, dec_nn]) ?_))))
      rw [e.1, e.2, show (I x).1 = true from decide_eq_true hx, show (I y).1 = decide (y < 0) from rfl, show (if decide (y < 0) = true then - -((q + 1 : Nat) : Int) else -((q + 1 : Nat) : Int)) = sg (true != decide (y < 0)) (q + 1) by cases decide (y < 0) <;> simp [sg]]
      exact Ev.now _
  · rw [decide_eq_false hx] at hxs
    have hxa : x = (a : Int) := by rw [← hxs]; rfl
    refine Ev.congr (fun k => if_neg (by show ¬ decide (x < 0) = true; rw [decide_eq_false hx]; decide)) ?_
    have e := ediv_sg (x := x) (q := (q : Int)) (r := (r : Int)) (b := decide (y < 0)) hb0 (by rw [hxa, hqr']) (by omega) (by omega)
    rw [hys] at e
    refine plain ?_ e.2
    rw [e.1, decide_eq_false hx]
    cases decide (y < 0) <;> simp [sg]
theorem ev_ifrom (n : Int) (h0 : -9223372036854775808 ≤ n) (h1 : n ≤ 9223372036854775807) : Ev (fun k => integer_FromInt64.f k n) (I n) := by
  unfold integer_FromInt64.f
  by_cases h : n < 0
  · obtain ⟨x, hx⟩ : ∃ x : Nat, -n = x := ⟨(-n).toNat, by omega⟩
    have f := ev_from x (by omega)
    refine Ev.congr (fun k => by rw [if_pos h, w64 (i := n + 1) (by omega) (by omega), w64 (i := -(n + 1)) (by omega) (by omega), wu (n := -(n + 1)) (by omega) (by omega), wu (by omega) (by omega), show -(n + 1) + 1 = (x : Int) by omega]) ?_
    refine Ev.bind f (Ev.congr (fun k => by rw [iof, Option.bind_some, show sg true x = n by unfold sg; rw [if_pos rfl]; omega]) (Ev.now _))
  · obtain ⟨x, hx⟩ := Int.eq_ofNat_of_zero_le (show 0 ≤ n by omega)
    have f := ev_from x (by omega)
    refine Ev.congr (fun k => by rw [if_neg h, wu (by omega) (by omega), hx]) ?_
    refine Ev.bind f (Ev.congr (fun k => by rw [iof, Option.bind_some, show sg false x = n by unfold sg; rw [if_neg (by decide)]; omega]) ?_)
    rw [hx]
    exact Ev.now _
theorem ev_iformat (n : Bool) (m : ByteArray) (hm : m.size ≤ 60000) : Ev (fun k => integer_Format.f k n m) (itext (Z n m)) := by
  have s1 := I_size n m hm
  unfold integer_Format.f itext
  refine Ev.bind (ev_inorm n m (by omega)) ?_
  generalize Z n m = z at *
  have f := ev_format (N z.natAbs) (by omega)
  rw [V_N] at f
  by_cases h : z < 0
  · rw [if_pos h]
    have hd := dec_len s1
    refine Ev.congr (fun k => if_pos (decide_eq_true h)) (Ev.bind f (Ev.congr (fun k => if_pos (by rw [text_size]; omega)) (Ev.now _)))
  · rw [if_neg h]
    exact Ev.congr (fun k => if_neg (by show ¬ decide (z < 0) = true; rw [decide_eq_false h]; decide)) (Ev.bind f (Ev.now _))
theorem ev_fixed : Ev (fun k => voussoirlaw02_fixed.f k) true := by
  have sm : ∀ z : Int, z.natAbs < 256 → (I z).2.size ≤ 1 := fun z h => (N_size _ _).2 (by omega)
  have d1 := ev_idiv (I 7).1 (I 7).2 (I (-2)).1 (I (-2)).2 (Nat.le_trans (sm 7 (by decide)) (by decide)) (Nat.le_trans (sm (-2) (by decide)) (by decide))
  have d2 := ev_idiv (I (-7)).1 (I (-7)).2 (I 2).1 (I 2).2 (Nat.le_trans (sm (-7) (by decide)) (by decide)) (Nat.le_trans (sm 2 (by decide)) (by decide))
  rw [Z_I, Z_I] at d1 d2
  unfold idivR at d1 d2
  rw [if_neg (by decide), show (7 : Int) / -2 = -3 from by decide, show (7 : Int) % -2 = 1 from by decide] at d1
  rw [if_neg (by decide), show (-7 : Int) / 2 = -4 from by decide, show (-7 : Int) % 2 = 1 from by decide] at d2
  have f4 := ev_iformat (I (-4)).1 (I (-4)).2 (Nat.le_trans (sm (-4) (by decide)) (by decide))
  rw [Z_I] at f4
  have t4 : itext (-4) = (⟨#[45, 52]⟩ : ByteArray) := by
    unfold itext text
    rw [if_pos (by decide), show (-4 : Int).natAbs = 4 from rfl, Lib.decDigits_one (by decide)]
    rfl
  rw [t4] at f4
  have fr := fun (n : Int) h0 h1 => ev_ifrom n h0 h1
  unfold voussoirlaw02_fixed.f
  refine Ev.bind (fr 7 (by decide) (by decide)) (Ev.bind (fr (-2) (by decide) (by decide)) (Ev.bind d1 (Ev.bind (fr (-7) (by decide) (by decide)) (Ev.bind (fr 2 (by decide) (by decide)) (Ev.bind d2 ?_)))))
  refine Ev.congr (fun k => by rw [if_pos rfl, if_pos rfl]) ?_
  refine Ev.bind (fr (-3) (by decide) (by decide)) (Ev.congr (fun k => if_pos (beq_I (-3))) ?_)
  refine Ev.bind (fr 1 (by decide) (by decide)) (Ev.congr (fun k => if_pos (beq_I 1)) ?_)
  refine Ev.bind (fr (-4) (by decide) (by decide)) (Ev.congr (fun k => if_pos (beq_I (-4))) ?_)
  refine Ev.bind (fr 1 (by decide) (by decide)) (Ev.congr (fun k => if_pos (beq_I 1)) ?_)
  refine Ev.bind f4 ?_
  rw [Lib.toList_data]
  exact Ev.now _
end Go.Proofs.YtpokflilobkoaaaDoor.IntDiv
