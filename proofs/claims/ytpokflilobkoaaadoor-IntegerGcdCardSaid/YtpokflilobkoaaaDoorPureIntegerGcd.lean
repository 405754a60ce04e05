/- For every three integers the Go function IntegerGcd answers true: Gcd divides its arguments, the quotients are coprime, and neither order nor repetition matters. -/
import Derived.Test.YtpokflilobkoaaaDoorIntL
import Derived.Test.YtpokflilobkoaaaDoorIntDiv
import Derived.Test.YtpokflilobkoaaaDoorIntSgn
import Derived.Test.YtpokflilobkoaaaDoorIntGcd
import Derived.Test.YtpokflilobkoaaaDoorPxVoussoirlaw02IntegerGcd
namespace Go.Proofs.YtpokflilobkoaaaDoor.Pure
open Go.RowKit Go.Proofs.YtpokflilobkoaaaDoor.P Go.Proofs.YtpokflilobkoaaaDoorW.PrintWords Go.Proofs.YtpokflilobkoaaaDoorW.PrintLast Go.Proofs.YtpokflilobkoaaaDoor.NatA Go.Proofs.YtpokflilobkoaaaDoor.NatJ Go.Proofs.YtpokflilobkoaaaDoor.IntA Go.Proofs.YtpokflilobkoaaaDoor.IntL Go.Proofs.YtpokflilobkoaaaDoor.IntDiv Go.Proofs.YtpokflilobkoaaaDoor.IntSgn Go.Proofs.YtpokflilobkoaaaDoor.IntGcd Go.Proofs.YtpokflilobkoaaaDoor.NatC Go.Proofs.YtpokflilobkoaaaDoor.NatD Go.Proofs.YtpokflilobkoaaaDoor.NatI Go.Proofs.YtpokflilobkoaaaDoor.NatB

theorem gcd_perm (x y z : Nat) : Nat.gcd (Nat.gcd (Nat.gcd z x) y) x = Nat.gcd (Nat.gcd x y) z := by
  apply Nat.dvd_antisymm
  · have h1 := Nat.gcd_dvd_left (Nat.gcd (Nat.gcd z x) y) x
    have h2 := Nat.gcd_dvd_right (Nat.gcd (Nat.gcd z x) y) x
    have h3 := Nat.dvd_trans h1 (Nat.gcd_dvd_left (Nat.gcd z x) y)
    have h4 := Nat.dvd_trans h1 (Nat.gcd_dvd_right (Nat.gcd z x) y)
    exact Nat.dvd_gcd (Nat.dvd_gcd h2 h4) (Nat.dvd_trans h3 (Nat.gcd_dvd_left z x))
  · have h1 := Nat.gcd_dvd_left (Nat.gcd x y) z
    have h2 := Nat.gcd_dvd_right (Nat.gcd x y) z
    have h3 := Nat.dvd_trans h1 (Nat.gcd_dvd_left x y)
    have h4 := Nat.dvd_trans h1 (Nat.gcd_dvd_right x y)
    exact Nat.dvd_gcd (Nat.dvd_gcd (Nat.dvd_gcd h2 h3) h4) h3
theorem gcd_quot (x y z : Nat) (h : Nat.gcd (Nat.gcd x y) z ≠ 0) : Nat.gcd (Nat.gcd (x / Nat.gcd (Nat.gcd x y) z) (y / Nat.gcd (Nat.gcd x y) z)) (z / Nat.gcd (Nat.gcd x y) z) = 1 := by
  obtain ⟨g, hg⟩ : ∃ g, g = Nat.gcd (Nat.gcd x y) z := ⟨_, rfl⟩
  have h1 : g ∣ Nat.gcd x y := by rw [hg]; exact Nat.gcd_dvd_left _ _
  have h2 : g ∣ z := by rw [hg]; exact Nat.gcd_dvd_right _ _
  rw [← hg] at h ⊢
  rw [Nat.gcd_div (Nat.dvd_trans h1 (Nat.gcd_dvd_left _ _)) (Nat.dvd_trans h1 (Nat.gcd_dvd_right _ _)), Nat.gcd_div h1 h2, ← hg]
  exact Nat.div_self (by omega)
theorem div_exact {z : Int} {g : Nat} (h : g ∣ z.natAbs) : z % (g : Int) = 0 ∧ (z / (g : Int)).natAbs = z.natAbs / g := by
  have h1 : (g : Int) ∣ z := Int.natAbs_dvd_natAbs.1 (by rw [Int.natAbs_natCast]; exact h)
  refine ⟨Int.emod_eq_zero_of_dvd h1, ?_⟩
  rw [Int.natAbs_ediv_of_dvd h1, Int.natAbs_natCast]
theorem IntegerGcd (n1 : Bool) (m1 : ByteArray) (n2 : Bool) (m2 : ByteArray) (n3 : Bool) (m3 : ByteArray) : ∃ k, voussoirlaw02_IntegerGcd.f k n1 m1 n2 m2 n3 m3 = some true := by
  refine Ev.rounds (g := fun k => voussoirlaw02_IntegerGcd.f k n1 m1 n2 m2 n3 m3) ?_
  have yes : Ev (fun k => voussoirlaw02_IntegerGcd.j0 k true n1 m1 n2 m2 n3 m3) true := Ev.step (fun k => by rw [voussoirlaw02_IntegerGcd.j0, if_pos rfl]) (Ev.bind ev_fixed (Ev.now _))
  by_cases h1 : (m1.size : Int) > 20
  · exact Ev.congr (fun k => if_pos h1) yes
  refine Ev.congr (fun k => if_neg h1) ?_
  by_cases h2 : (m2.size : Int) > 20
  · exact Ev.congr (fun k => if_pos h2) yes
  refine Ev.congr (fun k => if_neg h2) ?_
  by_cases h3 : (m3.size : Int) > 20
  · rw [decide_eq_true h3]
    exact yes
  rw [decide_eq_false h3]
  have s1 : m1.size ≤ 20 := by omega
  have s2 : m2.size ≤ 20 := by omega
  have s3 : m3.size ≤ 20 := by omega
  clear h1 h2 h3 yes
  obtain ⟨g, hg⟩ : ∃ g, g = Nat.gcd (Nat.gcd (V m1) (V m2)) (V m3) := ⟨_, rfl⟩
  have g1 := ev_igcd [(⟨n1, m1⟩ : S36), (⟨n2, m2⟩ : S36), (⟨n3, m3⟩ : S36)] (by simp) (fun s hs => by
    simp only [List.mem_cons, List.not_mem_nil, or_false] at hs
    rcases hs with rfl | rfl | rfl <;> dsimp only <;> omega)
  have g2 := ev_igcd [(⟨n3, m3⟩ : S36), (⟨n1, m1⟩ : S36), (⟨n2, m2⟩ : S36), (⟨n1, m1⟩ : S36)] (by simp) (fun s hs => by
    simp only [List.mem_cons, List.not_mem_nil, or_false] at hs
    rcases hs with rfl | rfl | rfl | rfl <;> dsimp only <;> omega)
  simp only [gl_cons, gl_nil, Nat.gcd_zero_left] at g1 g2
  rw [gcd_perm] at g2
  rw [← hg] at g1 g2
  have d1 : g ∣ V m1 := by rw [hg]; exact Nat.dvd_trans (Nat.gcd_dvd_left _ _) (Nat.gcd_dvd_left _ _)
  have d2 : g ∣ V m2 := by rw [hg]; exact Nat.dvd_trans (Nat.gcd_dvd_left _ _) (Nat.gcd_dvd_right _ _)
  have d3 : g ∣ V m3 := by rw [hg]; exact Nat.gcd_dvd_right _ _
  have sg : (I (g : Int)).2.size ≤ 20 := by
    show (NatA.N (g : Int).natAbs).size ≤ 20
    rw [Int.natAbs_natCast, hg]
    refine gcd_size ?_ s3
    have := gcd_size (x := V m1) (m := m2) (s := 20) (N_small s1) s2
    exact this
  have sn := ev_isign (I (g : Int)).1 (I (g : Int)).2 (by omega)
  rw [Z_I] at sn
  refine Ev.step (fun k => by rw [voussoirlaw02_IntegerGcd.j0, if_neg (by decide)]) ?_
  refine Ev.bind g1 (Ev.bind g2 ?_)
  refine Ev.congr (fun k => if_neg (by rw [beq_self_eq_true, beq_self_eq_true]; decide)) (Ev.bind sn ?_)
  rw [decide_eq_false (fun e => by have := sgn_lt.1 e; omega)]
  refine Ev.step (fun k => by rw [voussoirlaw02_IntegerGcd.j1, if_neg (by decide)]) (Ev.bind sn ?_)
  by_cases h0 : g = 0
  · have z1 : V m1 = 0 := Nat.eq_zero_of_zero_dvd (by rw [h0] at d1; exact d1)
    have z2 : V m2 = 0 := Nat.eq_zero_of_zero_dvd (by rw [h0] at d2; exact d2)
    have z3 : V m3 = 0 := Nat.eq_zero_of_zero_dvd (by rw [h0] at d3; exact d3)
    have q : ∀ (n : Bool) (m : ByteArray), m.size ≤ 20 → V m = 0 → Ev (fun k => integer_Sign.f k n m) 0 := fun n m hs hm => by
      have := ev_isign n m (by omega)
      rw [sgn_zero.2 (by have := natAbs_Z n m; omega)] at this
      exact this
    refine Ev.congr (fun k => if_pos (sgn_zero.2 (by omega))) (Ev.bind ev_fixed (Ev.congr (fun k => if_pos rfl) ?_))
    exact Ev.bind (q n1 m1 s1 z1) (Ev.bind (q n2 m2 s2 z2) (Ev.bind (q n3 m3 s3 z3) (Ev.now _)))
  refine Ev.congr (fun k => if_neg (fun e => h0 (by have := sgn_zero.1 e; omega))) ?_
  refine Ev.congr (fun k => Option.bind_some _ _) ?_
  have hz : (g : Int) ≠ 0 := by omega
  have dv : ∀ (n : Bool) (m : ByteArray), m.size ≤ 20 → g ∣ V m → Ev (fun k => integer_Div.f k n m (I (g : Int)).1 (I (g : Int)).2) ((I (Z n m / (g : Int))).1, (I (Z n m / (g : Int))).2, (I 0).1, (I 0).2, true) ∧ (I (Z n m / (g : Int))).2.size ≤ 20 ∧ V (I (Z n m / (g : Int))).2 = V m / g := fun n m hs hd => by
    have h := ev_idiv n m (I (g : Int)).1 (I (g : Int)).2 (by omega) (by omega)
    have e := div_exact (z := Z n m) (g := g) (by rw [natAbs_Z]; exact hd)
    rw [Z_I] at h
    unfold idivR at h
    rw [if_neg hz, e.1] at h
    rw [natAbs_Z] at e
    refine ⟨h, ?_, by rw [V_I]; exact e.2⟩
    show (NatA.N (Z n m / (g : Int)).natAbs).size ≤ 20
    rw [e.2]
    exact Nat.le_trans (N_size_V (Nat.div_le_self _ _)) hs
  have s0 : Ev (fun k => integer_Sign.f k (I 0).1 (I 0).2) 0 := by
    have := ev_isign (I 0).1 (I 0).2 (by rw [show (I 0).2 = NatA.N 0 from rfl, N_zero]; decide)
    rw [Z_I] at this
    exact this
  obtain ⟨e1, t1, v1⟩ := dv n1 m1 s1 d1
  obtain ⟨e2, t2, v2⟩ := dv n2 m2 s2 d2
  obtain ⟨e3, t3, v3⟩ := dv n3 m3 s3 d3
  have one (l : List S36) (h : gl 0 l = 1) (hl : l.length ≤ 1000000) (hs : ∀ s ∈ l, s.f1.size ≤ 67108864) : Ev (fun k => integer_Gcd.f k l) (I 1) := by
    have := ev_igcd l hl hs
    rw [h] at this
    exact this
  have r1 : rd_T36 [(⟨n1, m1⟩ : S36), (⟨n2, m2⟩ : S36), (⟨n3, m3⟩ : S36)] 0 = ⟨n1, m1⟩ := rfl
  have r2 : rd_T36 [(⟨n1, m1⟩ : S36), (⟨n2, m2⟩ : S36), (⟨n3, m3⟩ : S36)] 1 = ⟨n2, m2⟩ := rfl
  have r3 : rd_T36 [(⟨n1, m1⟩ : S36), (⟨n2, m2⟩ : S36), (⟨n3, m3⟩ : S36)] 2 = ⟨n3, m3⟩ := rfl
  have len : (([(⟨n1, m1⟩ : S36), (⟨n2, m2⟩ : S36), (⟨n3, m3⟩ : S36)] : List S36).length : Int) = 3 := rfl
  rw [len]
  refine Ev.step (fun k => by rw [voussoirlaw02_IntegerGcd.l0, if_pos (by decide), if_pos (by decide), if_pos (by rw [len]; decide), r1, w64 (i := 0 + 1) (by decide) (by decide), show (0 : Int) + 1 = 1 from rfl]) ?_
  refine Ev.bind e1 (Ev.congr (fun k => if_pos rfl) (Ev.bind s0 (Ev.congr (fun k => by rw [if_pos rfl, if_pos (show ([] : List S36).length < 5864062014805 from by decide)]) ?_)))
  refine Ev.step (fun k => by rw [voussoirlaw02_IntegerGcd.l0, if_pos (by decide), if_pos (by decide), if_pos (by rw [len]; decide), r2, w64 (i := 1 + 1) (by decide) (by decide), show (1 : Int) + 1 = 2 from rfl]) ?_
  refine Ev.bind e2 (Ev.congr (fun k => if_pos rfl) (Ev.bind s0 (Ev.congr (fun k => by rw [if_pos rfl, if_pos (by simp)]) ?_)))
  refine Ev.step (fun k => by rw [voussoirlaw02_IntegerGcd.l0, if_pos (by decide), if_pos (by decide), if_pos (by rw [len]; decide), r3, w64 (i := 2 + 1) (by decide) (by decide), show (2 : Int) + 1 = 3 from rfl]) ?_
  refine Ev.bind e3 (Ev.congr (fun k => if_pos rfl) (Ev.bind s0 (Ev.congr (fun k => by rw [if_pos rfl, if_pos (by simp)]) ?_)))
  refine Ev.step (fun k => by rw [voussoirlaw02_IntegerGcd.l0, if_neg (by decide)]) ?_
  refine Ev.bind ev_fixed (Ev.congr (fun k => if_pos rfl) ?_)
  refine Ev.bind (one _ ?_ ?_ ?_) (Ev.bind (ev_ifrom 1 (by decide) (by decide)) ?_)
  · simp only [List.nil_append, List.cons_append, gl_cons, gl_nil, Nat.gcd_zero_left]
    rw [v1, v2, v3, hg]
    exact gcd_quot _ _ _ (by rw [← hg]; exact h0)
  · simp
  · intro s hs
    simp only [List.nil_append, List.cons_append, List.mem_cons, List.not_mem_nil, or_false] at hs
    rcases hs with rfl | rfl | rfl <;> dsimp only <;> omega
  · rw [beq_I]
    exact Ev.now _
end Go.Proofs.YtpokflilobkoaaaDoor.Pure
