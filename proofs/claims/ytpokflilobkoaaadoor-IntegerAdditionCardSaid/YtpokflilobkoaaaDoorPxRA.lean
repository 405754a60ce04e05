/- Out of what mp.py printed for this seat (squeeze.py, repack.py). Not trusted: Lean checks it. -/
import Derived.Test.YtpokflilobkoaaaDoorPx0
import Derived.Test.YtpokflilobkoaaaDoorXQ
-- squeezed twice
namespace Go.Proofs.YtpokflilobkoaaaDoor.P
open Go.RowKit Go.Proofs.YtpokflilobkoaaaDoorW.PrintWords Go.Proofs.YtpokflilobkoaaaDoorW.PrintLast Go.Proofs.YtpokflilobkoaaaDoorW.PrintMore
attribute [local go_sem] max2_int min2_int max_two min_two max_three min_three max_four min_four   -- for this text's walks alone
attribute [local go_sem] XW.cell_twice   -- for this text's walks alone
set_option linter.unusedVariables false
set_option linter.unusedSimpArgs false

/-! ### voussoirref01_Norm: function 31 -/
def voussoirref01_Norm.l0 : Nat → ByteArray → Int → Option (ByteArray)
 | 0, _, _ => none
 | k + 1, x0, x3 => if x3 > 0 then (if 0 ≤ (wrap64 (x3 - 1)) then (if (wrap64 (x3 - 1)) < (x0.size : Int) then (if (bt x0 (wrap64 (x3 - 1))) = 0 then (voussoirref01_Norm.l0 k x0 (wrap64 (x3 - 1))) else (if 0 ≤ x3 then (if x3 ≤ (x0.size : Int) then (some (x0.extract 0 (x3 : Int).toNat)) else (none)) else (none))) else (none)) else (none)) else (if 0 ≤ x3 then (if x3 ≤ (x0.size : Int) then (some (x0.extract 0 (x3 : Int).toNat)) else (none)) else (none))
def voussoirref01_Norm.f (k : Nat) (a0 : ByteArray) : Option (ByteArray) := voussoirref01_Norm.l0 k a0 (a0.size : Int)
theorem voussoirref01_Norm.mono_l : ∀ k, (∀ y0 y1, LeO (voussoirref01_Norm.l0 k y0 y1) (voussoirref01_Norm.l0 (k + 1) y0 y1))
 | 0 => fun _ _ r h => by simp [voussoirref01_Norm.l0] at h
 | k + 1 => by
  have ih0 := voussoirref01_Norm.mono_l k
  ·intro y0 y1
   unfold voussoirref01_Norm.l0
   repeat' first
   | (with_reducible exact ih0 _ _)
   | (with_reducible exact LeO.refl _)
   | (with_reducible exact LeO.none _)
   | (with_reducible refine LeO.ite ?_ ?_)
   | (with_reducible refine LeO.bind ?_ (fun _ => ?_))
   | exact ih0 _ _
   | exact LeO.none _
   | refine LeO.ite ?_ ?_
   | refine LeO.bind ?_ (fun _ => ?_)
theorem voussoirref01_Norm.mono : ∀ a0 k, LeO (voussoirref01_Norm.f k a0) (voussoirref01_Norm.f (k + 1) a0) := by
 intro a0 k
 have ih0 := voussoirref01_Norm.mono_l k
 unfold voussoirref01_Norm.f
 repeat' first
   | (with_reducible exact ih0 _ _)
   | (with_reducible exact LeO.refl _)
   | (with_reducible exact LeO.none _)
   | (with_reducible refine LeO.ite ?_ ?_)
   | (with_reducible refine LeO.bind ?_ (fun _ => ?_))
   | exact ih0 _ _
   | exact LeO.none _
   | refine LeO.ite ?_ ?_
   | refine LeO.bind ?_ (fun _ => ?_)
set_option maxHeartbeats 8000000 in
set_option maxRecDepth 100000 in
theorem voussoirref01_Norm.calls (k : Nat) (a0 : ByteArray) (r : ByteArray) (w : World) (h : voussoirref01_Norm.f k a0 = some r) :
  Calls Tryd.prog 31 #[.string a0] w fun e w' => e = .returned (.string r) ∧ Drawn0 w w' := by
 have H : (voussoirref01_Norm.l0 k a0 (a0.size : Int)) = some r := h
 clear h
 have H' := Q.a H
 clear H
 go_enter Tryd.func31, Tryd.ntmps31
 go_wp2
 go_loopg [3] k (fun kq v3 w' => ∃ (x3_1 : Int), v3 = .int .i64 x3_1 ∧ Aside0 (voussoirref01_Norm.l0 kq a0 x3_1 = some r) ∧ Aside0 (kq ≤ k) ∧ Drawn0 w w')
 case atStart => exact ⟨((a0.size : Int)), Q.rs, H', ⟨Nat.le_refl _⟩, by repeat (first | exact Drawn0.refl _ | apply Drawn0.step)⟩
 case round =>
  clear H'
  obtain ⟨x3_1, rfl, HA, HK1, ⟨m1, rfl⟩⟩ := hrel
  cases gk with
  | zero => exact absurd HA.out (by simp [voussoirref01_Norm.l0])
  | succ k1 =>
   have H := HA.out
   clear HA
   simp only [voussoirref01_Norm.l0] at H
   by_cases c2 : x3_1 > 0
   ·rw [if_pos c2] at H
    have c2b0 : decide (0 < x3_1) = true := decide_eq_true c2
    clear c2
    obtain ⟨ji3, hji3⟩ : ∃ j_ : Int, (wrap64 (x3_1 - 1)) = j_ := ⟨_, rfl⟩
    replace H : (if 0 ≤ (ji3) then (if (ji3) < (a0.size : Int) then (if (bt a0 (ji3)) = 0 then (voussoirref01_Norm.l0 k1 a0 ji3) else (if 0 ≤ x3_1 then (if x3_1 ≤ (a0.size : Int) then (some (a0.extract 0 (x3_1 : Int).toNat)) else (none)) else (none))) else (none)) else (none)) = some r := by first | (rw [hji3] at H; exact H) | (simp only [hji3] at H ⊢; exact H)
    have hji3w : (IntKind.i64.wrap (x3_1 - 1)) = ji3 := (i64_w _).trans hji3
    by_cases c4 : 0 ≤ (ji3)
    ·rw [if_pos c4] at H
     have c4b0 : decide (0 ≤ (ji3)) = true := decide_eq_true c4
     clear c4
     by_cases c5 : (ji3) < (a0.size : Int)
     ·rw [if_pos c5] at H
      have c5b0 : decide ((ji3) < (a0.size : Int)) = true := decide_eq_true c5
      clear c5
      by_cases c7 : (bt a0 (ji3)) = 0
      ·rw [if_pos c7] at H
       have c7b0 : ((bt a0 (ji3)) == 0) = true := beq_iff_eq.mpr c7
       have c7b1 : ((bt a0 (ji3)) != 0) = false := bne_eq_false_iff_eq.mpr c7
       clear c7
       have H' := Q.a H
       clear H
       have p6 : 0 ≤ ((ji3) : Int) := of_decide_eq_true (by first | (with_reducible assumption) | assumption)
       have q6 : (ji3) < (a0.size : Int) := of_decide_eq_true (by first | (with_reducible assumption) | assumption)
       have hx6 := bt_at a0 (ji3)
       replace p6 := eq_true p6
       replace q6 := eq_true q6
       go_wp2
       go_roundg k1
       case measure => have := HK1.out; omega
       case rel => exact ⟨(ji3), (by first | rfl | (simp; done) | (simp only [← hji3] <;> (first | rfl | simp)) | (simp [*]; done)), H', ⟨by have := HK1.out; omega⟩, by repeat (first | exact Drawn0.refl _ | apply Drawn0.step)⟩
      ·rw [if_neg c7] at H
       have c7b0 : ((bt a0 (ji3)) == 0) = false := beq_eq_false_iff_ne.mpr c7
       have c7b1 : ((bt a0 (ji3)) != 0) = true := bne_iff_ne.mpr c7
       by_cases c8 : 0 ≤ x3_1
       ·rw [if_pos c8] at H
        have c8b0 := eq_true c8
        have c8b1 : decide (0 ≤ x3_1) = true := decide_eq_true c8
        clear c8
        by_cases c9 : x3_1 ≤ (a0.size : Int)
        ·rw [if_pos c9] at H
         have c9b0 := eq_true c9
         have c9b1 : decide (x3_1 ≤ (a0.size : Int)) = true := decide_eq_true c9
         clear c9
         obtain rfl := Option.some.inj H
         have p6 : 0 ≤ ((ji3) : Int) := of_decide_eq_true (by first | (with_reducible assumption) | assumption)
         have q6 : (ji3) < (a0.size : Int) := of_decide_eq_true (by first | (with_reducible assumption) | assumption)
         have hx6 := bt_at a0 (ji3)
         replace p6 := eq_true p6
         replace q6 := eq_true q6
         go_wp2
         go_ret
         exact ⟨by first | rfl | (simp; done) | (simp only [← hji3] <;> (first | rfl | simp)) | (simp [*]; done), by repeat (first | exact Drawn0.refl _ | apply Drawn0.step)⟩
        ·rw [if_neg c9] at H
         exact absurd H (by simp)
       ·rw [if_neg c8] at H
        exact absurd H (by simp)
     ·rw [if_neg c5] at H
      exact absurd H (by simp)
    ·rw [if_neg c4] at H
     exact absurd H (by simp)
   ·rw [if_neg c2] at H
    have c2b0 : decide (0 < x3_1) = false := decide_eq_false c2
    clear c2
    by_cases c10 : 0 ≤ x3_1
    ·rw [if_pos c10] at H
     have c10b0 := eq_true c10
     have c10b1 : decide (0 ≤ x3_1) = true := decide_eq_true c10
     clear c10
     by_cases c11 : x3_1 ≤ (a0.size : Int)
     ·rw [if_pos c11] at H
      have c11b0 := eq_true c11
      have c11b1 : decide (x3_1 ≤ (a0.size : Int)) = true := decide_eq_true c11
      clear c11
      obtain rfl := Option.some.inj H
      go_wp2
      go_ret
      exact ⟨by first | rfl | (simp; done) | (simp [*]; done), by repeat (first | exact Drawn0.refl _ | apply Drawn0.step)⟩
     ·rw [if_neg c11] at H
      exact absurd H (by simp)
    ·rw [if_neg c10] at H
     exact absurd H (by simp)

/-! ### voussoirref01_Cmp: function 32 -/
def voussoirref01_Cmp.l0 : Nat → ByteArray → ByteArray → Int → Option (Int)
 | 0, _, _, _ => none
 | k + 1, x5, x6, x7 => if x7 ≥ 0 then (if 0 ≤ x7 then (if x7 < (x5.size : Int) then (if x7 < (x6.size : Int) then (if (bt x5 x7) < (bt x6 x7) then (some (-1)) else (if (bt x5 x7) > (bt x6 x7) then (some 1) else (voussoirref01_Cmp.l0 k x5 x6 (wrap64 (x7 - 1))))) else (none)) else (none)) else (none)) else (some 0)
def voussoirref01_Cmp.f (k : Nat) (a0 : ByteArray) (a1 : ByteArray) : Option (Int) := (voussoirref01_Norm.f k a0).bind fun t271 => ((voussoirref01_Norm.f k a1).bind fun t272 => (if (t271.size : Int) < (t272.size : Int) then (some (-1)) else (if (t271.size : Int) > (t272.size : Int) then (some 1) else (voussoirref01_Cmp.l0 k t271 t272 (wrap64 ((t271.size : Int) - 1))))))
theorem voussoirref01_Cmp.mono_l : ∀ k, (∀ y0 y1 y2, LeO (voussoirref01_Cmp.l0 k y0 y1 y2) (voussoirref01_Cmp.l0 (k + 1) y0 y1 y2))
 | 0 => fun _ _ _ r h => by simp [voussoirref01_Cmp.l0] at h
 | k + 1 => by
  have ih0 := voussoirref01_Cmp.mono_l k
  ·intro y0 y1 y2
   unfold voussoirref01_Cmp.l0
   repeat' first
   | (with_reducible exact ih0 _ _ _)
   | (with_reducible exact voussoirref01_Norm.mono _ _)
   | (with_reducible exact LeO.refl _)
   | (with_reducible exact LeO.none _)
   | (with_reducible refine LeO.ite ?_ ?_)
   | (with_reducible refine LeO.bind ?_ (fun _ => ?_))
   | exact ih0 _ _ _
   | exact voussoirref01_Norm.mono _ _
   | exact LeO.none _
   | refine LeO.ite ?_ ?_
   | refine LeO.bind ?_ (fun _ => ?_)
theorem voussoirref01_Cmp.mono : ∀ a0 a1 k, LeO (voussoirref01_Cmp.f k a0 a1) (voussoirref01_Cmp.f (k + 1) a0 a1) := by
 intro a0 a1 k
 have ih0 := voussoirref01_Cmp.mono_l k
 unfold voussoirref01_Cmp.f
 repeat' first
   | (with_reducible exact ih0 _ _ _)
   | (with_reducible exact voussoirref01_Norm.mono _ _)
   | (with_reducible exact LeO.refl _)
   | (with_reducible exact LeO.none _)
   | (with_reducible refine LeO.ite ?_ ?_)
   | (with_reducible refine LeO.bind ?_ (fun _ => ?_))
   | exact ih0 _ _ _
   | exact voussoirref01_Norm.mono _ _
   | exact LeO.none _
   | refine LeO.ite ?_ ?_
   | refine LeO.bind ?_ (fun _ => ?_)
set_option maxHeartbeats 8000000 in
set_option maxRecDepth 100000 in
theorem voussoirref01_Cmp.calls (k : Nat) (a0 : ByteArray) (a1 : ByteArray) (r : Int) (w : World) (h : voussoirref01_Cmp.f k a0 a1 = some r) :
  Calls Tryd.prog 32 #[.string a0, .string a1] w fun e w' => e = .returned (.int .i64 r) ∧ Drawn0 w w' := by
 have H : ((voussoirref01_Norm.f k a0).bind fun t271 => ((voussoirref01_Norm.f k a1).bind fun t272 => (if (t271.size : Int) < (t272.size : Int) then (some (-1)) else (if (t271.size : Int) > (t272.size : Int) then (some 1) else (voussoirref01_Cmp.l0 k t271 t272 (wrap64 ((t271.size : Int) - 1))))))) = some r := h
 clear h
 replace H := Option.bind_eq_some_iff.mp H
 obtain ⟨t271, A30, H⟩ := H
 try dsimp only at H
 have A3 := Q.a A30
 clear A30
 replace H := Option.bind_eq_some_iff.mp H
 obtain ⟨t272, A40, H⟩ := H
 try dsimp only at H
 have A4 := Q.a A40
 clear A40
 by_cases c5 : (t271.size : Int) < (t272.size : Int)
 ·rw [if_pos c5] at H
  have c5b0 : decide ((t271.size : Int) < (t272.size : Int)) = true := decide_eq_true c5
  have c5b1 : decide (t271.size < t272.size) = true := decide_eq_true (Int.ofNat_lt.mp c5)
  clear c5
  obtain rfl := Option.some.inj H
  go_enter Tryd.func32, Tryd.ntmps32
  go_wp2_with (first | (go_at_call 31; (with_reducible refine (voussoirref01_Norm.calls k a0 t271 _ A3.out).mono ?_); rintro e w' ⟨rfl, ⟨nd, rfl⟩⟩; (try exact Q.dd)) | (go_at_call 31; (with_reducible refine (voussoirref01_Norm.calls k a1 t272 _ A4.out).mono ?_); rintro e w' ⟨rfl, ⟨nd, rfl⟩⟩; (try exact Q.dd)))
  repeat (go_quiet (first | (go_at_call 31; (with_reducible refine (voussoirref01_Norm.calls k a0 t271 _ A3.out).mono ?_); rintro e w' ⟨rfl, ⟨nd, rfl⟩⟩; (try exact Q.dd)) | (go_at_call 31; (with_reducible refine (voussoirref01_Norm.calls k a1 t272 _ A4.out).mono ?_); rintro e w' ⟨rfl, ⟨nd, rfl⟩⟩; (try exact Q.dd))); try go_wp2_with (first | (go_at_call 31; (with_reducible refine (voussoirref01_Norm.calls k a0 t271 _ A3.out).mono ?_); rintro e w' ⟨rfl, ⟨nd, rfl⟩⟩; (try exact Q.dd)) | (go_at_call 31; (with_reducible refine (voussoirref01_Norm.calls k a1 t272 _ A4.out).mono ?_); rintro e w' ⟨rfl, ⟨nd, rfl⟩⟩; (try exact Q.dd))))
  go_ret
  exact ⟨by first | rfl | (simp; done) | (simp [*]; done), by repeat (first | exact Drawn0.refl _ | apply Drawn0.step)⟩
 ·rw [if_neg c5] at H
  have c5b0 : decide ((t271.size : Int) < (t272.size : Int)) = false := decide_eq_false c5
  have c5b1 : decide (t271.size < t272.size) = false := decide_eq_false (fun h => c5 (Int.ofNat_lt.mpr h))
  clear c5
  by_cases c6 : (t271.size : Int) > (t272.size : Int)
  ·rw [if_pos c6] at H
   have c6b0 : decide ((t272.size : Int) < (t271.size : Int)) = true := decide_eq_true c6
   have c6b1 : decide (t272.size < t271.size) = true := decide_eq_true (Int.ofNat_lt.mp c6)
   clear c6
   obtain rfl := Option.some.inj H
   go_enter Tryd.func32, Tryd.ntmps32
   go_wp2_with (first | (go_at_call 31; (with_reducible refine (voussoirref01_Norm.calls k a0 t271 _ A3.out).mono ?_); rintro e w' ⟨rfl, ⟨nd, rfl⟩⟩; (try exact Q.dd)) | (go_at_call 31; (with_reducible refine (voussoirref01_Norm.calls k a1 t272 _ A4.out).mono ?_); rintro e w' ⟨rfl, ⟨nd, rfl⟩⟩; (try exact Q.dd)))
   repeat (go_quiet (first | (go_at_call 31; (with_reducible refine (voussoirref01_Norm.calls k a0 t271 _ A3.out).mono ?_); rintro e w' ⟨rfl, ⟨nd, rfl⟩⟩; (try exact Q.dd)) | (go_at_call 31; (with_reducible refine (voussoirref01_Norm.calls k a1 t272 _ A4.out).mono ?_); rintro e w' ⟨rfl, ⟨nd, rfl⟩⟩; (try exact Q.dd))); try go_wp2_with (first | (go_at_call 31; (with_reducible refine (voussoirref01_Norm.calls k a0 t271 _ A3.out).mono ?_); rintro e w' ⟨rfl, ⟨nd, rfl⟩⟩; (try exact Q.dd)) | (go_at_call 31; (with_reducible refine (voussoirref01_Norm.calls k a1 t272 _ A4.out).mono ?_); rintro e w' ⟨rfl, ⟨nd, rfl⟩⟩; (try exact Q.dd))))
   go_ret
   exact ⟨by first | rfl | (simp; done) | (simp [*]; done), by repeat (first | exact Drawn0.refl _ | apply Drawn0.step)⟩
  ·rw [if_neg c6] at H
   have c6b0 : decide ((t272.size : Int) < (t271.size : Int)) = false := decide_eq_false c6
   have c6b1 : decide (t272.size < t271.size) = false := decide_eq_false (fun h => c6 (Int.ofNat_lt.mpr h))
   clear c6
   have H' := Q.a H
   clear H
   go_enter Tryd.func32, Tryd.ntmps32
   go_wp2_with (first | (go_at_call 31; (with_reducible refine (voussoirref01_Norm.calls k a0 t271 _ A3.out).mono ?_); rintro e w' ⟨rfl, ⟨nd, rfl⟩⟩; (try exact Q.dd)) | (go_at_call 31; (with_reducible refine (voussoirref01_Norm.calls k a1 t272 _ A4.out).mono ?_); rintro e w' ⟨rfl, ⟨nd, rfl⟩⟩; (try exact Q.dd)))
   repeat (go_quiet (first | (go_at_call 31; (with_reducible refine (voussoirref01_Norm.calls k a0 t271 _ A3.out).mono ?_); rintro e w' ⟨rfl, ⟨nd, rfl⟩⟩; (try exact Q.dd)) | (go_at_call 31; (with_reducible refine (voussoirref01_Norm.calls k a1 t272 _ A4.out).mono ?_); rintro e w' ⟨rfl, ⟨nd, rfl⟩⟩; (try exact Q.dd))); try go_wp2_with (first | (go_at_call 31; (with_reducible refine (voussoirref01_Norm.calls k a0 t271 _ A3.out).mono ?_); rintro e w' ⟨rfl, ⟨nd, rfl⟩⟩; (try exact Q.dd)) | (go_at_call 31; (with_reducible refine (voussoirref01_Norm.calls k a1 t272 _ A4.out).mono ?_); rintro e w' ⟨rfl, ⟨nd, rfl⟩⟩; (try exact Q.dd))))
   go_loopg [7] k (fun kq v7 w' => ∃ (x7_1 : Int), v7 = .int .i64 x7_1 ∧ Aside0 (voussoirref01_Cmp.l0 kq t271 t272 x7_1 = some r) ∧ Aside0 (kq ≤ k) ∧ Drawn0 w w')
   case atStart => exact ⟨(wrap64 ((t271.size : Int) - 1)), Q.rs, H', ⟨Nat.le_refl _⟩, by repeat (first | exact Drawn0.refl _ | apply Drawn0.step)⟩
   case round =>
    clear H'
    try clear p2
    try clear c3
    try clear c5
    try clear c5b0
    try clear c5b1
    try clear c6
    try clear c6b0
    try clear c6b1
    try clear p6
    obtain ⟨x7_1, rfl, HA, HK1, ⟨m1, rfl⟩⟩ := hrel
    cases gk with
    | zero => exact absurd HA.out (by simp [voussoirref01_Cmp.l0])
    | succ k1 =>
     have H := HA.out
     clear HA
     simp only [voussoirref01_Cmp.l0] at H
     by_cases c7 : x7_1 ≥ 0
     ·rw [if_pos c7] at H
      have c7b0 : decide (0 ≤ x7_1) = true := decide_eq_true c7
      clear c7
      by_cases c8 : 0 ≤ x7_1
      ·rw [if_pos c8] at H
       have c8b0 : decide (0 ≤ x7_1) = true := decide_eq_true c8
       clear c8
       by_cases c9 : x7_1 < (t271.size : Int)
       ·rw [if_pos c9] at H
        have c9b0 : decide (x7_1 < (t271.size : Int)) = true := decide_eq_true c9
        clear c9
        by_cases c11 : x7_1 < (t272.size : Int)
        ·rw [if_pos c11] at H
         have c11b0 : decide (x7_1 < (t272.size : Int)) = true := decide_eq_true c11
         clear c11
         by_cases c13 : (bt t271 x7_1) < (bt t272 x7_1)
         ·rw [if_pos c13] at H
          have c13b0 : decide ((bt t271 x7_1) < (bt t272 x7_1)) = true := decide_eq_true c13
          clear c13
          obtain rfl := Option.some.inj H
          have p10 : 0 ≤ (x7_1 : Int) := of_decide_eq_true (by first | (with_reducible assumption) | assumption)
          have q10 : x7_1 < (t271.size : Int) := of_decide_eq_true (by first | (with_reducible assumption) | assumption)
          have hx10 := bt_at t271 x7_1
          replace p10 := eq_true p10
          replace q10 := eq_true q10
          have p12 : 0 ≤ (x7_1 : Int) := of_decide_eq_true (by first | (with_reducible assumption) | assumption)
          have q12 : x7_1 < (t272.size : Int) := of_decide_eq_true (by first | (with_reducible assumption) | assumption)
          have hx12 := bt_at t272 x7_1
          replace p12 := eq_true p12
          replace q12 := eq_true q12
          go_wp2
          repeat (go_quiet (fail); try go_wp2)
          go_ret
          exact ⟨by first | rfl | (simp; done) | (simp [*]; done), by repeat (first | exact Drawn0.refl _ | apply Drawn0.step)⟩
         ·rw [if_neg c13] at H
          have c13b0 : decide ((bt t271 x7_1) < (bt t272 x7_1)) = false := decide_eq_false c13
          clear c13
          by_cases c16 : (bt t271 x7_1) > (bt t272 x7_1)
          ·rw [if_pos c16] at H
           have c16b0 : decide ((bt t272 x7_1) < (bt t271 x7_1)) = true := decide_eq_true c16
           clear c16
           obtain rfl := Option.some.inj H
           have p10 : 0 ≤ (x7_1 : Int) := of_decide_eq_true (by first | (with_reducible assumption) | assumption)
           have q10 : x7_1 < (t271.size : Int) := of_decide_eq_true (by first | (with_reducible assumption) | assumption)
           have hx10 := bt_at t271 x7_1
           replace p10 := eq_true p10
           replace q10 := eq_true q10
           have p12 : 0 ≤ (x7_1 : Int) := of_decide_eq_true (by first | (with_reducible assumption) | assumption)
           have q12 : x7_1 < (t272.size : Int) := of_decide_eq_true (by first | (with_reducible assumption) | assumption)
           have hx12 := bt_at t272 x7_1
           replace p12 := eq_true p12
           replace q12 := eq_true q12
           have p14 : 0 ≤ (x7_1 : Int) := of_decide_eq_true (by first | (with_reducible assumption) | assumption)
           have q14 : x7_1 < (t271.size : Int) := of_decide_eq_true (by first | (with_reducible assumption) | assumption)
           have hx14 := bt_at t271 x7_1
           replace p14 := eq_true p14
           replace q14 := eq_true q14
           have p15 : 0 ≤ (x7_1 : Int) := of_decide_eq_true (by first | (with_reducible assumption) | assumption)
           have q15 : x7_1 < (t272.size : Int) := of_decide_eq_true (by first | (with_reducible assumption) | assumption)
           have hx15 := bt_at t272 x7_1
           replace p15 := eq_true p15
           replace q15 := eq_true q15
           go_wp2
           repeat (go_quiet (fail); try go_wp2)
           go_ret
           exact ⟨by first | rfl | (simp; done) | (simp [*]; done), by repeat (first | exact Drawn0.refl _ | apply Drawn0.step)⟩
          ·rw [if_neg c16] at H
           have c16b0 : decide ((bt t272 x7_1) < (bt t271 x7_1)) = false := decide_eq_false c16
           clear c16
           have H' := Q.a H
           clear H
           have p10 : 0 ≤ (x7_1 : Int) := of_decide_eq_true (by first | (with_reducible assumption) | assumption)
           have q10 : x7_1 < (t271.size : Int) := of_decide_eq_true (by first | (with_reducible assumption) | assumption)
           have hx10 := bt_at t271 x7_1
           replace p10 := eq_true p10
           replace q10 := eq_true q10
           have p12 : 0 ≤ (x7_1 : Int) := of_decide_eq_true (by first | (with_reducible assumption) | assumption)
           have q12 : x7_1 < (t272.size : Int) := of_decide_eq_true (by first | (with_reducible assumption) | assumption)
           have hx12 := bt_at t272 x7_1
           replace p12 := eq_true p12
           replace q12 := eq_true q12
           have p14 : 0 ≤ (x7_1 : Int) := of_decide_eq_true (by first | (with_reducible assumption) | assumption)
           have q14 : x7_1 < (t271.size : Int) := of_decide_eq_true (by first | (with_reducible assumption) | assumption)
           have hx14 := bt_at t271 x7_1
           replace p14 := eq_true p14
           replace q14 := eq_true q14
           have p15 : 0 ≤ (x7_1 : Int) := of_decide_eq_true (by first | (with_reducible assumption) | assumption)
           have q15 : x7_1 < (t272.size : Int) := of_decide_eq_true (by first | (with_reducible assumption) | assumption)
           have hx15 := bt_at t272 x7_1
           replace p15 := eq_true p15
           replace q15 := eq_true q15
           go_wp2
           repeat (go_quiet (fail); try go_wp2)
           go_roundg k1
           case measure => have := HK1.out; omega
           case rel => exact ⟨(wrap64 (x7_1 - 1)), Q.rs, H', ⟨by have := HK1.out; omega⟩, by repeat (first | exact Drawn0.refl _ | apply Drawn0.step)⟩
        ·rw [if_neg c11] at H
         exact absurd H (by simp)
       ·rw [if_neg c9] at H
        exact absurd H (by simp)
      ·rw [if_neg c8] at H
       exact absurd H (by simp)
     ·rw [if_neg c7] at H
      have c7b0 : decide (0 ≤ x7_1) = false := decide_eq_false c7
      clear c7
      obtain rfl := Option.some.inj H
      go_wp2
      repeat (go_quiet (fail); try go_wp2)
      go_ret
      exact ⟨by first | rfl | (simp; done) | (simp [*]; done), by repeat (first | exact Drawn0.refl _ | apply Drawn0.step)⟩

/-! ### voussoirref01_at: function 71 -/
def voussoirref01_at.f (a0 : ByteArray) (a1 : Int) : Option (Int) := if a1 < (a0.size : Int) then (if 0 ≤ a1 then (some (wrap64 (bt a0 a1))) else (none)) else (some 0)
set_option maxHeartbeats 8000000 in
set_option maxRecDepth 100000 in
theorem voussoirref01_at.calls (a0 : ByteArray) (a1 : Int) (r : Int) (w : World) (h : voussoirref01_at.f a0 a1 = some r) :
  Calls Tryd.prog 71 #[.string a0, .int .i64 a1] w fun e w' => e = .returned (.int .i64 r) ∧ Drawn0 w w' := by
 have H : (if a1 < (a0.size : Int) then (if 0 ≤ a1 then (some (wrap64 (bt a0 a1))) else (none)) else (some 0)) = some r := h
 clear h
 by_cases c3 : a1 < (a0.size : Int)
 ·rw [if_pos c3] at H
  have c3b0 : decide (a1 < (a0.size : Int)) = true := decide_eq_true c3
  clear c3
  by_cases c4 : 0 ≤ a1
  ·rw [if_pos c4] at H
   have c4b0 : decide (0 ≤ a1) = true := decide_eq_true c4
   clear c4
   obtain rfl := Option.some.inj H
   have p5 : 0 ≤ (a1 : Int) := of_decide_eq_true (by first | (with_reducible assumption) | assumption)
   have q5 : a1 < (a0.size : Int) := of_decide_eq_true (by first | (with_reducible assumption) | assumption)
   have hx5 := bt_at a0 a1
   replace p5 := eq_true p5
   replace q5 := eq_true q5
   go_enter Tryd.func71, Tryd.ntmps71
   go_wp2
   go_ret
   exact ⟨by first | rfl | (simp; done) | (simp [*]; done), by repeat (first | exact Drawn0.refl _ | apply Drawn0.step)⟩
  ·rw [if_neg c4] at H
   exact absurd H (by simp)
 ·rw [if_neg c3] at H
  have c3b0 : decide (a1 < (a0.size : Int)) = false := decide_eq_false c3
  clear c3
  obtain rfl := Option.some.inj H
  go_enter Tryd.func71, Tryd.ntmps71
  go_wp2
  go_ret
  exact ⟨by first | rfl | (simp; done) | (simp [*]; done), by repeat (first | exact Drawn0.refl _ | apply Drawn0.step)⟩

/-! ### voussoirref01_Sub: function 30 -/
def voussoirref01_Sub.l0 : Nat → ByteArray → ByteArray → List Int → Int → Int → Option (ByteArray × Bool)
 | 0, _, _, _, _, _ => none
 | k + 1, x0, x1, x6, x7, x8 => if x8 < (x0.size : Int) then ((voussoirref01_at.f x0 x8).bind fun t278 => ((voussoirref01_at.f x1 x8).bind fun t279 => (if (wrap64 ((wrap64 (t278 - t279)) - x7)) < 0 then (if x6.length < 140737488355328 then (voussoirref01_Sub.l0 k x0 x1 (x6 ++ [(wrap64 ((wrap64 ((wrap64 (t278 - t279)) - x7)) + 256)) % 256]) 1 (wrap64 (x8 + 1))) else (none)) else (if x6.length < 140737488355328 then (voussoirref01_Sub.l0 k x0 x1 (x6 ++ [(wrap64 ((wrap64 (t278 - t279)) - x7)) % 256]) 0 (wrap64 (x8 + 1))) else (none))))) else ((voussoirref01_Norm.f k (strOfNums x6)).bind fun t277 => (some (t277, true)))
def voussoirref01_Sub.f (k : Nat) (a0 : ByteArray) (a1 : ByteArray) : Option (ByteArray × Bool) := (voussoirref01_Cmp.f k a0 a1).bind fun t273 => (if t273 < 0 then (some ((⟨#[]⟩ : ByteArray), false)) else (voussoirref01_Sub.l0 k a0 a1 (([] : List Int)) 0 0))
theorem voussoirref01_Sub.mono_l : ∀ k, (∀ y0 y1 y2 y3 y4, LeO (voussoirref01_Sub.l0 k y0 y1 y2 y3 y4) (voussoirref01_Sub.l0 (k + 1) y0 y1 y2 y3 y4))
 | 0 => fun _ _ _ _ _ r h => by simp [voussoirref01_Sub.l0] at h
 | k + 1 => by
  have ih0 := voussoirref01_Sub.mono_l k
  ·intro y0 y1 y2 y3 y4
   unfold voussoirref01_Sub.l0
   repeat' first
   | (with_reducible exact ih0 _ _ _ _ _)
   | (with_reducible exact voussoirref01_Cmp.mono _ _ _)
   | (with_reducible exact voussoirref01_Norm.mono _ _)
   | (with_reducible exact LeO.refl _)
   | (with_reducible exact LeO.none _)
   | (with_reducible refine LeO.ite ?_ ?_)
   | (with_reducible refine LeO.bind ?_ (fun _ => ?_))
   | exact ih0 _ _ _ _ _
   | exact voussoirref01_Cmp.mono _ _ _
   | exact voussoirref01_Norm.mono _ _
   | exact LeO.none _
   | refine LeO.ite ?_ ?_
   | refine LeO.bind ?_ (fun _ => ?_)
theorem voussoirref01_Sub.mono : ∀ a0 a1 k, LeO (voussoirref01_Sub.f k a0 a1) (voussoirref01_Sub.f (k + 1) a0 a1) := by
 intro a0 a1 k
 have ih0 := voussoirref01_Sub.mono_l k
 unfold voussoirref01_Sub.f
 repeat' first
   | (with_reducible exact ih0 _ _ _ _ _)
   | (with_reducible exact voussoirref01_Cmp.mono _ _ _)
   | (with_reducible exact voussoirref01_Norm.mono _ _)
   | (with_reducible exact LeO.refl _)
   | (with_reducible exact LeO.none _)
   | (with_reducible refine LeO.ite ?_ ?_)
   | (with_reducible refine LeO.bind ?_ (fun _ => ?_))
   | exact ih0 _ _ _ _ _
   | exact voussoirref01_Cmp.mono _ _ _
   | exact voussoirref01_Norm.mono _ _
   | exact LeO.none _
   | refine LeO.ite ?_ ?_
   | refine LeO.bind ?_ (fun _ => ?_)
set_option maxHeartbeats 8000000 in
set_option maxRecDepth 100000 in
theorem voussoirref01_Sub.calls (k : Nat) (a0 : ByteArray) (a1 : ByteArray) (r1 : ByteArray) (r2 : Bool) (w : World) (h : voussoirref01_Sub.f k a0 a1 = some (r1, r2)) :
  Calls Tryd.prog 30 #[.string a0, .string a1] w fun e w' => e = .returned (.tuple #[.string r1, .bool r2]) ∧ Below w.heap.size w w' := by
 have HB := Q.a (Below.refl w.heap.size w)
 have H : ((voussoirref01_Cmp.f k a0 a1).bind fun t273 => (if t273 < 0 then (some ((⟨#[]⟩ : ByteArray), false)) else (voussoirref01_Sub.l0 k a0 a1 (([] : List Int)) 0 0))) = some (r1, r2) := h
 clear h
 replace H := Option.bind_eq_some_iff.mp H
 obtain ⟨t273, A30, H⟩ := H
 try dsimp only at H
 have A3 := Q.a A30
 clear A30
 by_cases c4 : t273 < 0
 ·rw [if_pos c4] at H
  have c4b0 : decide (t273 < 0) = true := decide_eq_true c4
  clear c4
  simp only [Option.some.injEq, Prod.mk.injEq] at H
  obtain ⟨rfl, rfl⟩ := H
  go_enter Tryd.func30, Tryd.ntmps30
  go_wp2_with (first | ((with_reducible refine gate_callee (f := 32) rfl ?_); refine Q.gl 12 Tryd.func32 #[.string a0, .string a1] rfl rfl rfl rfl ?_; (with_reducible refine (voussoirref01_Cmp.calls k a0 a1 t273 _ A3.out).mono ?_); rintro e w' ⟨rfl, ⟨nd, rfl⟩⟩; refine ⟨_, rfl, ?_⟩))
  go_ret2
  exact ⟨Q.en, Q.bw HB⟩
 ·rw [if_neg c4] at H
  have c4b0 : decide (t273 < 0) = false := decide_eq_false c4
  clear c4
  obtain ⟨y274, hy274⟩ : ∃ y_ : List Int, y_ = (([] : List Int)) := ⟨_, rfl⟩
  replace H : (voussoirref01_Sub.l0 k a0 a1 y274 0 0) = some (r1, r2) := by first | (rw [hy274]; with_reducible exact H) | (have H2_ := (Option.bind_some _ _).symm.trans H; rw [hy274]; with_reducible exact H2_) | (have H2_ := (Option.bind_some _ _).symm.trans H; with_reducible exact H2_) | with_reducible exact H | (rw [hy274]; exact H) | exact H
  have Ny274 := Q.a hy274
  clear hy274
  have H' := Q.a H
  clear H
  go_enter Tryd.func30, Tryd.ntmps30
  go_wp2_with (first | ((with_reducible refine gate_callee (f := 32) rfl ?_); refine Q.gl 12 Tryd.func32 #[.string a0, .string a1] rfl rfl rfl rfl ?_; (with_reducible refine (voussoirref01_Cmp.calls k a0 a1 t273 _ A3.out).mono ?_); rintro e w' ⟨rfl, ⟨nd, rfl⟩⟩; refine ⟨_, rfl, ?_⟩) | ((with_reducible refine gate_dst (N := 14) rfl ?_); refine Kd.R_lit (Kd.int .u8) _ 5 ?hg (N := 14) ?hd (xs := ([] : List Int)) (inner := []) (ok := fun _ => True) (okp := fun _ => True) ?hr ?hp (fun _ hk => hk) trivial (Below.refl _ _) (Nat.le_refl _) (by simp) ?_; (case hd => rfl); (case hg => rfl); (case hr => first | (go_simp; done) | (go_simp; rfl)); (case hp => exact (Reps.none _ _)); intro v275 w5 ho6 hb hg_ hnew_; clear hg_ hnew_; (first | rw [← Ny274.out] at ho6 | (simp only [Int.reduceToNat] at ho6; rw [← Ny274.out] at ho6)); replace HO276 := Q.a (Kd.R_lower ho6 (below_size (Q.bw HB))); replace HB := Q.a (below_step (Q.bw HB) hb); clear hb ho6))
  go_loopg [6, 7, 8] k (fun kq v6 v7 v8 w' => ∃ (x6_1 : List Int) (x7_1 : Int) (x8_1 : Int), v7 = .int .i64 x7_1 ∧ v8 = .int .i64 x8_1 ∧ Aside0 (voussoirref01_Sub.l0 kq a0 a1 x6_1 x7_1 x8_1 = some (r1, r2)) ∧ Aside0 (kq ≤ k) ∧ Aside0 (Kd.R (Kd.int .u8) 5 w' w.heap.size (fun _ => True) v6 x6_1) ∧ Aside0 (Below w.heap.size w w'))
  case atStart => exact ⟨(y274), (0), (0), Q.rs, Q.rs, H', ⟨Nat.le_refl _⟩, ⟨Q.kr HO276⟩, ⟨Q.bw HB⟩⟩
  case round =>
   clear H'
   try clear p2
   try clear c3
   try clear c4
   try clear c4b0
   obtain ⟨x6_1, x7_1, x8_1, rfl, rfl, HA, HK1, HO_6, HB⟩ := hrel
   cases gk with
   | zero => exact absurd HA.out (by simp [voussoirref01_Sub.l0])
   | succ k1 =>
    have H := HA.out
    clear HA
    simp only [voussoirref01_Sub.l0] at H
    by_cases c7 : x8_1 < (a0.size : Int)
    ·rw [if_pos c7] at H
     have c7b0 : decide (x8_1 < (a0.size : Int)) = true := decide_eq_true c7
     clear c7
     replace H := Option.bind_eq_some_iff.mp H
     obtain ⟨t278, A80, H⟩ := H
     try dsimp only at H
     have A8 := Q.a A80
     clear A80
     replace H := Option.bind_eq_some_iff.mp H
     obtain ⟨t279, A90, H⟩ := H
     try dsimp only at H
     have A9 := Q.a A90
     clear A90
     by_cases c10 : (wrap64 ((wrap64 (t278 - t279)) - x7_1)) < 0
     ·rw [if_pos c10] at H
      have c10b0 : decide ((wrap64 ((wrap64 (t278 - t279)) - x7_1)) < 0) = true := decide_eq_true c10
      clear c10
      by_cases c11 : x6_1.length < 140737488355328
      ·rw [if_pos c11] at H
       have LMc11 := Q.a c11
       clear c11
       obtain ⟨y280, hy280⟩ : ∃ y_ : List Int, y_ = (x6_1 ++ [(wrap64 ((wrap64 ((wrap64 (t278 - t279)) - x7_1)) + 256)) % 256]) := ⟨_, rfl⟩
       replace H : (voussoirref01_Sub.l0 k1 a0 a1 y280 1 (wrap64 (x8_1 + 1))) = some (r1, r2) := by first | (rw [hy280]; with_reducible exact H) | (have H2_ := (Option.bind_some _ _).symm.trans H; rw [hy280]; with_reducible exact H2_) | (have H2_ := (Option.bind_some _ _).symm.trans H; with_reducible exact H2_) | with_reducible exact H | (rw [hy280]; exact H) | exact H
       have Ny280 := Q.a hy280
       clear hy280
       have H' := Q.a H
       clear H
       go_wp2_with (first | ((with_reducible refine gate_callee (f := 71) rfl ?_); refine Q.gl 23 Tryd.func71 #[.string a0, .int .i64 x8_1] rfl rfl rfl rfl ?_; (with_reducible refine (voussoirref01_at.calls a0 x8_1 t278 _ A8.out).mono ?_); rintro e w' ⟨rfl, ⟨nd, rfl⟩⟩; refine ⟨_, rfl, ?_⟩) | ((with_reducible refine gate_callee (f := 71) rfl ?_); refine Q.gl 26 Tryd.func71 #[.string a1, .int .i64 x8_1] rfl rfl rfl rfl ?_; (with_reducible refine (voussoirref01_at.calls a1 x8_1 t279 _ A9.out).mono ?_); rintro e w' ⟨rfl, ⟨nd, rfl⟩⟩; refine ⟨_, rfl, ?_⟩) | ((with_reducible refine gate_builtin (b := .append) (xs := #[.tmp 34, .tmp 37]) rfl ?_); at_builtin; refine Kd.R_append (Kd.int .u8) (w0 := w) w.heap.size rfl (.tmp 34) (.tmp 37) 70 5 (.int .u8 0) 1 rfl Tryd.underlying70 info5 rfl (by decide) (by omega) u6 x6_1 ((wrap64 ((wrap64 ((wrap64 (t278 - t279)) - x7_1)) + 256)) % 256) [.int .u8 ((wrap64 ((wrap64 ((wrap64 (t278 - t279)) - x7_1)) + 256)) % 256)] (fun _ => True) (fun _ => False) rfl rfl ?aP (fun _ hk => hk.elim) ?aF ?aO ?aB ?aS ?aL ?_; (case aP => exact rfl); (case aB => exact (Q.bw HB)); (case aF => exact (fun _ _ => trivial)); (case aO => exact (Q.kr HO_6)); (case aS => exact (below_size (Q.bw HB))); (case aL => have := LMc11.out; omega); intro v281 w12 ho hb hg hat; rw [← Ny280.out] at ho; replace HB := Q.a (hb); replace HO282 := Q.a (ho); clear HO_6; clear ho hb hg hat))
       go_roundg k1
       case measure => have := HK1.out; omega
       case rel => exact ⟨(y280), (1), (wrap64 (x8_1 + 1)), Q.rs, Q.rs, H', ⟨by have := HK1.out; omega⟩, ⟨Q.kr HO282⟩, ⟨Q.bw HB⟩⟩
      ·rw [if_neg c11] at H
       exact absurd H (by simp)
     ·rw [if_neg c10] at H
      have c10b0 : decide ((wrap64 ((wrap64 (t278 - t279)) - x7_1)) < 0) = false := decide_eq_false c10
      clear c10
      by_cases c13 : x6_1.length < 140737488355328
      ·rw [if_pos c13] at H
       have LMc13 := Q.a c13
       clear c13
       obtain ⟨y283, hy283⟩ : ∃ y_ : List Int, y_ = (x6_1 ++ [(wrap64 ((wrap64 (t278 - t279)) - x7_1)) % 256]) := ⟨_, rfl⟩
       replace H : (voussoirref01_Sub.l0 k1 a0 a1 y283 0 (wrap64 (x8_1 + 1))) = some (r1, r2) := by first | (rw [hy283]; with_reducible exact H) | (have H2_ := (Option.bind_some _ _).symm.trans H; rw [hy283]; with_reducible exact H2_) | (have H2_ := (Option.bind_some _ _).symm.trans H; with_reducible exact H2_) | with_reducible exact H | (rw [hy283]; exact H) | exact H
       have Ny283 := Q.a hy283
       clear hy283
       have H' := Q.a H
       clear H
       go_wp2_with (first | ((with_reducible refine gate_callee (f := 71) rfl ?_); refine Q.gl 23 Tryd.func71 #[.string a0, .int .i64 x8_1] rfl rfl rfl rfl ?_; (with_reducible refine (voussoirref01_at.calls a0 x8_1 t278 _ A8.out).mono ?_); rintro e w' ⟨rfl, ⟨nd, rfl⟩⟩; refine ⟨_, rfl, ?_⟩) | ((with_reducible refine gate_callee (f := 71) rfl ?_); refine Q.gl 26 Tryd.func71 #[.string a1, .int .i64 x8_1] rfl rfl rfl rfl ?_; (with_reducible refine (voussoirref01_at.calls a1 x8_1 t279 _ A9.out).mono ?_); rintro e w' ⟨rfl, ⟨nd, rfl⟩⟩; refine ⟨_, rfl, ?_⟩) | ((with_reducible refine gate_builtin (b := .append) (xs := #[.tmp 34, .tmp 37]) rfl ?_); at_builtin; refine Kd.R_append (Kd.int .u8) (w0 := w) w.heap.size rfl (.tmp 34) (.tmp 37) 70 5 (.int .u8 0) 1 rfl Tryd.underlying70 info5 rfl (by decide) (by omega) u6 x6_1 ((wrap64 ((wrap64 (t278 - t279)) - x7_1)) % 256) [.int .u8 ((wrap64 ((wrap64 (t278 - t279)) - x7_1)) % 256)] (fun _ => True) (fun _ => False) rfl rfl ?aP (fun _ hk => hk.elim) ?aF ?aO ?aB ?aS ?aL ?_; (case aP => exact rfl); (case aB => exact (Q.bw HB)); (case aF => exact (fun _ _ => trivial)); (case aO => exact (Q.kr HO_6)); (case aS => exact (below_size (Q.bw HB))); (case aL => have := LMc13.out; omega); intro v284 w14 ho hb hg hat; rw [← Ny283.out] at ho; replace HB := Q.a (hb); replace HO285 := Q.a (ho); clear HO_6; clear ho hb hg hat))
       go_roundg k1
       case measure => have := HK1.out; omega
       case rel => exact ⟨(y283), (0), (wrap64 (x8_1 + 1)), Q.rs, Q.rs, H', ⟨by have := HK1.out; omega⟩, ⟨Q.kr HO285⟩, ⟨Q.bw HB⟩⟩
      ·rw [if_neg c13] at H
       exact absurd H (by simp)
    ·rw [if_neg c7] at H
     have c7b0 : decide (x8_1 < (a0.size : Int)) = false := decide_eq_false c7
     clear c7
     replace H := Option.bind_eq_some_iff.mp H
     obtain ⟨t277, A150, H⟩ := H
     try dsimp only at H
     have A15 := Q.a A150
     clear A150
     simp only [Option.some.injEq, Prod.mk.injEq] at H
     obtain ⟨rfl, rfl⟩ := H
     have hcv16 := own_string (P := Tryd.prog) Tryd.underlying70 Tryd.underlying5 Tryd.underlying9 (Kd.own_of_R HO_6.out)
     go_wp2_with (first | ((with_reducible refine gate_callee (f := 31) rfl ?_); refine Q.gl 41 Tryd.func31 #[.string (strOfNums x6_1)] rfl rfl rfl rfl ?_; (with_reducible refine (voussoirref01_Norm.calls k1 (strOfNums x6_1) t277 _ A15.out).mono ?_); rintro e w' ⟨rfl, ⟨nd, rfl⟩⟩; refine ⟨_, rfl, ?_⟩))
     go_ret2
     exact ⟨Q.en, Q.bw HB⟩

/-! ### voussoirref01_Add: function 33 -/
mutual
def voussoirref01_Add.l0 : Nat → ByteArray → ByteArray → List Int → Int → Int → Option (ByteArray)
 | 0, _, _, _, _, _ => none
 | k + 1, x0, x1, x5, x6, x7 => if x7 < (x0.size : Int) then (voussoirref01_Add.j1 k x0 x1 x5 x6 x7 true) else (if x7 < (x1.size : Int) then (voussoirref01_Add.j1 k x0 x1 x5 x6 x7 true) else (voussoirref01_Add.j1 k x0 x1 x5 x6 x7 (decide (x6 > 0))))
def voussoirref01_Add.j1 : Nat → ByteArray → ByteArray → List Int → Int → Int → Bool → Option (ByteArray)
 | 0, _, _, _, _, _, _ => none
 | k + 1, x0, x1, x5, x6, x7, x22 => if x22 = true then ((voussoirref01_at.f x0 x7).bind fun t411 => ((voussoirref01_at.f x1 x7).bind fun t412 => (if x5.length < 140737488355328 then (voussoirref01_Add.l0 k x0 x1 (x5 ++ [(Int.tmod (wrap64 (x6 + (wrap64 (t411 + t412)))) 256) % 256]) (wrap64 (Int.tdiv (wrap64 (x6 + (wrap64 (t411 + t412)))) 256)) (wrap64 (x7 + 1))) else (none)))) else ((voussoirref01_Norm.f k (strOfNums x5)).bind fun t416 => (some t416))
end
def voussoirref01_Add.f (k : Nat) (a0 : ByteArray) (a1 : ByteArray) : Option (ByteArray) := voussoirref01_Add.l0 k a0 a1 (([] : List Int)) 0 0
theorem voussoirref01_Add.mono_l : ∀ k, (∀ y0 y1 y2 y3 y4, LeO (voussoirref01_Add.l0 k y0 y1 y2 y3 y4) (voussoirref01_Add.l0 (k + 1) y0 y1 y2 y3 y4)) ∧ (∀ y0 y1 y2 y3 y4 y5, LeO (voussoirref01_Add.j1 k y0 y1 y2 y3 y4 y5) (voussoirref01_Add.j1 (k + 1) y0 y1 y2 y3 y4 y5))
 | 0 => ⟨fun _ _ _ _ _ r h => by simp [voussoirref01_Add.l0] at h, fun _ _ _ _ _ _ r h => by simp [voussoirref01_Add.j1] at h⟩
 | k + 1 => by
  obtain ⟨ih0, ih1⟩ := voussoirref01_Add.mono_l k
  refine ⟨?_, ?_⟩
  ·intro y0 y1 y2 y3 y4
   unfold voussoirref01_Add.l0
   repeat' first
   | (with_reducible exact ih0 _ _ _ _ _)
   | (with_reducible exact ih1 _ _ _ _ _ _)
   | (with_reducible exact voussoirref01_Norm.mono _ _)
   | (with_reducible exact LeO.refl _)
   | (with_reducible exact LeO.none _)
   | (with_reducible refine LeO.ite ?_ ?_)
   | (with_reducible refine LeO.bind ?_ (fun _ => ?_))
   | exact ih0 _ _ _ _ _
   | exact ih1 _ _ _ _ _ _
   | exact voussoirref01_Norm.mono _ _
   | exact LeO.none _
   | refine LeO.ite ?_ ?_
   | refine LeO.bind ?_ (fun _ => ?_)
  ·intro y0 y1 y2 y3 y4 y5
   unfold voussoirref01_Add.j1
   repeat' first
   | (with_reducible exact ih0 _ _ _ _ _)
   | (with_reducible exact ih1 _ _ _ _ _ _)
   | (with_reducible exact voussoirref01_Norm.mono _ _)
   | (with_reducible exact LeO.refl _)
   | (with_reducible exact LeO.none _)
   | (with_reducible refine LeO.ite ?_ ?_)
   | (with_reducible refine LeO.bind ?_ (fun _ => ?_))
   | exact ih0 _ _ _ _ _
   | exact ih1 _ _ _ _ _ _
   | exact voussoirref01_Norm.mono _ _
   | exact LeO.none _
   | refine LeO.ite ?_ ?_
   | refine LeO.bind ?_ (fun _ => ?_)
theorem voussoirref01_Add.mono : ∀ a0 a1 k, LeO (voussoirref01_Add.f k a0 a1) (voussoirref01_Add.f (k + 1) a0 a1) := by
 intro a0 a1 k
 obtain ⟨ih0, ih1⟩ := voussoirref01_Add.mono_l k
 unfold voussoirref01_Add.f
 repeat' first
   | (with_reducible exact ih0 _ _ _ _ _)
   | (with_reducible exact ih1 _ _ _ _ _ _)
   | (with_reducible exact voussoirref01_Norm.mono _ _)
   | (with_reducible exact LeO.refl _)
   | (with_reducible exact LeO.none _)
   | (with_reducible refine LeO.ite ?_ ?_)
   | (with_reducible refine LeO.bind ?_ (fun _ => ?_))
   | exact ih0 _ _ _ _ _
   | exact ih1 _ _ _ _ _ _
   | exact voussoirref01_Norm.mono _ _
   | exact LeO.none _
   | refine LeO.ite ?_ ?_
   | refine LeO.bind ?_ (fun _ => ?_)
set_option maxHeartbeats 8000000 in
set_option maxRecDepth 100000 in
theorem voussoirref01_Add.calls (k : Nat) (a0 : ByteArray) (a1 : ByteArray) (r : ByteArray) (w : World) (h : voussoirref01_Add.f k a0 a1 = some r) :
  Calls Tryd.prog 33 #[.string a0, .string a1] w fun e w' => e = .returned (.string r) ∧ Below w.heap.size w w' := by
 have HB := Q.a (Below.refl w.heap.size w)
 have H : (voussoirref01_Add.l0 k a0 a1 (([] : List Int)) 0 0) = some r := h
 clear h
 obtain ⟨y408, hy408⟩ : ∃ y_ : List Int, y_ = (([] : List Int)) := ⟨_, rfl⟩
 replace H : (voussoirref01_Add.l0 k a0 a1 y408 0 0) = some r := by first | (rw [hy408]; with_reducible exact H) | (have H2_ := (Option.bind_some _ _).symm.trans H; rw [hy408]; with_reducible exact H2_) | (have H2_ := (Option.bind_some _ _).symm.trans H; with_reducible exact H2_) | with_reducible exact H | (rw [hy408]; exact H) | exact H
 have Ny408 := Q.a hy408
 clear hy408
 have H' := Q.a H
 clear H
 go_enter Tryd.func33, Tryd.ntmps33
 go_wp2_with (first | ((with_reducible refine gate_dst (N := 8) rfl ?_); (try (refine gate_guard (by rfl) ?_; dsimp only)); refine Kd.R_lit (Kd.int .u8) _ 5 ?hg (N := 8) ?hd (xs := ([] : List Int)) (inner := []) (ok := fun _ => True) (okp := fun _ => True) ?hr ?hp (fun _ hk => hk) trivial (Below.refl _ _) (Nat.le_refl _) (by simp) ?_; (case hd => rfl); (case hg => rfl); (case hr => first | (go_simp; done) | (go_simp; rfl)); (case hp => exact (Reps.none _ _)); intro v409 w3 ho4 hb hg_ hnew_; clear hg_ hnew_; (first | rw [← Ny408.out] at ho4 | (simp only [Int.reduceToNat] at ho4; rw [← Ny408.out] at ho4)); replace HO410 := Q.a (Kd.R_lower ho4 (below_size (Q.bw HB))); replace HB := Q.a (below_step (Q.bw HB) hb); clear hb ho4))
 go_loopg [5, 6, 7] k (fun kq v5 v6 v7 w' => ∃ (x5_1 : List Int) (x6_1 : Int) (x7_1 : Int), v6 = .int .i64 x6_1 ∧ v7 = .int .i64 x7_1 ∧ Aside0 (voussoirref01_Add.l0 kq a0 a1 x5_1 x6_1 x7_1 = some r) ∧ Aside0 (kq ≤ k) ∧ Aside0 (Kd.R (Kd.int .u8) 5 w' w.heap.size (fun _ => True) v5 x5_1) ∧ Aside0 (Below w.heap.size w w'))
 case atStart => exact ⟨(y408), (0), (0), Q.rs, Q.rs, H', ⟨Nat.le_refl _⟩, ⟨Q.kr HO410⟩, ⟨Q.bw HB⟩⟩
 case round =>
  clear H'
  try clear p2
  try clear c3
  obtain ⟨x5_1, x6_1, x7_1, rfl, rfl, HA, HK1, HO_5, HB⟩ := hrel
  cases gk with
  | zero => exact absurd HA.out (by simp [voussoirref01_Add.l0])
  | succ k1 =>
   have H := HA.out
   clear HA
   simp only [voussoirref01_Add.l0] at H
   have HC5 := Q.a H
   clear H
   go_upto_region 4 with (fail)
   go_cut [22] (fun v22 wc => ∃ (kq : Nat) (x22_4 : Bool), v22 = .bool x22_4 ∧ Aside0 (voussoirref01_Add.j1 kq a0 a1 x5_1 x6_1 x7_1 x22_4 = some r) ∧ Aside0 (kq ≤ k1) ∧ Aside0 (Kd.R (Kd.int .u8) 5 wc w.heap.size (fun _ => True) u5 x5_1) ∧ Aside0 (Below w.heap.size w wc))
   case first =>
    have H := HC5.out
    clear HC5
    by_cases c6 : x7_1 < (a0.size : Int)
    ·rw [if_pos c6] at H
     have c6b0 : decide (x7_1 < (a0.size : Int)) = true := decide_eq_true c6
     clear c6
     (first | rw [c6b0] | (simp only [i64_w, i32_w]; rw [c6b0]) | skip)
     have H' := Q.a H
     clear H
     go_wp2
     go_meet
     case rel => exact ⟨_, (true), Q.rs, H', ⟨by have := HK1.out; first | omega | exact Nat.le_refl _⟩, ⟨Q.kr HO_5⟩, ⟨Q.bw HB⟩⟩
    ·rw [if_neg c6] at H
     have c6b0 : decide (x7_1 < (a0.size : Int)) = false := decide_eq_false c6
     clear c6
     (first | rw [c6b0] | (simp only [i64_w, i32_w]; rw [c6b0]) | skip)
     by_cases c7 : x7_1 < (a1.size : Int)
     ·rw [if_pos c7] at H
      have c7b0 : decide (x7_1 < (a1.size : Int)) = true := decide_eq_true c7
      clear c7
      have H' := Q.a H
      clear H
      go_wp2
      go_meet
      case rel => exact ⟨_, (true), Q.rs, H', ⟨by have := HK1.out; first | omega | exact Nat.le_refl _⟩, ⟨Q.kr HO_5⟩, ⟨Q.bw HB⟩⟩
     ·rw [if_neg c7] at H
      have c7b0 : decide (x7_1 < (a1.size : Int)) = false := decide_eq_false c7
      clear c7
      have H' := Q.a H
      clear H
      go_wp2
      go_meet
      case rel => exact ⟨_, (decide (x6_1 > 0)), Q.rs, H', ⟨by have := HK1.out; first | omega | exact Nat.le_refl _⟩, ⟨Q.kr HO_5⟩, ⟨Q.bw HB⟩⟩
   case rest =>
    clear HC5
    try clear p2
    try clear c3
    try clear c6
    try clear c6b0
    try clear c7
    try clear c7b0
    try clear p2
    obtain ⟨kq, x22_4, rfl, HA, HJ4, HO_5, HB⟩ := hcut
    cases kq with
    | zero => exact absurd HA.out (by simp [voussoirref01_Add.j1])
    | succ kj4 =>
     have H := HA.out
     clear HA
     simp only [voussoirref01_Add.j1] at H
     by_cases c8 : x22_4 = true
     ·subst c8
      rw [if_pos rfl] at H
      replace H := Option.bind_eq_some_iff.mp H
      obtain ⟨t411, A90, H⟩ := H
      try dsimp only at H
      have A9 := Q.a A90
      clear A90
      replace H := Option.bind_eq_some_iff.mp H
      obtain ⟨t412, A100, H⟩ := H
      try dsimp only at H
      have A10 := Q.a A100
      clear A100
      by_cases c11 : x5_1.length < 140737488355328
      ·rw [if_pos c11] at H
       have LMc11 := Q.a c11
       clear c11
       obtain ⟨y413, hy413⟩ : ∃ y_ : List Int, y_ = (x5_1 ++ [(Int.tmod (wrap64 (x6_1 + (wrap64 (t411 + t412)))) 256) % 256]) := ⟨_, rfl⟩
       replace H : (voussoirref01_Add.l0 kj4 a0 a1 y413 (wrap64 (Int.tdiv (wrap64 (x6_1 + (wrap64 (t411 + t412)))) 256)) (wrap64 (x7_1 + 1))) = some r := by first | (rw [hy413]; with_reducible exact H) | (have H2_ := (Option.bind_some _ _).symm.trans H; rw [hy413]; with_reducible exact H2_) | (have H2_ := (Option.bind_some _ _).symm.trans H; with_reducible exact H2_) | with_reducible exact H | (rw [hy413]; exact H) | exact H
       have Ny413 := Q.a hy413
       clear hy413
       have H' := Q.a H
       clear H
       go_wp2_with (first | ((with_reducible refine gate_callee (f := 71) rfl ?_); refine Q.gl 28 Tryd.func71 #[.string a0, .int .i64 x7_1] rfl rfl rfl rfl ?_; (with_reducible refine (voussoirref01_at.calls a0 x7_1 t411 _ A9.out).mono ?_); rintro e w' ⟨rfl, ⟨nd, rfl⟩⟩; refine ⟨_, rfl, ?_⟩) | ((with_reducible refine gate_callee (f := 71) rfl ?_); refine Q.gl 31 Tryd.func71 #[.string a1, .int .i64 x7_1] rfl rfl rfl rfl ?_; (with_reducible refine (voussoirref01_at.calls a1 x7_1 t412 _ A10.out).mono ?_); rintro e w' ⟨rfl, ⟨nd, rfl⟩⟩; refine ⟨_, rfl, ?_⟩) | ((with_reducible refine gate_builtin (b := .append) (xs := #[.tmp 34, .tmp 38]) rfl ?_); (try (refine gate_guard (by rfl) ?_; dsimp only)); at_builtin; refine Kd.R_append (Kd.int .u8) (w0 := w) w.heap.size rfl (.tmp 34) (.tmp 38) 70 5 (.int .u8 0) 1 rfl Tryd.underlying70 info5 rfl (by decide) (by omega) u5 x5_1 ((Int.tmod (wrap64 (x6_1 + (wrap64 (t411 + t412)))) 256) % 256) [.int .u8 ((Int.tmod (wrap64 (x6_1 + (wrap64 (t411 + t412)))) 256) % 256)] (fun _ => True) (fun _ => False) rfl rfl ?aP (fun _ hk => hk.elim) ?aF ?aO ?aB ?aS ?aL ?_; (case aP => exact rfl); (case aB => exact (Q.bw HB)); (case aF => exact (fun _ _ => trivial)); (case aO => exact (Q.kr HO_5)); (case aS => exact (below_size (Q.bw HB))); (case aL => have := LMc11.out; omega); intro v414 w12 ho hb hg hat; rw [← Ny413.out] at ho; replace HB := Q.a (hb); replace HO415 := Q.a (ho); clear HO_5; clear ho hb hg hat))
       go_roundg kj4
       case measure => have := HK1.out; have := HJ4.out; omega
       case rel => exact ⟨(y413), (wrap64 (Int.tdiv (wrap64 (x6_1 + (wrap64 (t411 + t412)))) 256)), (wrap64 (x7_1 + 1)), Q.rs, Q.rs, H', ⟨by have := HK1.out; have := HJ4.out; omega⟩, ⟨Q.kr HO415⟩, ⟨Q.bw HB⟩⟩
      ·rw [if_neg c11] at H
       exact absurd H (by simp)
     ·replace c8 := Bool.eq_false_iff.mpr c8
      subst c8
      rw [if_neg (show ¬ (false = true) by decide)] at H
      replace H := Option.bind_eq_some_iff.mp H
      obtain ⟨t416, A130, H⟩ := H
      try dsimp only at H
      have A13 := Q.a A130
      clear A130
      obtain rfl := Option.some.inj H
      have hcv14 := own_string (P := Tryd.prog) Tryd.underlying70 Tryd.underlying5 Tryd.underlying9 (Kd.own_of_R HO_5.out)
      go_wp2_with (first | ((with_reducible refine gate_callee (f := 31) rfl ?_); refine Q.gl 44 Tryd.func31 #[.string (strOfNums x5_1)] rfl rfl rfl rfl ?_; (with_reducible refine (voussoirref01_Norm.calls kj4 (strOfNums x5_1) t416 _ A13.out).mono ?_); rintro e w' ⟨rfl, ⟨nd, rfl⟩⟩; refine ⟨_, rfl, ?_⟩))
      go_ret
      exact ⟨Q.en, Q.bw HB⟩
end Go.Proofs.YtpokflilobkoaaaDoor.P
