-- Written by mp.py (a program of this session's, over the kit's printer). Not trusted: Lean checks it.
import Derived.Test.YtpokflilobkoaaaDoorPx0
import Derived.Test.YtpokflilobkoaaaDoorPx2
import Derived.Test.YtpokflilobkoaaaDoorPx6
import Derived.Test.YtpokflilobkoaaaDoorPx7
import Derived.Test.YtpokflilobkoaaaDoorPx10
import Derived.Test.YtpokflilobkoaaaDoorPx11
import Derived.Test.YtpokflilobkoaaaDoorXQ
namespace Go.Proofs.YtpokflilobkoaaaDoor.P
open Go.RowKit Go.Proofs.YtpokflilobkoaaaDoorW.PrintWords Go.Proofs.YtpokflilobkoaaaDoorW.PrintLast Go.Proofs.YtpokflilobkoaaaDoorW.PrintMore
attribute [local go_sem] max2_int min2_int max_two min_two max_three min_three max_four min_four   -- for this text's walks alone
attribute [local go_sem] XW.cell_twice   -- for this text's walks alone
set_option linter.unusedVariables false
set_option linter.unusedSimpArgs false

/-! ### voussoirlaw01_NatForm: function 9 -/
def voussoirlaw01_NatForm.j0 : Nat → ByteArray → ByteArray → Bool → Option (Bool)
  | 0, _, _, _ => none
  | k + 1, x0, x1, x117 => if x117 = true then (some false) else ((nat_Cmp.f k x0 x1).bind fun t454 => ((nat_Normalize.f k x0).bind fun t455 => ((nat_Normalize.f k x1).bind fun t456 => (if ((t454 == 0) == (t455.toList == t456.toList)) = true then ((nat_Format.f k x0).bind fun t457 => ((nat_Format.f k x1).bind fun t458 => ((nat_Normalize.f k x0).bind fun t459 => ((nat_Normalize.f k x1).bind fun t460 => (if ((t457.toList == t458.toList) == (t459.toList == t460.toList)) = true then ((nat_Cmp.f k x0 x1).bind fun t461 => ((nat_Cmp.f k x1 x0).bind fun t462 => (some (t461 == (wrap64 (-t462)))))) else (some false)))))) else (some false)))))
def voussoirlaw01_NatForm.f (k : Nat) (a0 : ByteArray) (a1 : ByteArray) (a2 : Int) : Option (Bool) := (voussoirlaw01_natAlive.f k).bind fun t428 => (if t428 = true then ((voussoirlaw01_wide.f k (([a0, a1] : List ByteArray))).bind fun t432 => (if t432 = true then (some true) else ((X.strings_Repeat.f (⟨#[0]⟩ : ByteArray) (wrap64 (Int.tmod a2 9))).bind fun t433 => (if a0.size + t433.size ≤ 9223372036854775807 then ((nat_Sub.f k (a0 ++ t433) a1).bind fun bt434 => ((nat_Sub.f k a0 a1).bind fun bt436 => ((nat_Div.f k (a0 ++ t433) a1).bind fun bt438 => ((nat_Div.f k a0 a1).bind fun bt441 => ((nat_Normalize.f k (a0 ++ t433)).bind fun t444 => ((nat_Normalize.f k a0).bind fun t445 => (if t444.toList = t445.toList then ((nat_Add.f k (a0 ++ t433) a1).bind fun t446 => ((nat_Add.f k a0 a1).bind fun t447 => (if t446.toList = t447.toList then (if bt434.1.toList = bt436.1.toList then (if (bt434.2 != bt436.2) = true then (voussoirlaw01_NatForm.j0 k a0 a1 true) else ((nat_Mul.f k (a0 ++ t433) a1).bind fun t448 => ((nat_Mul.f k a0 a1).bind fun t449 => (if t448.toList = t449.toList then (if bt438.1.toList = bt441.1.toList then (if bt438.2.1.toList = bt441.2.1.toList then (if (bt438.2.2 != bt441.2.2) = true then (voussoirlaw01_NatForm.j0 k a0 a1 true) else ((nat_Gcd.f k (a0 ++ t433) (⟨#[6]⟩ : ByteArray)).bind fun t450 => ((nat_Gcd.f k a0 (⟨#[6]⟩ : ByteArray)).bind fun t451 => (if t450.toList = t451.toList then ((nat_Format.f k (a0 ++ t433)).bind fun t452 => ((nat_Format.f k a0).bind fun t453 => (voussoirlaw01_NatForm.j0 k a0 a1 (t452.toList != t453.toList)))) else (voussoirlaw01_NatForm.j0 k a0 a1 true))))) else (voussoirlaw01_NatForm.j0 k a0 a1 true)) else (voussoirlaw01_NatForm.j0 k a0 a1 true)) else (voussoirlaw01_NatForm.j0 k a0 a1 true))))) else (voussoirlaw01_NatForm.j0 k a0 a1 true)) else (voussoirlaw01_NatForm.j0 k a0 a1 true)))) else (voussoirlaw01_NatForm.j0 k a0 a1 true)))))))) else (none))))) else (some false))
theorem voussoirlaw01_NatForm.mono_l : ∀ k, (∀ y0 y1 y2, LeO (voussoirlaw01_NatForm.j0 k y0 y1 y2) (voussoirlaw01_NatForm.j0 (k + 1) y0 y1 y2))
  | 0 => fun _ _ _ r h => by simp [voussoirlaw01_NatForm.j0] at h
  | k + 1 => by
    have ih0 := voussoirlaw01_NatForm.mono_l k
    · intro y0 y1 y2
      unfold voussoirlaw01_NatForm.j0
      repeat' first
      | (with_reducible exact ih0 _ _ _)
      | (with_reducible exact nat_Add.mono _ _ _)
      | (with_reducible exact nat_Cmp.mono _ _ _)
      | (with_reducible exact nat_Div.mono _ _ _)
      | (with_reducible exact nat_Format.mono _ _)
      | (with_reducible exact nat_Gcd.mono _ _ _)
      | (with_reducible exact nat_Mul.mono _ _ _)
      | (with_reducible exact nat_Normalize.mono _ _)
      | (with_reducible exact nat_Sub.mono _ _ _)
      | (with_reducible exact voussoirlaw01_natAlive.mono _)
      | (with_reducible exact voussoirlaw01_wide.mono _ _)
      | (with_reducible exact LeO.refl _)
      | (with_reducible exact LeO.none _)
      | (with_reducible refine LeO.ite ?_ ?_)
      | (with_reducible refine LeO.bind ?_ (fun _ => ?_))
      | exact ih0 _ _ _
      | exact nat_Add.mono _ _ _
      | exact nat_Cmp.mono _ _ _
      | exact nat_Div.mono _ _ _
      | exact nat_Format.mono _ _
      | exact nat_Gcd.mono _ _ _
      | exact nat_Mul.mono _ _ _
      | exact nat_Normalize.mono _ _
      | exact nat_Sub.mono _ _ _
      | exact voussoirlaw01_natAlive.mono _
      | exact voussoirlaw01_wide.mono _ _
      | exact LeO.none _
      | refine LeO.ite ?_ ?_
      | refine LeO.bind ?_ (fun _ => ?_)
theorem voussoirlaw01_NatForm.mono : ∀ a0 a1 a2 k, LeO (voussoirlaw01_NatForm.f k a0 a1 a2) (voussoirlaw01_NatForm.f (k + 1) a0 a1 a2) := by
  intro a0 a1 a2 k
  have ih0 := voussoirlaw01_NatForm.mono_l k
  unfold voussoirlaw01_NatForm.f
  repeat' first
      | (with_reducible exact ih0 _ _ _)
      | (with_reducible exact nat_Add.mono _ _ _)
      | (with_reducible exact nat_Cmp.mono _ _ _)
      | (with_reducible exact nat_Div.mono _ _ _)
      | (with_reducible exact nat_Format.mono _ _)
      | (with_reducible exact nat_Gcd.mono _ _ _)
      | (with_reducible exact nat_Mul.mono _ _ _)
      | (with_reducible exact nat_Normalize.mono _ _)
      | (with_reducible exact nat_Sub.mono _ _ _)
      | (with_reducible exact voussoirlaw01_natAlive.mono _)
      | (with_reducible exact voussoirlaw01_wide.mono _ _)
      | (with_reducible exact LeO.refl _)
      | (with_reducible exact LeO.none _)
      | (with_reducible refine LeO.ite ?_ ?_)
      | (with_reducible refine LeO.bind ?_ (fun _ => ?_))
      | exact ih0 _ _ _
      | exact nat_Add.mono _ _ _
      | exact nat_Cmp.mono _ _ _
      | exact nat_Div.mono _ _ _
      | exact nat_Format.mono _ _
      | exact nat_Gcd.mono _ _ _
      | exact nat_Mul.mono _ _ _
      | exact nat_Normalize.mono _ _
      | exact nat_Sub.mono _ _ _
      | exact voussoirlaw01_natAlive.mono _
      | exact voussoirlaw01_wide.mono _ _
      | exact LeO.none _
      | refine LeO.ite ?_ ?_
      | refine LeO.bind ?_ (fun _ => ?_)
set_option maxHeartbeats 8000000 in
set_option maxRecDepth 100000 in
theorem voussoirlaw01_NatForm.calls (k : Nat) (a0 : ByteArray) (a1 : ByteArray) (a2 : Int) (r : Bool) (hr : r = true) (w : World) (hG : X.G w) (h : voussoirlaw01_NatForm.f k a0 a1 a2 = some r) :
    Calls Tryd.prog 9 #[.string a0, .string a1, .int .u8 a2] w fun e w' => e = .returned (.bool r) ∧ Below w.heap.size w w' := by
  have HR := Q.a hr
  clear hr
  have HG := Q.a hG
  clear hG
  have HB := Q.a (Below.refl w.heap.size w)
  have H : ((voussoirlaw01_natAlive.f k).bind fun t428 => (if t428 = true then ((voussoirlaw01_wide.f k (([a0, a1] : List ByteArray))).bind fun t432 => (if t432 = true then (some true) else ((X.strings_Repeat.f (⟨#[0]⟩ : ByteArray) (wrap64 (Int.tmod a2 9))).bind fun t433 => (if a0.size + t433.size ≤ 9223372036854775807 then ((nat_Sub.f k (a0 ++ t433) a1).bind fun bt434 => ((nat_Sub.f k a0 a1).bind fun bt436 => ((nat_Div.f k (a0 ++ t433) a1).bind fun bt438 => ((nat_Div.f k a0 a1).bind fun bt441 => ((nat_Normalize.f k (a0 ++ t433)).bind fun t444 => ((nat_Normalize.f k a0).bind fun t445 => (if t444.toList = t445.toList then ((nat_Add.f k (a0 ++ t433) a1).bind fun t446 => ((nat_Add.f k a0 a1).bind fun t447 => (if t446.toList = t447.toList then (if bt434.1.toList = bt436.1.toList then (if (bt434.2 != bt436.2) = true then (voussoirlaw01_NatForm.j0 k a0 a1 true) else ((nat_Mul.f k (a0 ++ t433) a1).bind fun t448 => ((nat_Mul.f k a0 a1).bind fun t449 => (if t448.toList = t449.toList then (if bt438.1.toList = bt441.1.toList then (if bt438.2.1.toList = bt441.2.1.toList then (if (bt438.2.2 != bt441.2.2) = true then (voussoirlaw01_NatForm.j0 k a0 a1 true) else ((nat_Gcd.f k (a0 ++ t433) (⟨#[6]⟩ : ByteArray)).bind fun t450 => ((nat_Gcd.f k a0 (⟨#[6]⟩ : ByteArray)).bind fun t451 => (if t450.toList = t451.toList then ((nat_Format.f k (a0 ++ t433)).bind fun t452 => ((nat_Format.f k a0).bind fun t453 => (voussoirlaw01_NatForm.j0 k a0 a1 (t452.toList != t453.toList)))) else (voussoirlaw01_NatForm.j0 k a0 a1 true))))) else (voussoirlaw01_NatForm.j0 k a0 a1 true)) else (voussoirlaw01_NatForm.j0 k a0 a1 true)) else (voussoirlaw01_NatForm.j0 k a0 a1 true))))) else (voussoirlaw01_NatForm.j0 k a0 a1 true)) else (voussoirlaw01_NatForm.j0 k a0 a1 true)))) else (voussoirlaw01_NatForm.j0 k a0 a1 true)))))))) else (none))))) else (some false))) = some r := h
  clear h
  replace H := Option.bind_eq_some_iff.mp H
  obtain ⟨t428, A40, H⟩ := H
  try dsimp only at H
  have A4 := Q.a A40
  clear A40
  by_cases c5 : t428 = true
  · subst c5
    rw [if_pos rfl] at H
    obtain ⟨y429, hy429⟩ : ∃ y_ : List ByteArray, y_ = (([a0, a1] : List ByteArray)) := ⟨_, rfl⟩
    replace H : ((voussoirlaw01_wide.f k y429).bind fun t432 => (if t432 = true then (some true) else ((X.strings_Repeat.f (⟨#[0]⟩ : ByteArray) (wrap64 (Int.tmod a2 9))).bind fun t433 => (if a0.size + t433.size ≤ 9223372036854775807 then ((nat_Sub.f k (a0 ++ t433) a1).bind fun bt434 => ((nat_Sub.f k a0 a1).bind fun bt436 => ((nat_Div.f k (a0 ++ t433) a1).bind fun bt438 => ((nat_Div.f k a0 a1).bind fun bt441 => ((nat_Normalize.f k (a0 ++ t433)).bind fun t444 => ((nat_Normalize.f k a0).bind fun t445 => (if t444.toList = t445.toList then ((nat_Add.f k (a0 ++ t433) a1).bind fun t446 => ((nat_Add.f k a0 a1).bind fun t447 => (if t446.toList = t447.toList then (if bt434.1.toList = bt436.1.toList then (if (bt434.2 != bt436.2) = true then (voussoirlaw01_NatForm.j0 k a0 a1 true) else ((nat_Mul.f k (a0 ++ t433) a1).bind fun t448 => ((nat_Mul.f k a0 a1).bind fun t449 => (if t448.toList = t449.toList then (if bt438.1.toList = bt441.1.toList then (if bt438.2.1.toList = bt441.2.1.toList then (if (bt438.2.2 != bt441.2.2) = true then (voussoirlaw01_NatForm.j0 k a0 a1 true) else ((nat_Gcd.f k (a0 ++ t433) (⟨#[6]⟩ : ByteArray)).bind fun t450 => ((nat_Gcd.f k a0 (⟨#[6]⟩ : ByteArray)).bind fun t451 => (if t450.toList = t451.toList then ((nat_Format.f k (a0 ++ t433)).bind fun t452 => ((nat_Format.f k a0).bind fun t453 => (voussoirlaw01_NatForm.j0 k a0 a1 (t452.toList != t453.toList)))) else (voussoirlaw01_NatForm.j0 k a0 a1 true))))) else (voussoirlaw01_NatForm.j0 k a0 a1 true)) else (voussoirlaw01_NatForm.j0 k a0 a1 true)) else (voussoirlaw01_NatForm.j0 k a0 a1 true))))) else (voussoirlaw01_NatForm.j0 k a0 a1 true)) else (voussoirlaw01_NatForm.j0 k a0 a1 true)))) else (voussoirlaw01_NatForm.j0 k a0 a1 true)))))))) else (none))))) = some r := by first | (rw [hy429]; with_reducible exact H) | (have H2_ := (Option.bind_some _ _).symm.trans H; rw [hy429]; with_reducible exact H2_) | (have H2_ := (Option.bind_some _ _).symm.trans H; with_reducible exact H2_) | with_reducible exact H | (rw [hy429]; exact H) | exact H
    have Ny429 := Q.a hy429
    clear hy429
    replace H := Option.bind_eq_some_iff.mp H
    obtain ⟨t432, A60, H⟩ := H
    try dsimp only at H
    have A6 := Q.a A60
    clear A60
    by_cases c7 : t432 = true
    · subst c7
      rw [if_pos rfl] at H
      obtain rfl := Option.some.inj H
      go_enter Tryd.func9, Tryd.ntmps9
      go_wp2_with (first | ((with_reducible refine gate_callee (f := 18) rfl ?_); refine Q.gl 18 Tryd.func18 #[] rfl rfl rfl rfl ?_; (with_reducible refine (voussoirlaw01_natAlive.calls k  true rfl _ ?side1 A4.out).mono ?_); (case side1 => exact X.G.below HG.out (Q.bw HB)); rintro e w8 ⟨rfl, hb⟩; refine ⟨_, rfl, ?_⟩; replace HB := Q.a (below_step (Q.bw HB) hb); (try clear hb)) | ((with_reducible refine gate_dst (N := 22) rfl ?_); refine Kd.R_lit Kd.string _ 9 ?hg (N := 22) ?hd (xs := ([a0, a1] : List ByteArray)) (inner := [.string a0, .string a1]) (ok := fun _ => True) (okp := fun _ => True) ?hr ?hp (fun _ hk => hk) trivial (Below.refl _ _) (Nat.le_refl _) (by simp) ?_; (case hd => rfl); (case hg => rfl); (case hr => first | (go_simp; done) | (go_simp; rfl)); (case hp => exact (Reps.one (show Kd.M Kd.string _ _ _ a0 [.string a0] from rfl) (Reps.one (show Kd.M Kd.string _ _ _ a1 [.string a1] from rfl) (Reps.none _ _)))); intro v430 w9 ho10 hb hg_ hnew_; clear hg_ hnew_; (first | rw [← Ny429.out] at ho10 | (simp only [Int.reduceToNat] at ho10; rw [← Ny429.out] at ho10)); replace HO431 := Q.a (Kd.R_lower ho10 (below_size (Q.bw HB))); replace HB := Q.a (below_step (Q.bw HB) hb); clear hb ho10; obtain ⟨Ao11, co11, eo11⟩ := Kd.R_slice HO431.out; subst eo11) | ((with_reducible refine gate_callee (f := 21) rfl ?_); refine Q.gl 23 Tryd.func21 #[.slice Ao11 y429.length co11] rfl rfl rfl rfl ?_; (with_reducible refine (voussoirlaw01_wide.calls k _ _ y429 true _ ?side1 ?side2 A6.out).mono ?_); (case side1 => repeat (first | exact (Kd.R_reads' HO431.out).2.2 | (with_reducible refine Kd.C_alloc ?_ _) | (with_reducible refine Kd.C_drewN ?_ _) | (with_reducible refine Kd.C_drew ?_))); (case side2 => exact (Kd.R_reads' HO431.out).2.1); rintro e w' ⟨rfl, ⟨nd, rfl⟩⟩; refine ⟨_, rfl, ?_⟩))
      go_ret
      exact ⟨Q.en, Q.bw HB⟩
    · replace c7 := Bool.eq_false_iff.mpr c7
      subst c7
      rw [if_neg (show ¬ (false = true) by decide)] at H
      replace H := Option.bind_eq_some_iff.mp H
      obtain ⟨t433, A120, H⟩ := H
      try dsimp only at H
      have A12 := Q.a A120
      clear A120
      by_cases c13 : a0.size + t433.size ≤ 9223372036854775807
      · rw [if_pos c13] at H
        have c13b0 := eq_true c13
        have c13b1 : decide (a0.size + t433.size ≤ 9223372036854775807) = true := decide_eq_true c13
        try have c13b2 : (9223372036854775807 < a0.size + t433.size) = False := eq_false (Nat.not_lt.2 c13)
        replace H := Option.bind_eq_some_iff.mp H
        obtain ⟨⟨t434, t435⟩, A140, H⟩ := H
        try dsimp only at H
        have A14 := Q.a A140
        clear A140
        replace H := Option.bind_eq_some_iff.mp H
        obtain ⟨⟨t436, t437⟩, A150, H⟩ := H
        try dsimp only at H
        have A15 := Q.a A150
        clear A150
        replace H := Option.bind_eq_some_iff.mp H
        obtain ⟨⟨t438, t439, t440⟩, A160, H⟩ := H
        try dsimp only at H
        have A16 := Q.a A160
        clear A160
        replace H := Option.bind_eq_some_iff.mp H
        obtain ⟨⟨t441, t442, t443⟩, A170, H⟩ := H
        try dsimp only at H
        have A17 := Q.a A170
        clear A170
        have HC18 := Q.a H
        clear H
        go_enter Tryd.func9, Tryd.ntmps9
        go_upto_region 10 with (first | ((with_reducible refine gate_callee (f := 18) rfl ?_); refine Q.gl 18 Tryd.func18 #[] rfl rfl rfl rfl ?_; (with_reducible refine (voussoirlaw01_natAlive.calls k  true rfl _ ?side1 A4.out).mono ?_); (case side1 => exact X.G.below HG.out (Q.bw HB)); rintro e w19 ⟨rfl, hb⟩; refine ⟨_, rfl, ?_⟩; replace HB := Q.a (below_step (Q.bw HB) hb); (try clear hb)) | ((with_reducible refine gate_dst (N := 22) rfl ?_); refine Kd.R_lit Kd.string _ 9 ?hg (N := 22) ?hd (xs := ([a0, a1] : List ByteArray)) (inner := [.string a0, .string a1]) (ok := fun _ => True) (okp := fun _ => True) ?hr ?hp (fun _ hk => hk) trivial (Below.refl _ _) (Nat.le_refl _) (by simp) ?_; (case hd => rfl); (case hg => rfl); (case hr => first | (go_simp; done) | (go_simp; rfl)); (case hp => exact (Reps.one (show Kd.M Kd.string _ _ _ a0 [.string a0] from rfl) (Reps.one (show Kd.M Kd.string _ _ _ a1 [.string a1] from rfl) (Reps.none _ _)))); intro v430 w20 ho21 hb hg_ hnew_; clear hg_ hnew_; (first | rw [← Ny429.out] at ho21 | (simp only [Int.reduceToNat] at ho21; rw [← Ny429.out] at ho21)); replace HO431 := Q.a (Kd.R_lower ho21 (below_size (Q.bw HB))); replace HB := Q.a (below_step (Q.bw HB) hb); clear hb ho21; obtain ⟨Ao22, co22, eo22⟩ := Kd.R_slice HO431.out; subst eo22) | ((with_reducible refine gate_callee (f := 21) rfl ?_); refine Q.gl 23 Tryd.func21 #[.slice Ao22 y429.length co22] rfl rfl rfl rfl ?_; (with_reducible refine (voussoirlaw01_wide.calls k _ _ y429 false _ ?side1 ?side2 A6.out).mono ?_); (case side1 => repeat (first | exact (Kd.R_reads' HO431.out).2.2 | (with_reducible refine Kd.C_alloc ?_ _) | (with_reducible refine Kd.C_drewN ?_ _) | (with_reducible refine Kd.C_drew ?_))); (case side2 => exact (Kd.R_reads' HO431.out).2.1); rintro e w' ⟨rfl, ⟨nd, rfl⟩⟩; refine ⟨_, rfl, ?_⟩) | ((with_reducible refine gate_callee (f := 34) rfl ?_); refine Q.gl 28 Tryd.func34 #[.string (⟨#[0]⟩ : ByteArray), .int .i64 (wrap64 (Int.tmod a2 9))] rfl rfl rfl rfl ?_; (with_reducible refine (X.strings_Repeat.calls (⟨#[0]⟩ : ByteArray) (wrap64 (Int.tmod a2 9)) t433 _ A12.out).mono ?_); rintro e w23 ⟨rfl, hb⟩; refine ⟨_, rfl, ?_⟩; replace HO431 := Q.a (Kd.R_below (Q.kr HO431) hb); replace HB := Q.a (below_step (Q.bw HB) hb); (try clear hb)) | ((with_reducible refine gate_callee (f := 29) rfl ?_); refine Q.gl 33 Tryd.func29 #[.string (a0 ++ t433), .string a1] rfl rfl rfl rfl ?_; (with_reducible refine (nat_Sub.calls k (a0 ++ t433) a1 t434 t435 _ A14.out).mono ?_); rintro e w24 ⟨rfl, hb⟩; refine ⟨_, rfl, ?_⟩; replace HO431 := Q.a (Kd.R_below (Q.kr HO431) hb); replace HB := Q.a (below_step (Q.bw HB) hb); (try clear hb)) | ((with_reducible refine gate_callee (f := 29) rfl ?_); refine Q.gl 39 Tryd.func29 #[.string a0, .string a1] rfl rfl rfl rfl ?_; (with_reducible refine (nat_Sub.calls k a0 a1 t436 t437 _ A15.out).mono ?_); rintro e w25 ⟨rfl, hb⟩; refine ⟨_, rfl, ?_⟩; replace HO431 := Q.a (Kd.R_below (Q.kr HO431) hb); replace HB := Q.a (below_step (Q.bw HB) hb); (try clear hb)) | ((with_reducible refine gate_callee (f := 22) rfl ?_); refine Q.gl 45 Tryd.func22 #[.string (a0 ++ t433), .string a1] rfl rfl rfl rfl ?_; (with_reducible refine (nat_Div.calls k (a0 ++ t433) a1 t438 t439 t440 _ A16.out).mono ?_); rintro e w26 ⟨rfl, hb⟩; refine ⟨_, rfl, ?_⟩; replace HO431 := Q.a (Kd.R_below (Q.kr HO431) hb); replace HB := Q.a (below_step (Q.bw HB) hb); (try clear hb)) | ((with_reducible refine gate_callee (f := 22) rfl ?_); refine Q.gl 52 Tryd.func22 #[.string a0, .string a1] rfl rfl rfl rfl ?_; (with_reducible refine (nat_Div.calls k a0 a1 t441 t442 t443 _ A17.out).mono ?_); rintro e w27 ⟨rfl, hb⟩; refine ⟨_, rfl, ?_⟩; replace HO431 := Q.a (Kd.R_below (Q.kr HO431) hb); replace HB := Q.a (below_step (Q.bw HB) hb); (try clear hb)))
        (try simp only [Act.put, List.setIfInBounds_toArray, List.set_cons_zero, List.set_cons_succ])
        go_cut [117] (fun v117 wc => ∃ (kq : Nat) (x117_17 : Bool), v117 = .bool x117_17 ∧ Aside0 (voussoirlaw01_NatForm.j0 kq a0 a1 x117_17 = some r) ∧ Aside0 (kq ≤ k) ∧ Aside0 (Below w.heap.size w wc))
        case first =>
          have H := HC18.out
          clear HC18
          replace H := Option.bind_eq_some_iff.mp H
          obtain ⟨t444, A280, H⟩ := H
          try dsimp only at H
          have A28 := Q.a A280
          clear A280
          replace H := Option.bind_eq_some_iff.mp H
          obtain ⟨t445, A290, H⟩ := H
          try dsimp only at H
          have A29 := Q.a A290
          clear A290
          by_cases c30 : t444.toList = t445.toList
          · rw [if_pos c30] at H
            have c30b0 : (t444.toList == t445.toList) = true := beq_iff_eq.mpr c30
            have c30b1 : (t444.toList != t445.toList) = false := bne_eq_false_iff_eq.mpr c30
            clear c30
            (first | rw [c30b0] | (simp only [i64_w, i32_w]; rw [c30b0]) | skip)
            replace H := Option.bind_eq_some_iff.mp H
            obtain ⟨t446, A310, H⟩ := H
            try dsimp only at H
            have A31 := Q.a A310
            clear A310
            replace H := Option.bind_eq_some_iff.mp H
            obtain ⟨t447, A320, H⟩ := H
            try dsimp only at H
            have A32 := Q.a A320
            clear A320
            by_cases c33 : t446.toList = t447.toList
            · rw [if_pos c33] at H
              have c33b0 : (t446.toList == t447.toList) = true := beq_iff_eq.mpr c33
              have c33b1 : (t446.toList != t447.toList) = false := bne_eq_false_iff_eq.mpr c33
              clear c33
              by_cases c34 : t434.toList = t436.toList
              · rw [if_pos c34] at H
                have c34b0 : (t434.toList == t436.toList) = true := beq_iff_eq.mpr c34
                have c34b1 : (t434.toList != t436.toList) = false := bne_eq_false_iff_eq.mpr c34
                clear c34
                by_cases c35 : (t435 != t437) = true
                · rw [if_pos c35] at H
                  have c35b0 : (t435 != t437) = true := c35
                  (try (have c35b1 : decide (t435 = t437) = false := by simpa using c35))
                  (try (have c35b2 : (t435 == t437) = false := by simpa using c35))
                  (try (have c35b3 : ¬ (t435 = t437) := by simpa using c35))
                  clear c35
                  have H' := Q.a H
                  clear H
                  go_wp2_with (first | ((with_reducible refine gate_callee (f := 26) rfl ?_); refine Q.gl 57 Tryd.func26 #[.string (a0 ++ t433)] rfl rfl rfl rfl ?_; (with_reducible refine (nat_Normalize.calls k (a0 ++ t433) t444 _ A28.out).mono ?_); rintro e w36 ⟨rfl, hb⟩; refine ⟨_, rfl, ?_⟩; replace HO431 := Q.a (Kd.R_below (Q.kr HO431) hb); replace HB := Q.a (below_step (Q.bw HB) hb); (try clear hb)) | ((with_reducible refine gate_callee (f := 26) rfl ?_); refine Q.gl 59 Tryd.func26 #[.string a0] rfl rfl rfl rfl ?_; (with_reducible refine (nat_Normalize.calls k a0 t445 _ A29.out).mono ?_); rintro e w37 ⟨rfl, hb⟩; refine ⟨_, rfl, ?_⟩; replace HO431 := Q.a (Kd.R_below (Q.kr HO431) hb); replace HB := Q.a (below_step (Q.bw HB) hb); (try clear hb)) | (go_at_call 27; (with_reducible refine (nat_Add.calls k (a0 ++ t433) a1 t446 _ A31.out).mono ?_); rintro e w38 ⟨rfl, hb⟩; replace HO431 := Q.a (Kd.R_below (Q.kr HO431) hb); replace HB := Q.a (below_step (Q.bw HB) hb); (try clear hb)) | (go_at_call 27; (with_reducible refine (nat_Add.calls k a0 a1 t447 _ A32.out).mono ?_); rintro e w39 ⟨rfl, hb⟩; replace HO431 := Q.a (Kd.R_below (Q.kr HO431) hb); replace HB := Q.a (below_step (Q.bw HB) hb); (try clear hb)))
                  go_meet
                  case rel => exact ⟨_, (true), Q.rs, H', ⟨by first | omega | exact Nat.le_refl _⟩, ⟨Q.bw HB⟩⟩
                · rw [if_neg c35] at H
                  have c35b0 : (t435 != t437) = false := by simpa using c35
                  (try (have c35b1 : decide (t435 = t437) = true := by simpa using c35))
                  (try (have c35b2 : (t435 == t437) = true := by simpa using c35))
                  clear c35
                  replace H := Option.bind_eq_some_iff.mp H
                  obtain ⟨t448, A400, H⟩ := H
                  try dsimp only at H
                  have A40 := Q.a A400
                  clear A400
                  replace H := Option.bind_eq_some_iff.mp H
                  obtain ⟨t449, A410, H⟩ := H
                  try dsimp only at H
                  have A41 := Q.a A410
                  clear A410
                  by_cases c42 : t448.toList = t449.toList
                  · rw [if_pos c42] at H
                    have c42b0 : (t448.toList == t449.toList) = true := beq_iff_eq.mpr c42
                    have c42b1 : (t448.toList != t449.toList) = false := bne_eq_false_iff_eq.mpr c42
                    clear c42
                    by_cases c43 : t438.toList = t441.toList
                    · rw [if_pos c43] at H
                      have c43b0 : (t438.toList == t441.toList) = true := beq_iff_eq.mpr c43
                      have c43b1 : (t438.toList != t441.toList) = false := bne_eq_false_iff_eq.mpr c43
                      clear c43
                      by_cases c44 : t439.toList = t442.toList
                      · rw [if_pos c44] at H
                        have c44b0 : (t439.toList == t442.toList) = true := beq_iff_eq.mpr c44
                        have c44b1 : (t439.toList != t442.toList) = false := bne_eq_false_iff_eq.mpr c44
                        clear c44
                        by_cases c45 : (t440 != t443) = true
                        · rw [if_pos c45] at H
                          have c45b0 : (t440 != t443) = true := c45
                          (try (have c45b1 : decide (t440 = t443) = false := by simpa using c45))
                          (try (have c45b2 : (t440 == t443) = false := by simpa using c45))
                          (try (have c45b3 : ¬ (t440 = t443) := by simpa using c45))
                          clear c45
                          have H' := Q.a H
                          clear H
                          go_wp2_with (first | ((with_reducible refine gate_callee (f := 26) rfl ?_); refine Q.gl 57 Tryd.func26 #[.string (a0 ++ t433)] rfl rfl rfl rfl ?_; (with_reducible refine (nat_Normalize.calls k (a0 ++ t433) t444 _ A28.out).mono ?_); rintro e w46 ⟨rfl, hb⟩; refine ⟨_, rfl, ?_⟩; replace HO431 := Q.a (Kd.R_below (Q.kr HO431) hb); replace HB := Q.a (below_step (Q.bw HB) hb); (try clear hb)) | ((with_reducible refine gate_callee (f := 26) rfl ?_); refine Q.gl 59 Tryd.func26 #[.string a0] rfl rfl rfl rfl ?_; (with_reducible refine (nat_Normalize.calls k a0 t445 _ A29.out).mono ?_); rintro e w47 ⟨rfl, hb⟩; refine ⟨_, rfl, ?_⟩; replace HO431 := Q.a (Kd.R_below (Q.kr HO431) hb); replace HB := Q.a (below_step (Q.bw HB) hb); (try clear hb)) | (go_at_call 27; (with_reducible refine (nat_Add.calls k (a0 ++ t433) a1 t446 _ A31.out).mono ?_); rintro e w48 ⟨rfl, hb⟩; replace HO431 := Q.a (Kd.R_below (Q.kr HO431) hb); replace HB := Q.a (below_step (Q.bw HB) hb); (try clear hb)) | (go_at_call 27; (with_reducible refine (nat_Add.calls k a0 a1 t447 _ A32.out).mono ?_); rintro e w49 ⟨rfl, hb⟩; replace HO431 := Q.a (Kd.R_below (Q.kr HO431) hb); replace HB := Q.a (below_step (Q.bw HB) hb); (try clear hb)) | (go_at_call 24; (with_reducible refine (nat_Mul.calls k (a0 ++ t433) a1 t448 _ A40.out).mono ?_); rintro e w50 ⟨rfl, hb⟩; replace HO431 := Q.a (Kd.R_below (Q.kr HO431) hb); replace HB := Q.a (below_step (Q.bw HB) hb); (try clear hb)) | (go_at_call 24; (with_reducible refine (nat_Mul.calls k a0 a1 t449 _ A41.out).mono ?_); rintro e w51 ⟨rfl, hb⟩; replace HO431 := Q.a (Kd.R_below (Q.kr HO431) hb); replace HB := Q.a (below_step (Q.bw HB) hb); (try clear hb)))
                          go_meet
                          case rel => exact ⟨_, (true), Q.rs, H', ⟨by first | omega | exact Nat.le_refl _⟩, ⟨Q.bw HB⟩⟩
                        · rw [if_neg c45] at H
                          have c45b0 : (t440 != t443) = false := by simpa using c45
                          (try (have c45b1 : decide (t440 = t443) = true := by simpa using c45))
                          (try (have c45b2 : (t440 == t443) = true := by simpa using c45))
                          clear c45
                          replace H := Option.bind_eq_some_iff.mp H
                          obtain ⟨t450, A520, H⟩ := H
                          try dsimp only at H
                          have A52 := Q.a A520
                          clear A520
                          replace H := Option.bind_eq_some_iff.mp H
                          obtain ⟨t451, A530, H⟩ := H
                          try dsimp only at H
                          have A53 := Q.a A530
                          clear A530
                          by_cases c54 : t450.toList = t451.toList
                          · rw [if_pos c54] at H
                            have c54b0 : (t450.toList == t451.toList) = true := beq_iff_eq.mpr c54
                            have c54b1 : (t450.toList != t451.toList) = false := bne_eq_false_iff_eq.mpr c54
                            clear c54
                            replace H := Option.bind_eq_some_iff.mp H
                            obtain ⟨t452, A550, H⟩ := H
                            try dsimp only at H
                            have A55 := Q.a A550
                            clear A550
                            replace H := Option.bind_eq_some_iff.mp H
                            obtain ⟨t453, A560, H⟩ := H
                            try dsimp only at H
                            have A56 := Q.a A560
                            clear A560
                            have H' := Q.a H
                            clear H
                            go_wp2_with (first | ((with_reducible refine gate_callee (f := 26) rfl ?_); refine Q.gl 57 Tryd.func26 #[.string (a0 ++ t433)] rfl rfl rfl rfl ?_; (with_reducible refine (nat_Normalize.calls k (a0 ++ t433) t444 _ A28.out).mono ?_); rintro e w57 ⟨rfl, hb⟩; refine ⟨_, rfl, ?_⟩; replace HO431 := Q.a (Kd.R_below (Q.kr HO431) hb); replace HB := Q.a (below_step (Q.bw HB) hb); (try clear hb)) | ((with_reducible refine gate_callee (f := 26) rfl ?_); refine Q.gl 59 Tryd.func26 #[.string a0] rfl rfl rfl rfl ?_; (with_reducible refine (nat_Normalize.calls k a0 t445 _ A29.out).mono ?_); rintro e w58 ⟨rfl, hb⟩; refine ⟨_, rfl, ?_⟩; replace HO431 := Q.a (Kd.R_below (Q.kr HO431) hb); replace HB := Q.a (below_step (Q.bw HB) hb); (try clear hb)) | (go_at_call 27; (with_reducible refine (nat_Add.calls k (a0 ++ t433) a1 t446 _ A31.out).mono ?_); rintro e w59 ⟨rfl, hb⟩; replace HO431 := Q.a (Kd.R_below (Q.kr HO431) hb); replace HB := Q.a (below_step (Q.bw HB) hb); (try clear hb)) | (go_at_call 27; (with_reducible refine (nat_Add.calls k a0 a1 t447 _ A32.out).mono ?_); rintro e w60 ⟨rfl, hb⟩; replace HO431 := Q.a (Kd.R_below (Q.kr HO431) hb); replace HB := Q.a (below_step (Q.bw HB) hb); (try clear hb)) | (go_at_call 24; (with_reducible refine (nat_Mul.calls k (a0 ++ t433) a1 t448 _ A40.out).mono ?_); rintro e w61 ⟨rfl, hb⟩; replace HO431 := Q.a (Kd.R_below (Q.kr HO431) hb); replace HB := Q.a (below_step (Q.bw HB) hb); (try clear hb)) | (go_at_call 24; (with_reducible refine (nat_Mul.calls k a0 a1 t449 _ A41.out).mono ?_); rintro e w62 ⟨rfl, hb⟩; replace HO431 := Q.a (Kd.R_below (Q.kr HO431) hb); replace HB := Q.a (below_step (Q.bw HB) hb); (try clear hb)) | (go_at_call 19; (with_reducible refine (nat_Gcd.calls k (a0 ++ t433) (⟨#[6]⟩ : ByteArray) t450 _ A52.out).mono ?_); rintro e w63 ⟨rfl, hb⟩; replace HO431 := Q.a (Kd.R_below (Q.kr HO431) hb); replace HB := Q.a (below_step (Q.bw HB) hb); (try clear hb)) | (go_at_call 19; (with_reducible refine (nat_Gcd.calls k a0 (⟨#[6]⟩ : ByteArray) t451 _ A53.out).mono ?_); rintro e w64 ⟨rfl, hb⟩; replace HO431 := Q.a (Kd.R_below (Q.kr HO431) hb); replace HB := Q.a (below_step (Q.bw HB) hb); (try clear hb)) | (go_at_call 35; (with_reducible refine (nat_Format.calls k (a0 ++ t433) t452 _ ?side1 A55.out).mono ?_); (case side1 => exact X.G.below HG.out (Q.bw HB)); rintro e w65 ⟨rfl, hb⟩; replace HO431 := Q.a (Kd.R_below (Q.kr HO431) hb); replace HB := Q.a (below_step (Q.bw HB) hb); (try clear hb)) | (go_at_call 35; (with_reducible refine (nat_Format.calls k a0 t453 _ ?side1 A56.out).mono ?_); (case side1 => exact X.G.below HG.out (Q.bw HB)); rintro e w66 ⟨rfl, hb⟩; replace HO431 := Q.a (Kd.R_below (Q.kr HO431) hb); replace HB := Q.a (below_step (Q.bw HB) hb); (try clear hb)))
                            go_meet
                            case rel => exact ⟨_, ((t452.toList != t453.toList)), Q.rs, H', ⟨by first | omega | exact Nat.le_refl _⟩, ⟨Q.bw HB⟩⟩
                          · rw [if_neg c54] at H
                            have c54b0 : (t450.toList == t451.toList) = false := beq_eq_false_iff_ne.mpr c54
                            have c54b1 : (t450.toList != t451.toList) = true := bne_iff_ne.mpr c54
                            have H' := Q.a H
                            clear H
                            go_wp2_with (first | ((with_reducible refine gate_callee (f := 26) rfl ?_); refine Q.gl 57 Tryd.func26 #[.string (a0 ++ t433)] rfl rfl rfl rfl ?_; (with_reducible refine (nat_Normalize.calls k (a0 ++ t433) t444 _ A28.out).mono ?_); rintro e w67 ⟨rfl, hb⟩; refine ⟨_, rfl, ?_⟩; replace HO431 := Q.a (Kd.R_below (Q.kr HO431) hb); replace HB := Q.a (below_step (Q.bw HB) hb); (try clear hb)) | ((with_reducible refine gate_callee (f := 26) rfl ?_); refine Q.gl 59 Tryd.func26 #[.string a0] rfl rfl rfl rfl ?_; (with_reducible refine (nat_Normalize.calls k a0 t445 _ A29.out).mono ?_); rintro e w68 ⟨rfl, hb⟩; refine ⟨_, rfl, ?_⟩; replace HO431 := Q.a (Kd.R_below (Q.kr HO431) hb); replace HB := Q.a (below_step (Q.bw HB) hb); (try clear hb)) | (go_at_call 27; (with_reducible refine (nat_Add.calls k (a0 ++ t433) a1 t446 _ A31.out).mono ?_); rintro e w69 ⟨rfl, hb⟩; replace HO431 := Q.a (Kd.R_below (Q.kr HO431) hb); replace HB := Q.a (below_step (Q.bw HB) hb); (try clear hb)) | (go_at_call 27; (with_reducible refine (nat_Add.calls k a0 a1 t447 _ A32.out).mono ?_); rintro e w70 ⟨rfl, hb⟩; replace HO431 := Q.a (Kd.R_below (Q.kr HO431) hb); replace HB := Q.a (below_step (Q.bw HB) hb); (try clear hb)) | (go_at_call 24; (with_reducible refine (nat_Mul.calls k (a0 ++ t433) a1 t448 _ A40.out).mono ?_); rintro e w71 ⟨rfl, hb⟩; replace HO431 := Q.a (Kd.R_below (Q.kr HO431) hb); replace HB := Q.a (below_step (Q.bw HB) hb); (try clear hb)) | (go_at_call 24; (with_reducible refine (nat_Mul.calls k a0 a1 t449 _ A41.out).mono ?_); rintro e w72 ⟨rfl, hb⟩; replace HO431 := Q.a (Kd.R_below (Q.kr HO431) hb); replace HB := Q.a (below_step (Q.bw HB) hb); (try clear hb)) | (go_at_call 19; (with_reducible refine (nat_Gcd.calls k (a0 ++ t433) (⟨#[6]⟩ : ByteArray) t450 _ A52.out).mono ?_); rintro e w73 ⟨rfl, hb⟩; replace HO431 := Q.a (Kd.R_below (Q.kr HO431) hb); replace HB := Q.a (below_step (Q.bw HB) hb); (try clear hb)) | (go_at_call 19; (with_reducible refine (nat_Gcd.calls k a0 (⟨#[6]⟩ : ByteArray) t451 _ A53.out).mono ?_); rintro e w74 ⟨rfl, hb⟩; replace HO431 := Q.a (Kd.R_below (Q.kr HO431) hb); replace HB := Q.a (below_step (Q.bw HB) hb); (try clear hb)))
                            go_meet
                            case rel => exact ⟨_, (true), Q.rs, H', ⟨by first | omega | exact Nat.le_refl _⟩, ⟨Q.bw HB⟩⟩
                      · rw [if_neg c44] at H
                        have c44b0 : (t439.toList == t442.toList) = false := beq_eq_false_iff_ne.mpr c44
                        have c44b1 : (t439.toList != t442.toList) = true := bne_iff_ne.mpr c44
                        have H' := Q.a H
                        clear H
                        go_wp2_with (first | ((with_reducible refine gate_callee (f := 26) rfl ?_); refine Q.gl 57 Tryd.func26 #[.string (a0 ++ t433)] rfl rfl rfl rfl ?_; (with_reducible refine (nat_Normalize.calls k (a0 ++ t433) t444 _ A28.out).mono ?_); rintro e w75 ⟨rfl, hb⟩; refine ⟨_, rfl, ?_⟩; replace HO431 := Q.a (Kd.R_below (Q.kr HO431) hb); replace HB := Q.a (below_step (Q.bw HB) hb); (try clear hb)) | ((with_reducible refine gate_callee (f := 26) rfl ?_); refine Q.gl 59 Tryd.func26 #[.string a0] rfl rfl rfl rfl ?_; (with_reducible refine (nat_Normalize.calls k a0 t445 _ A29.out).mono ?_); rintro e w76 ⟨rfl, hb⟩; refine ⟨_, rfl, ?_⟩; replace HO431 := Q.a (Kd.R_below (Q.kr HO431) hb); replace HB := Q.a (below_step (Q.bw HB) hb); (try clear hb)) | (go_at_call 27; (with_reducible refine (nat_Add.calls k (a0 ++ t433) a1 t446 _ A31.out).mono ?_); rintro e w77 ⟨rfl, hb⟩; replace HO431 := Q.a (Kd.R_below (Q.kr HO431) hb); replace HB := Q.a (below_step (Q.bw HB) hb); (try clear hb)) | (go_at_call 27; (with_reducible refine (nat_Add.calls k a0 a1 t447 _ A32.out).mono ?_); rintro e w78 ⟨rfl, hb⟩; replace HO431 := Q.a (Kd.R_below (Q.kr HO431) hb); replace HB := Q.a (below_step (Q.bw HB) hb); (try clear hb)) | (go_at_call 24; (with_reducible refine (nat_Mul.calls k (a0 ++ t433) a1 t448 _ A40.out).mono ?_); rintro e w79 ⟨rfl, hb⟩; replace HO431 := Q.a (Kd.R_below (Q.kr HO431) hb); replace HB := Q.a (below_step (Q.bw HB) hb); (try clear hb)) | (go_at_call 24; (with_reducible refine (nat_Mul.calls k a0 a1 t449 _ A41.out).mono ?_); rintro e w80 ⟨rfl, hb⟩; replace HO431 := Q.a (Kd.R_below (Q.kr HO431) hb); replace HB := Q.a (below_step (Q.bw HB) hb); (try clear hb)))
                        go_meet
                        case rel => exact ⟨_, (true), Q.rs, H', ⟨by first | omega | exact Nat.le_refl _⟩, ⟨Q.bw HB⟩⟩
                    · rw [if_neg c43] at H
                      have c43b0 : (t438.toList == t441.toList) = false := beq_eq_false_iff_ne.mpr c43
                      have c43b1 : (t438.toList != t441.toList) = true := bne_iff_ne.mpr c43
                      have H' := Q.a H
                      clear H
                      go_wp2_with (first | ((with_reducible refine gate_callee (f := 26) rfl ?_); refine Q.gl 57 Tryd.func26 #[.string (a0 ++ t433)] rfl rfl rfl rfl ?_; (with_reducible refine (nat_Normalize.calls k (a0 ++ t433) t444 _ A28.out).mono ?_); rintro e w81 ⟨rfl, hb⟩; refine ⟨_, rfl, ?_⟩; replace HO431 := Q.a (Kd.R_below (Q.kr HO431) hb); replace HB := Q.a (below_step (Q.bw HB) hb); (try clear hb)) | ((with_reducible refine gate_callee (f := 26) rfl ?_); refine Q.gl 59 Tryd.func26 #[.string a0] rfl rfl rfl rfl ?_; (with_reducible refine (nat_Normalize.calls k a0 t445 _ A29.out).mono ?_); rintro e w82 ⟨rfl, hb⟩; refine ⟨_, rfl, ?_⟩; replace HO431 := Q.a (Kd.R_below (Q.kr HO431) hb); replace HB := Q.a (below_step (Q.bw HB) hb); (try clear hb)) | (go_at_call 27; (with_reducible refine (nat_Add.calls k (a0 ++ t433) a1 t446 _ A31.out).mono ?_); rintro e w83 ⟨rfl, hb⟩; replace HO431 := Q.a (Kd.R_below (Q.kr HO431) hb); replace HB := Q.a (below_step (Q.bw HB) hb); (try clear hb)) | (go_at_call 27; (with_reducible refine (nat_Add.calls k a0 a1 t447 _ A32.out).mono ?_); rintro e w84 ⟨rfl, hb⟩; replace HO431 := Q.a (Kd.R_below (Q.kr HO431) hb); replace HB := Q.a (below_step (Q.bw HB) hb); (try clear hb)) | (go_at_call 24; (with_reducible refine (nat_Mul.calls k (a0 ++ t433) a1 t448 _ A40.out).mono ?_); rintro e w85 ⟨rfl, hb⟩; replace HO431 := Q.a (Kd.R_below (Q.kr HO431) hb); replace HB := Q.a (below_step (Q.bw HB) hb); (try clear hb)) | (go_at_call 24; (with_reducible refine (nat_Mul.calls k a0 a1 t449 _ A41.out).mono ?_); rintro e w86 ⟨rfl, hb⟩; replace HO431 := Q.a (Kd.R_below (Q.kr HO431) hb); replace HB := Q.a (below_step (Q.bw HB) hb); (try clear hb)))
                      go_meet
                      case rel => exact ⟨_, (true), Q.rs, H', ⟨by first | omega | exact Nat.le_refl _⟩, ⟨Q.bw HB⟩⟩
                  · rw [if_neg c42] at H
                    have c42b0 : (t448.toList == t449.toList) = false := beq_eq_false_iff_ne.mpr c42
                    have c42b1 : (t448.toList != t449.toList) = true := bne_iff_ne.mpr c42
                    have H' := Q.a H
                    clear H
                    go_wp2_with (first | ((with_reducible refine gate_callee (f := 26) rfl ?_); refine Q.gl 57 Tryd.func26 #[.string (a0 ++ t433)] rfl rfl rfl rfl ?_; (with_reducible refine (nat_Normalize.calls k (a0 ++ t433) t444 _ A28.out).mono ?_); rintro e w87 ⟨rfl, hb⟩; refine ⟨_, rfl, ?_⟩; replace HO431 := Q.a (Kd.R_below (Q.kr HO431) hb); replace HB := Q.a (below_step (Q.bw HB) hb); (try clear hb)) | ((with_reducible refine gate_callee (f := 26) rfl ?_); refine Q.gl 59 Tryd.func26 #[.string a0] rfl rfl rfl rfl ?_; (with_reducible refine (nat_Normalize.calls k a0 t445 _ A29.out).mono ?_); rintro e w88 ⟨rfl, hb⟩; refine ⟨_, rfl, ?_⟩; replace HO431 := Q.a (Kd.R_below (Q.kr HO431) hb); replace HB := Q.a (below_step (Q.bw HB) hb); (try clear hb)) | (go_at_call 27; (with_reducible refine (nat_Add.calls k (a0 ++ t433) a1 t446 _ A31.out).mono ?_); rintro e w89 ⟨rfl, hb⟩; replace HO431 := Q.a (Kd.R_below (Q.kr HO431) hb); replace HB := Q.a (below_step (Q.bw HB) hb); (try clear hb)) | (go_at_call 27; (with_reducible refine (nat_Add.calls k a0 a1 t447 _ A32.out).mono ?_); rintro e w90 ⟨rfl, hb⟩; replace HO431 := Q.a (Kd.R_below (Q.kr HO431) hb); replace HB := Q.a (below_step (Q.bw HB) hb); (try clear hb)) | (go_at_call 24; (with_reducible refine (nat_Mul.calls k (a0 ++ t433) a1 t448 _ A40.out).mono ?_); rintro e w91 ⟨rfl, hb⟩; replace HO431 := Q.a (Kd.R_below (Q.kr HO431) hb); replace HB := Q.a (below_step (Q.bw HB) hb); (try clear hb)) | (go_at_call 24; (with_reducible refine (nat_Mul.calls k a0 a1 t449 _ A41.out).mono ?_); rintro e w92 ⟨rfl, hb⟩; replace HO431 := Q.a (Kd.R_below (Q.kr HO431) hb); replace HB := Q.a (below_step (Q.bw HB) hb); (try clear hb)))
                    go_meet
                    case rel => exact ⟨_, (true), Q.rs, H', ⟨by first | omega | exact Nat.le_refl _⟩, ⟨Q.bw HB⟩⟩
              · rw [if_neg c34] at H
                have c34b0 : (t434.toList == t436.toList) = false := beq_eq_false_iff_ne.mpr c34
                have c34b1 : (t434.toList != t436.toList) = true := bne_iff_ne.mpr c34
                have H' := Q.a H
                clear H
                go_wp2_with (first | ((with_reducible refine gate_callee (f := 26) rfl ?_); refine Q.gl 57 Tryd.func26 #[.string (a0 ++ t433)] rfl rfl rfl rfl ?_; (with_reducible refine (nat_Normalize.calls k (a0 ++ t433) t444 _ A28.out).mono ?_); rintro e w93 ⟨rfl, hb⟩; refine ⟨_, rfl, ?_⟩; replace HO431 := Q.a (Kd.R_below (Q.kr HO431) hb); replace HB := Q.a (below_step (Q.bw HB) hb); (try clear hb)) | ((with_reducible refine gate_callee (f := 26) rfl ?_); refine Q.gl 59 Tryd.func26 #[.string a0] rfl rfl rfl rfl ?_; (with_reducible refine (nat_Normalize.calls k a0 t445 _ A29.out).mono ?_); rintro e w94 ⟨rfl, hb⟩; refine ⟨_, rfl, ?_⟩; replace HO431 := Q.a (Kd.R_below (Q.kr HO431) hb); replace HB := Q.a (below_step (Q.bw HB) hb); (try clear hb)) | (go_at_call 27; (with_reducible refine (nat_Add.calls k (a0 ++ t433) a1 t446 _ A31.out).mono ?_); rintro e w95 ⟨rfl, hb⟩; replace HO431 := Q.a (Kd.R_below (Q.kr HO431) hb); replace HB := Q.a (below_step (Q.bw HB) hb); (try clear hb)) | (go_at_call 27; (with_reducible refine (nat_Add.calls k a0 a1 t447 _ A32.out).mono ?_); rintro e w96 ⟨rfl, hb⟩; replace HO431 := Q.a (Kd.R_below (Q.kr HO431) hb); replace HB := Q.a (below_step (Q.bw HB) hb); (try clear hb)))
                go_meet
                case rel => exact ⟨_, (true), Q.rs, H', ⟨by first | omega | exact Nat.le_refl _⟩, ⟨Q.bw HB⟩⟩
            · rw [if_neg c33] at H
              have c33b0 : (t446.toList == t447.toList) = false := beq_eq_false_iff_ne.mpr c33
              have c33b1 : (t446.toList != t447.toList) = true := bne_iff_ne.mpr c33
              have H' := Q.a H
              clear H
              go_wp2_with (first | ((with_reducible refine gate_callee (f := 26) rfl ?_); refine Q.gl 57 Tryd.func26 #[.string (a0 ++ t433)] rfl rfl rfl rfl ?_; (with_reducible refine (nat_Normalize.calls k (a0 ++ t433) t444 _ A28.out).mono ?_); rintro e w97 ⟨rfl, hb⟩; refine ⟨_, rfl, ?_⟩; replace HO431 := Q.a (Kd.R_below (Q.kr HO431) hb); replace HB := Q.a (below_step (Q.bw HB) hb); (try clear hb)) | ((with_reducible refine gate_callee (f := 26) rfl ?_); refine Q.gl 59 Tryd.func26 #[.string a0] rfl rfl rfl rfl ?_; (with_reducible refine (nat_Normalize.calls k a0 t445 _ A29.out).mono ?_); rintro e w98 ⟨rfl, hb⟩; refine ⟨_, rfl, ?_⟩; replace HO431 := Q.a (Kd.R_below (Q.kr HO431) hb); replace HB := Q.a (below_step (Q.bw HB) hb); (try clear hb)) | (go_at_call 27; (with_reducible refine (nat_Add.calls k (a0 ++ t433) a1 t446 _ A31.out).mono ?_); rintro e w99 ⟨rfl, hb⟩; replace HO431 := Q.a (Kd.R_below (Q.kr HO431) hb); replace HB := Q.a (below_step (Q.bw HB) hb); (try clear hb)) | (go_at_call 27; (with_reducible refine (nat_Add.calls k a0 a1 t447 _ A32.out).mono ?_); rintro e w100 ⟨rfl, hb⟩; replace HO431 := Q.a (Kd.R_below (Q.kr HO431) hb); replace HB := Q.a (below_step (Q.bw HB) hb); (try clear hb)))
              go_meet
              case rel => exact ⟨_, (true), Q.rs, H', ⟨by first | omega | exact Nat.le_refl _⟩, ⟨Q.bw HB⟩⟩
          · rw [if_neg c30] at H
            have c30b0 : (t444.toList == t445.toList) = false := beq_eq_false_iff_ne.mpr c30
            have c30b1 : (t444.toList != t445.toList) = true := bne_iff_ne.mpr c30
            (first | rw [c30b0] | (simp only [i64_w, i32_w]; rw [c30b0]) | skip)
            have H' := Q.a H
            clear H
            go_wp2_with (first | ((with_reducible refine gate_callee (f := 26) rfl ?_); refine Q.gl 57 Tryd.func26 #[.string (a0 ++ t433)] rfl rfl rfl rfl ?_; (with_reducible refine (nat_Normalize.calls k (a0 ++ t433) t444 _ A28.out).mono ?_); rintro e w101 ⟨rfl, hb⟩; refine ⟨_, rfl, ?_⟩; replace HO431 := Q.a (Kd.R_below (Q.kr HO431) hb); replace HB := Q.a (below_step (Q.bw HB) hb); (try clear hb)) | ((with_reducible refine gate_callee (f := 26) rfl ?_); refine Q.gl 59 Tryd.func26 #[.string a0] rfl rfl rfl rfl ?_; (with_reducible refine (nat_Normalize.calls k a0 t445 _ A29.out).mono ?_); rintro e w102 ⟨rfl, hb⟩; refine ⟨_, rfl, ?_⟩; replace HO431 := Q.a (Kd.R_below (Q.kr HO431) hb); replace HB := Q.a (below_step (Q.bw HB) hb); (try clear hb)))
            go_meet
            case rel => exact ⟨_, (true), Q.rs, H', ⟨by first | omega | exact Nat.le_refl _⟩, ⟨Q.bw HB⟩⟩
        case rest =>
          clear HC18
          try clear c1
          try clear c2
          try clear p2
          try clear c3
          try clear c4
          try clear c5
          try clear p6
          try clear c7
          try clear c9
          try clear c13
          try clear c13b0
          try clear c13b1
          try clear c13b2
          try clear c18
          try clear c21
          try clear c22
          try clear c26
          try clear c29
          try clear c30
          try clear c30b0
          try clear c30b1
          try clear c33
          try clear c33b0
          try clear c33b1
          try clear c34
          try clear c34b0
          try clear c34b1
          try clear c35
          try clear c35b0
          try clear c35b1
          try clear c35b2
          try clear c42
          try clear c42b0
          try clear c42b1
          try clear c43
          try clear c43b0
          try clear c43b1
          try clear c44
          try clear c44b0
          try clear c44b1
          try clear c45
          try clear c45b0
          try clear c45b1
          try clear c45b2
          try clear c54
          try clear c54b0
          try clear c54b1
          try clear p64
          obtain ⟨kq, x117_17, rfl, HA, HJ17, HB⟩ := hcut
          cases kq with
          | zero => exact absurd HA.out (by simp [voussoirlaw01_NatForm.j0])
          | succ kj17 =>
            have H := HA.out
            clear HA
            simp only [voussoirlaw01_NatForm.j0] at H
            by_cases c103 : x117_17 = true
            · subst c103
              rw [if_pos rfl] at H
              obtain rfl := Option.some.inj H
              exact absurd HR.out (by decide)
            · replace c103 := Bool.eq_false_iff.mpr c103
              subst c103
              rw [if_neg (show ¬ (false = true) by decide)] at H
              replace H := Option.bind_eq_some_iff.mp H
              obtain ⟨t454, A1040, H⟩ := H
              try dsimp only at H
              have A104 := Q.a A1040
              clear A1040
              replace H := Option.bind_eq_some_iff.mp H
              obtain ⟨t455, A1050, H⟩ := H
              try dsimp only at H
              have A105 := Q.a A1050
              clear A1050
              replace H := Option.bind_eq_some_iff.mp H
              obtain ⟨t456, A1060, H⟩ := H
              try dsimp only at H
              have A106 := Q.a A1060
              clear A1060
              by_cases c107 : ((t454 == 0) == (t455.toList == t456.toList)) = true
              · rw [if_pos c107] at H
                have c107b0 : ((t454 == 0) == (t455.toList == t456.toList)) = true := c107
                (try (have c107b1 : decide ((t454 == 0) = (t455.toList == t456.toList)) = true := by simpa using c107))
                (try (have c107b2 : ((t454 == 0) == (t455.toList == t456.toList)) = true := by simpa using c107))
                clear c107
                replace H := Option.bind_eq_some_iff.mp H
                obtain ⟨t457, A1080, H⟩ := H
                try dsimp only at H
                have A108 := Q.a A1080
                clear A1080
                replace H := Option.bind_eq_some_iff.mp H
                obtain ⟨t458, A1090, H⟩ := H
                try dsimp only at H
                have A109 := Q.a A1090
                clear A1090
                replace H := Option.bind_eq_some_iff.mp H
                obtain ⟨t459, A1100, H⟩ := H
                try dsimp only at H
                have A110 := Q.a A1100
                clear A1100
                obtain rfl := Option.some.inj (A105.out.symm.trans A110.out)
                replace H := Option.bind_eq_some_iff.mp H
                obtain ⟨t460, A1110, H⟩ := H
                try dsimp only at H
                have A111 := Q.a A1110
                clear A1110
                obtain rfl := Option.some.inj (A106.out.symm.trans A111.out)
                by_cases c112 : ((t457.toList == t458.toList) == (t455.toList == t456.toList)) = true
                · rw [if_pos c112] at H
                  have c112b0 : ((t457.toList == t458.toList) == (t455.toList == t456.toList)) = true := c112
                  (try (have c112b1 : decide ((t457.toList == t458.toList) = (t455.toList == t456.toList)) = true := by simpa using c112))
                  (try (have c112b2 : ((t457.toList == t458.toList) == (t455.toList == t456.toList)) = true := by simpa using c112))
                  clear c112
                  replace H := Option.bind_eq_some_iff.mp H
                  obtain ⟨t461, A1130, H⟩ := H
                  try dsimp only at H
                  have A113 := Q.a A1130
                  clear A1130
                  obtain rfl := Option.some.inj (A104.out.symm.trans A113.out)
                  replace H := Option.bind_eq_some_iff.mp H
                  obtain ⟨t462, A1140, H⟩ := H
                  try dsimp only at H
                  have A114 := Q.a A1140
                  clear A1140
                  obtain rfl := Option.some.inj H
                  go_wp2_with (first | ((with_reducible refine gate_callee (f := 28) rfl ?_); refine Q.gl 120 Tryd.func28 #[.string a0, .string a1] rfl rfl rfl rfl ?_; (with_reducible refine (nat_Cmp.calls kj17 a0 a1 t454 _ A104.out).mono ?_); rintro e w115 ⟨rfl, hb⟩; refine ⟨_, rfl, ?_⟩; replace HB := Q.a (below_step (Q.bw HB) hb); (try clear hb)) | ((with_reducible refine gate_callee (f := 26) rfl ?_); refine Q.gl 123 Tryd.func26 #[.string a0] rfl rfl rfl rfl ?_; (with_reducible refine (nat_Normalize.calls kj17 a0 t455 _ A105.out).mono ?_); rintro e w116 ⟨rfl, hb⟩; refine ⟨_, rfl, ?_⟩; replace HB := Q.a (below_step (Q.bw HB) hb); (try clear hb)) | ((with_reducible refine gate_callee (f := 26) rfl ?_); refine Q.gl 125 Tryd.func26 #[.string a1] rfl rfl rfl rfl ?_; (with_reducible refine (nat_Normalize.calls kj17 a1 t456 _ A106.out).mono ?_); rintro e w117 ⟨rfl, hb⟩; refine ⟨_, rfl, ?_⟩; replace HB := Q.a (below_step (Q.bw HB) hb); (try clear hb)) | (go_at_call 35; (with_reducible refine (nat_Format.calls kj17 a0 t457 _ ?side1 A108.out).mono ?_); (case side1 => exact X.G.below HG.out (Q.bw HB)); rintro e w118 ⟨rfl, hb⟩; replace HB := Q.a (below_step (Q.bw HB) hb); (try clear hb)) | (go_at_call 35; (with_reducible refine (nat_Format.calls kj17 a1 t458 _ ?side1 A109.out).mono ?_); (case side1 => exact X.G.below HG.out (Q.bw HB)); rintro e w119 ⟨rfl, hb⟩; replace HB := Q.a (below_step (Q.bw HB) hb); (try clear hb)) | (go_at_call 26; (with_reducible refine (nat_Normalize.calls kj17 a0 t455 _ A110.out).mono ?_); rintro e w120 ⟨rfl, hb⟩; replace HB := Q.a (below_step (Q.bw HB) hb); (try clear hb)) | (go_at_call 26; (with_reducible refine (nat_Normalize.calls kj17 a1 t456 _ A111.out).mono ?_); rintro e w121 ⟨rfl, hb⟩; replace HB := Q.a (below_step (Q.bw HB) hb); (try clear hb)) | (go_at_call 28; (with_reducible refine (nat_Cmp.calls kj17 a0 a1 t454 _ A113.out).mono ?_); rintro e w122 ⟨rfl, hb⟩; replace HB := Q.a (below_step (Q.bw HB) hb); (try clear hb)) | (go_at_call 28; (with_reducible refine (nat_Cmp.calls kj17 a1 a0 t462 _ A114.out).mono ?_); rintro e w123 ⟨rfl, hb⟩; replace HB := Q.a (below_step (Q.bw HB) hb); (try clear hb)))
                  go_ret
                  exact ⟨Q.en, Q.bw HB⟩
                · rw [if_neg c112] at H
                  have c112b0 : ((t457.toList == t458.toList) == (t455.toList == t456.toList)) = false := by simpa using c112
                  (try (have c112b1 : decide ((t457.toList == t458.toList) = (t455.toList == t456.toList)) = false := by simpa using c112))
                  (try (have c112b2 : ((t457.toList == t458.toList) == (t455.toList == t456.toList)) = false := by simpa using c112))
                  (try (have c112b3 : ¬ ((t457.toList == t458.toList) = (t455.toList == t456.toList)) := by simpa using c112))
                  clear c112
                  obtain rfl := Option.some.inj H
                  exact absurd HR.out (by decide)
              · rw [if_neg c107] at H
                have c107b0 : ((t454 == 0) == (t455.toList == t456.toList)) = false := by simpa using c107
                (try (have c107b1 : decide ((t454 == 0) = (t455.toList == t456.toList)) = false := by simpa using c107))
                (try (have c107b2 : ((t454 == 0) == (t455.toList == t456.toList)) = false := by simpa using c107))
                (try (have c107b3 : ¬ ((t454 == 0) = (t455.toList == t456.toList)) := by simpa using c107))
                clear c107
                obtain rfl := Option.some.inj H
                exact absurd HR.out (by decide)
      · rw [if_neg c13] at H
        exact absurd H (by simp)
  · replace c5 := Bool.eq_false_iff.mpr c5
    subst c5
    rw [if_neg (show ¬ (false = true) by decide)] at H
    obtain rfl := Option.some.inj H
    exact absurd HR.out (by decide)
/-- THE ONE PURE STATEMENT of voussoirlaw01_NatForm: yours. -/
def voussoirlaw01_NatForm.Pure : Prop := ∀ (a0 : ByteArray) (a1 : ByteArray) (a2 : Int), a0.size ≤ 140737488351232 → a1.size ≤ 140737488351232 → (Lit.int .u8 a2).wf = true → ∃ k, voussoirlaw01_NatForm.f k a0 a1 a2 = some true
theorem voussoirlaw01_NatForm.walk (P : voussoirlaw01_NatForm.Pure) (a0 : ByteArray) (a1 : ByteArray) (a2 : Int) (w : World) (w0 : a0.size ≤ 140737488351232) (w1 : a1.size ≤ 140737488351232) (w2 : (Lit.int .u8 a2).wf = true) (hG : X.G w) :
    Calls Tryd.prog 9 #[.string a0, .string a1, .int .u8 a2] w fun e w' => e = .returned (.bool true) ∧ Below w.heap.size w w' := by
  obtain ⟨k, h⟩ := P a0 a1 a2 w0 w1 w2
  refine (voussoirlaw01_NatForm.calls k a0 a1 a2 true rfl w hG h).mono ?_
  rintro e w' ⟨rfl, hd⟩
  exact ⟨rfl, hd⟩

end Go.Proofs.YtpokflilobkoaaaDoor.P
