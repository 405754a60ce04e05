-- Written by mp.py (a program of this session's, over the kit's printer). Not trusted: Lean checks it.
import Derived.Test.YtpokflilobkoaaaDoorPx0
import Derived.Test.YtpokflilobkoaaaDoorPx6
import Derived.Test.YtpokflilobkoaaaDoorPx7
import Derived.Test.YtpokflilobkoaaaDoorPx9
import Derived.Test.YtpokflilobkoaaaDoorPx10
import Derived.Test.YtpokflilobkoaaaDoorXQ
namespace Go.Proofs.YtpokflilobkoaaaDoor.P
open Go.RowKit Go.Proofs.YtpokflilobkoaaaDoorW.PrintWords Go.Proofs.YtpokflilobkoaaaDoorW.PrintLast Go.Proofs.YtpokflilobkoaaaDoorW.PrintMore
attribute [local go_sem] max2_int min2_int max_two min_two max_three min_three max_four min_four   -- for this text's walks alone
attribute [local go_sem] XW.cell_twice   -- for this text's walks alone
set_option linter.unusedVariables false
set_option linter.unusedSimpArgs false

/-! ### voussoirlaw01_NatMuls: function 4 -/
def voussoirlaw01_NatMuls.f (k : Nat) (a0 : ByteArray) (a1 : ByteArray) : Option (Bool) := (voussoirlaw01_natAlive.f k).bind fun t341 => (if t341 = true then ((voussoirlaw01_wide.f k (([a0, a1] : List ByteArray))).bind fun t345 => (if t345 = true then (some true) else ((nat_Div.f k a0 a1).bind fun bt346 => ((voussoirref01_Div.f k a0 a1).bind fun bt349 => ((nat_Mul.f k a0 a1).bind fun t352 => ((voussoirref01_Mul.f k a0 a1).bind fun t353 => (if t352.toList = t353.toList then (if bt346.1.toList = bt349.1.toList then (if bt346.2.1.toList = bt349.2.1.toList then (some (bt346.2.2 == bt349.2.2)) else (some false)) else (some false)) else (some false)))))))) else (some false))
theorem voussoirlaw01_NatMuls.mono : ∀ a0 a1 k, LeO (voussoirlaw01_NatMuls.f k a0 a1) (voussoirlaw01_NatMuls.f (k + 1) a0 a1) := by
  intro a0 a1 k
  unfold voussoirlaw01_NatMuls.f
  repeat' first
      | (with_reducible exact nat_Div.mono _ _ _)
      | (with_reducible exact nat_Mul.mono _ _ _)
      | (with_reducible exact voussoirlaw01_natAlive.mono _)
      | (with_reducible exact voussoirlaw01_wide.mono _ _)
      | (with_reducible exact voussoirref01_Div.mono _ _ _)
      | (with_reducible exact voussoirref01_Mul.mono _ _ _)
      | (with_reducible exact LeO.refl _)
      | (with_reducible exact LeO.none _)
      | (with_reducible refine LeO.ite ?_ ?_)
      | (with_reducible refine LeO.bind ?_ (fun _ => ?_))
      | exact nat_Div.mono _ _ _
      | exact nat_Mul.mono _ _ _
      | exact voussoirlaw01_natAlive.mono _
      | exact voussoirlaw01_wide.mono _ _
      | exact voussoirref01_Div.mono _ _ _
      | exact voussoirref01_Mul.mono _ _ _
      | exact LeO.none _
      | refine LeO.ite ?_ ?_
      | refine LeO.bind ?_ (fun _ => ?_)
set_option maxHeartbeats 8000000 in
set_option maxRecDepth 100000 in
theorem voussoirlaw01_NatMuls.calls (k : Nat) (a0 : ByteArray) (a1 : ByteArray) (r : Bool) (hr : r = true) (w : World) (hG : X.G w) (h : voussoirlaw01_NatMuls.f k a0 a1 = some r) :
    Calls Tryd.prog 4 #[.string a0, .string a1] w fun e w' => e = .returned (.bool r) ∧ Below w.heap.size w w' := by
  have HR := Q.a hr
  clear hr
  have HG := Q.a hG
  clear hG
  have HB := Q.a (Below.refl w.heap.size w)
  have H : ((voussoirlaw01_natAlive.f k).bind fun t341 => (if t341 = true then ((voussoirlaw01_wide.f k (([a0, a1] : List ByteArray))).bind fun t345 => (if t345 = true then (some true) else ((nat_Div.f k a0 a1).bind fun bt346 => ((voussoirref01_Div.f k a0 a1).bind fun bt349 => ((nat_Mul.f k a0 a1).bind fun t352 => ((voussoirref01_Mul.f k a0 a1).bind fun t353 => (if t352.toList = t353.toList then (if bt346.1.toList = bt349.1.toList then (if bt346.2.1.toList = bt349.2.1.toList then (some (bt346.2.2 == bt349.2.2)) else (some false)) else (some false)) else (some false)))))))) else (some false))) = some r := h
  clear h
  replace H := Option.bind_eq_some_iff.mp H
  obtain ⟨t341, A30, H⟩ := H
  try dsimp only at H
  have A3 := Q.a A30
  clear A30
  by_cases c4 : t341 = true
  · subst c4
    rw [if_pos rfl] at H
    obtain ⟨y342, hy342⟩ : ∃ y_ : List ByteArray, y_ = (([a0, a1] : List ByteArray)) := ⟨_, rfl⟩
    replace H : ((voussoirlaw01_wide.f k y342).bind fun t345 => (if t345 = true then (some true) else ((nat_Div.f k a0 a1).bind fun bt346 => ((voussoirref01_Div.f k a0 a1).bind fun bt349 => ((nat_Mul.f k a0 a1).bind fun t352 => ((voussoirref01_Mul.f k a0 a1).bind fun t353 => (if t352.toList = t353.toList then (if bt346.1.toList = bt349.1.toList then (if bt346.2.1.toList = bt349.2.1.toList then (some (bt346.2.2 == bt349.2.2)) else (some false)) else (some false)) else (some false)))))))) = some r := by first | (rw [hy342]; with_reducible exact H) | (have H2_ := (Option.bind_some _ _).symm.trans H; rw [hy342]; with_reducible exact H2_) | (have H2_ := (Option.bind_some _ _).symm.trans H; with_reducible exact H2_) | with_reducible exact H | (rw [hy342]; exact H) | exact H
    have Ny342 := Q.a hy342
    clear hy342
    replace H := Option.bind_eq_some_iff.mp H
    obtain ⟨t345, A50, H⟩ := H
    try dsimp only at H
    have A5 := Q.a A50
    clear A50
    by_cases c6 : t345 = true
    · subst c6
      rw [if_pos rfl] at H
      obtain rfl := Option.some.inj H
      go_enter Tryd.func4, Tryd.ntmps4
      go_wp2_with (first | ((with_reducible refine gate_callee (f := 18) rfl ?_); refine Q.gl 11 Tryd.func18 #[] rfl rfl rfl rfl ?_; (with_reducible refine (voussoirlaw01_natAlive.calls k  true rfl _ ?side1 A3.out).mono ?_); (case side1 => exact X.G.below HG.out (Q.bw HB)); rintro e w7 ⟨rfl, hb⟩; refine ⟨_, rfl, ?_⟩; replace HB := Q.a (below_step (Q.bw HB) hb); (try clear hb)) | ((with_reducible refine gate_dst (N := 15) rfl ?_); refine Kd.R_lit Kd.string _ 9 ?hg (N := 15) ?hd (xs := ([a0, a1] : List ByteArray)) (inner := [.string a0, .string a1]) (ok := fun _ => True) (okp := fun _ => True) ?hr ?hp (fun _ hk => hk) trivial (Below.refl _ _) (Nat.le_refl _) (by simp) ?_; (case hd => rfl); (case hg => rfl); (case hr => first | (go_simp; done) | (go_simp; rfl)); (case hp => exact (Reps.one (show Kd.M Kd.string _ _ _ a0 [.string a0] from rfl) (Reps.one (show Kd.M Kd.string _ _ _ a1 [.string a1] from rfl) (Reps.none _ _)))); intro v343 w8 ho9 hb hg_ hnew_; clear hg_ hnew_; (first | rw [← Ny342.out] at ho9 | (simp only [Int.reduceToNat] at ho9; rw [← Ny342.out] at ho9)); replace HO344 := Q.a (Kd.R_lower ho9 (below_size (Q.bw HB))); replace HB := Q.a (below_step (Q.bw HB) hb); clear hb ho9; obtain ⟨Ao10, co10, eo10⟩ := Kd.R_slice HO344.out; subst eo10) | ((with_reducible refine gate_callee (f := 21) rfl ?_); refine Q.gl 16 Tryd.func21 #[.slice Ao10 y342.length co10] rfl rfl rfl rfl ?_; (with_reducible refine (voussoirlaw01_wide.calls k _ _ y342 true _ ?side1 ?side2 A5.out).mono ?_); (case side1 => repeat (first | exact (Kd.R_reads' HO344.out).2.2 | (with_reducible refine Kd.C_alloc ?_ _) | (with_reducible refine Kd.C_drewN ?_ _) | (with_reducible refine Kd.C_drew ?_))); (case side2 => exact (Kd.R_reads' HO344.out).2.1); rintro e w' ⟨rfl, ⟨nd, rfl⟩⟩; refine ⟨_, rfl, ?_⟩))
      go_ret
      exact ⟨Q.en, Q.bw HB⟩
    · replace c6 := Bool.eq_false_iff.mpr c6
      subst c6
      rw [if_neg (show ¬ (false = true) by decide)] at H
      replace H := Option.bind_eq_some_iff.mp H
      obtain ⟨⟨t346, t347, t348⟩, A110, H⟩ := H
      try dsimp only at H
      have A11 := Q.a A110
      clear A110
      replace H := Option.bind_eq_some_iff.mp H
      obtain ⟨⟨t349, t350, t351⟩, A120, H⟩ := H
      try dsimp only at H
      have A12 := Q.a A120
      clear A120
      replace H := Option.bind_eq_some_iff.mp H
      obtain ⟨t352, A130, H⟩ := H
      try dsimp only at H
      have A13 := Q.a A130
      clear A130
      replace H := Option.bind_eq_some_iff.mp H
      obtain ⟨t353, A140, H⟩ := H
      try dsimp only at H
      have A14 := Q.a A140
      clear A140
      by_cases c15 : t352.toList = t353.toList
      · rw [if_pos c15] at H
        have c15b0 : (t352.toList == t353.toList) = true := beq_iff_eq.mpr c15
        have c15b1 : (t352.toList != t353.toList) = false := bne_eq_false_iff_eq.mpr c15
        clear c15
        by_cases c16 : t346.toList = t349.toList
        · rw [if_pos c16] at H
          have c16b0 : (t346.toList == t349.toList) = true := beq_iff_eq.mpr c16
          have c16b1 : (t346.toList != t349.toList) = false := bne_eq_false_iff_eq.mpr c16
          clear c16
          by_cases c17 : t347.toList = t350.toList
          · rw [if_pos c17] at H
            have c17b0 : (t347.toList == t350.toList) = true := beq_iff_eq.mpr c17
            have c17b1 : (t347.toList != t350.toList) = false := bne_eq_false_iff_eq.mpr c17
            clear c17
            obtain rfl := Option.some.inj H
            go_enter Tryd.func4, Tryd.ntmps4
            go_wp2_with (first | ((with_reducible refine gate_callee (f := 18) rfl ?_); refine Q.gl 11 Tryd.func18 #[] rfl rfl rfl rfl ?_; (with_reducible refine (voussoirlaw01_natAlive.calls k  true rfl _ ?side1 A3.out).mono ?_); (case side1 => exact X.G.below HG.out (Q.bw HB)); rintro e w18 ⟨rfl, hb⟩; refine ⟨_, rfl, ?_⟩; replace HB := Q.a (below_step (Q.bw HB) hb); (try clear hb)) | ((with_reducible refine gate_dst (N := 15) rfl ?_); refine Kd.R_lit Kd.string _ 9 ?hg (N := 15) ?hd (xs := ([a0, a1] : List ByteArray)) (inner := [.string a0, .string a1]) (ok := fun _ => True) (okp := fun _ => True) ?hr ?hp (fun _ hk => hk) trivial (Below.refl _ _) (Nat.le_refl _) (by simp) ?_; (case hd => rfl); (case hg => rfl); (case hr => first | (go_simp; done) | (go_simp; rfl)); (case hp => exact (Reps.one (show Kd.M Kd.string _ _ _ a0 [.string a0] from rfl) (Reps.one (show Kd.M Kd.string _ _ _ a1 [.string a1] from rfl) (Reps.none _ _)))); intro v343 w19 ho20 hb hg_ hnew_; clear hg_ hnew_; (first | rw [← Ny342.out] at ho20 | (simp only [Int.reduceToNat] at ho20; rw [← Ny342.out] at ho20)); replace HO344 := Q.a (Kd.R_lower ho20 (below_size (Q.bw HB))); replace HB := Q.a (below_step (Q.bw HB) hb); clear hb ho20; obtain ⟨Ao21, co21, eo21⟩ := Kd.R_slice HO344.out; subst eo21) | ((with_reducible refine gate_callee (f := 21) rfl ?_); refine Q.gl 16 Tryd.func21 #[.slice Ao21 y342.length co21] rfl rfl rfl rfl ?_; (with_reducible refine (voussoirlaw01_wide.calls k _ _ y342 false _ ?side1 ?side2 A5.out).mono ?_); (case side1 => repeat (first | exact (Kd.R_reads' HO344.out).2.2 | (with_reducible refine Kd.C_alloc ?_ _) | (with_reducible refine Kd.C_drewN ?_ _) | (with_reducible refine Kd.C_drew ?_))); (case side2 => exact (Kd.R_reads' HO344.out).2.1); rintro e w' ⟨rfl, ⟨nd, rfl⟩⟩; refine ⟨_, rfl, ?_⟩) | ((with_reducible refine gate_callee (f := 22) rfl ?_); refine Q.gl 20 Tryd.func22 #[.string a0, .string a1] rfl rfl rfl rfl ?_; (with_reducible refine (nat_Div.calls k a0 a1 t346 t347 t348 _ A11.out).mono ?_); rintro e w22 ⟨rfl, hb⟩; refine ⟨_, rfl, ?_⟩; replace HO344 := Q.a (Kd.R_below (Q.kr HO344) hb); replace HB := Q.a (below_step (Q.bw HB) hb); (try clear hb)) | ((with_reducible refine gate_callee (f := 23) rfl ?_); refine Q.gl 27 Tryd.func23 #[.string a0, .string a1] rfl rfl rfl rfl ?_; (with_reducible refine (voussoirref01_Div.calls k a0 a1 t349 t350 t351 _ A12.out).mono ?_); rintro e w23 ⟨rfl, hb⟩; refine ⟨_, rfl, ?_⟩; replace HO344 := Q.a (Kd.R_below (Q.kr HO344) hb); replace HB := Q.a (below_step (Q.bw HB) hb); (try clear hb)) | ((with_reducible refine gate_callee (f := 24) rfl ?_); refine Q.gl 33 Tryd.func24 #[.string a0, .string a1] rfl rfl rfl rfl ?_; (with_reducible refine (nat_Mul.calls k a0 a1 t352 _ A13.out).mono ?_); rintro e w24 ⟨rfl, hb⟩; refine ⟨_, rfl, ?_⟩; replace HO344 := Q.a (Kd.R_below (Q.kr HO344) hb); replace HB := Q.a (below_step (Q.bw HB) hb); (try clear hb)) | ((with_reducible refine gate_callee (f := 25) rfl ?_); refine Q.gl 36 Tryd.func25 #[.string a0, .string a1] rfl rfl rfl rfl ?_; (with_reducible refine (voussoirref01_Mul.calls k a0 a1 t353 _ A14.out).mono ?_); rintro e w25 ⟨rfl, hb⟩; refine ⟨_, rfl, ?_⟩; replace HO344 := Q.a (Kd.R_below (Q.kr HO344) hb); replace HB := Q.a (below_step (Q.bw HB) hb); (try clear hb)))
            go_ret
            exact ⟨Q.en, Q.bw HB⟩
          · rw [if_neg c17] at H
            have c17b0 : (t347.toList == t350.toList) = false := beq_eq_false_iff_ne.mpr c17
            have c17b1 : (t347.toList != t350.toList) = true := bne_iff_ne.mpr c17
            obtain rfl := Option.some.inj H
            exact absurd HR.out (by decide)
        · rw [if_neg c16] at H
          have c16b0 : (t346.toList == t349.toList) = false := beq_eq_false_iff_ne.mpr c16
          have c16b1 : (t346.toList != t349.toList) = true := bne_iff_ne.mpr c16
          obtain rfl := Option.some.inj H
          exact absurd HR.out (by decide)
      · rw [if_neg c15] at H
        have c15b0 : (t352.toList == t353.toList) = false := beq_eq_false_iff_ne.mpr c15
        have c15b1 : (t352.toList != t353.toList) = true := bne_iff_ne.mpr c15
        obtain rfl := Option.some.inj H
        exact absurd HR.out (by decide)
  · replace c4 := Bool.eq_false_iff.mpr c4
    subst c4
    rw [if_neg (show ¬ (false = true) by decide)] at H
    obtain rfl := Option.some.inj H
    exact absurd HR.out (by decide)
/-- THE ONE PURE STATEMENT of voussoirlaw01_NatMuls: yours. -/
def voussoirlaw01_NatMuls.Pure : Prop := ∀ (a0 : ByteArray) (a1 : ByteArray), a0.size ≤ 140737488351232 → a1.size ≤ 140737488351232 → ∃ k, voussoirlaw01_NatMuls.f k a0 a1 = some true
theorem voussoirlaw01_NatMuls.walk (P : voussoirlaw01_NatMuls.Pure) (a0 : ByteArray) (a1 : ByteArray) (w : World) (w0 : a0.size ≤ 140737488351232) (w1 : a1.size ≤ 140737488351232) (hG : X.G w) :
    Calls Tryd.prog 4 #[.string a0, .string a1] w fun e w' => e = .returned (.bool true) ∧ Below w.heap.size w w' := by
  obtain ⟨k, h⟩ := P a0 a1 w0 w1
  refine (voussoirlaw01_NatMuls.calls k a0 a1 true rfl w hG h).mono ?_
  rintro e w' ⟨rfl, hd⟩
  exact ⟨rfl, hd⟩

end Go.Proofs.YtpokflilobkoaaaDoor.P
