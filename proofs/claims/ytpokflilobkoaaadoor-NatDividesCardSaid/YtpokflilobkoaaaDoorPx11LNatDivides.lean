-- Written by mp.py (a program of this session's, over the kit's printer). Not trusted: Lean checks it.
import Derived.Test.YtpokflilobkoaaaDoorPx0
import Derived.Test.YtpokflilobkoaaaDoorPx2
import Derived.Test.YtpokflilobkoaaaDoorPx6
import Derived.Test.YtpokflilobkoaaaDoorPx7
import Derived.Test.YtpokflilobkoaaaDoorPx10
import Derived.Test.YtpokflilobkoaaaDoorXQ
namespace Go.Proofs.YtpokflilobkoaaaDoor.P
open Go.RowKit Go.Proofs.YtpokflilobkoaaaDoorW.PrintWords Go.Proofs.YtpokflilobkoaaaDoorW.PrintLast Go.Proofs.YtpokflilobkoaaaDoorW.PrintMore
attribute [local go_sem] max2_int min2_int max_two min_two max_three min_three max_four min_four   -- for this text's walks alone
attribute [local go_sem] XW.cell_twice   -- for this text's walks alone
set_option linter.unusedVariables false
set_option linter.unusedSimpArgs false

/-! ### voussoirlaw01_NatDivides: function 5 -/
def voussoirlaw01_NatDivides.f (k : Nat) (a0 : ByteArray) (a1 : ByteArray) : Option (Bool) := (voussoirlaw01_natAlive.f k).bind fun t354 => (if t354 = true then ((voussoirlaw01_wide.f k (([a0, a1] : List ByteArray))).bind fun t358 => (if t358 = true then (some true) else ((nat_Div.f k a0 a1).bind fun bt359 => ((nat_Normalize.f k a1).bind fun t362 => (if t362.toList = ([] : List UInt8) then (if bt359.2.2 = true then (some false) else (if bt359.1.toList = ([] : List UInt8) then (some (bt359.2.1.toList == ([] : List UInt8))) else (some false))) else ((nat_Mul.f k a0 a1).bind fun t363 => ((nat_Div.f k t363 a1).bind fun bt364 => (if bt359.2.2 = true then ((nat_Mul.f k bt359.1 a1).bind fun t367 => ((nat_Add.f k t367 bt359.2.1).bind fun t368 => ((nat_Normalize.f k a0).bind fun t369 => (if t368.toList = t369.toList then ((nat_Cmp.f k bt359.2.1 a1).bind fun t370 => (if t370 < 0 then (if bt364.2.2 = true then ((nat_Normalize.f k a0).bind fun t371 => (if bt364.1.toList = t371.toList then (some (bt364.2.1.toList == ([] : List UInt8))) else (some false))) else (some false)) else (some false))) else (some false))))) else (some false))))))))) else (some false))
theorem voussoirlaw01_NatDivides.mono : ∀ a0 a1 k, LeO (voussoirlaw01_NatDivides.f k a0 a1) (voussoirlaw01_NatDivides.f (k + 1) a0 a1) := by
  intro a0 a1 k
  unfold voussoirlaw01_NatDivides.f
  repeat' first
      | (with_reducible exact nat_Add.mono _ _ _)
      | (with_reducible exact nat_Cmp.mono _ _ _)
      | (with_reducible exact nat_Div.mono _ _ _)
      | (with_reducible exact nat_Mul.mono _ _ _)
      | (with_reducible exact nat_Normalize.mono _ _)
      | (with_reducible exact voussoirlaw01_natAlive.mono _)
      | (with_reducible exact voussoirlaw01_wide.mono _ _)
      | (with_reducible exact LeO.refl _)
      | (with_reducible exact LeO.none _)
      | (with_reducible refine LeO.ite ?_ ?_)
      | (with_reducible refine LeO.bind ?_ (fun _ => ?_))
      | exact nat_Add.mono _ _ _
      | exact nat_Cmp.mono _ _ _
      | exact nat_Div.mono _ _ _
      | exact nat_Mul.mono _ _ _
      | exact nat_Normalize.mono _ _
      | exact voussoirlaw01_natAlive.mono _
      | exact voussoirlaw01_wide.mono _ _
      | exact LeO.none _
      | refine LeO.ite ?_ ?_
      | refine LeO.bind ?_ (fun _ => ?_)
set_option maxHeartbeats 8000000 in
set_option maxRecDepth 100000 in
theorem voussoirlaw01_NatDivides.calls (k : Nat) (a0 : ByteArray) (a1 : ByteArray) (r : Bool) (hr : r = true) (w : World) (hG : X.G w) (h : voussoirlaw01_NatDivides.f k a0 a1 = some r) :
    Calls Tryd.prog 5 #[.string a0, .string a1] w fun e w' => e = .returned (.bool r) ∧ Below w.heap.size w w' := by
  have HR := Q.a hr
  clear hr
  have HG := Q.a hG
  clear hG
  have HB := Q.a (Below.refl w.heap.size w)
  have H : ((voussoirlaw01_natAlive.f k).bind fun t354 => (if t354 = true then ((voussoirlaw01_wide.f k (([a0, a1] : List ByteArray))).bind fun t358 => (if t358 = true then (some true) else ((nat_Div.f k a0 a1).bind fun bt359 => ((nat_Normalize.f k a1).bind fun t362 => (if t362.toList = ([] : List UInt8) then (if bt359.2.2 = true then (some false) else (if bt359.1.toList = ([] : List UInt8) then (some (bt359.2.1.toList == ([] : List UInt8))) else (some false))) else ((nat_Mul.f k a0 a1).bind fun t363 => ((nat_Div.f k t363 a1).bind fun bt364 => (if bt359.2.2 = true then ((nat_Mul.f k bt359.1 a1).bind fun t367 => ((nat_Add.f k t367 bt359.2.1).bind fun t368 => ((nat_Normalize.f k a0).bind fun t369 => (if t368.toList = t369.toList then ((nat_Cmp.f k bt359.2.1 a1).bind fun t370 => (if t370 < 0 then (if bt364.2.2 = true then ((nat_Normalize.f k a0).bind fun t371 => (if bt364.1.toList = t371.toList then (some (bt364.2.1.toList == ([] : List UInt8))) else (some false))) else (some false)) else (some false))) else (some false))))) else (some false))))))))) else (some false))) = some r := h
  clear h
  replace H := Option.bind_eq_some_iff.mp H
  obtain ⟨t354, A30, H⟩ := H
  try dsimp only at H
  have A3 := Q.a A30
  clear A30
  by_cases c4 : t354 = true
  · subst c4
    rw [if_pos rfl] at H
    obtain ⟨y355, hy355⟩ : ∃ y_ : List ByteArray, y_ = (([a0, a1] : List ByteArray)) := ⟨_, rfl⟩
    replace H : ((voussoirlaw01_wide.f k y355).bind fun t358 => (if t358 = true then (some true) else ((nat_Div.f k a0 a1).bind fun bt359 => ((nat_Normalize.f k a1).bind fun t362 => (if t362.toList = ([] : List UInt8) then (if bt359.2.2 = true then (some false) else (if bt359.1.toList = ([] : List UInt8) then (some (bt359.2.1.toList == ([] : List UInt8))) else (some false))) else ((nat_Mul.f k a0 a1).bind fun t363 => ((nat_Div.f k t363 a1).bind fun bt364 => (if bt359.2.2 = true then ((nat_Mul.f k bt359.1 a1).bind fun t367 => ((nat_Add.f k t367 bt359.2.1).bind fun t368 => ((nat_Normalize.f k a0).bind fun t369 => (if t368.toList = t369.toList then ((nat_Cmp.f k bt359.2.1 a1).bind fun t370 => (if t370 < 0 then (if bt364.2.2 = true then ((nat_Normalize.f k a0).bind fun t371 => (if bt364.1.toList = t371.toList then (some (bt364.2.1.toList == ([] : List UInt8))) else (some false))) else (some false)) else (some false))) else (some false))))) else (some false))))))))) = some r := by first | (rw [hy355]; with_reducible exact H) | (have H2_ := (Option.bind_some _ _).symm.trans H; rw [hy355]; with_reducible exact H2_) | (have H2_ := (Option.bind_some _ _).symm.trans H; with_reducible exact H2_) | with_reducible exact H | (rw [hy355]; exact H) | exact H
    have Ny355 := Q.a hy355
    clear hy355
    replace H := Option.bind_eq_some_iff.mp H
    obtain ⟨t358, A50, H⟩ := H
    try dsimp only at H
    have A5 := Q.a A50
    clear A50
    by_cases c6 : t358 = true
    · subst c6
      rw [if_pos rfl] at H
      obtain rfl := Option.some.inj H
      go_enter Tryd.func5, Tryd.ntmps5
      go_wp2_with (first | ((with_reducible refine gate_callee (f := 18) rfl ?_); refine Q.gl 11 Tryd.func18 #[] rfl rfl rfl rfl ?_; (with_reducible refine (voussoirlaw01_natAlive.calls k  true rfl _ ?side1 A3.out).mono ?_); (case side1 => exact X.G.below HG.out (Q.bw HB)); rintro e w7 ⟨rfl, hb⟩; refine ⟨_, rfl, ?_⟩; replace HB := Q.a (below_step (Q.bw HB) hb); (try clear hb)) | ((with_reducible refine gate_dst (N := 15) rfl ?_); refine Kd.R_lit Kd.string _ 9 ?hg (N := 15) ?hd (xs := ([a0, a1] : List ByteArray)) (inner := [.string a0, .string a1]) (ok := fun _ => True) (okp := fun _ => True) ?hr ?hp (fun _ hk => hk) trivial (Below.refl _ _) (Nat.le_refl _) (by simp) ?_; (case hd => rfl); (case hg => rfl); (case hr => first | (go_simp; done) | (go_simp; rfl)); (case hp => exact (Reps.one (show Kd.M Kd.string _ _ _ a0 [.string a0] from rfl) (Reps.one (show Kd.M Kd.string _ _ _ a1 [.string a1] from rfl) (Reps.none _ _)))); intro v356 w8 ho9 hb hg_ hnew_; clear hg_ hnew_; (first | rw [← Ny355.out] at ho9 | (simp only [Int.reduceToNat] at ho9; rw [← Ny355.out] at ho9)); replace HO357 := Q.a (Kd.R_lower ho9 (below_size (Q.bw HB))); replace HB := Q.a (below_step (Q.bw HB) hb); clear hb ho9; obtain ⟨Ao10, co10, eo10⟩ := Kd.R_slice HO357.out; subst eo10) | ((with_reducible refine gate_callee (f := 21) rfl ?_); refine Q.gl 16 Tryd.func21 #[.slice Ao10 y355.length co10] rfl rfl rfl rfl ?_; (with_reducible refine (voussoirlaw01_wide.calls k _ _ y355 true _ ?side1 ?side2 A5.out).mono ?_); (case side1 => repeat (first | exact (Kd.R_reads' HO357.out).2.2 | (with_reducible refine Kd.C_alloc ?_ _) | (with_reducible refine Kd.C_drewN ?_ _) | (with_reducible refine Kd.C_drew ?_))); (case side2 => exact (Kd.R_reads' HO357.out).2.1); rintro e w' ⟨rfl, ⟨nd, rfl⟩⟩; refine ⟨_, rfl, ?_⟩))
      go_ret
      exact ⟨Q.en, Q.bw HB⟩
    · replace c6 := Bool.eq_false_iff.mpr c6
      subst c6
      rw [if_neg (show ¬ (false = true) by decide)] at H
      replace H := Option.bind_eq_some_iff.mp H
      obtain ⟨⟨t359, t360, t361⟩, A110, H⟩ := H
      try dsimp only at H
      have A11 := Q.a A110
      clear A110
      replace H := Option.bind_eq_some_iff.mp H
      obtain ⟨t362, A120, H⟩ := H
      try dsimp only at H
      have A12 := Q.a A120
      clear A120
      by_cases c13 : t362.toList = ([] : List UInt8)
      · rw [if_pos c13] at H
        have c13b0 : (t362.toList == ([] : List UInt8)) = true := beq_iff_eq.mpr c13
        have c13b1 : (t362.toList != ([] : List UInt8)) = false := bne_eq_false_iff_eq.mpr c13
        clear c13
        by_cases c14 : t361 = true
        · subst c14
          rw [if_pos rfl] at H
          obtain rfl := Option.some.inj H
          exact absurd HR.out (by decide)
        · replace c14 := Bool.eq_false_iff.mpr c14
          subst c14
          rw [if_neg (show ¬ (false = true) by decide)] at H
          by_cases c21 : t359.toList = ([] : List UInt8)
          · rw [if_pos c21] at H
            have c21b0 : (t359.toList == ([] : List UInt8)) = true := beq_iff_eq.mpr c21
            have c21b1 : (t359.toList != ([] : List UInt8)) = false := bne_eq_false_iff_eq.mpr c21
            clear c21
            obtain rfl := Option.some.inj H
            go_enter Tryd.func5, Tryd.ntmps5
            go_wp2_with (first | ((with_reducible refine gate_callee (f := 18) rfl ?_); refine Q.gl 11 Tryd.func18 #[] rfl rfl rfl rfl ?_; (with_reducible refine (voussoirlaw01_natAlive.calls k  true rfl _ ?side1 A3.out).mono ?_); (case side1 => exact X.G.below HG.out (Q.bw HB)); rintro e w22 ⟨rfl, hb⟩; refine ⟨_, rfl, ?_⟩; replace HB := Q.a (below_step (Q.bw HB) hb); (try clear hb)) | ((with_reducible refine gate_dst (N := 15) rfl ?_); refine Kd.R_lit Kd.string _ 9 ?hg (N := 15) ?hd (xs := ([a0, a1] : List ByteArray)) (inner := [.string a0, .string a1]) (ok := fun _ => True) (okp := fun _ => True) ?hr ?hp (fun _ hk => hk) trivial (Below.refl _ _) (Nat.le_refl _) (by simp) ?_; (case hd => rfl); (case hg => rfl); (case hr => first | (go_simp; done) | (go_simp; rfl)); (case hp => exact (Reps.one (show Kd.M Kd.string _ _ _ a0 [.string a0] from rfl) (Reps.one (show Kd.M Kd.string _ _ _ a1 [.string a1] from rfl) (Reps.none _ _)))); intro v356 w23 ho24 hb hg_ hnew_; clear hg_ hnew_; (first | rw [← Ny355.out] at ho24 | (simp only [Int.reduceToNat] at ho24; rw [← Ny355.out] at ho24)); replace HO357 := Q.a (Kd.R_lower ho24 (below_size (Q.bw HB))); replace HB := Q.a (below_step (Q.bw HB) hb); clear hb ho24; obtain ⟨Ao25, co25, eo25⟩ := Kd.R_slice HO357.out; subst eo25) | ((with_reducible refine gate_callee (f := 21) rfl ?_); refine Q.gl 16 Tryd.func21 #[.slice Ao25 y355.length co25] rfl rfl rfl rfl ?_; (with_reducible refine (voussoirlaw01_wide.calls k _ _ y355 false _ ?side1 ?side2 A5.out).mono ?_); (case side1 => repeat (first | exact (Kd.R_reads' HO357.out).2.2 | (with_reducible refine Kd.C_alloc ?_ _) | (with_reducible refine Kd.C_drewN ?_ _) | (with_reducible refine Kd.C_drew ?_))); (case side2 => exact (Kd.R_reads' HO357.out).2.1); rintro e w' ⟨rfl, ⟨nd, rfl⟩⟩; refine ⟨_, rfl, ?_⟩) | ((with_reducible refine gate_callee (f := 22) rfl ?_); refine Q.gl 20 Tryd.func22 #[.string a0, .string a1] rfl rfl rfl rfl ?_; (with_reducible refine (nat_Div.calls k a0 a1 t359 t360 false _ A11.out).mono ?_); rintro e w26 ⟨rfl, hb⟩; refine ⟨_, rfl, ?_⟩; replace HO357 := Q.a (Kd.R_below (Q.kr HO357) hb); replace HB := Q.a (below_step (Q.bw HB) hb); (try clear hb)) | ((with_reducible refine gate_callee (f := 26) rfl ?_); refine Q.gl 25 Tryd.func26 #[.string a1] rfl rfl rfl rfl ?_; (with_reducible refine (nat_Normalize.calls k a1 t362 _ A12.out).mono ?_); rintro e w27 ⟨rfl, hb⟩; refine ⟨_, rfl, ?_⟩; replace HO357 := Q.a (Kd.R_below (Q.kr HO357) hb); replace HB := Q.a (below_step (Q.bw HB) hb); (try clear hb)))
            go_ret
            exact ⟨Q.en, Q.bw HB⟩
          · rw [if_neg c21] at H
            have c21b0 : (t359.toList == ([] : List UInt8)) = false := beq_eq_false_iff_ne.mpr c21
            have c21b1 : (t359.toList != ([] : List UInt8)) = true := bne_iff_ne.mpr c21
            obtain rfl := Option.some.inj H
            exact absurd HR.out (by decide)
      · rw [if_neg c13] at H
        have c13b0 : (t362.toList == ([] : List UInt8)) = false := beq_eq_false_iff_ne.mpr c13
        have c13b1 : (t362.toList != ([] : List UInt8)) = true := bne_iff_ne.mpr c13
        replace H := Option.bind_eq_some_iff.mp H
        obtain ⟨t363, A340, H⟩ := H
        try dsimp only at H
        have A34 := Q.a A340
        clear A340
        replace H := Option.bind_eq_some_iff.mp H
        obtain ⟨⟨t364, t365, t366⟩, A350, H⟩ := H
        try dsimp only at H
        have A35 := Q.a A350
        clear A350
        by_cases c36 : t361 = true
        · subst c36
          rw [if_pos rfl] at H
          replace H := Option.bind_eq_some_iff.mp H
          obtain ⟨t367, A370, H⟩ := H
          try dsimp only at H
          have A37 := Q.a A370
          clear A370
          replace H := Option.bind_eq_some_iff.mp H
          obtain ⟨t368, A380, H⟩ := H
          try dsimp only at H
          have A38 := Q.a A380
          clear A380
          replace H := Option.bind_eq_some_iff.mp H
          obtain ⟨t369, A390, H⟩ := H
          try dsimp only at H
          have A39 := Q.a A390
          clear A390
          by_cases c40 : t368.toList = t369.toList
          · rw [if_pos c40] at H
            have c40b0 : (t368.toList == t369.toList) = true := beq_iff_eq.mpr c40
            have c40b1 : (t368.toList != t369.toList) = false := bne_eq_false_iff_eq.mpr c40
            clear c40
            replace H := Option.bind_eq_some_iff.mp H
            obtain ⟨t370, A410, H⟩ := H
            try dsimp only at H
            have A41 := Q.a A410
            clear A410
            by_cases c42 : t370 < 0
            · rw [if_pos c42] at H
              have c42b0 : decide (t370 < 0) = true := decide_eq_true c42
              clear c42
              by_cases c43 : t366 = true
              · subst c43
                rw [if_pos rfl] at H
                replace H := Option.bind_eq_some_iff.mp H
                obtain ⟨t371, A440, H⟩ := H
                try dsimp only at H
                have A44 := Q.a A440
                clear A440
                obtain rfl := Option.some.inj (A39.out.symm.trans A44.out)
                by_cases c45 : t364.toList = t369.toList
                · rw [if_pos c45] at H
                  have c45b0 : (t364.toList == t369.toList) = true := beq_iff_eq.mpr c45
                  have c45b1 : (t364.toList != t369.toList) = false := bne_eq_false_iff_eq.mpr c45
                  clear c45
                  obtain rfl := Option.some.inj H
                  go_enter Tryd.func5, Tryd.ntmps5
                  go_wp2_with (first | ((with_reducible refine gate_callee (f := 18) rfl ?_); refine Q.gl 11 Tryd.func18 #[] rfl rfl rfl rfl ?_; (with_reducible refine (voussoirlaw01_natAlive.calls k  true rfl _ ?side1 A3.out).mono ?_); (case side1 => exact X.G.below HG.out (Q.bw HB)); rintro e w46 ⟨rfl, hb⟩; refine ⟨_, rfl, ?_⟩; replace HB := Q.a (below_step (Q.bw HB) hb); (try clear hb)) | ((with_reducible refine gate_dst (N := 15) rfl ?_); refine Kd.R_lit Kd.string _ 9 ?hg (N := 15) ?hd (xs := ([a0, a1] : List ByteArray)) (inner := [.string a0, .string a1]) (ok := fun _ => True) (okp := fun _ => True) ?hr ?hp (fun _ hk => hk) trivial (Below.refl _ _) (Nat.le_refl _) (by simp) ?_; (case hd => rfl); (case hg => rfl); (case hr => first | (go_simp; done) | (go_simp; rfl)); (case hp => exact (Reps.one (show Kd.M Kd.string _ _ _ a0 [.string a0] from rfl) (Reps.one (show Kd.M Kd.string _ _ _ a1 [.string a1] from rfl) (Reps.none _ _)))); intro v356 w47 ho48 hb hg_ hnew_; clear hg_ hnew_; (first | rw [← Ny355.out] at ho48 | (simp only [Int.reduceToNat] at ho48; rw [← Ny355.out] at ho48)); replace HO357 := Q.a (Kd.R_lower ho48 (below_size (Q.bw HB))); replace HB := Q.a (below_step (Q.bw HB) hb); clear hb ho48; obtain ⟨Ao49, co49, eo49⟩ := Kd.R_slice HO357.out; subst eo49) | ((with_reducible refine gate_callee (f := 21) rfl ?_); refine Q.gl 16 Tryd.func21 #[.slice Ao49 y355.length co49] rfl rfl rfl rfl ?_; (with_reducible refine (voussoirlaw01_wide.calls k _ _ y355 false _ ?side1 ?side2 A5.out).mono ?_); (case side1 => repeat (first | exact (Kd.R_reads' HO357.out).2.2 | (with_reducible refine Kd.C_alloc ?_ _) | (with_reducible refine Kd.C_drewN ?_ _) | (with_reducible refine Kd.C_drew ?_))); (case side2 => exact (Kd.R_reads' HO357.out).2.1); rintro e w' ⟨rfl, ⟨nd, rfl⟩⟩; refine ⟨_, rfl, ?_⟩) | ((with_reducible refine gate_callee (f := 22) rfl ?_); refine Q.gl 20 Tryd.func22 #[.string a0, .string a1] rfl rfl rfl rfl ?_; (with_reducible refine (nat_Div.calls k a0 a1 t359 t360 true _ A11.out).mono ?_); rintro e w50 ⟨rfl, hb⟩; refine ⟨_, rfl, ?_⟩; replace HO357 := Q.a (Kd.R_below (Q.kr HO357) hb); replace HB := Q.a (below_step (Q.bw HB) hb); (try clear hb)) | ((with_reducible refine gate_callee (f := 26) rfl ?_); refine Q.gl 25 Tryd.func26 #[.string a1] rfl rfl rfl rfl ?_; (with_reducible refine (nat_Normalize.calls k a1 t362 _ A12.out).mono ?_); rintro e w51 ⟨rfl, hb⟩; refine ⟨_, rfl, ?_⟩; replace HO357 := Q.a (Kd.R_below (Q.kr HO357) hb); replace HB := Q.a (below_step (Q.bw HB) hb); (try clear hb)) | ((with_reducible refine gate_callee (f := 24) rfl ?_); refine Q.gl 40 Tryd.func24 #[.string a0, .string a1] rfl rfl rfl rfl ?_; (with_reducible refine (nat_Mul.calls k a0 a1 t363 _ A34.out).mono ?_); rintro e w52 ⟨rfl, hb⟩; refine ⟨_, rfl, ?_⟩; replace HO357 := Q.a (Kd.R_below (Q.kr HO357) hb); replace HB := Q.a (below_step (Q.bw HB) hb); (try clear hb)) | ((with_reducible refine gate_callee (f := 22) rfl ?_); refine Q.gl 42 Tryd.func22 #[.string t363, .string a1] rfl rfl rfl rfl ?_; (with_reducible refine (nat_Div.calls k t363 a1 t364 t365 true _ A35.out).mono ?_); rintro e w53 ⟨rfl, hb⟩; refine ⟨_, rfl, ?_⟩; replace HO357 := Q.a (Kd.R_below (Q.kr HO357) hb); replace HB := Q.a (below_step (Q.bw HB) hb); (try clear hb)) | (go_at_call 24; (with_reducible refine (nat_Mul.calls k t359 a1 t367 _ A37.out).mono ?_); rintro e w54 ⟨rfl, hb⟩; replace HO357 := Q.a (Kd.R_below (Q.kr HO357) hb); replace HB := Q.a (below_step (Q.bw HB) hb); (try clear hb)) | (go_at_call 27; (with_reducible refine (nat_Add.calls k t367 t360 t368 _ A38.out).mono ?_); rintro e w55 ⟨rfl, hb⟩; replace HO357 := Q.a (Kd.R_below (Q.kr HO357) hb); replace HB := Q.a (below_step (Q.bw HB) hb); (try clear hb)) | (go_at_call 26; (with_reducible refine (nat_Normalize.calls k a0 t369 _ A39.out).mono ?_); rintro e w56 ⟨rfl, hb⟩; replace HO357 := Q.a (Kd.R_below (Q.kr HO357) hb); replace HB := Q.a (below_step (Q.bw HB) hb); (try clear hb)) | (go_at_call 28; (with_reducible refine (nat_Cmp.calls k t360 a1 t370 _ A41.out).mono ?_); rintro e w57 ⟨rfl, hb⟩; replace HO357 := Q.a (Kd.R_below (Q.kr HO357) hb); replace HB := Q.a (below_step (Q.bw HB) hb); (try clear hb)) | (go_at_call 26; (with_reducible refine (nat_Normalize.calls k a0 t369 _ A44.out).mono ?_); rintro e w58 ⟨rfl, hb⟩; replace HO357 := Q.a (Kd.R_below (Q.kr HO357) hb); replace HB := Q.a (below_step (Q.bw HB) hb); (try clear hb)))
                  go_ret
                  exact ⟨Q.en, Q.bw HB⟩
                · rw [if_neg c45] at H
                  have c45b0 : (t364.toList == t369.toList) = false := beq_eq_false_iff_ne.mpr c45
                  have c45b1 : (t364.toList != t369.toList) = true := bne_iff_ne.mpr c45
                  obtain rfl := Option.some.inj H
                  exact absurd HR.out (by decide)
              · replace c43 := Bool.eq_false_iff.mpr c43
                subst c43
                rw [if_neg (show ¬ (false = true) by decide)] at H
                obtain rfl := Option.some.inj H
                exact absurd HR.out (by decide)
            · rw [if_neg c42] at H
              have c42b0 : decide (t370 < 0) = false := decide_eq_false c42
              clear c42
              obtain rfl := Option.some.inj H
              exact absurd HR.out (by decide)
          · rw [if_neg c40] at H
            have c40b0 : (t368.toList == t369.toList) = false := beq_eq_false_iff_ne.mpr c40
            have c40b1 : (t368.toList != t369.toList) = true := bne_iff_ne.mpr c40
            obtain rfl := Option.some.inj H
            exact absurd HR.out (by decide)
        · replace c36 := Bool.eq_false_iff.mpr c36
          subst c36
          rw [if_neg (show ¬ (false = true) by decide)] at H
          obtain rfl := Option.some.inj H
          exact absurd HR.out (by decide)
  · replace c4 := Bool.eq_false_iff.mpr c4
    subst c4
    rw [if_neg (show ¬ (false = true) by decide)] at H
    obtain rfl := Option.some.inj H
    exact absurd HR.out (by decide)
/-- THE ONE PURE STATEMENT of voussoirlaw01_NatDivides: yours. -/
def voussoirlaw01_NatDivides.Pure : Prop := ∀ (a0 : ByteArray) (a1 : ByteArray), a0.size ≤ 140737488351232 → a1.size ≤ 140737488351232 → ∃ k, voussoirlaw01_NatDivides.f k a0 a1 = some true
theorem voussoirlaw01_NatDivides.walk (P : voussoirlaw01_NatDivides.Pure) (a0 : ByteArray) (a1 : ByteArray) (w : World) (w0 : a0.size ≤ 140737488351232) (w1 : a1.size ≤ 140737488351232) (hG : X.G w) :
    Calls Tryd.prog 5 #[.string a0, .string a1] w fun e w' => e = .returned (.bool true) ∧ Below w.heap.size w w' := by
  obtain ⟨k, h⟩ := P a0 a1 w0 w1
  refine (voussoirlaw01_NatDivides.calls k a0 a1 true rfl w hG h).mono ?_
  rintro e w' ⟨rfl, hd⟩
  exact ⟨rfl, hd⟩

end Go.Proofs.YtpokflilobkoaaaDoor.P
