-- Written by mp.py (a program of this session's, over the kit's printer). Not trusted: Lean checks it.
import Derived.Test.YtpokflilobkoaaaDoorPx0
import Derived.Test.YtpokflilobkoaaaDoorPx2
import Derived.Test.YtpokflilobkoaaaDoorPx6
import Derived.Test.YtpokflilobkoaaaDoorPx7
import Derived.Test.YtpokflilobkoaaaDoorPx10
import Derived.Test.YtpokflilobkoaaaDoorXQ
namespace Go.Proofs.YtpokflilobkoaaaDoor.P
open Go.RowKit Go.Proofs.YtpokflilobkoaaaDoorW.PrintWords Go.Proofs.YtpokflilobkoaaaDoorW.PrintLast Go.Proofs.YtpokflilobkoaaaDoorW.PrintMore
attribute [local go_sem] max2_int min2_int max_two min_two max_three min_three max_four min_four   -- for this text's walks alone
attribute [local go_sem] XW.cell_twice   -- for this text's walks alone
set_option linter.unusedVariables false
set_option linter.unusedSimpArgs false

/-! ### voussoirlaw01_NatDivisors: function 6 -/
def voussoirlaw01_NatDivisors.j0 : Nat → ByteArray → ByteArray → ByteArray → Bool → Option (Bool)
  | 0, _, _, _, _ => none
  | k + 1, x0, x1, x2, x28 => if x28 = true then (some true) else ((nat_Gcd.f k x0 x1).bind fun t373 => (if t373.toList = ([] : List UInt8) then ((nat_Normalize.f k x0).bind fun t374 => (if t374.toList = ([] : List UInt8) then ((nat_Normalize.f k x1).bind fun t375 => (some (t375.toList == ([] : List UInt8)))) else (some false))) else ((nat_Div.f k x0 t373).bind fun bt376 => ((nat_Div.f k x1 t373).bind fun bt379 => (if bt376.2.1.toList = ([] : List UInt8) then (if bt379.2.1.toList = ([] : List UInt8) then ((nat_Gcd.f k bt376.1 bt379.1).bind fun t382 => (if t382.toList = ([1] : List UInt8) then ((nat_Gcd.f k x1 x0).bind fun t383 => (if t383.toList = t373.toList then ((nat_Mul.f k x0 x2).bind fun t384 => ((nat_Mul.f k x1 x2).bind fun t385 => ((nat_Gcd.f k t384 t385).bind fun t386 => ((nat_Mul.f k t373 x2).bind fun t387 => (some (t386.toList == t387.toList)))))) else (some false))) else (some false))) else (some false)) else (some false))))))
def voussoirlaw01_NatDivisors.f (k : Nat) (a0 : ByteArray) (a1 : ByteArray) (a2 : ByteArray) : Option (Bool) := (voussoirlaw01_natAlive.f k).bind fun t372 => (if t372 = true then (if (a0.size : Int) > 12 then (voussoirlaw01_NatDivisors.j0 k a0 a1 a2 true) else (if (a1.size : Int) > 12 then (voussoirlaw01_NatDivisors.j0 k a0 a1 a2 true) else (voussoirlaw01_NatDivisors.j0 k a0 a1 a2 (decide ((a2.size : Int) > 8))))) else (some false))
theorem voussoirlaw01_NatDivisors.mono_l : ∀ k, (∀ y0 y1 y2 y3, LeO (voussoirlaw01_NatDivisors.j0 k y0 y1 y2 y3) (voussoirlaw01_NatDivisors.j0 (k + 1) y0 y1 y2 y3))
  | 0 => fun _ _ _ _ r h => by simp [voussoirlaw01_NatDivisors.j0] at h
  | k + 1 => by
    have ih0 := voussoirlaw01_NatDivisors.mono_l k
    · intro y0 y1 y2 y3
      unfold voussoirlaw01_NatDivisors.j0
      repeat' first
      | (with_reducible exact ih0 _ _ _ _)
      | (with_reducible exact nat_Div.mono _ _ _)
      | (with_reducible exact nat_Gcd.mono _ _ _)
      | (with_reducible exact nat_Mul.mono _ _ _)
      | (with_reducible exact nat_Normalize.mono _ _)
      | (with_reducible exact voussoirlaw01_natAlive.mono _)
      | (with_reducible exact LeO.refl _)
      | (with_reducible exact LeO.none _)
      | (with_reducible refine LeO.ite ?_ ?_)
      | (with_reducible refine LeO.bind ?_ (fun _ => ?_))
      | exact ih0 _ _ _ _
      | exact nat_Div.mono _ _ _
      | exact nat_Gcd.mono _ _ _
      | exact nat_Mul.mono _ _ _
      | exact nat_Normalize.mono _ _
      | exact voussoirlaw01_natAlive.mono _
      | exact LeO.none _
      | refine LeO.ite ?_ ?_
      | refine LeO.bind ?_ (fun _ => ?_)
theorem voussoirlaw01_NatDivisors.mono : ∀ a0 a1 a2 k, LeO (voussoirlaw01_NatDivisors.f k a0 a1 a2) (voussoirlaw01_NatDivisors.f (k + 1) a0 a1 a2) := by
  intro a0 a1 a2 k
  have ih0 := voussoirlaw01_NatDivisors.mono_l k
  unfold voussoirlaw01_NatDivisors.f
  repeat' first
      | (with_reducible exact ih0 _ _ _ _)
      | (with_reducible exact nat_Div.mono _ _ _)
      | (with_reducible exact nat_Gcd.mono _ _ _)
      | (with_reducible exact nat_Mul.mono _ _ _)
      | (with_reducible exact nat_Normalize.mono _ _)
      | (with_reducible exact voussoirlaw01_natAlive.mono _)
      | (with_reducible exact LeO.refl _)
      | (with_reducible exact LeO.none _)
      | (with_reducible refine LeO.ite ?_ ?_)
      | (with_reducible refine LeO.bind ?_ (fun _ => ?_))
      | exact ih0 _ _ _ _
      | exact nat_Div.mono _ _ _
      | exact nat_Gcd.mono _ _ _
      | exact nat_Mul.mono _ _ _
      | exact nat_Normalize.mono _ _
      | exact voussoirlaw01_natAlive.mono _
      | exact LeO.none _
      | refine LeO.ite ?_ ?_
      | refine LeO.bind ?_ (fun _ => ?_)
set_option maxHeartbeats 8000000 in
set_option maxRecDepth 100000 in
theorem voussoirlaw01_NatDivisors.calls (k : Nat) (a0 : ByteArray) (a1 : ByteArray) (a2 : ByteArray) (r : Bool) (hr : r = true) (w : World) (hG : X.G w) (h : voussoirlaw01_NatDivisors.f k a0 a1 a2 = some r) :
    Calls Tryd.prog 6 #[.string a0, .string a1, .string a2] w fun e w' => e = .returned (.bool r) ∧ Below w.heap.size w w' := by
  have HR := Q.a hr
  clear hr
  have HG := Q.a hG
  clear hG
  have HB := Q.a (Below.refl w.heap.size w)
  have H : ((voussoirlaw01_natAlive.f k).bind fun t372 => (if t372 = true then (if (a0.size : Int) > 12 then (voussoirlaw01_NatDivisors.j0 k a0 a1 a2 true) else (if (a1.size : Int) > 12 then (voussoirlaw01_NatDivisors.j0 k a0 a1 a2 true) else (voussoirlaw01_NatDivisors.j0 k a0 a1 a2 (decide ((a2.size : Int) > 8))))) else (some false))) = some r := h
  clear h
  replace H := Option.bind_eq_some_iff.mp H
  obtain ⟨t372, A40, H⟩ := H
  try dsimp only at H
  have A4 := Q.a A40
  clear A40
  by_cases c5 : t372 = true
  · subst c5
    rw [if_pos rfl] at H
    have HC6 := Q.a H
    clear H
    go_enter Tryd.func6, Tryd.ntmps6
    go_upto_region 3 with (first | ((with_reducible refine gate_callee (f := 18) rfl ?_); refine Q.gl 14 Tryd.func18 #[] rfl rfl rfl rfl ?_; (with_reducible refine (voussoirlaw01_natAlive.calls k  true rfl _ ?side1 A4.out).mono ?_); (case side1 => exact X.G.below HG.out (Q.bw HB)); rintro e w7 ⟨rfl, hb⟩; refine ⟨_, rfl, ?_⟩; replace HB := Q.a (below_step (Q.bw HB) hb); (try clear hb)))
    (try simp only [Act.put, List.setIfInBounds_toArray, List.set_cons_zero, List.set_cons_succ])
    go_cut [28] (fun v28 wc => ∃ (kq : Nat) (x28_5 : Bool), v28 = .bool x28_5 ∧ Aside0 (voussoirlaw01_NatDivisors.j0 kq a0 a1 a2 x28_5 = some r) ∧ Aside0 (kq ≤ k) ∧ Aside0 (Below w.heap.size w wc))
    case first =>
      have H := HC6.out
      clear HC6
      by_cases c8 : (a0.size : Int) > 12
      · rw [if_pos c8] at H
        have c8b0 : decide (12 < (a0.size : Int)) = true := decide_eq_true c8
        have c8b1 : decide (12 < a0.size) = true := decide_eq_true (by omega)
        clear c8
        (first | rw [c8b0] | (simp only [i64_w, i32_w]; rw [c8b0]) | skip)
        have H' := Q.a H
        clear H
        go_wp2
        go_meet
        case rel => exact ⟨_, (true), Q.rs, H', ⟨by first | omega | exact Nat.le_refl _⟩, ⟨Q.bw HB⟩⟩
      · rw [if_neg c8] at H
        have c8b0 : decide (12 < (a0.size : Int)) = false := decide_eq_false c8
        have c8b1 : decide (12 < a0.size) = false := decide_eq_false (by omega)
        clear c8
        (first | rw [c8b0] | (simp only [i64_w, i32_w]; rw [c8b0]) | skip)
        by_cases c9 : (a1.size : Int) > 12
        · rw [if_pos c9] at H
          have c9b0 : decide (12 < (a1.size : Int)) = true := decide_eq_true c9
          have c9b1 : decide (12 < a1.size) = true := decide_eq_true (by omega)
          clear c9
          have H' := Q.a H
          clear H
          go_wp2
          go_meet
          case rel => exact ⟨_, (true), Q.rs, H', ⟨by first | omega | exact Nat.le_refl _⟩, ⟨Q.bw HB⟩⟩
        · rw [if_neg c9] at H
          have c9b0 : decide (12 < (a1.size : Int)) = false := decide_eq_false c9
          have c9b1 : decide (12 < a1.size) = false := decide_eq_false (by omega)
          clear c9
          have H' := Q.a H
          clear H
          go_wp2
          go_meet
          case rel => exact ⟨_, (decide ((a2.size : Int) > 8)), Q.rs, H', ⟨by first | omega | exact Nat.le_refl _⟩, ⟨Q.bw HB⟩⟩
    case rest =>
      clear HC6
      try clear c1
      try clear p2
      try clear c5
      try clear c6
      try clear c8
      try clear c8b0
      try clear c8b1
      try clear c9
      try clear c9b0
      try clear c9b1
      obtain ⟨kq, x28_5, rfl, HA, HJ5, HB⟩ := hcut
      cases kq with
      | zero => exact absurd HA.out (by simp [voussoirlaw01_NatDivisors.j0])
      | succ kj5 =>
        have H := HA.out
        clear HA
        simp only [voussoirlaw01_NatDivisors.j0] at H
        by_cases c10 : x28_5 = true
        · subst c10
          rw [if_pos rfl] at H
          obtain rfl := Option.some.inj H
          go_wp2
          go_ret
          exact ⟨Q.en, Q.bw HB⟩
        · replace c10 := Bool.eq_false_iff.mpr c10
          subst c10
          rw [if_neg (show ¬ (false = true) by decide)] at H
          replace H := Option.bind_eq_some_iff.mp H
          obtain ⟨t373, A110, H⟩ := H
          try dsimp only at H
          have A11 := Q.a A110
          clear A110
          by_cases c12 : t373.toList = ([] : List UInt8)
          · rw [if_pos c12] at H
            have c12b0 : (t373.toList == ([] : List UInt8)) = true := beq_iff_eq.mpr c12
            have c12b1 : (t373.toList != ([] : List UInt8)) = false := bne_eq_false_iff_eq.mpr c12
            clear c12
            replace H := Option.bind_eq_some_iff.mp H
            obtain ⟨t374, A130, H⟩ := H
            try dsimp only at H
            have A13 := Q.a A130
            clear A130
            by_cases c14 : t374.toList = ([] : List UInt8)
            · rw [if_pos c14] at H
              have c14b0 : (t374.toList == ([] : List UInt8)) = true := beq_iff_eq.mpr c14
              have c14b1 : (t374.toList != ([] : List UInt8)) = false := bne_eq_false_iff_eq.mpr c14
              clear c14
              replace H := Option.bind_eq_some_iff.mp H
              obtain ⟨t375, A150, H⟩ := H
              try dsimp only at H
              have A15 := Q.a A150
              clear A150
              obtain rfl := Option.some.inj H
              go_wp2_with (first | ((with_reducible refine gate_callee (f := 19) rfl ?_); refine Q.gl 31 Tryd.func19 #[.string a0, .string a1] rfl rfl rfl rfl ?_; (with_reducible refine (nat_Gcd.calls kj5 a0 a1 t373 _ A11.out).mono ?_); rintro e w16 ⟨rfl, hb⟩; refine ⟨_, rfl, ?_⟩; replace HB := Q.a (below_step (Q.bw HB) hb); (try clear hb)) | ((with_reducible refine gate_callee (f := 26) rfl ?_); refine Q.gl 35 Tryd.func26 #[.string a0] rfl rfl rfl rfl ?_; (with_reducible refine (nat_Normalize.calls kj5 a0 t374 _ A13.out).mono ?_); rintro e w17 ⟨rfl, hb⟩; refine ⟨_, rfl, ?_⟩; replace HB := Q.a (below_step (Q.bw HB) hb); (try clear hb)) | (go_at_call 26; (with_reducible refine (nat_Normalize.calls kj5 a1 t375 _ A15.out).mono ?_); rintro e w18 ⟨rfl, hb⟩; replace HB := Q.a (below_step (Q.bw HB) hb); (try clear hb)))
              go_ret
              exact ⟨Q.en, Q.bw HB⟩
            · rw [if_neg c14] at H
              have c14b0 : (t374.toList == ([] : List UInt8)) = false := beq_eq_false_iff_ne.mpr c14
              have c14b1 : (t374.toList != ([] : List UInt8)) = true := bne_iff_ne.mpr c14
              obtain rfl := Option.some.inj H
              exact absurd HR.out (by decide)
          · rw [if_neg c12] at H
            have c12b0 : (t373.toList == ([] : List UInt8)) = false := beq_eq_false_iff_ne.mpr c12
            have c12b1 : (t373.toList != ([] : List UInt8)) = true := bne_iff_ne.mpr c12
            replace H := Option.bind_eq_some_iff.mp H
            obtain ⟨⟨t376, t377, t378⟩, A210, H⟩ := H
            try dsimp only at H
            have A21 := Q.a A210
            clear A210
            replace H := Option.bind_eq_some_iff.mp H
            obtain ⟨⟨t379, t380, t381⟩, A220, H⟩ := H
            try dsimp only at H
            have A22 := Q.a A220
            clear A220
            by_cases c23 : t377.toList = ([] : List UInt8)
            · rw [if_pos c23] at H
              have c23b0 : (t377.toList == ([] : List UInt8)) = true := beq_iff_eq.mpr c23
              have c23b1 : (t377.toList != ([] : List UInt8)) = false := bne_eq_false_iff_eq.mpr c23
              clear c23
              by_cases c24 : t380.toList = ([] : List UInt8)
              · rw [if_pos c24] at H
                have c24b0 : (t380.toList == ([] : List UInt8)) = true := beq_iff_eq.mpr c24
                have c24b1 : (t380.toList != ([] : List UInt8)) = false := bne_eq_false_iff_eq.mpr c24
                clear c24
                replace H := Option.bind_eq_some_iff.mp H
                obtain ⟨t382, A250, H⟩ := H
                try dsimp only at H
                have A25 := Q.a A250
                clear A250
                by_cases c26 : t382.toList = ([1] : List UInt8)
                · rw [if_pos c26] at H
                  have c26b0 : (t382.toList == ([1] : List UInt8)) = true := beq_iff_eq.mpr c26
                  have c26b1 : (t382.toList != ([1] : List UInt8)) = false := bne_eq_false_iff_eq.mpr c26
                  clear c26
                  replace H := Option.bind_eq_some_iff.mp H
                  obtain ⟨t383, A270, H⟩ := H
                  try dsimp only at H
                  have A27 := Q.a A270
                  clear A270
                  by_cases c28 : t383.toList = t373.toList
                  · rw [if_pos c28] at H
                    have c28b0 : (t383.toList == t373.toList) = true := beq_iff_eq.mpr c28
                    have c28b1 : (t383.toList != t373.toList) = false := bne_eq_false_iff_eq.mpr c28
                    clear c28
                    replace H := Option.bind_eq_some_iff.mp H
                    obtain ⟨t384, A290, H⟩ := H
                    try dsimp only at H
                    have A29 := Q.a A290
                    clear A290
                    replace H := Option.bind_eq_some_iff.mp H
                    obtain ⟨t385, A300, H⟩ := H
                    try dsimp only at H
                    have A30 := Q.a A300
                    clear A300
                    replace H := Option.bind_eq_some_iff.mp H
                    obtain ⟨t386, A310, H⟩ := H
                    try dsimp only at H
                    have A31 := Q.a A310
                    clear A310
                    replace H := Option.bind_eq_some_iff.mp H
                    obtain ⟨t387, A320, H⟩ := H
                    try dsimp only at H
                    have A32 := Q.a A320
                    clear A320
                    obtain rfl := Option.some.inj H
                    go_wp2_with (first | ((with_reducible refine gate_callee (f := 19) rfl ?_); refine Q.gl 31 Tryd.func19 #[.string a0, .string a1] rfl rfl rfl rfl ?_; (with_reducible refine (nat_Gcd.calls kj5 a0 a1 t373 _ A11.out).mono ?_); rintro e w33 ⟨rfl, hb⟩; refine ⟨_, rfl, ?_⟩; replace HB := Q.a (below_step (Q.bw HB) hb); (try clear hb)) | ((with_reducible refine gate_callee (f := 22) rfl ?_); refine Q.gl 45 Tryd.func22 #[.string a0, .string t373] rfl rfl rfl rfl ?_; (with_reducible refine (nat_Div.calls kj5 a0 t373 t376 t377 t378 _ A21.out).mono ?_); rintro e w34 ⟨rfl, hb⟩; refine ⟨_, rfl, ?_⟩; replace HB := Q.a (below_step (Q.bw HB) hb); (try clear hb)) | ((with_reducible refine gate_callee (f := 22) rfl ?_); refine Q.gl 52 Tryd.func22 #[.string a1, .string t373] rfl rfl rfl rfl ?_; (with_reducible refine (nat_Div.calls kj5 a1 t373 t379 t380 t381 _ A22.out).mono ?_); rintro e w35 ⟨rfl, hb⟩; refine ⟨_, rfl, ?_⟩; replace HB := Q.a (below_step (Q.bw HB) hb); (try clear hb)) | (go_at_call 19; (with_reducible refine (nat_Gcd.calls kj5 t376 t379 t382 _ A25.out).mono ?_); rintro e w36 ⟨rfl, hb⟩; replace HB := Q.a (below_step (Q.bw HB) hb); (try clear hb)) | (go_at_call 19; (with_reducible refine (nat_Gcd.calls kj5 a1 a0 t383 _ A27.out).mono ?_); rintro e w37 ⟨rfl, hb⟩; replace HB := Q.a (below_step (Q.bw HB) hb); (try clear hb)) | (go_at_call 24; (with_reducible refine (nat_Mul.calls kj5 a0 a2 t384 _ A29.out).mono ?_); rintro e w38 ⟨rfl, hb⟩; replace HB := Q.a (below_step (Q.bw HB) hb); (try clear hb)) | (go_at_call 24; (with_reducible refine (nat_Mul.calls kj5 a1 a2 t385 _ A30.out).mono ?_); rintro e w39 ⟨rfl, hb⟩; replace HB := Q.a (below_step (Q.bw HB) hb); (try clear hb)) | (go_at_call 19; (with_reducible refine (nat_Gcd.calls kj5 t384 t385 t386 _ A31.out).mono ?_); rintro e w40 ⟨rfl, hb⟩; replace HB := Q.a (below_step (Q.bw HB) hb); (try clear hb)) | (go_at_call 24; (with_reducible refine (nat_Mul.calls kj5 t373 a2 t387 _ A32.out).mono ?_); rintro e w41 ⟨rfl, hb⟩; replace HB := Q.a (below_step (Q.bw HB) hb); (try clear hb)))
                    go_ret
                    exact ⟨Q.en, Q.bw HB⟩
                  · rw [if_neg c28] at H
                    have c28b0 : (t383.toList == t373.toList) = false := beq_eq_false_iff_ne.mpr c28
                    have c28b1 : (t383.toList != t373.toList) = true := bne_iff_ne.mpr c28
                    obtain rfl := Option.some.inj H
                    exact absurd HR.out (by decide)
                · rw [if_neg c26] at H
                  have c26b0 : (t382.toList == ([1] : List UInt8)) = false := beq_eq_false_iff_ne.mpr c26
                  have c26b1 : (t382.toList != ([1] : List UInt8)) = true := bne_iff_ne.mpr c26
                  obtain rfl := Option.some.inj H
                  exact absurd HR.out (by decide)
              · rw [if_neg c24] at H
                have c24b0 : (t380.toList == ([] : List UInt8)) = false := beq_eq_false_iff_ne.mpr c24
                have c24b1 : (t380.toList != ([] : List UInt8)) = true := bne_iff_ne.mpr c24
                obtain rfl := Option.some.inj H
                exact absurd HR.out (by decide)
            · rw [if_neg c23] at H
              have c23b0 : (t377.toList == ([] : List UInt8)) = false := beq_eq_false_iff_ne.mpr c23
              have c23b1 : (t377.toList != ([] : List UInt8)) = true := bne_iff_ne.mpr c23
              obtain rfl := Option.some.inj H
              exact absurd HR.out (by decide)
  · replace c5 := Bool.eq_false_iff.mpr c5
    subst c5
    rw [if_neg (show ¬ (false = true) by decide)] at H
    obtain rfl := Option.some.inj H
    exact absurd HR.out (by decide)
/-- THE ONE PURE STATEMENT of voussoirlaw01_NatDivisors: yours. -/
def voussoirlaw01_NatDivisors.Pure : Prop := ∀ (a0 : ByteArray) (a1 : ByteArray) (a2 : ByteArray), a0.size ≤ 140737488351232 → a1.size ≤ 140737488351232 → a2.size ≤ 140737488351232 → ∃ k, voussoirlaw01_NatDivisors.f k a0 a1 a2 = some true
theorem voussoirlaw01_NatDivisors.walk (P : voussoirlaw01_NatDivisors.Pure) (a0 : ByteArray) (a1 : ByteArray) (a2 : ByteArray) (w : World) (w0 : a0.size ≤ 140737488351232) (w1 : a1.size ≤ 140737488351232) (w2 : a2.size ≤ 140737488351232) (hG : X.G w) :
    Calls Tryd.prog 6 #[.string a0, .string a1, .string a2] w fun e w' => e = .returned (.bool true) ∧ Below w.heap.size w w' := by
  obtain ⟨k, h⟩ := P a0 a1 a2 w0 w1 w2
  refine (voussoirlaw01_NatDivisors.calls k a0 a1 a2 true rfl w hG h).mono ?_
  rintro e w' ⟨rfl, hd⟩
  exact ⟨rfl, hd⟩

end Go.Proofs.YtpokflilobkoaaaDoor.P
