-- Written by mp.py (a program of this session's, over the kit's printer). Not trusted: Lean checks it.
import Derived.Test.YtpokflilobkoaaaDoorPx0
import Derived.Test.YtpokflilobkoaaaDoorPx2
import Derived.Test.YtpokflilobkoaaaDoorPx7
import Derived.Test.YtpokflilobkoaaaDoorPx8
import Derived.Test.YtpokflilobkoaaaDoorPx11
import Derived.Test.YtpokflilobkoaaaDoorPx12
import Derived.Test.YtpokflilobkoaaaDoorXQ
namespace Go.Proofs.YtpokflilobkoaaaDoor.P
open Go.RowKit Go.Proofs.YtpokflilobkoaaaDoorW.PrintWords Go.Proofs.YtpokflilobkoaaaDoorW.PrintLast Go.Proofs.YtpokflilobkoaaaDoorW.PrintMore
attribute [local go_sem] max2_int min2_int max_two min_two max_three min_three max_four min_four   -- for this text's walks alone
attribute [local go_sem] XW.cell_twice   -- for this text's walks alone
set_option linter.unusedVariables false
set_option linter.unusedSimpArgs false

/-! ### voussoirlaw01_NatSums: function 7 -/
def voussoirlaw01_NatSums.j0 : Nat → ByteArray → ByteArray → Bool → Option (Bool)
  | 0, _, _, _ => none
  | k + 1, x0, x1, x18 => if x18 = true then (some true) else ((nat_Sub.f k x0 x1).bind fun bt418 => ((voussoirref01_Sub.f k x0 x1).bind fun bt420 => ((nat_Normalize.f k x0).bind fun t422 => ((voussoirref01_Norm.f k x0).bind fun t423 => (if t422.toList = t423.toList then ((nat_Cmp.f k x0 x1).bind fun t424 => ((voussoirref01_Cmp.f k x0 x1).bind fun t425 => (if t424 = t425 then ((nat_Add.f k x0 x1).bind fun t426 => ((voussoirref01_Add.f k x0 x1).bind fun t427 => (if t426.toList = t427.toList then (if bt418.1.toList = bt420.1.toList then (some (bt418.2 == bt420.2)) else (some false)) else (some false)))) else (some false)))) else (some false))))))
def voussoirlaw01_NatSums.f (k : Nat) (a0 : ByteArray) (a1 : ByteArray) : Option (Bool) := (voussoirlaw01_natAlive.f k).bind fun t417 => (if t417 = true then (if (a0.size : Int) > 300 then (voussoirlaw01_NatSums.j0 k a0 a1 true) else (voussoirlaw01_NatSums.j0 k a0 a1 (decide ((a1.size : Int) > 300)))) else (some false))
theorem voussoirlaw01_NatSums.mono_l : ∀ k, (∀ y0 y1 y2, LeO (voussoirlaw01_NatSums.j0 k y0 y1 y2) (voussoirlaw01_NatSums.j0 (k + 1) y0 y1 y2))
  | 0 => fun _ _ _ r h => by simp [voussoirlaw01_NatSums.j0] at h
  | k + 1 => by
    have ih0 := voussoirlaw01_NatSums.mono_l k
    · intro y0 y1 y2
      unfold voussoirlaw01_NatSums.j0
      repeat' first
      | (with_reducible exact ih0 _ _ _)
      | (with_reducible exact nat_Add.mono _ _ _)
      | (with_reducible exact nat_Cmp.mono _ _ _)
      | (with_reducible exact nat_Normalize.mono _ _)
      | (with_reducible exact nat_Sub.mono _ _ _)
      | (with_reducible exact voussoirlaw01_natAlive.mono _)
      | (with_reducible exact voussoirref01_Add.mono _ _ _)
      | (with_reducible exact voussoirref01_Cmp.mono _ _ _)
      | (with_reducible exact voussoirref01_Norm.mono _ _)
      | (with_reducible exact voussoirref01_Sub.mono _ _ _)
      | (with_reducible exact LeO.refl _)
      | (with_reducible exact LeO.none _)
      | (with_reducible refine LeO.ite ?_ ?_)
      | (with_reducible refine LeO.bind ?_ (fun _ => ?_))
      | exact ih0 _ _ _
      | exact nat_Add.mono _ _ _
      | exact nat_Cmp.mono _ _ _
      | exact nat_Normalize.mono _ _
      | exact nat_Sub.mono _ _ _
      | exact voussoirlaw01_natAlive.mono _
      | exact voussoirref01_Add.mono _ _ _
      | exact voussoirref01_Cmp.mono _ _ _
      | exact voussoirref01_Norm.mono _ _
      | exact voussoirref01_Sub.mono _ _ _
      | exact LeO.none _
      | refine LeO.ite ?_ ?_
      | refine LeO.bind ?_ (fun _ => ?_)
theorem voussoirlaw01_NatSums.mono : ∀ a0 a1 k, LeO (voussoirlaw01_NatSums.f k a0 a1) (voussoirlaw01_NatSums.f (k + 1) a0 a1) := by
  intro a0 a1 k
  have ih0 := voussoirlaw01_NatSums.mono_l k
  unfold voussoirlaw01_NatSums.f
  repeat' first
      | (with_reducible exact ih0 _ _ _)
      | (with_reducible exact nat_Add.mono _ _ _)
      | (with_reducible exact nat_Cmp.mono _ _ _)
      | (with_reducible exact nat_Normalize.mono _ _)
      | (with_reducible exact nat_Sub.mono _ _ _)
      | (with_reducible exact voussoirlaw01_natAlive.mono _)
      | (with_reducible exact voussoirref01_Add.mono _ _ _)
      | (with_reducible exact voussoirref01_Cmp.mono _ _ _)
      | (with_reducible exact voussoirref01_Norm.mono _ _)
      | (with_reducible exact voussoirref01_Sub.mono _ _ _)
      | (with_reducible exact LeO.refl _)
      | (with_reducible exact LeO.none _)
      | (with_reducible refine LeO.ite ?_ ?_)
      | (with_reducible refine LeO.bind ?_ (fun _ => ?_))
      | exact ih0 _ _ _
      | exact nat_Add.mono _ _ _
      | exact nat_Cmp.mono _ _ _
      | exact nat_Normalize.mono _ _
      | exact nat_Sub.mono _ _ _
      | exact voussoirlaw01_natAlive.mono _
      | exact voussoirref01_Add.mono _ _ _
      | exact voussoirref01_Cmp.mono _ _ _
      | exact voussoirref01_Norm.mono _ _
      | exact voussoirref01_Sub.mono _ _ _
      | exact LeO.none _
      | refine LeO.ite ?_ ?_
      | refine LeO.bind ?_ (fun _ => ?_)
set_option maxHeartbeats 8000000 in
set_option maxRecDepth 100000 in
theorem voussoirlaw01_NatSums.calls (k : Nat) (a0 : ByteArray) (a1 : ByteArray) (r : Bool) (hr : r = true) (w : World) (hG : X.G w) (h : voussoirlaw01_NatSums.f k a0 a1 = some r) :
    Calls Tryd.prog 7 #[.string a0, .string a1] w fun e w' => e = .returned (.bool r) ∧ Below w.heap.size w w' := by
  have HR := Q.a hr
  clear hr
  have HG := Q.a hG
  clear hG
  have HB := Q.a (Below.refl w.heap.size w)
  have H : ((voussoirlaw01_natAlive.f k).bind fun t417 => (if t417 = true then (if (a0.size : Int) > 300 then (voussoirlaw01_NatSums.j0 k a0 a1 true) else (voussoirlaw01_NatSums.j0 k a0 a1 (decide ((a1.size : Int) > 300)))) else (some false))) = some r := h
  clear h
  replace H := Option.bind_eq_some_iff.mp H
  obtain ⟨t417, A30, H⟩ := H
  try dsimp only at H
  have A3 := Q.a A30
  clear A30
  by_cases c4 : t417 = true
  · subst c4
    rw [if_pos rfl] at H
    have HC5 := Q.a H
    clear H
    go_enter Tryd.func7, Tryd.ntmps7
    go_upto_region 3 with (first | ((with_reducible refine gate_callee (f := 18) rfl ?_); refine Q.gl 9 Tryd.func18 #[] rfl rfl rfl rfl ?_; (with_reducible refine (voussoirlaw01_natAlive.calls k  true rfl _ ?side1 A3.out).mono ?_); (case side1 => exact X.G.below HG.out (Q.bw HB)); rintro e w6 ⟨rfl, hb⟩; refine ⟨_, rfl, ?_⟩; replace HB := Q.a (below_step (Q.bw HB) hb); (try clear hb)))
    (try simp only [Act.put, List.setIfInBounds_toArray, List.set_cons_zero, List.set_cons_succ])
    go_cut [18] (fun v18 wc => ∃ (kq : Nat) (x18_4 : Bool), v18 = .bool x18_4 ∧ Aside0 (voussoirlaw01_NatSums.j0 kq a0 a1 x18_4 = some r) ∧ Aside0 (kq ≤ k) ∧ Aside0 (Below w.heap.size w wc))
    case first =>
      have H := HC5.out
      clear HC5
      by_cases c7 : (a0.size : Int) > 300
      · rw [if_pos c7] at H
        have c7b0 : decide (300 < (a0.size : Int)) = true := decide_eq_true c7
        have c7b1 : decide (300 < a0.size) = true := decide_eq_true (by omega)
        clear c7
        (first | rw [c7b0] | (simp only [i64_w, i32_w]; rw [c7b0]) | skip)
        have H' := Q.a H
        clear H
        go_wp2
        go_meet
        case rel => exact ⟨_, (true), Q.rs, H', ⟨by first | omega | exact Nat.le_refl _⟩, ⟨Q.bw HB⟩⟩
      · rw [if_neg c7] at H
        have c7b0 : decide (300 < (a0.size : Int)) = false := decide_eq_false c7
        have c7b1 : decide (300 < a0.size) = false := decide_eq_false (by omega)
        clear c7
        (first | rw [c7b0] | (simp only [i64_w, i32_w]; rw [c7b0]) | skip)
        have H' := Q.a H
        clear H
        go_wp2
        go_meet
        case rel => exact ⟨_, (decide ((a1.size : Int) > 300)), Q.rs, H', ⟨by first | omega | exact Nat.le_refl _⟩, ⟨Q.bw HB⟩⟩
    case rest =>
      clear HC5
      try clear c1
      try clear p2
      try clear c4
      try clear c7
      try clear c7b0
      try clear c7b1
      obtain ⟨kq, x18_4, rfl, HA, HJ4, HB⟩ := hcut
      cases kq with
      | zero => exact absurd HA.out (by simp [voussoirlaw01_NatSums.j0])
      | succ kj4 =>
        have H := HA.out
        clear HA
        simp only [voussoirlaw01_NatSums.j0] at H
        by_cases c8 : x18_4 = true
        · subst c8
          rw [if_pos rfl] at H
          obtain rfl := Option.some.inj H
          go_wp2
          go_ret
          exact ⟨Q.en, Q.bw HB⟩
        · replace c8 := Bool.eq_false_iff.mpr c8
          subst c8
          rw [if_neg (show ¬ (false = true) by decide)] at H
          replace H := Option.bind_eq_some_iff.mp H
          obtain ⟨⟨t418, t419⟩, A90, H⟩ := H
          try dsimp only at H
          have A9 := Q.a A90
          clear A90
          replace H := Option.bind_eq_some_iff.mp H
          obtain ⟨⟨t420, t421⟩, A100, H⟩ := H
          try dsimp only at H
          have A10 := Q.a A100
          clear A100
          replace H := Option.bind_eq_some_iff.mp H
          obtain ⟨t422, A110, H⟩ := H
          try dsimp only at H
          have A11 := Q.a A110
          clear A110
          replace H := Option.bind_eq_some_iff.mp H
          obtain ⟨t423, A120, H⟩ := H
          try dsimp only at H
          have A12 := Q.a A120
          clear A120
          by_cases c13 : t422.toList = t423.toList
          · rw [if_pos c13] at H
            have c13b0 : (t422.toList == t423.toList) = true := beq_iff_eq.mpr c13
            have c13b1 : (t422.toList != t423.toList) = false := bne_eq_false_iff_eq.mpr c13
            clear c13
            replace H := Option.bind_eq_some_iff.mp H
            obtain ⟨t424, A140, H⟩ := H
            try dsimp only at H
            have A14 := Q.a A140
            clear A140
            replace H := Option.bind_eq_some_iff.mp H
            obtain ⟨t425, A150, H⟩ := H
            try dsimp only at H
            have A15 := Q.a A150
            clear A150
            by_cases c16 : t424 = t425
            · rw [if_pos c16] at H
              have c16b0 : (t424 == t425) = true := beq_iff_eq.mpr c16
              have c16b1 : (t424 != t425) = false := bne_eq_false_iff_eq.mpr c16
              clear c16
              replace H := Option.bind_eq_some_iff.mp H
              obtain ⟨t426, A170, H⟩ := H
              try dsimp only at H
              have A17 := Q.a A170
              clear A170
              replace H := Option.bind_eq_some_iff.mp H
              obtain ⟨t427, A180, H⟩ := H
              try dsimp only at H
              have A18 := Q.a A180
              clear A180
              by_cases c19 : t426.toList = t427.toList
              · rw [if_pos c19] at H
                have c19b0 : (t426.toList == t427.toList) = true := beq_iff_eq.mpr c19
                have c19b1 : (t426.toList != t427.toList) = false := bne_eq_false_iff_eq.mpr c19
                clear c19
                by_cases c20 : t418.toList = t420.toList
                · rw [if_pos c20] at H
                  have c20b0 : (t418.toList == t420.toList) = true := beq_iff_eq.mpr c20
                  have c20b1 : (t418.toList != t420.toList) = false := bne_eq_false_iff_eq.mpr c20
                  clear c20
                  obtain rfl := Option.some.inj H
                  go_wp2_with (first | ((with_reducible refine gate_callee (f := 29) rfl ?_); refine Q.gl 22 Tryd.func29 #[.string a0, .string a1] rfl rfl rfl rfl ?_; (with_reducible refine (nat_Sub.calls kj4 a0 a1 t418 t419 _ A9.out).mono ?_); rintro e w21 ⟨rfl, hb⟩; refine ⟨_, rfl, ?_⟩; replace HB := Q.a (below_step (Q.bw HB) hb); (try clear hb)) | ((with_reducible refine gate_callee (f := 30) rfl ?_); refine Q.gl 28 Tryd.func30 #[.string a0, .string a1] rfl rfl rfl rfl ?_; (with_reducible refine (voussoirref01_Sub.calls kj4 a0 a1 t420 t421 _ A10.out).mono ?_); rintro e w22 ⟨rfl, hb⟩; refine ⟨_, rfl, ?_⟩; replace HB := Q.a (below_step (Q.bw HB) hb); (try clear hb)) | ((with_reducible refine gate_callee (f := 26) rfl ?_); refine Q.gl 32 Tryd.func26 #[.string a0] rfl rfl rfl rfl ?_; (with_reducible refine (nat_Normalize.calls kj4 a0 t422 _ A11.out).mono ?_); rintro e w23 ⟨rfl, hb⟩; refine ⟨_, rfl, ?_⟩; replace HB := Q.a (below_step (Q.bw HB) hb); (try clear hb)) | ((with_reducible refine gate_callee (f := 31) rfl ?_); refine Q.gl 34 Tryd.func31 #[.string a0] rfl rfl rfl rfl ?_; (with_reducible refine (voussoirref01_Norm.calls kj4 a0 t423 _ A12.out).mono ?_); rintro e w' ⟨rfl, ⟨nd, rfl⟩⟩; refine ⟨_, rfl, ?_⟩) | (go_at_call 28; (with_reducible refine (nat_Cmp.calls kj4 a0 a1 t424 _ A14.out).mono ?_); rintro e w24 ⟨rfl, hb⟩; replace HB := Q.a (below_step (Q.bw HB) hb); (try clear hb)) | (go_at_call 32; (with_reducible refine (voussoirref01_Cmp.calls kj4 a0 a1 t425 _ A15.out).mono ?_); rintro e w' ⟨rfl, ⟨nd, rfl⟩⟩) | (go_at_call 27; (with_reducible refine (nat_Add.calls kj4 a0 a1 t426 _ A17.out).mono ?_); rintro e w25 ⟨rfl, hb⟩; replace HB := Q.a (below_step (Q.bw HB) hb); (try clear hb)) | (go_at_call 33; (with_reducible refine (voussoirref01_Add.calls kj4 a0 a1 t427 _ A18.out).mono ?_); rintro e w26 ⟨rfl, hb⟩; replace HB := Q.a (below_step (Q.bw HB) hb); (try clear hb)))
                  go_ret
                  exact ⟨Q.en, Q.bw HB⟩
                · rw [if_neg c20] at H
                  have c20b0 : (t418.toList == t420.toList) = false := beq_eq_false_iff_ne.mpr c20
                  have c20b1 : (t418.toList != t420.toList) = true := bne_iff_ne.mpr c20
                  obtain rfl := Option.some.inj H
                  exact absurd HR.out (by decide)
              · rw [if_neg c19] at H
                have c19b0 : (t426.toList == t427.toList) = false := beq_eq_false_iff_ne.mpr c19
                have c19b1 : (t426.toList != t427.toList) = true := bne_iff_ne.mpr c19
                obtain rfl := Option.some.inj H
                exact absurd HR.out (by decide)
            · rw [if_neg c16] at H
              have c16b0 : (t424 == t425) = false := beq_eq_false_iff_ne.mpr c16
              have c16b1 : (t424 != t425) = true := bne_iff_ne.mpr c16
              obtain rfl := Option.some.inj H
              exact absurd HR.out (by decide)
          · rw [if_neg c13] at H
            have c13b0 : (t422.toList == t423.toList) = false := beq_eq_false_iff_ne.mpr c13
            have c13b1 : (t422.toList != t423.toList) = true := bne_iff_ne.mpr c13
            obtain rfl := Option.some.inj H
            exact absurd HR.out (by decide)
  · replace c4 := Bool.eq_false_iff.mpr c4
    subst c4
    rw [if_neg (show ¬ (false = true) by decide)] at H
    obtain rfl := Option.some.inj H
    exact absurd HR.out (by decide)
/-- THE ONE PURE STATEMENT of voussoirlaw01_NatSums: yours. -/
def voussoirlaw01_NatSums.Pure : Prop := ∀ (a0 : ByteArray) (a1 : ByteArray), a0.size ≤ 140737488351232 → a1.size ≤ 140737488351232 → ∃ k, voussoirlaw01_NatSums.f k a0 a1 = some true
theorem voussoirlaw01_NatSums.walk (P : voussoirlaw01_NatSums.Pure) (a0 : ByteArray) (a1 : ByteArray) (w : World) (w0 : a0.size ≤ 140737488351232) (w1 : a1.size ≤ 140737488351232) (hG : X.G w) :
    Calls Tryd.prog 7 #[.string a0, .string a1] w fun e w' => e = .returned (.bool true) ∧ Below w.heap.size w w' := by
  obtain ⟨k, h⟩ := P a0 a1 w0 w1
  refine (voussoirlaw01_NatSums.calls k a0 a1 true rfl w hG h).mono ?_
  rintro e w' ⟨rfl, hd⟩
  exact ⟨rfl, hd⟩

end Go.Proofs.YtpokflilobkoaaaDoor.P
