-- Written by mp.py (a program of this session's, over the kit's printer). Not trusted: Lean checks it.
import Derived.Test.YtpokflilobkoaaaDoorPx0
import Derived.Test.YtpokflilobkoaaaDoorPx6
import Derived.Test.YtpokflilobkoaaaDoorPx7
import Derived.Test.YtpokflilobkoaaaDoorPx9
import Derived.Test.YtpokflilobkoaaaDoorXQ
namespace Go.Proofs.YtpokflilobkoaaaDoor.P
open Go.RowKit Go.Proofs.YtpokflilobkoaaaDoorW.PrintWords Go.Proofs.YtpokflilobkoaaaDoorW.PrintLast Go.Proofs.YtpokflilobkoaaaDoorW.PrintMore
attribute [local go_sem] max2_int min2_int max_two min_two max_three min_three max_four min_four   -- for this text's walks alone
attribute [local go_sem] XW.cell_twice   -- for this text's walks alone
set_option linter.unusedVariables false
set_option linter.unusedSimpArgs false

/-! ### voussoirlaw01_NatGcds: function 3 -/
def voussoirlaw01_NatGcds.j0 : Nat → ByteArray → ByteArray → Bool → Option (Bool)
  | 0, _, _, _ => none
  | k + 1, x0, x1, x14 => if x14 = true then (some true) else ((nat_Gcd.f k x0 x1).bind fun t323 => ((voussoirref01_Gcd.f k x0 x1).bind fun t324 => (some (t323.toList == t324.toList))))
def voussoirlaw01_NatGcds.f (k : Nat) (a0 : ByteArray) (a1 : ByteArray) : Option (Bool) := (voussoirlaw01_natAlive.f k).bind fun t322 => (if t322 = true then (if (a0.size : Int) > 16 then (voussoirlaw01_NatGcds.j0 k a0 a1 true) else (voussoirlaw01_NatGcds.j0 k a0 a1 (decide ((a1.size : Int) > 16)))) else (some false))
theorem voussoirlaw01_NatGcds.mono_l : ∀ k, (∀ y0 y1 y2, LeO (voussoirlaw01_NatGcds.j0 k y0 y1 y2) (voussoirlaw01_NatGcds.j0 (k + 1) y0 y1 y2))
  | 0 => fun _ _ _ r h => by simp [voussoirlaw01_NatGcds.j0] at h
  | k + 1 => by
    have ih0 := voussoirlaw01_NatGcds.mono_l k
    · intro y0 y1 y2
      unfold voussoirlaw01_NatGcds.j0
      repeat' first
      | (with_reducible exact ih0 _ _ _)
      | (with_reducible exact nat_Gcd.mono _ _ _)
      | (with_reducible exact voussoirlaw01_natAlive.mono _)
      | (with_reducible exact voussoirref01_Gcd.mono _ _ _)
      | (with_reducible exact LeO.refl _)
      | (with_reducible exact LeO.none _)
      | (with_reducible refine LeO.ite ?_ ?_)
      | (with_reducible refine LeO.bind ?_ (fun _ => ?_))
      | exact ih0 _ _ _
      | exact nat_Gcd.mono _ _ _
      | exact voussoirlaw01_natAlive.mono _
      | exact voussoirref01_Gcd.mono _ _ _
      | exact LeO.none _
      | refine LeO.ite ?_ ?_
      | refine LeO.bind ?_ (fun _ => ?_)
theorem voussoirlaw01_NatGcds.mono : ∀ a0 a1 k, LeO (voussoirlaw01_NatGcds.f k a0 a1) (voussoirlaw01_NatGcds.f (k + 1) a0 a1) := by
  intro a0 a1 k
  have ih0 := voussoirlaw01_NatGcds.mono_l k
  unfold voussoirlaw01_NatGcds.f
  repeat' first
      | (with_reducible exact ih0 _ _ _)
      | (with_reducible exact nat_Gcd.mono _ _ _)
      | (with_reducible exact voussoirlaw01_natAlive.mono _)
      | (with_reducible exact voussoirref01_Gcd.mono _ _ _)
      | (with_reducible exact LeO.refl _)
      | (with_reducible exact LeO.none _)
      | (with_reducible refine LeO.ite ?_ ?_)
      | (with_reducible refine LeO.bind ?_ (fun _ => ?_))
      | exact ih0 _ _ _
      | exact nat_Gcd.mono _ _ _
      | exact voussoirlaw01_natAlive.mono _
      | exact voussoirref01_Gcd.mono _ _ _
      | exact LeO.none _
      | refine LeO.ite ?_ ?_
      | refine LeO.bind ?_ (fun _ => ?_)
set_option maxHeartbeats 8000000 in
set_option maxRecDepth 100000 in
theorem voussoirlaw01_NatGcds.calls (k : Nat) (a0 : ByteArray) (a1 : ByteArray) (r : Bool) (hr : r = true) (w : World) (hG : X.G w) (h : voussoirlaw01_NatGcds.f k a0 a1 = some r) :
    Calls Tryd.prog 3 #[.string a0, .string a1] w fun e w' => e = .returned (.bool r) ∧ Below w.heap.size w w' := by
  have HR := Q.a hr
  clear hr
  have HG := Q.a hG
  clear hG
  have HB := Q.a (Below.refl w.heap.size w)
  have H : ((voussoirlaw01_natAlive.f k).bind fun t322 => (if t322 = true then (if (a0.size : Int) > 16 then (voussoirlaw01_NatGcds.j0 k a0 a1 true) else (voussoirlaw01_NatGcds.j0 k a0 a1 (decide ((a1.size : Int) > 16)))) else (some false))) = some r := h
  clear h
  replace H := Option.bind_eq_some_iff.mp H
  obtain ⟨t322, A30, H⟩ := H
  try dsimp only at H
  have A3 := Q.a A30
  clear A30
  by_cases c4 : t322 = true
  · subst c4
    rw [if_pos rfl] at H
    have HC5 := Q.a H
    clear H
    go_enter Tryd.func3, Tryd.ntmps3
    go_upto_region 3 with (first | ((with_reducible refine gate_callee (f := 18) rfl ?_); refine Q.gl 5 Tryd.func18 #[] rfl rfl rfl rfl ?_; (with_reducible refine (voussoirlaw01_natAlive.calls k  true rfl _ ?side1 A3.out).mono ?_); (case side1 => exact X.G.below HG.out (Q.bw HB)); rintro e w6 ⟨rfl, hb⟩; refine ⟨_, rfl, ?_⟩; replace HB := Q.a (below_step (Q.bw HB) hb); (try clear hb)))
    (try simp only [Act.put, List.setIfInBounds_toArray, List.set_cons_zero, List.set_cons_succ])
    go_cut [14] (fun v14 wc => ∃ (kq : Nat) (x14_4 : Bool), v14 = .bool x14_4 ∧ Aside0 (voussoirlaw01_NatGcds.j0 kq a0 a1 x14_4 = some r) ∧ Aside0 (kq ≤ k) ∧ Aside0 (Below w.heap.size w wc))
    case first =>
      have H := HC5.out
      clear HC5
      by_cases c7 : (a0.size : Int) > 16
      · rw [if_pos c7] at H
        have c7b0 : decide (16 < (a0.size : Int)) = true := decide_eq_true c7
        have c7b1 : decide (16 < a0.size) = true := decide_eq_true (by omega)
        clear c7
        (first | rw [c7b0] | (simp only [i64_w, i32_w]; rw [c7b0]) | skip)
        have H' := Q.a H
        clear H
        go_wp2
        go_meet
        case rel => exact ⟨_, (true), Q.rs, H', ⟨by first | omega | exact Nat.le_refl _⟩, ⟨Q.bw HB⟩⟩
      · rw [if_neg c7] at H
        have c7b0 : decide (16 < (a0.size : Int)) = false := decide_eq_false c7
        have c7b1 : decide (16 < a0.size) = false := decide_eq_false (by omega)
        clear c7
        (first | rw [c7b0] | (simp only [i64_w, i32_w]; rw [c7b0]) | skip)
        have H' := Q.a H
        clear H
        go_wp2
        go_meet
        case rel => exact ⟨_, (decide ((a1.size : Int) > 16)), Q.rs, H', ⟨by first | omega | exact Nat.le_refl _⟩, ⟨Q.bw HB⟩⟩
    case rest =>
      clear HC5
      try clear c1
      try clear p2
      try clear c3
      try clear c4
      try clear c7
      try clear c7b0
      try clear c7b1
      obtain ⟨kq, x14_4, rfl, HA, HJ4, HB⟩ := hcut
      cases kq with
      | zero => exact absurd HA.out (by simp [voussoirlaw01_NatGcds.j0])
      | succ kj4 =>
        have H := HA.out
        clear HA
        simp only [voussoirlaw01_NatGcds.j0] at H
        by_cases c8 : x14_4 = true
        · subst c8
          rw [if_pos rfl] at H
          obtain rfl := Option.some.inj H
          go_wp2
          go_ret
          exact ⟨Q.en, Q.bw HB⟩
        · replace c8 := Bool.eq_false_iff.mpr c8
          subst c8
          rw [if_neg (show ¬ (false = true) by decide)] at H
          replace H := Option.bind_eq_some_iff.mp H
          obtain ⟨t323, A90, H⟩ := H
          try dsimp only at H
          have A9 := Q.a A90
          clear A90
          replace H := Option.bind_eq_some_iff.mp H
          obtain ⟨t324, A100, H⟩ := H
          try dsimp only at H
          have A10 := Q.a A100
          clear A100
          obtain rfl := Option.some.inj H
          go_wp2_with (first | ((with_reducible refine gate_callee (f := 19) rfl ?_); refine Q.gl 17 Tryd.func19 #[.string a0, .string a1] rfl rfl rfl rfl ?_; (with_reducible refine (nat_Gcd.calls kj4 a0 a1 t323 _ A9.out).mono ?_); rintro e w11 ⟨rfl, hb⟩; refine ⟨_, rfl, ?_⟩; replace HB := Q.a (below_step (Q.bw HB) hb); (try clear hb)) | ((with_reducible refine gate_callee (f := 20) rfl ?_); refine Q.gl 20 Tryd.func20 #[.string a0, .string a1] rfl rfl rfl rfl ?_; (with_reducible refine (voussoirref01_Gcd.calls kj4 a0 a1 t324 _ A10.out).mono ?_); rintro e w12 ⟨rfl, hb⟩; refine ⟨_, rfl, ?_⟩; replace HB := Q.a (below_step (Q.bw HB) hb); (try clear hb)))
          go_ret
          exact ⟨Q.en, Q.bw HB⟩
  · replace c4 := Bool.eq_false_iff.mpr c4
    subst c4
    rw [if_neg (show ¬ (false = true) by decide)] at H
    obtain rfl := Option.some.inj H
    exact absurd HR.out (by decide)
/-- THE ONE PURE STATEMENT of voussoirlaw01_NatGcds: yours. -/
def voussoirlaw01_NatGcds.Pure : Prop := ∀ (a0 : ByteArray) (a1 : ByteArray), a0.size ≤ 140737488351232 → a1.size ≤ 140737488351232 → ∃ k, voussoirlaw01_NatGcds.f k a0 a1 = some true
theorem voussoirlaw01_NatGcds.walk (P : voussoirlaw01_NatGcds.Pure) (a0 : ByteArray) (a1 : ByteArray) (w : World) (w0 : a0.size ≤ 140737488351232) (w1 : a1.size ≤ 140737488351232) (hG : X.G w) :
    Calls Tryd.prog 3 #[.string a0, .string a1] w fun e w' => e = .returned (.bool true) ∧ Below w.heap.size w w' := by
  obtain ⟨k, h⟩ := P a0 a1 w0 w1
  refine (voussoirlaw01_NatGcds.calls k a0 a1 true rfl w hG h).mono ?_
  rintro e w' ⟨rfl, hd⟩
  exact ⟨rfl, hd⟩

end Go.Proofs.YtpokflilobkoaaaDoor.P
