/- Out of what mp.py printed for this seat (squeeze.py, repack.py). Not trusted: Lean checks it. -/
import Derived.Test.YtpokflilobkoaaaDoorPx0
import Derived.Test.YtpokflilobkoaaaDoorPxNA
import Derived.Test.YtpokflilobkoaaaDoorPxND
import Derived.Test.YtpokflilobkoaaaDoorPxNatAdd
import Derived.Test.YtpokflilobkoaaaDoorPxNatFormat
import Derived.Test.YtpokflilobkoaaaDoorPxNatGcd
import Derived.Test.YtpokflilobkoaaaDoorXQ
-- squeezed twice
namespace Go.Proofs.YtpokflilobkoaaaDoor.P
open Go.RowKit Go.Proofs.YtpokflilobkoaaaDoorW.PrintWords Go.Proofs.YtpokflilobkoaaaDoorW.PrintLast Go.Proofs.YtpokflilobkoaaaDoorW.PrintMore
attribute [local go_sem] max2_int min2_int max_two min_two max_three min_three max_four min_four   -- for this text's walks alone
attribute [local go_sem] XW.cell_twice   -- for this text's walks alone
set_option linter.unusedVariables false
set_option linter.unusedSimpArgs false

/-! ### voussoirlaw01_natAlive: function 18 -/
def voussoirlaw01_natAlive.f (k : Nat)  : Option (Bool) := (nat_FromUint64.f k 1000).bind fun t263 => ((nat_FromUint64.f k 7).bind fun t264 => ((nat_Div.f k t263 t264).bind fun bt265 => ((nat_Add.f k (⟨#[255]⟩ : ByteArray) (⟨#[1]⟩ : ByteArray)).bind fun t268 => (if t268.toList = ([0, 1] : List UInt8) then (if bt265.2.2 = true then (if bt265.1.toList = ([142] : List UInt8) then (if bt265.2.1.toList = ([6] : List UInt8) then ((nat_Gcd.f k (⟨#[12]⟩ : ByteArray) (⟨#[18]⟩ : ByteArray)).bind fun t269 => (if t269.toList = ([6] : List UInt8) then ((nat_Format.f k (⟨#[0, 1]⟩ : ByteArray)).bind fun t270 => (some (t270.toList == ([50, 53, 54] : List UInt8)))) else (some false))) else (some false)) else (some false)) else (some false)) else (some false)))))
theorem voussoirlaw01_natAlive.mono : ∀ k, LeO (voussoirlaw01_natAlive.f k ) (voussoirlaw01_natAlive.f (k + 1) ) := by
 intro  k
 unfold voussoirlaw01_natAlive.f
 repeat' first
   | (with_reducible exact nat_Add.mono _ _ _)
   | (with_reducible exact nat_Div.mono _ _ _)
   | (with_reducible exact nat_Format.mono _ _)
   | (with_reducible exact nat_FromUint64.mono _ _)
   | (with_reducible exact nat_Gcd.mono _ _ _)
   | (with_reducible exact LeO.refl _)
   | (with_reducible exact LeO.none _)
   | (with_reducible refine LeO.ite ?_ ?_)
   | (with_reducible refine LeO.bind ?_ (fun _ => ?_))
   | exact nat_Add.mono _ _ _
   | exact nat_Div.mono _ _ _
   | exact nat_Format.mono _ _
   | exact nat_FromUint64.mono _ _
   | exact nat_Gcd.mono _ _ _
   | exact LeO.none _
   | refine LeO.ite ?_ ?_
   | refine LeO.bind ?_ (fun _ => ?_)
set_option maxHeartbeats 8000000 in
set_option maxRecDepth 100000 in
theorem voussoirlaw01_natAlive.calls (k : Nat)  (r : Bool) (hr : r = true) (w : World) (hG : X.G w) (h : voussoirlaw01_natAlive.f k  = some r) :
  Calls Tryd.prog 18 #[] w fun e w' => e = .returned (.bool r) ∧ Below w.heap.size w w' := by
 have HR := Q.a hr
 clear hr
 have HG := Q.a hG
 clear hG
 have HB := Q.a (Below.refl w.heap.size w)
 have H : ((nat_FromUint64.f k 1000).bind fun t263 => ((nat_FromUint64.f k 7).bind fun t264 => ((nat_Div.f k t263 t264).bind fun bt265 => ((nat_Add.f k (⟨#[255]⟩ : ByteArray) (⟨#[1]⟩ : ByteArray)).bind fun t268 => (if t268.toList = ([0, 1] : List UInt8) then (if bt265.2.2 = true then (if bt265.1.toList = ([142] : List UInt8) then (if bt265.2.1.toList = ([6] : List UInt8) then ((nat_Gcd.f k (⟨#[12]⟩ : ByteArray) (⟨#[18]⟩ : ByteArray)).bind fun t269 => (if t269.toList = ([6] : List UInt8) then ((nat_Format.f k (⟨#[0, 1]⟩ : ByteArray)).bind fun t270 => (some (t270.toList == ([50, 53, 54] : List UInt8)))) else (some false))) else (some false)) else (some false)) else (some false)) else (some false)))))) = some r := h
 clear h
 replace H := Option.bind_eq_some_iff.mp H
 obtain ⟨t263, A10, H⟩ := H
 try dsimp only at H
 have A1 := Q.a A10
 clear A10
 replace H := Option.bind_eq_some_iff.mp H
 obtain ⟨t264, A20, H⟩ := H
 try dsimp only at H
 have A2 := Q.a A20
 clear A20
 replace H := Option.bind_eq_some_iff.mp H
 obtain ⟨⟨t265, t266, t267⟩, A30, H⟩ := H
 try dsimp only at H
 have A3 := Q.a A30
 clear A30
 replace H := Option.bind_eq_some_iff.mp H
 obtain ⟨t268, A40, H⟩ := H
 try dsimp only at H
 have A4 := Q.a A40
 clear A40
 by_cases c5 : t268.toList = ([0, 1] : List UInt8)
 ·rw [if_pos c5] at H
  have c5b0 : (t268.toList == ([0, 1] : List UInt8)) = true := beq_iff_eq.mpr c5
  have c5b1 : (t268.toList != ([0, 1] : List UInt8)) = false := bne_eq_false_iff_eq.mpr c5
  clear c5
  by_cases c6 : t267 = true
  ·subst c6
   rw [if_pos rfl] at H
   by_cases c7 : t265.toList = ([142] : List UInt8)
   ·rw [if_pos c7] at H
    have c7b0 : (t265.toList == ([142] : List UInt8)) = true := beq_iff_eq.mpr c7
    have c7b1 : (t265.toList != ([142] : List UInt8)) = false := bne_eq_false_iff_eq.mpr c7
    clear c7
    by_cases c8 : t266.toList = ([6] : List UInt8)
    ·rw [if_pos c8] at H
     have c8b0 : (t266.toList == ([6] : List UInt8)) = true := beq_iff_eq.mpr c8
     have c8b1 : (t266.toList != ([6] : List UInt8)) = false := bne_eq_false_iff_eq.mpr c8
     clear c8
     replace H := Option.bind_eq_some_iff.mp H
     obtain ⟨t269, A90, H⟩ := H
     try dsimp only at H
     have A9 := Q.a A90
     clear A90
     by_cases c10 : t269.toList = ([6] : List UInt8)
     ·rw [if_pos c10] at H
      have c10b0 : (t269.toList == ([6] : List UInt8)) = true := beq_iff_eq.mpr c10
      have c10b1 : (t269.toList != ([6] : List UInt8)) = false := bne_eq_false_iff_eq.mpr c10
      clear c10
      replace H := Option.bind_eq_some_iff.mp H
      obtain ⟨t270, A110, H⟩ := H
      try dsimp only at H
      have A11 := Q.a A110
      clear A110
      obtain rfl := Option.some.inj H
      go_enter Tryd.func18, Tryd.ntmps18
      go_wp2_with (first | ((with_reducible refine gate_callee (f := 60) rfl ?_); refine Q.gl 5 Tryd.func60 #[.int .u64 1000] rfl rfl rfl rfl ?_; (with_reducible refine (nat_FromUint64.calls k 1000 t263 _ A1.out).mono ?_); rintro e w12 ⟨rfl, hb⟩; refine ⟨_, rfl, ?_⟩; replace HB := Q.a (below_step (Q.bw HB) hb); (try clear hb)) | ((with_reducible refine gate_callee (f := 60) rfl ?_); refine Q.gl 6 Tryd.func60 #[.int .u64 7] rfl rfl rfl rfl ?_; (with_reducible refine (nat_FromUint64.calls k 7 t264 _ A2.out).mono ?_); rintro e w13 ⟨rfl, hb⟩; refine ⟨_, rfl, ?_⟩; replace HB := Q.a (below_step (Q.bw HB) hb); (try clear hb)) | ((with_reducible refine gate_callee (f := 22) rfl ?_); refine Q.gl 7 Tryd.func22 #[.string t263, .string t264] rfl rfl rfl rfl ?_; (with_reducible refine (nat_Div.calls k t263 t264 t265 t266 true _ A3.out).mono ?_); rintro e w14 ⟨rfl, hb⟩; refine ⟨_, rfl, ?_⟩; replace HB := Q.a (below_step (Q.bw HB) hb); (try clear hb)) | ((with_reducible refine gate_callee (f := 27) rfl ?_); refine Q.gl 11 Tryd.func27 #[.string (⟨#[255]⟩ : ByteArray), .string (⟨#[1]⟩ : ByteArray)] rfl rfl rfl rfl ?_; (with_reducible refine (nat_Add.calls k (⟨#[255]⟩ : ByteArray) (⟨#[1]⟩ : ByteArray) t268 _ A4.out).mono ?_); rintro e w15 ⟨rfl, hb⟩; refine ⟨_, rfl, ?_⟩; replace HB := Q.a (below_step (Q.bw HB) hb); (try clear hb)) | (go_at_call 19; (with_reducible refine (nat_Gcd.calls k (⟨#[12]⟩ : ByteArray) (⟨#[18]⟩ : ByteArray) t269 _ A9.out).mono ?_); rintro e w16 ⟨rfl, hb⟩; replace HB := Q.a (below_step (Q.bw HB) hb); (try clear hb)) | (go_at_call 35; (with_reducible refine (nat_Format.calls k (⟨#[0, 1]⟩ : ByteArray) t270 _ ?side1 A11.out).mono ?_); (case side1 => exact X.G.below HG.out (Q.bw HB)); rintro e w17 ⟨rfl, hb⟩; replace HB := Q.a (below_step (Q.bw HB) hb); (try clear hb)))
      go_ret
      exact ⟨Q.en, Q.bw HB⟩
     ·rw [if_neg c10] at H
      have c10b0 : (t269.toList == ([6] : List UInt8)) = false := beq_eq_false_iff_ne.mpr c10
      have c10b1 : (t269.toList != ([6] : List UInt8)) = true := bne_iff_ne.mpr c10
      obtain rfl := Option.some.inj H
      exact absurd HR.out (by decide)
    ·rw [if_neg c8] at H
     have c8b0 : (t266.toList == ([6] : List UInt8)) = false := beq_eq_false_iff_ne.mpr c8
     have c8b1 : (t266.toList != ([6] : List UInt8)) = true := bne_iff_ne.mpr c8
     obtain rfl := Option.some.inj H
     exact absurd HR.out (by decide)
   ·rw [if_neg c7] at H
    have c7b0 : (t265.toList == ([142] : List UInt8)) = false := beq_eq_false_iff_ne.mpr c7
    have c7b1 : (t265.toList != ([142] : List UInt8)) = true := bne_iff_ne.mpr c7
    obtain rfl := Option.some.inj H
    exact absurd HR.out (by decide)
  ·replace c6 := Bool.eq_false_iff.mpr c6
   subst c6
   rw [if_neg (show ¬ (false = true) by decide)] at H
   obtain rfl := Option.some.inj H
   exact absurd HR.out (by decide)
 ·rw [if_neg c5] at H
  have c5b0 : (t268.toList == ([0, 1] : List UInt8)) = false := beq_eq_false_iff_ne.mpr c5
  have c5b1 : (t268.toList != ([0, 1] : List UInt8)) = true := bne_iff_ne.mpr c5
  obtain rfl := Option.some.inj H
  exact absurd HR.out (by decide)
end Go.Proofs.YtpokflilobkoaaaDoor.P
