/- Out of what mp.py printed for this seat (squeeze.py, repack.py). Not trusted: Lean checks it. -/
import Derived.Test.YtpokflilobkoaaaDoorPx0
import Derived.Test.YtpokflilobkoaaaDoorPx1
import Derived.Test.YtpokflilobkoaaaDoorPxIA
import Derived.Test.YtpokflilobkoaaaDoorPxIB
import Derived.Test.YtpokflilobkoaaaDoorPxIC
import Derived.Test.YtpokflilobkoaaaDoorPxIntegerMul
import Derived.Test.YtpokflilobkoaaaDoorPxVoussoirlaw02Fixed
import Derived.Test.YtpokflilobkoaaaDoorXQ
-- squeezed twice
namespace Go.Proofs.YtpokflilobkoaaaDoor.P
open Go.RowKit Go.Proofs.YtpokflilobkoaaaDoorW.PrintWords Go.Proofs.YtpokflilobkoaaaDoorW.PrintLast Go.Proofs.YtpokflilobkoaaaDoorW.PrintMore
attribute [local go_sem] max2_int min2_int max_two min_two max_three min_three max_four min_four   -- for this text's walks alone
attribute [local go_sem] XW.cell_twice   -- for this text's walks alone
set_option linter.unusedVariables false
set_option linter.unusedSimpArgs false
attribute [local go_sem high] eqA36

/-! ### voussoirlaw02_IntegerRing: function 12 -/
mutual
def voussoirlaw02_IntegerRing.j0 : Nat → Bool → Bool → ByteArray → Bool → ByteArray → Bool → ByteArray → Option (Bool)
 | 0, _, _, _, _, _, _, _ => none
 | k + 1, x26, x726000, x726001, x727000, x727001, x728000, x728001 => if x26 = true then ((voussoirlaw02_fixed.f k).bind fun t728 => (some t728)) else ((integer_Add.f k x726000 x726001 x727000 x727001).bind fun bt729 => ((integer_Add.f k bt729.1 bt729.2 x728000 x728001).bind fun bt731 => ((integer_Add.f k x727000 x727001 x728000 x728001).bind fun bt733 => ((integer_Add.f k x726000 x726001 bt733.1 bt733.2).bind fun bt735 => (if (bt731.1 == bt735.1 && (bt731.2.toList == bt735.2.toList)) = true then ((integer_Add.f k x726000 x726001 x727000 x727001).bind fun bt737 => ((integer_Add.f k x727000 x727001 x726000 x726001).bind fun bt739 => (voussoirlaw02_IntegerRing.j1 k (bt737.1 == bt739.1 && (bt737.2.toList == bt739.2.toList)) x726000 x726001 x727000 x727001 x728000 x728001))) else (voussoirlaw02_IntegerRing.j1 k false x726000 x726001 x727000 x727001 x728000 x728001))))))
def voussoirlaw02_IntegerRing.j1 : Nat → Bool → Bool → ByteArray → Bool → ByteArray → Bool → ByteArray → Option (Bool)
 | 0, _, _, _, _, _, _, _ => none
 | k + 1, x7, x726000, x726001, x727000, x727001, x728000, x728001 => (integer_Mul.f k x726000 x726001 x727000 x727001).bind fun bt741 => ((integer_Mul.f k bt741.1 bt741.2 x728000 x728001).bind fun bt743 => ((integer_Mul.f k x727000 x727001 x728000 x728001).bind fun bt745 => ((integer_Mul.f k x726000 x726001 bt745.1 bt745.2).bind fun bt747 => (if (bt743.1 == bt747.1 && (bt743.2.toList == bt747.2.toList)) = true then ((integer_Mul.f k x726000 x726001 x727000 x727001).bind fun bt749 => ((integer_Mul.f k x727000 x727001 x726000 x726001).bind fun bt751 => (voussoirlaw02_IntegerRing.j2 k x7 (bt749.1 == bt751.1 && (bt749.2.toList == bt751.2.toList)) x726000 x726001 x727000 x727001 x728000 x728001))) else (voussoirlaw02_IntegerRing.j2 k x7 false x726000 x726001 x727000 x727001 x728000 x728001)))))
def voussoirlaw02_IntegerRing.j2 : Nat → Bool → Bool → Bool → ByteArray → Bool → ByteArray → Bool → ByteArray → Option (Bool)
 | 0, _, _, _, _, _, _, _, _ => none
 | k + 1, x7, x8, x726000, x726001, x727000, x727001, x728000, x728001 => (integer_Add.f k x727000 x727001 x728000 x728001).bind fun bt753 => ((integer_Mul.f k x726000 x726001 bt753.1 bt753.2).bind fun bt755 => ((integer_Mul.f k x726000 x726001 x727000 x727001).bind fun bt757 => ((integer_Mul.f k x726000 x726001 x728000 x728001).bind fun bt759 => ((integer_Add.f k bt757.1 bt757.2 bt759.1 bt759.2).bind fun bt761 => ((integer_FromInt64.f k 1).bind fun bt763 => ((voussoirlaw02_fixed.f k).bind fun t766 => (if t766 = true then (if x7 = true then (if x8 = true then (if (bt755.1 == bt761.1 && (bt755.2.toList == bt761.2.toList)) = true then ((integer_Add.f k x726000 x726001 x727000 x727001).bind fun bt767 => ((integer_Sub.f k bt767.1 bt767.2 x727000 x727001).bind fun bt769 => ((integer_Normalize.f k x726000 x726001).bind fun bt771 => (if (bt769.1 == bt771.1 && (bt769.2.toList == bt771.2.toList)) = true then ((integer_Neg.f k x726000 x726001).bind fun bt773 => ((integer_Add.f k x726000 x726001 bt773.1 bt773.2).bind fun bt775 => (if (!bt775.1 && (bt775.2.toList == ([] : List UInt8))) = true then ((integer_Mul.f k x726000 x726001 bt763.1 bt763.2).bind fun bt777 => ((integer_Normalize.f k x726000 x726001).bind fun bt779 => (if (bt777.1 == bt779.1 && (bt777.2.toList == bt779.2.toList)) = true then ((integer_Mul.f k x726000 x726001 false (⟨#[]⟩ : ByteArray)).bind fun bt781 => (some (!bt781.1 && (bt781.2.toList == ([] : List UInt8))))) else (some false)))) else (some false)))) else (some false))))) else (some false)) else (some false)) else (some false)) else (some false))))))))
end
def voussoirlaw02_IntegerRing.f (k : Nat) (a0_0 : Bool) (a0_1 : ByteArray) (a1_0 : Bool) (a1_1 : ByteArray) (a2_0 : Bool) (a2_1 : ByteArray) : Option (Bool) := if (a0_1.size : Int) > 20 then (voussoirlaw02_IntegerRing.j0 k true a0_0 a0_1 a1_0 a1_1 a2_0 a2_1) else (if (a1_1.size : Int) > 20 then (voussoirlaw02_IntegerRing.j0 k true a0_0 a0_1 a1_0 a1_1 a2_0 a2_1) else (voussoirlaw02_IntegerRing.j0 k (decide ((a2_1.size : Int) > 20)) a0_0 a0_1 a1_0 a1_1 a2_0 a2_1))
theorem voussoirlaw02_IntegerRing.mono_l : ∀ k, (∀ y0 y1 y2 y3 y4 y5 y6, LeO (voussoirlaw02_IntegerRing.j0 k y0 y1 y2 y3 y4 y5 y6) (voussoirlaw02_IntegerRing.j0 (k + 1) y0 y1 y2 y3 y4 y5 y6)) ∧ (∀ y0 y1 y2 y3 y4 y5 y6, LeO (voussoirlaw02_IntegerRing.j1 k y0 y1 y2 y3 y4 y5 y6) (voussoirlaw02_IntegerRing.j1 (k + 1) y0 y1 y2 y3 y4 y5 y6)) ∧ (∀ y0 y1 y2 y3 y4 y5 y6 y7, LeO (voussoirlaw02_IntegerRing.j2 k y0 y1 y2 y3 y4 y5 y6 y7) (voussoirlaw02_IntegerRing.j2 (k + 1) y0 y1 y2 y3 y4 y5 y6 y7))
 | 0 => ⟨fun _ _ _ _ _ _ _ r h => by simp [voussoirlaw02_IntegerRing.j0] at h, fun _ _ _ _ _ _ _ r h => by simp [voussoirlaw02_IntegerRing.j1] at h, fun _ _ _ _ _ _ _ _ r h => by simp [voussoirlaw02_IntegerRing.j2] at h⟩
 | k + 1 => by
  obtain ⟨ih0, ih1, ih2⟩ := voussoirlaw02_IntegerRing.mono_l k
  refine ⟨?_, ?_, ?_⟩
  ·intro y0 y1 y2 y3 y4 y5 y6
   unfold voussoirlaw02_IntegerRing.j0
   repeat' first
   | (with_reducible exact ih0 _ _ _ _ _ _ _)
   | (with_reducible exact ih1 _ _ _ _ _ _ _)
   | (with_reducible exact ih2 _ _ _ _ _ _ _ _)
   | (with_reducible exact integer_Add.mono _ _ _ _ _)
   | (with_reducible exact integer_FromInt64.mono _ _)
   | (with_reducible exact integer_Mul.mono _ _ _ _ _)
   | (with_reducible exact integer_Neg.mono _ _ _)
   | (with_reducible exact integer_Normalize.mono _ _ _)
   | (with_reducible exact integer_Sub.mono _ _ _ _ _)
   | (with_reducible exact voussoirlaw02_fixed.mono _)
   | (with_reducible exact LeO.refl _)
   | (with_reducible exact LeO.none _)
   | (with_reducible refine LeO.ite ?_ ?_)
   | (with_reducible refine LeO.bind ?_ (fun _ => ?_))
   | exact ih0 _ _ _ _ _ _ _
   | exact ih1 _ _ _ _ _ _ _
   | exact ih2 _ _ _ _ _ _ _ _
   | exact integer_Add.mono _ _ _ _ _
   | exact integer_FromInt64.mono _ _
   | exact integer_Mul.mono _ _ _ _ _
   | exact integer_Neg.mono _ _ _
   | exact integer_Normalize.mono _ _ _
   | exact integer_Sub.mono _ _ _ _ _
   | exact voussoirlaw02_fixed.mono _
   | exact LeO.none _
   | refine LeO.ite ?_ ?_
   | refine LeO.bind ?_ (fun _ => ?_)
  ·intro y0 y1 y2 y3 y4 y5 y6
   unfold voussoirlaw02_IntegerRing.j1
   repeat' first
   | (with_reducible exact ih0 _ _ _ _ _ _ _)
   | (with_reducible exact ih1 _ _ _ _ _ _ _)
   | (with_reducible exact ih2 _ _ _ _ _ _ _ _)
   | (with_reducible exact integer_Add.mono _ _ _ _ _)
   | (with_reducible exact integer_FromInt64.mono _ _)
   | (with_reducible exact integer_Mul.mono _ _ _ _ _)
   | (with_reducible exact integer_Neg.mono _ _ _)
   | (with_reducible exact integer_Normalize.mono _ _ _)
   | (with_reducible exact integer_Sub.mono _ _ _ _ _)
   | (with_reducible exact voussoirlaw02_fixed.mono _)
   | (with_reducible exact LeO.refl _)
   | (with_reducible exact LeO.none _)
   | (with_reducible refine LeO.ite ?_ ?_)
   | (with_reducible refine LeO.bind ?_ (fun _ => ?_))
   | exact ih0 _ _ _ _ _ _ _
   | exact ih1 _ _ _ _ _ _ _
   | exact ih2 _ _ _ _ _ _ _ _
   | exact integer_Add.mono _ _ _ _ _
   | exact integer_FromInt64.mono _ _
   | exact integer_Mul.mono _ _ _ _ _
   | exact integer_Neg.mono _ _ _
   | exact integer_Normalize.mono _ _ _
   | exact integer_Sub.mono _ _ _ _ _
   | exact voussoirlaw02_fixed.mono _
   | exact LeO.none _
   | refine LeO.ite ?_ ?_
   | refine LeO.bind ?_ (fun _ => ?_)
  ·intro y0 y1 y2 y3 y4 y5 y6 y7
   unfold voussoirlaw02_IntegerRing.j2
   repeat' first
   | (with_reducible exact ih0 _ _ _ _ _ _ _)
   | (with_reducible exact ih1 _ _ _ _ _ _ _)
   | (with_reducible exact ih2 _ _ _ _ _ _ _ _)
   | (with_reducible exact integer_Add.mono _ _ _ _ _)
   | (with_reducible exact integer_FromInt64.mono _ _)
   | (with_reducible exact integer_Mul.mono _ _ _ _ _)
   | (with_reducible exact integer_Neg.mono _ _ _)
   | (with_reducible exact integer_Normalize.mono _ _ _)
   | (with_reducible exact integer_Sub.mono _ _ _ _ _)
   | (with_reducible exact voussoirlaw02_fixed.mono _)
   | (with_reducible exact LeO.refl _)
   | (with_reducible exact LeO.none _)
   | (with_reducible refine LeO.ite ?_ ?_)
   | (with_reducible refine LeO.bind ?_ (fun _ => ?_))
   | exact ih0 _ _ _ _ _ _ _
   | exact ih1 _ _ _ _ _ _ _
   | exact ih2 _ _ _ _ _ _ _ _
   | exact integer_Add.mono _ _ _ _ _
   | exact integer_FromInt64.mono _ _
   | exact integer_Mul.mono _ _ _ _ _
   | exact integer_Neg.mono _ _ _
   | exact integer_Normalize.mono _ _ _
   | exact integer_Sub.mono _ _ _ _ _
   | exact voussoirlaw02_fixed.mono _
   | exact LeO.none _
   | refine LeO.ite ?_ ?_
   | refine LeO.bind ?_ (fun _ => ?_)
theorem voussoirlaw02_IntegerRing.mono : ∀ a0 a1 a2 a3 a4 a5 k, LeO (voussoirlaw02_IntegerRing.f k a0 a1 a2 a3 a4 a5) (voussoirlaw02_IntegerRing.f (k + 1) a0 a1 a2 a3 a4 a5) := by
 intro a0 a1 a2 a3 a4 a5 k
 obtain ⟨ih0, ih1, ih2⟩ := voussoirlaw02_IntegerRing.mono_l k
 unfold voussoirlaw02_IntegerRing.f
 repeat' first
   | (with_reducible exact ih0 _ _ _ _ _ _ _)
   | (with_reducible exact ih1 _ _ _ _ _ _ _)
   | (with_reducible exact ih2 _ _ _ _ _ _ _ _)
   | (with_reducible exact integer_Add.mono _ _ _ _ _)
   | (with_reducible exact integer_FromInt64.mono _ _)
   | (with_reducible exact integer_Mul.mono _ _ _ _ _)
   | (with_reducible exact integer_Neg.mono _ _ _)
   | (with_reducible exact integer_Normalize.mono _ _ _)
   | (with_reducible exact integer_Sub.mono _ _ _ _ _)
   | (with_reducible exact voussoirlaw02_fixed.mono _)
   | (with_reducible exact LeO.refl _)
   | (with_reducible exact LeO.none _)
   | (with_reducible refine LeO.ite ?_ ?_)
   | (with_reducible refine LeO.bind ?_ (fun _ => ?_))
   | exact ih0 _ _ _ _ _ _ _
   | exact ih1 _ _ _ _ _ _ _
   | exact ih2 _ _ _ _ _ _ _ _
   | exact integer_Add.mono _ _ _ _ _
   | exact integer_FromInt64.mono _ _
   | exact integer_Mul.mono _ _ _ _ _
   | exact integer_Neg.mono _ _ _
   | exact integer_Normalize.mono _ _ _
   | exact integer_Sub.mono _ _ _ _ _
   | exact voussoirlaw02_fixed.mono _
   | exact LeO.none _
   | refine LeO.ite ?_ ?_
   | refine LeO.bind ?_ (fun _ => ?_)
def voussoirlaw02_IntegerRing.T3 : Bool × List (List Nat × List Nat) := (true, [([], []), ([], []), ([0, 1], [0, 1]), ([], []), ([2, 3, 2], [2, 3]), ([], []), ([], []), ([], []), ([6, 7, 4], [6, 7]), ([5, 8, 8], [5, 8]), ([4, 9], [4, 9]), ([10, 9], [10]), ([11], [11]), ([11], [11]), ([12, 13, 11, 11], [11, 12, 13]), ([11], [11]), ([11], [11]), ([15, 16, 14, 11], [11, 15, 16]), ([14, 17, 11], [11, 14, 17]), ([11, 18], [11, 18]), ([19, 17, 0, 1, 2, 3, 4, 5, 6, 7, 8, 9, 10, 11, 12, 13, 14, 15, 16, 17, 18, 19], [19])])
def voussoirlaw02_IntegerRing.B3 : List Nat := [0, 0, 3, 0, 15, 0, 0, 0, 223, 511, 1023, 2047, 4095, 4095, 16383, 4095, 4095, 131071, 262143, 524287, 1048575]
theorem voussoirlaw02_IntegerRing.tab3 : rtab .any (opsOf Tryd.f12 3) = voussoirlaw02_IntegerRing.T3 := by kernel_rfl
theorem voussoirlaw02_IntegerRing.bits3 : waitsOk voussoirlaw02_IntegerRing.T3.2 voussoirlaw02_IntegerRing.B3 = true := by kernel_rfl
def voussoirlaw02_IntegerRing.T4 : Bool × List (List Nat × List Nat) := (true, [([], []), ([], []), ([0, 1], [0, 1]), ([], []), ([2, 3, 2], [2, 3]), ([], []), ([], []), ([], []), ([6, 7, 4], [6, 7]), ([5, 8, 8], [5, 8]), ([4, 9], [4, 9]), ([10, 9], [10]), ([11], [11]), ([11], [11]), ([12, 13, 11, 11], [11, 12, 13]), ([11], [11]), ([11], [11]), ([15, 16, 14, 11], [11, 15, 16]), ([14, 17, 11], [11, 14, 17]), ([11, 18], [11, 18]), ([19, 17, 0, 1, 2, 3, 4, 5, 6, 7, 8, 9, 10, 11, 12, 13, 14, 15, 16, 17, 18, 19], [19])])
def voussoirlaw02_IntegerRing.B4 : List Nat := [0, 0, 3, 0, 15, 0, 0, 0, 223, 511, 1023, 2047, 4095, 4095, 16383, 4095, 4095, 131071, 262143, 524287, 1048575]
theorem voussoirlaw02_IntegerRing.tab4 : rtab .any (opsOf Tryd.f12 4) = voussoirlaw02_IntegerRing.T4 := by kernel_rfl
theorem voussoirlaw02_IntegerRing.bits4 : waitsOk voussoirlaw02_IntegerRing.T4.2 voussoirlaw02_IntegerRing.B4 = true := by kernel_rfl
def voussoirlaw02_IntegerRing.T5 : Bool × List (List Nat × List Nat) := (true, [([], []), ([], []), ([], []), ([1, 2], [1, 2]), ([0, 3, 3], [0, 3]), ([], []), ([], []), ([5, 6, 4], [5, 6]), ([], []), ([], []), ([8, 9, 7], [8, 9]), ([7, 10, 10], [7, 10]), ([4, 11], [4, 11]), ([12, 11, 0, 1, 2, 3, 4, 5, 6, 7, 8, 9, 10, 11, 12], [12])])
def voussoirlaw02_IntegerRing.B5 : List Nat := [0, 0, 0, 6, 15, 0, 0, 127, 0, 0, 1023, 2047, 4095, 8191]
theorem voussoirlaw02_IntegerRing.tab5 : rtab .any (opsOf Tryd.f12 5) = voussoirlaw02_IntegerRing.T5 := by kernel_rfl
theorem voussoirlaw02_IntegerRing.bits5 : waitsOk voussoirlaw02_IntegerRing.T5.2 voussoirlaw02_IntegerRing.B5 = true := by kernel_rfl
def voussoirlaw02_IntegerRing.T7 : Bool × List (List Nat × List Nat) := (true, [([], []), ([0, 0], [0]), ([1], [1]), ([1, 2], [1, 2]), ([3, 1], [3]), ([4], [4]), ([4, 5], [4, 5]), ([6, 4], [6]), ([7], [7]), ([7, 8], [7, 8]), ([9, 7], [9]), ([10], [10]), ([10], [10]), ([11, 12, 10, 10], [10, 11, 12]), ([10], [10]), ([13, 14, 13, 10], [10, 13, 14]), ([10], [10]), ([16, 15, 10], [10, 16]), ([15, 17, 10], [10, 15, 17]), ([10, 18], [10, 18]), ([19, 17], [19]), ([20], [20]), ([20], [20]), ([22, 20, 20], [20, 22]), ([21, 23, 23, 20], [20, 21, 23]), ([20], [20]), ([24, 25, 20], [20, 24, 25]), ([20, 26], [20, 26]), ([27, 24], [27]), ([28], [28]), ([28], [28]), ([29, 30, 28, 28], [28, 29, 30]), ([28], [28]), ([32, 31, 28], [28, 32]), ([31, 33, 28], [28, 31, 33]), ([28, 34], [28, 34]), ([35, 33], [35]), ([36], [36]), ([36], [36]), ([37, 38, 36, 36], [36, 37, 38]), ([36], [36]), ([39, 40, 36], [36, 39, 40]), ([36, 41], [36, 41]), ([42, 39, 0, 1, 2, 3, 4, 5, 6, 7, 8, 9, 10, 11, 12, 13, 14, 15, 16, 17, 18, 19, 20, 21, 22, 23, 24, 25, 26, 27, 28, 29, 30, 31, 32, 33, 34, 35, 36, 37, 38, 39, 40, 41, 42], [42])])
def voussoirlaw02_IntegerRing.B7 : List Nat := [0, 1, 3, 7, 15, 31, 63, 127, 255, 511, 1023, 2047, 2047, 8191, 2047, 32767, 2047, 131071, 262143, 524287, 1048575, 2097151, 2097151, 6291455, 16777215, 2097151, 67108863, 134217727, 268435455, 536870911, 536870911, 2147483647, 536870911, 8589934591, 17179869183, 34359738367, 68719476735, 137438953471, 137438953471, 549755813887, 137438953471, 2199023255551, 4398046511103, 8796093022207]
theorem voussoirlaw02_IntegerRing.tab7 : rtab .any (opsOf Tryd.f12 7) = voussoirlaw02_IntegerRing.T7 := by kernel_rfl
theorem voussoirlaw02_IntegerRing.bits7 : waitsOk voussoirlaw02_IntegerRing.T7.2 voussoirlaw02_IntegerRing.B7 = true := by kernel_rfl
set_option maxHeartbeats 8000000 in
set_option maxRecDepth 100000 in
theorem voussoirlaw02_IntegerRing.calls (k : Nat) (a0_0 : Bool) (a0_1 : ByteArray) (a1_0 : Bool) (a1_1 : ByteArray) (a2_0 : Bool) (a2_1 : ByteArray) (r : Bool) (hr : r = true) (w : World) (hG : X.G w) (h : voussoirlaw02_IntegerRing.f k a0_0 a0_1 a1_0 a1_1 a2_0 a2_1 = some r) :
  Calls Tryd.prog 12 #[.agg #[.bool a0_0, .string a0_1], .agg #[.bool a1_0, .string a1_1], .agg #[.bool a2_0, .string a2_1]] w fun e w' => e = .returned (.bool r) ∧ Below w.heap.size w w' := by
 have HR := Q.a hr
 clear hr
 have hu36 := Tryd.underlying36
 have HG := Q.a hG
 clear hG
 have HB := Q.a (Below.refl w.heap.size w)
 have H : (if (a0_1.size : Int) > 20 then (voussoirlaw02_IntegerRing.j0 k true a0_0 a0_1 a1_0 a1_1 a2_0 a2_1) else (if (a1_1.size : Int) > 20 then (voussoirlaw02_IntegerRing.j0 k true a0_0 a0_1 a1_0 a1_1 a2_0 a2_1) else (voussoirlaw02_IntegerRing.j0 k (decide ((a2_1.size : Int) > 20)) a0_0 a0_1 a1_0 a1_1 a2_0 a2_1))) = some r := h
 clear h
 have HC4 := Q.a H
 clear H
 go_enter Tryd.func12, Tryd.ntmps12
 go_upto_region 1 with (first | ((with_reducible refine gate_dst (N := 3) rfl ?_); (try (refine gate_guard (by rfl) ?_; dsimp only)); refine Q.bx 3 #[.bool a0_0, .string a0_1] 36 rfl rfl ?_; intro gb725 hg w5 hbox hb; replace BK725 := Q.a (hbox); replace GW725 := Q.a (Q.gs hg (below_size (Q.bw HB))); replace GE725 := GW725; replace HB := Q.a (below_step (Q.bw HB) hb); clear hb hbox hg) | ((with_reducible refine gate_dst (N := 4) rfl ?_); (try (refine gate_guard (by rfl) ?_; dsimp only)); refine Q.bx 4 #[.bool a1_0, .string a1_1] 36 rfl rfl ?_; intro gb726 hg w6 hbox hb; replace BK726 := Q.a (hbox); replace GW726 := Q.a (Q.gs hg (below_size (Q.bw1 HB GE725))); replace GE726 := GW726; replace HB := Q.a (below_step (Q.bw1 HB GE725) hb); replace NB725_726 := Q.a (Q.nl hg BK725); replace NB726_725 := Q.a (Q.ng hg BK725); replace BK725 := Q.a (Q.bb BK725 hb); clear hb hbox hg) | ((with_reducible refine gate_dst (N := 5) rfl ?_); (try (refine gate_guard (by rfl) ?_; dsimp only)); refine Q.bx 5 #[.bool a2_0, .string a2_1] 36 rfl rfl ?_; intro gb727 hg w7 hbox hb; replace BK727 := Q.a (hbox); replace GW727 := Q.a (Q.gs hg (below_size (Q.bw2 HB GE725 GE726))); replace GE727 := GW727; replace HB := Q.a (below_step (Q.bw2 HB GE725 GE726) hb); replace NB725_727 := Q.a (Q.nl hg BK725); replace NB727_725 := Q.a (Q.ng hg BK725); replace BK725 := Q.a (Q.bb BK725 hb); replace NB726_727 := Q.a (Q.nl hg BK726); replace NB727_726 := Q.a (Q.ng hg BK726); replace BK726 := Q.a (Q.bb BK726 hb); clear hb hbox hg))
 (try simp only [Act.put, List.setIfInBounds_toArray, List.set_cons_zero, List.set_cons_succ])
 go_cut [26] (fun v26 wc => ∃ (kq : Nat) (x26_3 : Bool), v26 = .bool x26_3 ∧ Aside0 (voussoirlaw02_IntegerRing.j0 kq x26_3 a0_0 a0_1 a1_0 a1_1 a2_0 a2_1 = some r) ∧ Aside0 (kq ≤ k) ∧ Aside0 (wc.heap[gb725]? = some (.cells #[.bool a0_0, .string a0_1] 36 (0, 0))) ∧ Aside0 (wc.heap[gb726]? = some (.cells #[.bool a1_0, .string a1_1] 36 (0, 0))) ∧ Aside0 (wc.heap[gb727]? = some (.cells #[.bool a2_0, .string a2_1] 36 (0, 0))) ∧ Aside0 (Below w.heap.size w wc))
 case first =>
  have H := HC4.out
  clear HC4
  by_cases c8 : (a0_1.size : Int) > 20
  ·rw [if_pos c8] at H
   have c8b0 : decide (20 < (a0_1.size : Int)) = true := decide_eq_true c8
   have c8b1 : decide (20 < a0_1.size) = true := decide_eq_true (by omega)
   clear c8
   (first | rw [c8b0] | (simp only [i64_w, i32_w]; rw [c8b0]) | skip)
   have H' := Q.a H
   clear H
   have hnb9 := NB725_726.out
   have hnc9 := NB726_725.out
   have hnb10 := NB725_727.out
   have hnc10 := NB727_725.out
   have hcz11_0 : w7.cell? ⟨gb725, 0, none⟩ = some (.bool a0_0) := (blk_cell BK725.out 0).trans rfl
   have hcz11_1 : w7.cell? ⟨gb725, 1, none⟩ = some (.string a0_1) := (blk_cell BK725.out 1).trans rfl
   have hfz11_0 := blk_frozen BK725.out 0
   have hfz11_1 := blk_frozen BK725.out 1
   go_wp2
   go_meet
   case rel => exact ⟨_, (true), Q.rs, H', ⟨by first | omega | exact Nat.le_refl _⟩, ⟨Q.kb BK725⟩, ⟨Q.kb BK726⟩, ⟨Q.kb BK727⟩, ⟨Q.bw3 HB GE725 GE726 GE727⟩⟩
  ·rw [if_neg c8] at H
   have c8b0 : decide (20 < (a0_1.size : Int)) = false := decide_eq_false c8
   have c8b1 : decide (20 < a0_1.size) = false := decide_eq_false (by omega)
   clear c8
   (first | rw [c8b0] | (simp only [i64_w, i32_w]; rw [c8b0]) | skip)
   by_cases c12 : (a1_1.size : Int) > 20
   ·rw [if_pos c12] at H
    have c12b0 : decide (20 < (a1_1.size : Int)) = true := decide_eq_true c12
    have c12b1 : decide (20 < a1_1.size) = true := decide_eq_true (by omega)
    clear c12
    have H' := Q.a H
    clear H
    have hnb13 := NB725_726.out
    have hnc13 := NB726_725.out
    have hnb14 := NB725_727.out
    have hnc14 := NB727_725.out
    have hcz15_0 : w7.cell? ⟨gb725, 0, none⟩ = some (.bool a0_0) := (blk_cell BK725.out 0).trans rfl
    have hcz15_1 : w7.cell? ⟨gb725, 1, none⟩ = some (.string a0_1) := (blk_cell BK725.out 1).trans rfl
    have hfz15_0 := blk_frozen BK725.out 0
    have hfz15_1 := blk_frozen BK725.out 1
    have hnb16 := NB726_727.out
    have hnc16 := NB727_726.out
    have hcz17_0 : w7.cell? ⟨gb726, 0, none⟩ = some (.bool a1_0) := (blk_cell BK726.out 0).trans rfl
    have hcz17_1 : w7.cell? ⟨gb726, 1, none⟩ = some (.string a1_1) := (blk_cell BK726.out 1).trans rfl
    have hfz17_0 := blk_frozen BK726.out 0
    have hfz17_1 := blk_frozen BK726.out 1
    go_wp2
    go_meet
    case rel => exact ⟨_, (true), Q.rs, H', ⟨by first | omega | exact Nat.le_refl _⟩, ⟨Q.kb BK725⟩, ⟨Q.kb BK726⟩, ⟨Q.kb BK727⟩, ⟨Q.bw3 HB GE725 GE726 GE727⟩⟩
   ·rw [if_neg c12] at H
    have c12b0 : decide (20 < (a1_1.size : Int)) = false := decide_eq_false c12
    have c12b1 : decide (20 < a1_1.size) = false := decide_eq_false (by omega)
    clear c12
    have H' := Q.a H
    clear H
    have hnb18 := NB725_726.out
    have hnc18 := NB726_725.out
    have hnb19 := NB725_727.out
    have hnc19 := NB727_725.out
    have hcz20_0 : w7.cell? ⟨gb725, 0, none⟩ = some (.bool a0_0) := (blk_cell BK725.out 0).trans rfl
    have hcz20_1 : w7.cell? ⟨gb725, 1, none⟩ = some (.string a0_1) := (blk_cell BK725.out 1).trans rfl
    have hfz20_0 := blk_frozen BK725.out 0
    have hfz20_1 := blk_frozen BK725.out 1
    have hnb21 := NB726_727.out
    have hnc21 := NB727_726.out
    have hcz22_0 : w7.cell? ⟨gb726, 0, none⟩ = some (.bool a1_0) := (blk_cell BK726.out 0).trans rfl
    have hcz22_1 : w7.cell? ⟨gb726, 1, none⟩ = some (.string a1_1) := (blk_cell BK726.out 1).trans rfl
    have hfz22_0 := blk_frozen BK726.out 0
    have hfz22_1 := blk_frozen BK726.out 1
    have hcz23_0 : w7.cell? ⟨gb727, 0, none⟩ = some (.bool a2_0) := (blk_cell BK727.out 0).trans rfl
    have hcz23_1 : w7.cell? ⟨gb727, 1, none⟩ = some (.string a2_1) := (blk_cell BK727.out 1).trans rfl
    have hfz23_0 := blk_frozen BK727.out 0
    have hfz23_1 := blk_frozen BK727.out 1
    go_wp2
    go_meet
    case rel => exact ⟨_, (decide ((a2_1.size : Int) > 20)), Q.rs, H', ⟨by first | omega | exact Nat.le_refl _⟩, ⟨Q.kb BK725⟩, ⟨Q.kb BK726⟩, ⟨Q.kb BK727⟩, ⟨Q.bw3 HB GE725 GE726 GE727⟩⟩
 case rest =>
  clear HC4
  try clear c1
  try clear c2
  try clear p2
  try clear c8
  try clear c8b0
  try clear c8b1
  try clear c9
  try clear c10
  try clear c12
  try clear c12b0
  try clear c12b1
  try clear c13
  try clear c14
  try clear c16
  try clear c18
  try clear c19
  try clear c21
  try clear hcz11_0
  try clear hcz11_1
  try clear hcz15_0
  try clear hcz15_1
  try clear hcz17_0
  try clear hcz17_1
  try clear hcz20_0
  try clear hcz20_1
  try clear hcz22_0
  try clear hcz22_1
  try clear hcz23_0
  try clear hcz23_1
  try clear hfz11_0
  try clear hfz11_1
  try clear hfz15_0
  try clear hfz15_1
  try clear hfz17_0
  try clear hfz17_1
  try clear hfz20_0
  try clear hfz20_1
  try clear hfz22_0
  try clear hfz22_1
  try clear hfz23_0
  try clear hfz23_1
  obtain ⟨kq, x26_3, rfl, HA, HJ3, BK725, BK726, BK727, HB⟩ := hcut
  cases kq with
  | zero => exact absurd HA.out (by simp [voussoirlaw02_IntegerRing.j0])
  | succ kj3 =>
   have H := HA.out
   clear HA
   simp only [voussoirlaw02_IntegerRing.j0] at H
   by_cases c24 : x26_3 = true
   ·subst c24
    rw [if_pos rfl] at H
    replace H := Option.bind_eq_some_iff.mp H
    obtain ⟨t728, A250, H⟩ := H
    try dsimp only at H
    have A25 := Q.a A250
    clear A250
    obtain rfl := Option.some.inj H
    go_wp2_with (first | ((with_reducible refine gate_callee (f := 37) rfl ?_); refine Q.gl 27 Tryd.func37 #[] rfl rfl rfl rfl ?_; (with_reducible refine (voussoirlaw02_fixed.calls kj3  t728 HR.out _ ?side1 A25.out).mono ?_); (case side1 => exact X.G.below HG.out (Q.bw3 HB GE725 GE726 GE727)); rintro e w26 ⟨rfl, hb⟩; refine ⟨_, rfl, ?_⟩; replace BK725 := Q.a (Q.bb BK725 hb); replace BK726 := Q.a (Q.bb BK726 hb); replace BK727 := Q.a (Q.bb BK727 hb); replace HB := Q.a (below_step (Q.bw3 HB GE725 GE726 GE727) hb); (try clear hb)))
    go_ret
    exact ⟨Q.en, Q.bw3 HB GE725 GE726 GE727⟩
   ·replace c24 := Bool.eq_false_iff.mpr c24
    subst c24
    rw [if_neg (show ¬ (false = true) by decide)] at H
    have HC27 := Q.a H
    clear H
    go_upto_region 3 with (fail)
    go_cut [7] (fun v7 wc => ∃ (kq : Nat) (x7_26 : Bool), v7 = .bool x7_26 ∧ Aside0 (voussoirlaw02_IntegerRing.j1 kq x7_26 a0_0 a0_1 a1_0 a1_1 a2_0 a2_1 = some r) ∧ Aside0 (kq ≤ kj3) ∧ Aside0 (wc.heap[gb725]? = some (.cells #[.bool a0_0, .string a0_1] 36 (0, 0))) ∧ Aside0 (wc.heap[gb726]? = some (.cells #[.bool a1_0, .string a1_1] 36 (0, 0))) ∧ Aside0 (wc.heap[gb727]? = some (.cells #[.bool a2_0, .string a2_1] 36 (0, 0))) ∧ Aside0 (Below w.heap.size w wc))
    case first =>
     have H := HC27.out
     clear HC27
     replace H := Option.bind_eq_some_iff.mp H
     obtain ⟨⟨t729, t730⟩, A280, H⟩ := H
     try dsimp only at H
     have A28 := Q.a A280
     clear A280
     replace H := Option.bind_eq_some_iff.mp H
     obtain ⟨⟨t731, t732⟩, A290, H⟩ := H
     try dsimp only at H
     have A29 := Q.a A290
     clear A290
     replace H := Option.bind_eq_some_iff.mp H
     obtain ⟨⟨t733, t734⟩, A300, H⟩ := H
     try dsimp only at H
     have A30 := Q.a A300
     clear A300
     replace H := Option.bind_eq_some_iff.mp H
     obtain ⟨⟨t735, t736⟩, A310, H⟩ := H
     try dsimp only at H
     have A31 := Q.a A310
     clear A310
     by_cases c32 : (t731 == t735 && (t732.toList == t736.toList)) = true
     ·rw [if_pos c32] at H
      have c32b0 : (t731 == t735 && (t732.toList == t736.toList)) = true := c32
      (try (have c32b1 : decide (t731 = t735 && (t732.toList == t736.toList)) = true := by simpa using c32))
      (try (have c32b2 : (t731 == t735 && (t732.toList == t736.toList)) = true := by simpa using c32))
      clear c32
      (first | rw [c32b0] | (simp only [i64_w, i32_w]; rw [c32b0]) | skip)
      replace H := Option.bind_eq_some_iff.mp H
      obtain ⟨⟨t737, t738⟩, A330, H⟩ := H
      try dsimp only at H
      have A33 := Q.a A330
      clear A330
      replace H := Option.bind_eq_some_iff.mp H
      obtain ⟨⟨t739, t740⟩, A340, H⟩ := H
      try dsimp only at H
      have A34 := Q.a A340
      clear A340
      have H' := Q.a H
      clear H
      try go_wp2
      replace BK725 := Q.a (blk_drew BK725.out)
      replace BK726 := Q.a (blk_drew BK726.out)
      replace BK727 := Q.a (blk_drew BK727.out)
      replace HB := Q.a (below_drew1 HB.out)
      refine start_ (n := 21) (S := fun w' => w'.cell? ⟨gb725, 0, none⟩ = some (.bool a0_0) ∧ w'.cell? ⟨gb725, 1, none⟩ = some (.string a0_1) ∧ w'.cell? ⟨gb726, 0, none⟩ = some (.bool a1_0) ∧ w'.cell? ⟨gb726, 1, none⟩ = some (.string a1_1) ∧ w'.cell? ⟨gb727, 0, none⟩ = some (.bool a2_0) ∧ w'.cell? ⟨gb727, 1, none⟩ = some (.string a2_1)) (ds := []) #[false, false, false, false, false, false, false, false, false, false, false, false, false, false, false, false, false, false, false, false, false] (by kernel_rfl) rfl rfl ⟨(blk_cell BK725.out 0).trans rfl, (blk_cell BK725.out 1).trans rfl, (blk_cell BK726.out 0).trans rfl, (blk_cell BK726.out 1).trans rfl, (blk_cell BK727.out 0).trans rfl, (blk_cell BK727.out 1).trans rfl⟩ (fun hHeld => ?_); refine with_tabW voussoirlaw02_IntegerRing.tab3 voussoirlaw02_IntegerRing.bits3 (fun HT_ HW_ => ?_)
      generalize wc.drew = w35 at BK725 BK726 BK727 HB hHeld ⊢
      refine take_ (i := 0) (N := some 28) (v := ?_) (a' := ?_) #[true, false, false, false, false, false, false, false, false, false, false, false, false, false, false, false, false, false, false, false, false] rfl rfl (take_ofW HT_.out HW_.out (by kernel_rfl)) (fun _ _ _ h => h) (Or.inl ⟨by rfl, ?_⟩) hHeld ?_ ?_
      rotate_left
      ·rintro w' ⟨s0, s1, s2, s3, s4, s5⟩
       go_simp
       with_reducible rfl
      rotate_left
      ·simp only [Act.put, List.setIfInBounds_toArray, List.set_cons_zero, List.set_cons_succ, i64_w, i32_w]
       rfl
      refine take_ (i := 1) (N := some 29) (v := ?_) (a' := ?_) #[true, true, false, false, false, false, false, false, false, false, false, false, false, false, false, false, false, false, false, false, false] rfl rfl (take_ofW HT_.out HW_.out (by kernel_rfl)) (fun _ _ _ h => h) (Or.inl ⟨by rfl, ?_⟩) hHeld ?_ ?_
      rotate_left
      ·rintro w' ⟨s0, s1, s2, s3, s4, s5⟩
       go_simp
       with_reducible rfl
      rotate_left
      ·simp only [Act.put, List.setIfInBounds_toArray, List.set_cons_zero, List.set_cons_succ, i64_w, i32_w]
       rfl
      refine take_ (i := 3) (N := some 31) (v := ?_) (a' := ?_) #[true, true, false, true, false, false, false, false, false, false, false, false, false, false, false, false, false, false, false, false, false] rfl rfl (take_ofW HT_.out HW_.out (by kernel_rfl)) (fun _ _ _ h => h) (Or.inl ⟨by rfl, ?_⟩) hHeld ?_ ?_
      rotate_left
      ·rintro w' ⟨s0, s1, s2, s3, s4, s5⟩
       go_simp
       with_reducible rfl
      rotate_left
      ·simp only [Act.put, List.setIfInBounds_toArray, List.set_cons_zero, List.set_cons_succ, i64_w, i32_w]
       rfl
      refine take_ (i := 5) (N := some 33) (v := ?_) (a' := ?_) #[true, true, false, true, false, true, false, false, false, false, false, false, false, false, false, false, false, false, false, false, false] rfl rfl (take_ofW HT_.out HW_.out (by kernel_rfl)) (fun _ _ _ h => h) (Or.inl ⟨by rfl, ?_⟩) hHeld ?_ ?_
      rotate_left
      ·rintro w' ⟨s0, s1, s2, s3, s4, s5⟩
       go_simp
       with_reducible rfl
      rotate_left
      ·simp only [Act.put, List.setIfInBounds_toArray, List.set_cons_zero, List.set_cons_succ, i64_w, i32_w]
       rfl
      refine take_ (i := 6) (N := some 34) (v := ?_) (a' := ?_) #[true, true, false, true, false, true, true, false, false, false, false, false, false, false, false, false, false, false, false, false, false] rfl rfl (take_ofW HT_.out HW_.out (by kernel_rfl)) (fun _ _ _ h => h) (Or.inl ⟨by rfl, ?_⟩) hHeld ?_ ?_
      rotate_left
      ·rintro w' ⟨s0, s1, s2, s3, s4, s5⟩
       go_simp
       with_reducible rfl
      rotate_left
      ·simp only [Act.put, List.setIfInBounds_toArray, List.set_cons_zero, List.set_cons_succ, i64_w, i32_w]
       rfl
      refine take_ (i := 7) (N := some 35) (v := ?_) (a' := ?_) #[true, true, false, true, false, true, true, true, false, false, false, false, false, false, false, false, false, false, false, false, false] rfl rfl (take_ofW HT_.out HW_.out (by kernel_rfl)) (fun _ _ _ h => h) (Or.inl ⟨by rfl, ?_⟩) hHeld ?_ ?_
      rotate_left
      ·rintro w' ⟨s0, s1, s2, s3, s4, s5⟩
       go_simp
       with_reducible rfl
      rotate_left
      ·simp only [Act.put, List.setIfInBounds_toArray, List.set_cons_zero, List.set_cons_succ, i64_w, i32_w]
       rfl
      refine one_ (i := 2) (N := some 30) #[true, true, true, true, false, true, true, true, false, false, false, false, false, false, false, false, false, false, false, false, false] rfl rfl (one_of HT_.out (by kernel_rfl)) (by decide) (fun K hK => ?_)
      refine goes_ Tryd.func42 (by kernel_rfl) rfl #[.agg #[.bool a0_0, .string a0_1], .agg #[.bool a1_0, .string a1_1]] (by rfl) rfl rfl (by (try simp only [List.map_toArray, List.map_cons, List.map_nil]); first | done | rfl | (simp only [List.length_drop, List.length_take]; rfl)) ?_
      with_reducible refine (integer_Add.calls kj3 a0_0 a0_1 a1_0 a1_1 t729 t730 _ A28.out).mono ?_
      rintro e w36 ⟨rfl, hb⟩
      refine ⟨_, rfl, ?_⟩
      replace BK725 := Q.a (Q.bb BK725 hb)
      replace BK726 := Q.a (Q.bb BK726 hb)
      replace BK727 := Q.a (Q.bb BK727 hb)
      replace HB := Q.a (below_step (Q.bw3 HB GE725 GE726 GE727) hb)
      (try clear hb)
      (try clear hb2)
      (try clear hk)
      (try clear hi)
      refine hK.out _ _ ⟨(blk_cell BK725.out 0).trans rfl, (blk_cell BK725.out 1).trans rfl, (blk_cell BK726.out 0).trans rfl, (blk_cell BK726.out 1).trans rfl, (blk_cell BK727.out 0).trans rfl, (blk_cell BK727.out 1).trans rfl⟩ (fun hHeld => ?_)
      clear hK K
      refine norm_ (a' := ?_) ?_ ?_
      rotate_left
      ·show Act.put _ (some 30) _ = _
       simp only [Act.put, List.setIfInBounds_toArray, List.set_cons_zero, List.set_cons_succ, i64_w, i32_w]
       rfl
      refine one_ (i := 4) (N := some 32) #[true, true, true, true, true, true, true, true, false, false, false, false, false, false, false, false, false, false, false, false, false] rfl rfl (one_of HT_.out (by kernel_rfl)) (by decide) (fun K hK => ?_)
      refine goes_ Tryd.func42 (by kernel_rfl) rfl #[.agg #[.bool t729, .string t730], .agg #[.bool a2_0, .string a2_1]] (by rfl) rfl rfl (by (try simp only [List.map_toArray, List.map_cons, List.map_nil]); first | done | rfl | (simp only [List.length_drop, List.length_take]; rfl)) ?_
      with_reducible refine (integer_Add.calls kj3 t729 t730 a2_0 a2_1 t731 t732 _ A29.out).mono ?_
      rintro e w37 ⟨rfl, hb⟩
      refine ⟨_, rfl, ?_⟩
      replace BK725 := Q.a (Q.bb BK725 hb)
      replace BK726 := Q.a (Q.bb BK726 hb)
      replace BK727 := Q.a (Q.bb BK727 hb)
      replace HB := Q.a (below_step (Q.bw3 HB GE725 GE726 GE727) hb)
      (try clear hb)
      (try clear hb2)
      (try clear hk)
      (try clear hi)
      refine hK.out _ _ ⟨(blk_cell BK725.out 0).trans rfl, (blk_cell BK725.out 1).trans rfl, (blk_cell BK726.out 0).trans rfl, (blk_cell BK726.out 1).trans rfl, (blk_cell BK727.out 0).trans rfl, (blk_cell BK727.out 1).trans rfl⟩ (fun hHeld => ?_)
      clear hK K
      refine norm_ (a' := ?_) ?_ ?_
      rotate_left
      ·show Act.put _ (some 32) _ = _
       simp only [Act.put, List.setIfInBounds_toArray, List.set_cons_zero, List.set_cons_succ, i64_w, i32_w]
       rfl
      refine one_ (i := 8) (N := some 36) #[true, true, true, true, true, true, true, true, true, false, false, false, false, false, false, false, false, false, false, false, false] rfl rfl (one_of HT_.out (by kernel_rfl)) (by decide) (fun K hK => ?_)
      refine goes_ Tryd.func42 (by kernel_rfl) rfl #[.agg #[.bool a1_0, .string a1_1], .agg #[.bool a2_0, .string a2_1]] (by rfl) rfl rfl (by (try simp only [List.map_toArray, List.map_cons, List.map_nil]); first | done | rfl | (simp only [List.length_drop, List.length_take]; rfl)) ?_
      with_reducible refine (integer_Add.calls kj3 a1_0 a1_1 a2_0 a2_1 t733 t734 _ A30.out).mono ?_
      rintro e w38 ⟨rfl, hb⟩
      refine ⟨_, rfl, ?_⟩
      replace BK725 := Q.a (Q.bb BK725 hb)
      replace BK726 := Q.a (Q.bb BK726 hb)
      replace BK727 := Q.a (Q.bb BK727 hb)
      replace HB := Q.a (below_step (Q.bw3 HB GE725 GE726 GE727) hb)
      (try clear hb)
      (try clear hb2)
      (try clear hk)
      (try clear hi)
      refine hK.out _ _ ⟨(blk_cell BK725.out 0).trans rfl, (blk_cell BK725.out 1).trans rfl, (blk_cell BK726.out 0).trans rfl, (blk_cell BK726.out 1).trans rfl, (blk_cell BK727.out 0).trans rfl, (blk_cell BK727.out 1).trans rfl⟩ (fun hHeld => ?_)
      clear hK K
      refine norm_ (a' := ?_) ?_ ?_
      rotate_left
      ·show Act.put _ (some 36) _ = _
       simp only [Act.put, List.setIfInBounds_toArray, List.set_cons_zero, List.set_cons_succ, i64_w, i32_w]
       rfl
      refine one_ (i := 9) (N := some 37) #[true, true, true, true, true, true, true, true, true, true, false, false, false, false, false, false, false, false, false, false, false] rfl rfl (one_of HT_.out (by kernel_rfl)) (by decide) (fun K hK => ?_)
      refine goes_ Tryd.func42 (by kernel_rfl) rfl #[.agg #[.bool a0_0, .string a0_1], .agg #[.bool t733, .string t734]] (by rfl) rfl rfl (by (try simp only [List.map_toArray, List.map_cons, List.map_nil]); first | done | rfl | (simp only [List.length_drop, List.length_take]; rfl)) ?_
      with_reducible refine (integer_Add.calls kj3 a0_0 a0_1 t733 t734 t735 t736 _ A31.out).mono ?_
      rintro e w39 ⟨rfl, hb⟩
      refine ⟨_, rfl, ?_⟩
      replace BK725 := Q.a (Q.bb BK725 hb)
      replace BK726 := Q.a (Q.bb BK726 hb)
      replace BK727 := Q.a (Q.bb BK727 hb)
      replace HB := Q.a (below_step (Q.bw3 HB GE725 GE726 GE727) hb)
      (try clear hb)
      (try clear hb2)
      (try clear hk)
      (try clear hi)
      refine hK.out _ _ ⟨(blk_cell BK725.out 0).trans rfl, (blk_cell BK725.out 1).trans rfl, (blk_cell BK726.out 0).trans rfl, (blk_cell BK726.out 1).trans rfl, (blk_cell BK727.out 0).trans rfl, (blk_cell BK727.out 1).trans rfl⟩ (fun hHeld => ?_)
      clear hK K
      refine norm_ (a' := ?_) ?_ ?_
      rotate_left
      ·show Act.put _ (some 37) _ = _
       simp only [Act.put, List.setIfInBounds_toArray, List.set_cons_zero, List.set_cons_succ, i64_w, i32_w]
       rfl
      refine pure_ (i := 10) (N := some 38) (v := ?_) (a' := ?_) #[true, true, true, true, true, true, true, true, true, true, true, false, false, false, false, false, false, false, false, false, false] rfl rfl (any_of HT_.out (by kernel_rfl)) (fun _ _ _ h => h) (Or.inl ⟨by rfl, ?_⟩) ?_ ?_
      rotate_left
      ·intro w'
       go_simp
       with_reducible rfl
      rotate_left
      ·simp only [Act.put, List.setIfInBounds_toArray, List.set_cons_zero, List.set_cons_succ, i64_w, i32_w]
       rfl
      refine pure_ (i := 11) (N := some 39) (v := ?_) (a' := ?_) #[true, true, true, true, true, true, true, true, true, true, true, true, false, false, false, false, false, false, false, false, false] rfl rfl (any_of HT_.out (by kernel_rfl)) (fun _ _ _ h => h) (Or.inl ⟨by rfl, ?_⟩) ?_ ?_
      rotate_left
      ·intro w'
       go_simp
       with_reducible rfl
      rotate_left
      ·simp only [Act.put, List.setIfInBounds_toArray, List.set_cons_zero, List.set_cons_succ, i64_w, i32_w]
       rfl
      refine take_ (i := 12) (N := some 40) (v := ?_) (a' := ?_) #[true, true, true, true, true, true, true, true, true, true, true, true, true, false, false, false, false, false, false, false, false] rfl rfl (take_ofW HT_.out HW_.out (by kernel_rfl)) (fun _ _ _ h => h) (Or.inl ⟨by rfl, ?_⟩) hHeld ?_ ?_
      rotate_left
      ·rintro w' ⟨s0, s1, s2, s3, s4, s5⟩
       go_simp
       with_reducible rfl
      rotate_left
      ·simp only [Act.put, List.setIfInBounds_toArray, List.set_cons_zero, List.set_cons_succ, i64_w, i32_w]
       rfl
      refine take_ (i := 13) (N := some 41) (v := ?_) (a' := ?_) #[true, true, true, true, true, true, true, true, true, true, true, true, true, true, false, false, false, false, false, false, false] rfl rfl (take_ofW HT_.out HW_.out (by kernel_rfl)) (fun _ _ _ h => h) (Or.inl ⟨by rfl, ?_⟩) hHeld ?_ ?_
      rotate_left
      ·rintro w' ⟨s0, s1, s2, s3, s4, s5⟩
       go_simp
       with_reducible rfl
      rotate_left
      ·simp only [Act.put, List.setIfInBounds_toArray, List.set_cons_zero, List.set_cons_succ, i64_w, i32_w]
       rfl
      refine take_ (i := 15) (N := some 43) (v := ?_) (a' := ?_) #[true, true, true, true, true, true, true, true, true, true, true, true, true, true, false, true, false, false, false, false, false] rfl rfl (take_ofW HT_.out HW_.out (by kernel_rfl)) (fun _ _ _ h => h) (Or.inl ⟨by rfl, ?_⟩) hHeld ?_ ?_
      rotate_left
      ·rintro w' ⟨s0, s1, s2, s3, s4, s5⟩
       go_simp
       with_reducible rfl
      rotate_left
      ·simp only [Act.put, List.setIfInBounds_toArray, List.set_cons_zero, List.set_cons_succ, i64_w, i32_w]
       rfl
      refine take_ (i := 16) (N := some 44) (v := ?_) (a' := ?_) #[true, true, true, true, true, true, true, true, true, true, true, true, true, true, false, true, true, false, false, false, false] rfl rfl (take_ofW HT_.out HW_.out (by kernel_rfl)) (fun _ _ _ h => h) (Or.inl ⟨by rfl, ?_⟩) hHeld ?_ ?_
      rotate_left
      ·rintro w' ⟨s0, s1, s2, s3, s4, s5⟩
       go_simp
       with_reducible rfl
      rotate_left
      ·simp only [Act.put, List.setIfInBounds_toArray, List.set_cons_zero, List.set_cons_succ, i64_w, i32_w]
       rfl
      refine one_ (i := 14) (N := some 42) #[true, true, true, true, true, true, true, true, true, true, true, true, true, true, true, true, true, false, false, false, false] rfl rfl (one_of HT_.out (by kernel_rfl)) (by decide) (fun K hK => ?_)
      refine goes_ Tryd.func42 (by kernel_rfl) rfl #[.agg #[.bool a0_0, .string a0_1], .agg #[.bool a1_0, .string a1_1]] (by rfl) rfl rfl (by (try simp only [List.map_toArray, List.map_cons, List.map_nil]); first | done | rfl | (simp only [List.length_drop, List.length_take]; rfl)) ?_
      with_reducible refine (integer_Add.calls kj3 a0_0 a0_1 a1_0 a1_1 t737 t738 _ A33.out).mono ?_
      rintro e w40 ⟨rfl, hb⟩
      refine ⟨_, rfl, ?_⟩
      replace BK725 := Q.a (Q.bb BK725 hb)
      replace BK726 := Q.a (Q.bb BK726 hb)
      replace BK727 := Q.a (Q.bb BK727 hb)
      replace HB := Q.a (below_step (Q.bw3 HB GE725 GE726 GE727) hb)
      (try clear hb)
      (try clear hb2)
      (try clear hk)
      (try clear hi)
      refine hK.out _ _ ⟨(blk_cell BK725.out 0).trans rfl, (blk_cell BK725.out 1).trans rfl, (blk_cell BK726.out 0).trans rfl, (blk_cell BK726.out 1).trans rfl, (blk_cell BK727.out 0).trans rfl, (blk_cell BK727.out 1).trans rfl⟩ (fun hHeld => ?_)
      clear hK K
      refine norm_ (a' := ?_) ?_ ?_
      rotate_left
      ·show Act.put _ (some 42) _ = _
       simp only [Act.put, List.setIfInBounds_toArray, List.set_cons_zero, List.set_cons_succ, i64_w, i32_w]
       rfl
      refine one_ (i := 17) (N := some 45) #[true, true, true, true, true, true, true, true, true, true, true, true, true, true, true, true, true, true, false, false, false] rfl rfl (one_of HT_.out (by kernel_rfl)) (by decide) (fun K hK => ?_)
      refine goes_ Tryd.func42 (by kernel_rfl) rfl #[.agg #[.bool a1_0, .string a1_1], .agg #[.bool a0_0, .string a0_1]] (by rfl) rfl rfl (by (try simp only [List.map_toArray, List.map_cons, List.map_nil]); first | done | rfl | (simp only [List.length_drop, List.length_take]; rfl)) ?_
      with_reducible refine (integer_Add.calls kj3 a1_0 a1_1 a0_0 a0_1 t739 t740 _ A34.out).mono ?_
      rintro e w41 ⟨rfl, hb⟩
      refine ⟨_, rfl, ?_⟩
      replace BK725 := Q.a (Q.bb BK725 hb)
      replace BK726 := Q.a (Q.bb BK726 hb)
      replace BK727 := Q.a (Q.bb BK727 hb)
      replace HB := Q.a (below_step (Q.bw3 HB GE725 GE726 GE727) hb)
      (try clear hb)
      (try clear hb2)
      (try clear hk)
      (try clear hi)
      refine hK.out _ _ ⟨(blk_cell BK725.out 0).trans rfl, (blk_cell BK725.out 1).trans rfl, (blk_cell BK726.out 0).trans rfl, (blk_cell BK726.out 1).trans rfl, (blk_cell BK727.out 0).trans rfl, (blk_cell BK727.out 1).trans rfl⟩ (fun hHeld => ?_)
      clear hK K
      refine norm_ (a' := ?_) ?_ ?_
      rotate_left
      ·show Act.put _ (some 45) _ = _
       simp only [Act.put, List.setIfInBounds_toArray, List.set_cons_zero, List.set_cons_succ, i64_w, i32_w]
       rfl
      refine pure_ (i := 18) (N := some 46) (v := ?_) (a' := ?_) #[true, true, true, true, true, true, true, true, true, true, true, true, true, true, true, true, true, true, true, false, false] rfl rfl (any_of HT_.out (by kernel_rfl)) (fun _ _ _ h => h) (Or.inl ⟨by rfl, ?_⟩) ?_ ?_
      rotate_left
      ·intro w'
       go_simp
       with_reducible rfl
      rotate_left
      ·simp only [Act.put, List.setIfInBounds_toArray, List.set_cons_zero, List.set_cons_succ, i64_w, i32_w]
       rfl
      refine pure_ (i := 19) (N := some 47) (v := ?_) (a' := ?_) #[true, true, true, true, true, true, true, true, true, true, true, true, true, true, true, true, true, true, true, true, false] rfl rfl (any_of HT_.out (by kernel_rfl)) (fun _ _ _ h => h) (Or.inl ⟨by rfl, ?_⟩) ?_ ?_
      rotate_left
      ·intro w'
       go_simp
       with_reducible rfl
      rotate_left
      ·simp only [Act.put, List.setIfInBounds_toArray, List.set_cons_zero, List.set_cons_succ, i64_w, i32_w]
       rfl
      refine pure_ (i := 20) (N := some 7) (v := ?_) (a' := ?_) #[true, true, true, true, true, true, true, true, true, true, true, true, true, true, true, true, true, true, true, true, true] rfl rfl (any_of HT_.out (by kernel_rfl)) (fun _ _ _ h => h) (Or.inl ⟨by rfl, ?_⟩) ?_ ?_
      rotate_left
      ·intro w'
       go_simp
       with_reducible rfl
      rotate_left
      ·simp only [Act.put, List.setIfInBounds_toArray, List.set_cons_zero, List.set_cons_succ, i64_w, i32_w]
       rfl
      refine done_ (done_of HT_.out (by kernel_rfl)) ?_
      try go_wp2
      go_meet
      case rel => exact ⟨_, ((t737 == t739 && (t738.toList == t740.toList))), Q.rs, H', ⟨by have := HJ3.out; first | omega | exact Nat.le_refl _⟩, ⟨Q.kb BK725⟩, ⟨Q.kb BK726⟩, ⟨Q.kb BK727⟩, ⟨Q.bw3 HB GE725 GE726 GE727⟩⟩
     ·rw [if_neg c32] at H
      have c32b0 : (t731 == t735 && (t732.toList == t736.toList)) = false := by simpa using c32
      (try (have c32b1 : decide (t731 = t735 && (t732.toList == t736.toList)) = false := by simpa using c32))
      (try (have c32b2 : (t731 == t735 && (t732.toList == t736.toList)) = false := by simpa using c32))
      (try (have c32b3 : ¬ (t731 = t735 && (t732.toList == t736.toList)) := by simpa using c32))
      clear c32
      (first | rw [c32b0] | (simp only [i64_w, i32_w]; rw [c32b0]) | skip)
      have H' := Q.a H
      clear H
      try go_wp2
      replace BK725 := Q.a (blk_drew BK725.out)
      replace BK726 := Q.a (blk_drew BK726.out)
      replace BK727 := Q.a (blk_drew BK727.out)
      replace HB := Q.a (below_drew1 HB.out)
      refine start_ (n := 21) (S := fun w' => w'.cell? ⟨gb725, 0, none⟩ = some (.bool a0_0) ∧ w'.cell? ⟨gb725, 1, none⟩ = some (.string a0_1) ∧ w'.cell? ⟨gb726, 0, none⟩ = some (.bool a1_0) ∧ w'.cell? ⟨gb726, 1, none⟩ = some (.string a1_1) ∧ w'.cell? ⟨gb727, 0, none⟩ = some (.bool a2_0) ∧ w'.cell? ⟨gb727, 1, none⟩ = some (.string a2_1)) (ds := []) #[false, false, false, false, false, false, false, false, false, false, false, false, false, false, false, false, false, false, false, false, false] (by kernel_rfl) rfl rfl ⟨(blk_cell BK725.out 0).trans rfl, (blk_cell BK725.out 1).trans rfl, (blk_cell BK726.out 0).trans rfl, (blk_cell BK726.out 1).trans rfl, (blk_cell BK727.out 0).trans rfl, (blk_cell BK727.out 1).trans rfl⟩ (fun hHeld => ?_); refine with_tabW voussoirlaw02_IntegerRing.tab3 voussoirlaw02_IntegerRing.bits3 (fun HT_ HW_ => ?_)
      generalize wc.drew = w42 at BK725 BK726 BK727 HB hHeld ⊢
      refine take_ (i := 0) (N := some 28) (v := ?_) (a' := ?_) #[true, false, false, false, false, false, false, false, false, false, false, false, false, false, false, false, false, false, false, false, false] rfl rfl (take_ofW HT_.out HW_.out (by kernel_rfl)) (fun _ _ _ h => h) (Or.inl ⟨by rfl, ?_⟩) hHeld ?_ ?_
      rotate_left
      ·rintro w' ⟨s0, s1, s2, s3, s4, s5⟩
       go_simp
       with_reducible rfl
      rotate_left
      ·simp only [Act.put, List.setIfInBounds_toArray, List.set_cons_zero, List.set_cons_succ, i64_w, i32_w]
       rfl
      refine take_ (i := 1) (N := some 29) (v := ?_) (a' := ?_) #[true, true, false, false, false, false, false, false, false, false, false, false, false, false, false, false, false, false, false, false, false] rfl rfl (take_ofW HT_.out HW_.out (by kernel_rfl)) (fun _ _ _ h => h) (Or.inl ⟨by rfl, ?_⟩) hHeld ?_ ?_
      rotate_left
      ·rintro w' ⟨s0, s1, s2, s3, s4, s5⟩
       go_simp
       with_reducible rfl
      rotate_left
      ·simp only [Act.put, List.setIfInBounds_toArray, List.set_cons_zero, List.set_cons_succ, i64_w, i32_w]
       rfl
      refine take_ (i := 3) (N := some 31) (v := ?_) (a' := ?_) #[true, true, false, true, false, false, false, false, false, false, false, false, false, false, false, false, false, false, false, false, false] rfl rfl (take_ofW HT_.out HW_.out (by kernel_rfl)) (fun _ _ _ h => h) (Or.inl ⟨by rfl, ?_⟩) hHeld ?_ ?_
      rotate_left
      ·rintro w' ⟨s0, s1, s2, s3, s4, s5⟩
       go_simp
       with_reducible rfl
      rotate_left
      ·simp only [Act.put, List.setIfInBounds_toArray, List.set_cons_zero, List.set_cons_succ, i64_w, i32_w]
       rfl
      refine take_ (i := 5) (N := some 33) (v := ?_) (a' := ?_) #[true, true, false, true, false, true, false, false, false, false, false, false, false, false, false, false, false, false, false, false, false] rfl rfl (take_ofW HT_.out HW_.out (by kernel_rfl)) (fun _ _ _ h => h) (Or.inl ⟨by rfl, ?_⟩) hHeld ?_ ?_
      rotate_left
      ·rintro w' ⟨s0, s1, s2, s3, s4, s5⟩
       go_simp
       with_reducible rfl
      rotate_left
      ·simp only [Act.put, List.setIfInBounds_toArray, List.set_cons_zero, List.set_cons_succ, i64_w, i32_w]
       rfl
      refine take_ (i := 6) (N := some 34) (v := ?_) (a' := ?_) #[true, true, false, true, false, true, true, false, false, false, false, false, false, false, false, false, false, false, false, false, false] rfl rfl (take_ofW HT_.out HW_.out (by kernel_rfl)) (fun _ _ _ h => h) (Or.inl ⟨by rfl, ?_⟩) hHeld ?_ ?_
      rotate_left
      ·rintro w' ⟨s0, s1, s2, s3, s4, s5⟩
       go_simp
       with_reducible rfl
      rotate_left
      ·simp only [Act.put, List.setIfInBounds_toArray, List.set_cons_zero, List.set_cons_succ, i64_w, i32_w]
       rfl
      refine take_ (i := 7) (N := some 35) (v := ?_) (a' := ?_) #[true, true, false, true, false, true, true, true, false, false, false, false, false, false, false, false, false, false, false, false, false] rfl rfl (take_ofW HT_.out HW_.out (by kernel_rfl)) (fun _ _ _ h => h) (Or.inl ⟨by rfl, ?_⟩) hHeld ?_ ?_
      rotate_left
      ·rintro w' ⟨s0, s1, s2, s3, s4, s5⟩
       go_simp
       with_reducible rfl
      rotate_left
      ·simp only [Act.put, List.setIfInBounds_toArray, List.set_cons_zero, List.set_cons_succ, i64_w, i32_w]
       rfl
      refine one_ (i := 2) (N := some 30) #[true, true, true, true, false, true, true, true, false, false, false, false, false, false, false, false, false, false, false, false, false] rfl rfl (one_of HT_.out (by kernel_rfl)) (by decide) (fun K hK => ?_)
      refine goes_ Tryd.func42 (by kernel_rfl) rfl #[.agg #[.bool a0_0, .string a0_1], .agg #[.bool a1_0, .string a1_1]] (by rfl) rfl rfl (by (try simp only [List.map_toArray, List.map_cons, List.map_nil]); first | done | rfl | (simp only [List.length_drop, List.length_take]; rfl)) ?_
      with_reducible refine (integer_Add.calls kj3 a0_0 a0_1 a1_0 a1_1 t729 t730 _ A28.out).mono ?_
      rintro e w43 ⟨rfl, hb⟩
      refine ⟨_, rfl, ?_⟩
      replace BK725 := Q.a (Q.bb BK725 hb)
      replace BK726 := Q.a (Q.bb BK726 hb)
      replace BK727 := Q.a (Q.bb BK727 hb)
      replace HB := Q.a (below_step (Q.bw3 HB GE725 GE726 GE727) hb)
      (try clear hb)
      (try clear hb2)
      (try clear hk)
      (try clear hi)
      refine hK.out _ _ ⟨(blk_cell BK725.out 0).trans rfl, (blk_cell BK725.out 1).trans rfl, (blk_cell BK726.out 0).trans rfl, (blk_cell BK726.out 1).trans rfl, (blk_cell BK727.out 0).trans rfl, (blk_cell BK727.out 1).trans rfl⟩ (fun hHeld => ?_)
      clear hK K
      refine norm_ (a' := ?_) ?_ ?_
      rotate_left
      ·show Act.put _ (some 30) _ = _
       simp only [Act.put, List.setIfInBounds_toArray, List.set_cons_zero, List.set_cons_succ, i64_w, i32_w]
       rfl
      refine one_ (i := 4) (N := some 32) #[true, true, true, true, true, true, true, true, false, false, false, false, false, false, false, false, false, false, false, false, false] rfl rfl (one_of HT_.out (by kernel_rfl)) (by decide) (fun K hK => ?_)
      refine goes_ Tryd.func42 (by kernel_rfl) rfl #[.agg #[.bool t729, .string t730], .agg #[.bool a2_0, .string a2_1]] (by rfl) rfl rfl (by (try simp only [List.map_toArray, List.map_cons, List.map_nil]); first | done | rfl | (simp only [List.length_drop, List.length_take]; rfl)) ?_
      with_reducible refine (integer_Add.calls kj3 t729 t730 a2_0 a2_1 t731 t732 _ A29.out).mono ?_
      rintro e w44 ⟨rfl, hb⟩
      refine ⟨_, rfl, ?_⟩
      replace BK725 := Q.a (Q.bb BK725 hb)
      replace BK726 := Q.a (Q.bb BK726 hb)
      replace BK727 := Q.a (Q.bb BK727 hb)
      replace HB := Q.a (below_step (Q.bw3 HB GE725 GE726 GE727) hb)
      (try clear hb)
      (try clear hb2)
      (try clear hk)
      (try clear hi)
      refine hK.out _ _ ⟨(blk_cell BK725.out 0).trans rfl, (blk_cell BK725.out 1).trans rfl, (blk_cell BK726.out 0).trans rfl, (blk_cell BK726.out 1).trans rfl, (blk_cell BK727.out 0).trans rfl, (blk_cell BK727.out 1).trans rfl⟩ (fun hHeld => ?_)
      clear hK K
      refine norm_ (a' := ?_) ?_ ?_
      rotate_left
      ·show Act.put _ (some 32) _ = _
       simp only [Act.put, List.setIfInBounds_toArray, List.set_cons_zero, List.set_cons_succ, i64_w, i32_w]
       rfl
      refine one_ (i := 8) (N := some 36) #[true, true, true, true, true, true, true, true, true, false, false, false, false, false, false, false, false, false, false, false, false] rfl rfl (one_of HT_.out (by kernel_rfl)) (by decide) (fun K hK => ?_)
      refine goes_ Tryd.func42 (by kernel_rfl) rfl #[.agg #[.bool a1_0, .string a1_1], .agg #[.bool a2_0, .string a2_1]] (by rfl) rfl rfl (by (try simp only [List.map_toArray, List.map_cons, List.map_nil]); first | done | rfl | (simp only [List.length_drop, List.length_take]; rfl)) ?_
      with_reducible refine (integer_Add.calls kj3 a1_0 a1_1 a2_0 a2_1 t733 t734 _ A30.out).mono ?_
      rintro e w45 ⟨rfl, hb⟩
      refine ⟨_, rfl, ?_⟩
      replace BK725 := Q.a (Q.bb BK725 hb)
      replace BK726 := Q.a (Q.bb BK726 hb)
      replace BK727 := Q.a (Q.bb BK727 hb)
      replace HB := Q.a (below_step (Q.bw3 HB GE725 GE726 GE727) hb)
      (try clear hb)
      (try clear hb2)
      (try clear hk)
      (try clear hi)
      refine hK.out _ _ ⟨(blk_cell BK725.out 0).trans rfl, (blk_cell BK725.out 1).trans rfl, (blk_cell BK726.out 0).trans rfl, (blk_cell BK726.out 1).trans rfl, (blk_cell BK727.out 0).trans rfl, (blk_cell BK727.out 1).trans rfl⟩ (fun hHeld => ?_)
      clear hK K
      refine norm_ (a' := ?_) ?_ ?_
      rotate_left
      ·show Act.put _ (some 36) _ = _
       simp only [Act.put, List.setIfInBounds_toArray, List.set_cons_zero, List.set_cons_succ, i64_w, i32_w]
       rfl
      refine one_ (i := 9) (N := some 37) #[true, true, true, true, true, true, true, true, true, true, false, false, false, false, false, false, false, false, false, false, false] rfl rfl (one_of HT_.out (by kernel_rfl)) (by decide) (fun K hK => ?_)
      refine goes_ Tryd.func42 (by kernel_rfl) rfl #[.agg #[.bool a0_0, .string a0_1], .agg #[.bool t733, .string t734]] (by rfl) rfl rfl (by (try simp only [List.map_toArray, List.map_cons, List.map_nil]); first | done | rfl | (simp only [List.length_drop, List.length_take]; rfl)) ?_
      with_reducible refine (integer_Add.calls kj3 a0_0 a0_1 t733 t734 t735 t736 _ A31.out).mono ?_
      rintro e w46 ⟨rfl, hb⟩
      refine ⟨_, rfl, ?_⟩
      replace BK725 := Q.a (Q.bb BK725 hb)
      replace BK726 := Q.a (Q.bb BK726 hb)
      replace BK727 := Q.a (Q.bb BK727 hb)
      replace HB := Q.a (below_step (Q.bw3 HB GE725 GE726 GE727) hb)
      (try clear hb)
      (try clear hb2)
      (try clear hk)
      (try clear hi)
      refine hK.out _ _ ⟨(blk_cell BK725.out 0).trans rfl, (blk_cell BK725.out 1).trans rfl, (blk_cell BK726.out 0).trans rfl, (blk_cell BK726.out 1).trans rfl, (blk_cell BK727.out 0).trans rfl, (blk_cell BK727.out 1).trans rfl⟩ (fun hHeld => ?_)
      clear hK K
      refine norm_ (a' := ?_) ?_ ?_
      rotate_left
      ·show Act.put _ (some 37) _ = _
       simp only [Act.put, List.setIfInBounds_toArray, List.set_cons_zero, List.set_cons_succ, i64_w, i32_w]
       rfl
      refine pure_ (i := 10) (N := some 38) (v := ?_) (a' := ?_) #[true, true, true, true, true, true, true, true, true, true, true, false, false, false, false, false, false, false, false, false, false] rfl rfl (any_of HT_.out (by kernel_rfl)) (fun _ _ _ h => h) (Or.inl ⟨by rfl, ?_⟩) ?_ ?_
      rotate_left
      ·intro w'
       go_simp
       with_reducible rfl
      rotate_left
      ·simp only [Act.put, List.setIfInBounds_toArray, List.set_cons_zero, List.set_cons_succ, i64_w, i32_w]
       rfl
      refine pure_ (i := 11) (N := some 39) (v := ?_) (a' := ?_) #[true, true, true, true, true, true, true, true, true, true, true, true, false, false, false, false, false, false, false, false, false] rfl rfl (any_of HT_.out (by kernel_rfl)) (fun _ _ _ h => h) (Or.inl ⟨by rfl, ?_⟩) ?_ ?_
      rotate_left
      ·intro w'
       go_simp
       with_reducible rfl
      rotate_left
      ·simp only [Act.put, List.setIfInBounds_toArray, List.set_cons_zero, List.set_cons_succ, i64_w, i32_w]
       rfl
      refine pure_ (i := 12) (N := some 40) (v := undef) (a' := ?_) #[true, true, true, true, true, true, true, true, true, true, true, true, true, false, false, false, false, false, false, false, false] rfl rfl (any_of HT_.out (by kernel_rfl)) (fun _ _ _ h => h) (Or.inr ⟨by rfl, rfl⟩) ?_ ?_
      rotate_left
      ·simp only [Act.put, List.setIfInBounds_toArray, List.set_cons_zero, List.set_cons_succ, i64_w, i32_w]
       rfl
      refine pure_ (i := 13) (N := some 41) (v := undef) (a' := ?_) #[true, true, true, true, true, true, true, true, true, true, true, true, true, true, false, false, false, false, false, false, false] rfl rfl (any_of HT_.out (by kernel_rfl)) (fun _ _ _ h => h) (Or.inr ⟨by rfl, rfl⟩) ?_ ?_
      rotate_left
      ·simp only [Act.put, List.setIfInBounds_toArray, List.set_cons_zero, List.set_cons_succ, i64_w, i32_w]
       rfl
      refine pure_ (i := 14) (N := some 42) (v := undef) (a' := ?_) #[true, true, true, true, true, true, true, true, true, true, true, true, true, true, true, false, false, false, false, false, false] rfl rfl (any_of HT_.out (by kernel_rfl)) (fun _ _ _ h => h) (Or.inr ⟨by rfl, rfl⟩) ?_ ?_
      rotate_left
      ·simp only [Act.put, List.setIfInBounds_toArray, List.set_cons_zero, List.set_cons_succ, i64_w, i32_w]
       rfl
      refine pure_ (i := 15) (N := some 43) (v := undef) (a' := ?_) #[true, true, true, true, true, true, true, true, true, true, true, true, true, true, true, true, false, false, false, false, false] rfl rfl (any_of HT_.out (by kernel_rfl)) (fun _ _ _ h => h) (Or.inr ⟨by rfl, rfl⟩) ?_ ?_
      rotate_left
      ·simp only [Act.put, List.setIfInBounds_toArray, List.set_cons_zero, List.set_cons_succ, i64_w, i32_w]
       rfl
      refine pure_ (i := 16) (N := some 44) (v := undef) (a' := ?_) #[true, true, true, true, true, true, true, true, true, true, true, true, true, true, true, true, true, false, false, false, false] rfl rfl (any_of HT_.out (by kernel_rfl)) (fun _ _ _ h => h) (Or.inr ⟨by rfl, rfl⟩) ?_ ?_
      rotate_left
      ·simp only [Act.put, List.setIfInBounds_toArray, List.set_cons_zero, List.set_cons_succ, i64_w, i32_w]
       rfl
      refine pure_ (i := 17) (N := some 45) (v := undef) (a' := ?_) #[true, true, true, true, true, true, true, true, true, true, true, true, true, true, true, true, true, true, false, false, false] rfl rfl (any_of HT_.out (by kernel_rfl)) (fun _ _ _ h => h) (Or.inr ⟨by rfl, rfl⟩) ?_ ?_
      rotate_left
      ·simp only [Act.put, List.setIfInBounds_toArray, List.set_cons_zero, List.set_cons_succ, i64_w, i32_w]
       rfl
      refine pure_ (i := 18) (N := some 46) (v := undef) (a' := ?_) #[true, true, true, true, true, true, true, true, true, true, true, true, true, true, true, true, true, true, true, false, false] rfl rfl (any_of HT_.out (by kernel_rfl)) (fun _ _ _ h => h) (Or.inr ⟨by rfl, rfl⟩) ?_ ?_
      rotate_left
      ·simp only [Act.put, List.setIfInBounds_toArray, List.set_cons_zero, List.set_cons_succ, i64_w, i32_w]
       rfl
      refine pure_ (i := 19) (N := some 47) (v := ?_) (a' := ?_) #[true, true, true, true, true, true, true, true, true, true, true, true, true, true, true, true, true, true, true, true, false] rfl rfl (any_of HT_.out (by kernel_rfl)) (fun _ _ _ h => h) (Or.inl ⟨by rfl, ?_⟩) ?_ ?_
      rotate_left
      ·intro w'
       go_simp
       with_reducible rfl
      rotate_left
      ·simp only [Act.put, List.setIfInBounds_toArray, List.set_cons_zero, List.set_cons_succ, i64_w, i32_w]
       rfl
      refine pure_ (i := 20) (N := some 7) (v := ?_) (a' := ?_) #[true, true, true, true, true, true, true, true, true, true, true, true, true, true, true, true, true, true, true, true, true] rfl rfl (any_of HT_.out (by kernel_rfl)) (fun _ _ _ h => h) (Or.inl ⟨by rfl, ?_⟩) ?_ ?_
      rotate_left
      ·intro w'
       go_simp
       with_reducible rfl
      rotate_left
      ·simp only [Act.put, List.setIfInBounds_toArray, List.set_cons_zero, List.set_cons_succ, i64_w, i32_w]
       rfl
      refine done_ (done_of HT_.out (by kernel_rfl)) ?_
      try go_wp2
      go_meet
      case rel => exact ⟨_, (false), Q.rs, H', ⟨by have := HJ3.out; first | omega | exact Nat.le_refl _⟩, ⟨Q.kb BK725⟩, ⟨Q.kb BK726⟩, ⟨Q.kb BK727⟩, ⟨Q.bw3 HB GE725 GE726 GE727⟩⟩
    case rest =>
     clear HC27
     try clear p2
     try clear c3
     try clear c4
     try clear c32
     try clear c32b0
     try clear c32b1
     try clear c32b2
     try clear c42
     obtain ⟨kq, x7_26, rfl, HA, HJ26, BK725, BK726, BK727, HB⟩ := hcut
     cases kq with
     | zero => exact absurd HA.out (by simp [voussoirlaw02_IntegerRing.j1])
     | succ kj26 =>
      have H := HA.out
      clear HA
      simp only [voussoirlaw02_IntegerRing.j1] at H
      have HC47 := Q.a H
      clear H
      go_upto_region 4 with (fail)
      go_cut [8] (fun v8 wc => ∃ (kq : Nat) (x8_46 : Bool), v8 = .bool x8_46 ∧ Aside0 (voussoirlaw02_IntegerRing.j2 kq x7_26 x8_46 a0_0 a0_1 a1_0 a1_1 a2_0 a2_1 = some r) ∧ Aside0 (kq ≤ kj26) ∧ Aside0 (wc.heap[gb725]? = some (.cells #[.bool a0_0, .string a0_1] 36 (0, 0))) ∧ Aside0 (wc.heap[gb726]? = some (.cells #[.bool a1_0, .string a1_1] 36 (0, 0))) ∧ Aside0 (wc.heap[gb727]? = some (.cells #[.bool a2_0, .string a2_1] 36 (0, 0))) ∧ Aside0 (Below w.heap.size w wc))
      case first =>
       have H := HC47.out
       clear HC47
       replace H := Option.bind_eq_some_iff.mp H
       obtain ⟨⟨t741, t742⟩, A480, H⟩ := H
       try dsimp only at H
       have A48 := Q.a A480
       clear A480
       replace H := Option.bind_eq_some_iff.mp H
       obtain ⟨⟨t743, t744⟩, A490, H⟩ := H
       try dsimp only at H
       have A49 := Q.a A490
       clear A490
       replace H := Option.bind_eq_some_iff.mp H
       obtain ⟨⟨t745, t746⟩, A500, H⟩ := H
       try dsimp only at H
       have A50 := Q.a A500
       clear A500
       replace H := Option.bind_eq_some_iff.mp H
       obtain ⟨⟨t747, t748⟩, A510, H⟩ := H
       try dsimp only at H
       have A51 := Q.a A510
       clear A510
       by_cases c52 : (t743 == t747 && (t744.toList == t748.toList)) = true
       ·rw [if_pos c52] at H
        have c52b0 : (t743 == t747 && (t744.toList == t748.toList)) = true := c52
        (try (have c52b1 : decide (t743 = t747 && (t744.toList == t748.toList)) = true := by simpa using c52))
        (try (have c52b2 : (t743 == t747 && (t744.toList == t748.toList)) = true := by simpa using c52))
        clear c52
        (first | rw [c52b0] | (simp only [i64_w, i32_w]; rw [c52b0]) | skip)
        replace H := Option.bind_eq_some_iff.mp H
        obtain ⟨⟨t749, t750⟩, A530, H⟩ := H
        try dsimp only at H
        have A53 := Q.a A530
        clear A530
        replace H := Option.bind_eq_some_iff.mp H
        obtain ⟨⟨t751, t752⟩, A540, H⟩ := H
        try dsimp only at H
        have A54 := Q.a A540
        clear A540
        have H' := Q.a H
        clear H
        try go_wp2
        replace BK725 := Q.a (blk_drew BK725.out)
        replace BK726 := Q.a (blk_drew BK726.out)
        replace BK727 := Q.a (blk_drew BK727.out)
        replace HB := Q.a (below_drew1 HB.out)
        refine start_ (n := 21) (S := fun w' => w'.cell? ⟨gb725, 0, none⟩ = some (.bool a0_0) ∧ w'.cell? ⟨gb725, 1, none⟩ = some (.string a0_1) ∧ w'.cell? ⟨gb726, 0, none⟩ = some (.bool a1_0) ∧ w'.cell? ⟨gb726, 1, none⟩ = some (.string a1_1) ∧ w'.cell? ⟨gb727, 0, none⟩ = some (.bool a2_0) ∧ w'.cell? ⟨gb727, 1, none⟩ = some (.string a2_1)) (ds := []) #[false, false, false, false, false, false, false, false, false, false, false, false, false, false, false, false, false, false, false, false, false] (by kernel_rfl) rfl rfl ⟨(blk_cell BK725.out 0).trans rfl, (blk_cell BK725.out 1).trans rfl, (blk_cell BK726.out 0).trans rfl, (blk_cell BK726.out 1).trans rfl, (blk_cell BK727.out 0).trans rfl, (blk_cell BK727.out 1).trans rfl⟩ (fun hHeld => ?_); refine with_tabW voussoirlaw02_IntegerRing.tab4 voussoirlaw02_IntegerRing.bits4 (fun HT_ HW_ => ?_)
        generalize wc.drew = w55 at BK725 BK726 BK727 HB hHeld ⊢
        refine take_ (i := 0) (N := some 48) (v := ?_) (a' := ?_) #[true, false, false, false, false, false, false, false, false, false, false, false, false, false, false, false, false, false, false, false, false] rfl rfl (take_ofW HT_.out HW_.out (by kernel_rfl)) (fun _ _ _ h => h) (Or.inl ⟨by rfl, ?_⟩) hHeld ?_ ?_
        rotate_left
        ·rintro w' ⟨s0, s1, s2, s3, s4, s5⟩
         go_simp
         with_reducible rfl
        rotate_left
        ·simp only [Act.put, List.setIfInBounds_toArray, List.set_cons_zero, List.set_cons_succ, i64_w, i32_w]
         rfl
        refine take_ (i := 1) (N := some 49) (v := ?_) (a' := ?_) #[true, true, false, false, false, false, false, false, false, false, false, false, false, false, false, false, false, false, false, false, false] rfl rfl (take_ofW HT_.out HW_.out (by kernel_rfl)) (fun _ _ _ h => h) (Or.inl ⟨by rfl, ?_⟩) hHeld ?_ ?_
        rotate_left
        ·rintro w' ⟨s0, s1, s2, s3, s4, s5⟩
         go_simp
         with_reducible rfl
        rotate_left
        ·simp only [Act.put, List.setIfInBounds_toArray, List.set_cons_zero, List.set_cons_succ, i64_w, i32_w]
         rfl
        refine take_ (i := 3) (N := some 51) (v := ?_) (a' := ?_) #[true, true, false, true, false, false, false, false, false, false, false, false, false, false, false, false, false, false, false, false, false] rfl rfl (take_ofW HT_.out HW_.out (by kernel_rfl)) (fun _ _ _ h => h) (Or.inl ⟨by rfl, ?_⟩) hHeld ?_ ?_
        rotate_left
        ·rintro w' ⟨s0, s1, s2, s3, s4, s5⟩
         go_simp
         with_reducible rfl
        rotate_left
        ·simp only [Act.put, List.setIfInBounds_toArray, List.set_cons_zero, List.set_cons_succ, i64_w, i32_w]
         rfl
        refine take_ (i := 5) (N := some 53) (v := ?_) (a' := ?_) #[true, true, false, true, false, true, false, false, false, false, false, false, false, false, false, false, false, false, false, false, false] rfl rfl (take_ofW HT_.out HW_.out (by kernel_rfl)) (fun _ _ _ h => h) (Or.inl ⟨by rfl, ?_⟩) hHeld ?_ ?_
        rotate_left
        ·rintro w' ⟨s0, s1, s2, s3, s4, s5⟩
         go_simp
         with_reducible rfl
        rotate_left
        ·simp only [Act.put, List.setIfInBounds_toArray, List.set_cons_zero, List.set_cons_succ, i64_w, i32_w]
         rfl
        refine take_ (i := 6) (N := some 54) (v := ?_) (a' := ?_) #[true, true, false, true, false, true, true, false, false, false, false, false, false, false, false, false, false, false, false, false, false] rfl rfl (take_ofW HT_.out HW_.out (by kernel_rfl)) (fun _ _ _ h => h) (Or.inl ⟨by rfl, ?_⟩) hHeld ?_ ?_
        rotate_left
        ·rintro w' ⟨s0, s1, s2, s3, s4, s5⟩
         go_simp
         with_reducible rfl
        rotate_left
        ·simp only [Act.put, List.setIfInBounds_toArray, List.set_cons_zero, List.set_cons_succ, i64_w, i32_w]
         rfl
        refine take_ (i := 7) (N := some 55) (v := ?_) (a' := ?_) #[true, true, false, true, false, true, true, true, false, false, false, false, false, false, false, false, false, false, false, false, false] rfl rfl (take_ofW HT_.out HW_.out (by kernel_rfl)) (fun _ _ _ h => h) (Or.inl ⟨by rfl, ?_⟩) hHeld ?_ ?_
        rotate_left
        ·rintro w' ⟨s0, s1, s2, s3, s4, s5⟩
         go_simp
         with_reducible rfl
        rotate_left
        ·simp only [Act.put, List.setIfInBounds_toArray, List.set_cons_zero, List.set_cons_succ, i64_w, i32_w]
         rfl
        refine one_ (i := 2) (N := some 50) #[true, true, true, true, false, true, true, true, false, false, false, false, false, false, false, false, false, false, false, false, false] rfl rfl (one_of HT_.out (by kernel_rfl)) (by decide) (fun K hK => ?_)
        refine goes_ Tryd.func40 (by kernel_rfl) rfl #[.agg #[.bool a0_0, .string a0_1], .agg #[.bool a1_0, .string a1_1]] (by rfl) rfl rfl (by (try simp only [List.map_toArray, List.map_cons, List.map_nil]); first | done | rfl | (simp only [List.length_drop, List.length_take]; rfl)) ?_
        with_reducible refine (integer_Mul.calls kj26 a0_0 a0_1 a1_0 a1_1 t741 t742 _ A48.out).mono ?_
        rintro e w56 ⟨rfl, hb⟩
        refine ⟨_, rfl, ?_⟩
        replace BK725 := Q.a (Q.bb BK725 hb)
        replace BK726 := Q.a (Q.bb BK726 hb)
        replace BK727 := Q.a (Q.bb BK727 hb)
        replace HB := Q.a (below_step (Q.bw3 HB GE725 GE726 GE727) hb)
        (try clear hb)
        (try clear hb2)
        (try clear hk)
        (try clear hi)
        refine hK.out _ _ ⟨(blk_cell BK725.out 0).trans rfl, (blk_cell BK725.out 1).trans rfl, (blk_cell BK726.out 0).trans rfl, (blk_cell BK726.out 1).trans rfl, (blk_cell BK727.out 0).trans rfl, (blk_cell BK727.out 1).trans rfl⟩ (fun hHeld => ?_)
        clear hK K
        refine norm_ (a' := ?_) ?_ ?_
        rotate_left
        ·show Act.put _ (some 50) _ = _
         simp only [Act.put, List.setIfInBounds_toArray, List.set_cons_zero, List.set_cons_succ, i64_w, i32_w]
         rfl
        refine one_ (i := 4) (N := some 52) #[true, true, true, true, true, true, true, true, false, false, false, false, false, false, false, false, false, false, false, false, false] rfl rfl (one_of HT_.out (by kernel_rfl)) (by decide) (fun K hK => ?_)
        refine goes_ Tryd.func40 (by kernel_rfl) rfl #[.agg #[.bool t741, .string t742], .agg #[.bool a2_0, .string a2_1]] (by rfl) rfl rfl (by (try simp only [List.map_toArray, List.map_cons, List.map_nil]); first | done | rfl | (simp only [List.length_drop, List.length_take]; rfl)) ?_
        with_reducible refine (integer_Mul.calls kj26 t741 t742 a2_0 a2_1 t743 t744 _ A49.out).mono ?_
        rintro e w57 ⟨rfl, hb⟩
        refine ⟨_, rfl, ?_⟩
        replace BK725 := Q.a (Q.bb BK725 hb)
        replace BK726 := Q.a (Q.bb BK726 hb)
        replace BK727 := Q.a (Q.bb BK727 hb)
        replace HB := Q.a (below_step (Q.bw3 HB GE725 GE726 GE727) hb)
        (try clear hb)
        (try clear hb2)
        (try clear hk)
        (try clear hi)
        refine hK.out _ _ ⟨(blk_cell BK725.out 0).trans rfl, (blk_cell BK725.out 1).trans rfl, (blk_cell BK726.out 0).trans rfl, (blk_cell BK726.out 1).trans rfl, (blk_cell BK727.out 0).trans rfl, (blk_cell BK727.out 1).trans rfl⟩ (fun hHeld => ?_)
        clear hK K
        refine norm_ (a' := ?_) ?_ ?_
        rotate_left
        ·show Act.put _ (some 52) _ = _
         simp only [Act.put, List.setIfInBounds_toArray, List.set_cons_zero, List.set_cons_succ, i64_w, i32_w]
         rfl
        refine one_ (i := 8) (N := some 56) #[true, true, true, true, true, true, true, true, true, false, false, false, false, false, false, false, false, false, false, false, false] rfl rfl (one_of HT_.out (by kernel_rfl)) (by decide) (fun K hK => ?_)
        refine goes_ Tryd.func40 (by kernel_rfl) rfl #[.agg #[.bool a1_0, .string a1_1], .agg #[.bool a2_0, .string a2_1]] (by rfl) rfl rfl (by (try simp only [List.map_toArray, List.map_cons, List.map_nil]); first | done | rfl | (simp only [List.length_drop, List.length_take]; rfl)) ?_
        with_reducible refine (integer_Mul.calls kj26 a1_0 a1_1 a2_0 a2_1 t745 t746 _ A50.out).mono ?_
        rintro e w58 ⟨rfl, hb⟩
        refine ⟨_, rfl, ?_⟩
        replace BK725 := Q.a (Q.bb BK725 hb)
        replace BK726 := Q.a (Q.bb BK726 hb)
        replace BK727 := Q.a (Q.bb BK727 hb)
        replace HB := Q.a (below_step (Q.bw3 HB GE725 GE726 GE727) hb)
        (try clear hb)
        (try clear hb2)
        (try clear hk)
        (try clear hi)
        refine hK.out _ _ ⟨(blk_cell BK725.out 0).trans rfl, (blk_cell BK725.out 1).trans rfl, (blk_cell BK726.out 0).trans rfl, (blk_cell BK726.out 1).trans rfl, (blk_cell BK727.out 0).trans rfl, (blk_cell BK727.out 1).trans rfl⟩ (fun hHeld => ?_)
        clear hK K
        refine norm_ (a' := ?_) ?_ ?_
        rotate_left
        ·show Act.put _ (some 56) _ = _
         simp only [Act.put, List.setIfInBounds_toArray, List.set_cons_zero, List.set_cons_succ, i64_w, i32_w]
         rfl
        refine one_ (i := 9) (N := some 57) #[true, true, true, true, true, true, true, true, true, true, false, false, false, false, false, false, false, false, false, false, false] rfl rfl (one_of HT_.out (by kernel_rfl)) (by decide) (fun K hK => ?_)
        refine goes_ Tryd.func40 (by kernel_rfl) rfl #[.agg #[.bool a0_0, .string a0_1], .agg #[.bool t745, .string t746]] (by rfl) rfl rfl (by (try simp only [List.map_toArray, List.map_cons, List.map_nil]); first | done | rfl | (simp only [List.length_drop, List.length_take]; rfl)) ?_
        with_reducible refine (integer_Mul.calls kj26 a0_0 a0_1 t745 t746 t747 t748 _ A51.out).mono ?_
        rintro e w59 ⟨rfl, hb⟩
        refine ⟨_, rfl, ?_⟩
        replace BK725 := Q.a (Q.bb BK725 hb)
        replace BK726 := Q.a (Q.bb BK726 hb)
        replace BK727 := Q.a (Q.bb BK727 hb)
        replace HB := Q.a (below_step (Q.bw3 HB GE725 GE726 GE727) hb)
        (try clear hb)
        (try clear hb2)
        (try clear hk)
        (try clear hi)
        refine hK.out _ _ ⟨(blk_cell BK725.out 0).trans rfl, (blk_cell BK725.out 1).trans rfl, (blk_cell BK726.out 0).trans rfl, (blk_cell BK726.out 1).trans rfl, (blk_cell BK727.out 0).trans rfl, (blk_cell BK727.out 1).trans rfl⟩ (fun hHeld => ?_)
        clear hK K
        refine norm_ (a' := ?_) ?_ ?_
        rotate_left
        ·show Act.put _ (some 57) _ = _
         simp only [Act.put, List.setIfInBounds_toArray, List.set_cons_zero, List.set_cons_succ, i64_w, i32_w]
         rfl
        refine pure_ (i := 10) (N := some 58) (v := ?_) (a' := ?_) #[true, true, true, true, true, true, true, true, true, true, true, false, false, false, false, false, false, false, false, false, false] rfl rfl (any_of HT_.out (by kernel_rfl)) (fun _ _ _ h => h) (Or.inl ⟨by rfl, ?_⟩) ?_ ?_
        rotate_left
        ·intro w'
         go_simp
         with_reducible rfl
        rotate_left
        ·simp only [Act.put, List.setIfInBounds_toArray, List.set_cons_zero, List.set_cons_succ, i64_w, i32_w]
         rfl
        refine pure_ (i := 11) (N := some 59) (v := ?_) (a' := ?_) #[true, true, true, true, true, true, true, true, true, true, true, true, false, false, false, false, false, false, false, false, false] rfl rfl (any_of HT_.out (by kernel_rfl)) (fun _ _ _ h => h) (Or.inl ⟨by rfl, ?_⟩) ?_ ?_
        rotate_left
        ·intro w'
         go_simp
         with_reducible rfl
        rotate_left
        ·simp only [Act.put, List.setIfInBounds_toArray, List.set_cons_zero, List.set_cons_succ, i64_w, i32_w]
         rfl
        refine take_ (i := 12) (N := some 60) (v := ?_) (a' := ?_) #[true, true, true, true, true, true, true, true, true, true, true, true, true, false, false, false, false, false, false, false, false] rfl rfl (take_ofW HT_.out HW_.out (by kernel_rfl)) (fun _ _ _ h => h) (Or.inl ⟨by rfl, ?_⟩) hHeld ?_ ?_
        rotate_left
        ·rintro w' ⟨s0, s1, s2, s3, s4, s5⟩
         go_simp
         with_reducible rfl
        rotate_left
        ·simp only [Act.put, List.setIfInBounds_toArray, List.set_cons_zero, List.set_cons_succ, i64_w, i32_w]
         rfl
        refine take_ (i := 13) (N := some 61) (v := ?_) (a' := ?_) #[true, true, true, true, true, true, true, true, true, true, true, true, true, true, false, false, false, false, false, false, false] rfl rfl (take_ofW HT_.out HW_.out (by kernel_rfl)) (fun _ _ _ h => h) (Or.inl ⟨by rfl, ?_⟩) hHeld ?_ ?_
        rotate_left
        ·rintro w' ⟨s0, s1, s2, s3, s4, s5⟩
         go_simp
         with_reducible rfl
        rotate_left
        ·simp only [Act.put, List.setIfInBounds_toArray, List.set_cons_zero, List.set_cons_succ, i64_w, i32_w]
         rfl
        refine take_ (i := 15) (N := some 63) (v := ?_) (a' := ?_) #[true, true, true, true, true, true, true, true, true, true, true, true, true, true, false, true, false, false, false, false, false] rfl rfl (take_ofW HT_.out HW_.out (by kernel_rfl)) (fun _ _ _ h => h) (Or.inl ⟨by rfl, ?_⟩) hHeld ?_ ?_
        rotate_left
        ·rintro w' ⟨s0, s1, s2, s3, s4, s5⟩
         go_simp
         with_reducible rfl
        rotate_left
        ·simp only [Act.put, List.setIfInBounds_toArray, List.set_cons_zero, List.set_cons_succ, i64_w, i32_w]
         rfl
        refine take_ (i := 16) (N := some 64) (v := ?_) (a' := ?_) #[true, true, true, true, true, true, true, true, true, true, true, true, true, true, false, true, true, false, false, false, false] rfl rfl (take_ofW HT_.out HW_.out (by kernel_rfl)) (fun _ _ _ h => h) (Or.inl ⟨by rfl, ?_⟩) hHeld ?_ ?_
        rotate_left
        ·rintro w' ⟨s0, s1, s2, s3, s4, s5⟩
         go_simp
         with_reducible rfl
        rotate_left
        ·simp only [Act.put, List.setIfInBounds_toArray, List.set_cons_zero, List.set_cons_succ, i64_w, i32_w]
         rfl
        refine one_ (i := 14) (N := some 62) #[true, true, true, true, true, true, true, true, true, true, true, true, true, true, true, true, true, false, false, false, false] rfl rfl (one_of HT_.out (by kernel_rfl)) (by decide) (fun K hK => ?_)
        refine goes_ Tryd.func40 (by kernel_rfl) rfl #[.agg #[.bool a0_0, .string a0_1], .agg #[.bool a1_0, .string a1_1]] (by rfl) rfl rfl (by (try simp only [List.map_toArray, List.map_cons, List.map_nil]); first | done | rfl | (simp only [List.length_drop, List.length_take]; rfl)) ?_
        with_reducible refine (integer_Mul.calls kj26 a0_0 a0_1 a1_0 a1_1 t749 t750 _ A53.out).mono ?_
        rintro e w60 ⟨rfl, hb⟩
        refine ⟨_, rfl, ?_⟩
        replace BK725 := Q.a (Q.bb BK725 hb)
        replace BK726 := Q.a (Q.bb BK726 hb)
        replace BK727 := Q.a (Q.bb BK727 hb)
        replace HB := Q.a (below_step (Q.bw3 HB GE725 GE726 GE727) hb)
        (try clear hb)
        (try clear hb2)
        (try clear hk)
        (try clear hi)
        refine hK.out _ _ ⟨(blk_cell BK725.out 0).trans rfl, (blk_cell BK725.out 1).trans rfl, (blk_cell BK726.out 0).trans rfl, (blk_cell BK726.out 1).trans rfl, (blk_cell BK727.out 0).trans rfl, (blk_cell BK727.out 1).trans rfl⟩ (fun hHeld => ?_)
        clear hK K
        refine norm_ (a' := ?_) ?_ ?_
        rotate_left
        ·show Act.put _ (some 62) _ = _
         simp only [Act.put, List.setIfInBounds_toArray, List.set_cons_zero, List.set_cons_succ, i64_w, i32_w]
         rfl
        refine one_ (i := 17) (N := some 65) #[true, true, true, true, true, true, true, true, true, true, true, true, true, true, true, true, true, true, false, false, false] rfl rfl (one_of HT_.out (by kernel_rfl)) (by decide) (fun K hK => ?_)
        refine goes_ Tryd.func40 (by kernel_rfl) rfl #[.agg #[.bool a1_0, .string a1_1], .agg #[.bool a0_0, .string a0_1]] (by rfl) rfl rfl (by (try simp only [List.map_toArray, List.map_cons, List.map_nil]); first | done | rfl | (simp only [List.length_drop, List.length_take]; rfl)) ?_
        with_reducible refine (integer_Mul.calls kj26 a1_0 a1_1 a0_0 a0_1 t751 t752 _ A54.out).mono ?_
        rintro e w61 ⟨rfl, hb⟩
        refine ⟨_, rfl, ?_⟩
        replace BK725 := Q.a (Q.bb BK725 hb)
        replace BK726 := Q.a (Q.bb BK726 hb)
        replace BK727 := Q.a (Q.bb BK727 hb)
        replace HB := Q.a (below_step (Q.bw3 HB GE725 GE726 GE727) hb)
        (try clear hb)
        (try clear hb2)
        (try clear hk)
        (try clear hi)
        refine hK.out _ _ ⟨(blk_cell BK725.out 0).trans rfl, (blk_cell BK725.out 1).trans rfl, (blk_cell BK726.out 0).trans rfl, (blk_cell BK726.out 1).trans rfl, (blk_cell BK727.out 0).trans rfl, (blk_cell BK727.out 1).trans rfl⟩ (fun hHeld => ?_)
        clear hK K
        refine norm_ (a' := ?_) ?_ ?_
        rotate_left
        ·show Act.put _ (some 65) _ = _
         simp only [Act.put, List.setIfInBounds_toArray, List.set_cons_zero, List.set_cons_succ, i64_w, i32_w]
         rfl
        refine pure_ (i := 18) (N := some 66) (v := ?_) (a' := ?_) #[true, true, true, true, true, true, true, true, true, true, true, true, true, true, true, true, true, true, true, false, false] rfl rfl (any_of HT_.out (by kernel_rfl)) (fun _ _ _ h => h) (Or.inl ⟨by rfl, ?_⟩) ?_ ?_
        rotate_left
        ·intro w'
         go_simp
         with_reducible rfl
        rotate_left
        ·simp only [Act.put, List.setIfInBounds_toArray, List.set_cons_zero, List.set_cons_succ, i64_w, i32_w]
         rfl
        refine pure_ (i := 19) (N := some 67) (v := ?_) (a' := ?_) #[true, true, true, true, true, true, true, true, true, true, true, true, true, true, true, true, true, true, true, true, false] rfl rfl (any_of HT_.out (by kernel_rfl)) (fun _ _ _ h => h) (Or.inl ⟨by rfl, ?_⟩) ?_ ?_
        rotate_left
        ·intro w'
         go_simp
         with_reducible rfl
        rotate_left
        ·simp only [Act.put, List.setIfInBounds_toArray, List.set_cons_zero, List.set_cons_succ, i64_w, i32_w]
         rfl
        refine pure_ (i := 20) (N := some 8) (v := ?_) (a' := ?_) #[true, true, true, true, true, true, true, true, true, true, true, true, true, true, true, true, true, true, true, true, true] rfl rfl (any_of HT_.out (by kernel_rfl)) (fun _ _ _ h => h) (Or.inl ⟨by rfl, ?_⟩) ?_ ?_
        rotate_left
        ·intro w'
         go_simp
         with_reducible rfl
        rotate_left
        ·simp only [Act.put, List.setIfInBounds_toArray, List.set_cons_zero, List.set_cons_succ, i64_w, i32_w]
         rfl
        refine done_ (done_of HT_.out (by kernel_rfl)) ?_
        try go_wp2
        go_meet
        case rel => exact ⟨_, ((t749 == t751 && (t750.toList == t752.toList))), Q.rs, H', ⟨by have := HJ3.out; have := HJ26.out; first | omega | exact Nat.le_refl _⟩, ⟨Q.kb BK725⟩, ⟨Q.kb BK726⟩, ⟨Q.kb BK727⟩, ⟨Q.bw3 HB GE725 GE726 GE727⟩⟩
       ·rw [if_neg c52] at H
        have c52b0 : (t743 == t747 && (t744.toList == t748.toList)) = false := by simpa using c52
        (try (have c52b1 : decide (t743 = t747 && (t744.toList == t748.toList)) = false := by simpa using c52))
        (try (have c52b2 : (t743 == t747 && (t744.toList == t748.toList)) = false := by simpa using c52))
        (try (have c52b3 : ¬ (t743 = t747 && (t744.toList == t748.toList)) := by simpa using c52))
        clear c52
        (first | rw [c52b0] | (simp only [i64_w, i32_w]; rw [c52b0]) | skip)
        have H' := Q.a H
        clear H
        try go_wp2
        replace BK725 := Q.a (blk_drew BK725.out)
        replace BK726 := Q.a (blk_drew BK726.out)
        replace BK727 := Q.a (blk_drew BK727.out)
        replace HB := Q.a (below_drew1 HB.out)
        refine start_ (n := 21) (S := fun w' => w'.cell? ⟨gb725, 0, none⟩ = some (.bool a0_0) ∧ w'.cell? ⟨gb725, 1, none⟩ = some (.string a0_1) ∧ w'.cell? ⟨gb726, 0, none⟩ = some (.bool a1_0) ∧ w'.cell? ⟨gb726, 1, none⟩ = some (.string a1_1) ∧ w'.cell? ⟨gb727, 0, none⟩ = some (.bool a2_0) ∧ w'.cell? ⟨gb727, 1, none⟩ = some (.string a2_1)) (ds := []) #[false, false, false, false, false, false, false, false, false, false, false, false, false, false, false, false, false, false, false, false, false] (by kernel_rfl) rfl rfl ⟨(blk_cell BK725.out 0).trans rfl, (blk_cell BK725.out 1).trans rfl, (blk_cell BK726.out 0).trans rfl, (blk_cell BK726.out 1).trans rfl, (blk_cell BK727.out 0).trans rfl, (blk_cell BK727.out 1).trans rfl⟩ (fun hHeld => ?_); refine with_tabW voussoirlaw02_IntegerRing.tab4 voussoirlaw02_IntegerRing.bits4 (fun HT_ HW_ => ?_)
        generalize wc.drew = w62 at BK725 BK726 BK727 HB hHeld ⊢
        refine take_ (i := 0) (N := some 48) (v := ?_) (a' := ?_) #[true, false, false, false, false, false, false, false, false, false, false, false, false, false, false, false, false, false, false, false, false] rfl rfl (take_ofW HT_.out HW_.out (by kernel_rfl)) (fun _ _ _ h => h) (Or.inl ⟨by rfl, ?_⟩) hHeld ?_ ?_
        rotate_left
        ·rintro w' ⟨s0, s1, s2, s3, s4, s5⟩
         go_simp
         with_reducible rfl
        rotate_left
        ·simp only [Act.put, List.setIfInBounds_toArray, List.set_cons_zero, List.set_cons_succ, i64_w, i32_w]
         rfl
        refine take_ (i := 1) (N := some 49) (v := ?_) (a' := ?_) #[true, true, false, false, false, false, false, false, false, false, false, false, false, false, false, false, false, false, false, false, false] rfl rfl (take_ofW HT_.out HW_.out (by kernel_rfl)) (fun _ _ _ h => h) (Or.inl ⟨by rfl, ?_⟩) hHeld ?_ ?_
        rotate_left
        ·rintro w' ⟨s0, s1, s2, s3, s4, s5⟩
         go_simp
         with_reducible rfl
        rotate_left
        ·simp only [Act.put, List.setIfInBounds_toArray, List.set_cons_zero, List.set_cons_succ, i64_w, i32_w]
         rfl
        refine take_ (i := 3) (N := some 51) (v := ?_) (a' := ?_) #[true, true, false, true, false, false, false, false, false, false, false, false, false, false, false, false, false, false, false, false, false] rfl rfl (take_ofW HT_.out HW_.out (by kernel_rfl)) (fun _ _ _ h => h) (Or.inl ⟨by rfl, ?_⟩) hHeld ?_ ?_
        rotate_left
        ·rintro w' ⟨s0, s1, s2, s3, s4, s5⟩
         go_simp
         with_reducible rfl
        rotate_left
        ·simp only [Act.put, List.setIfInBounds_toArray, List.set_cons_zero, List.set_cons_succ, i64_w, i32_w]
         rfl
        refine take_ (i := 5) (N := some 53) (v := ?_) (a' := ?_) #[true, true, false, true, false, true, false, false, false, false, false, false, false, false, false, false, false, false, false, false, false] rfl rfl (take_ofW HT_.out HW_.out (by kernel_rfl)) (fun _ _ _ h => h) (Or.inl ⟨by rfl, ?_⟩) hHeld ?_ ?_
        rotate_left
        ·rintro w' ⟨s0, s1, s2, s3, s4, s5⟩
         go_simp
         with_reducible rfl
        rotate_left
        ·simp only [Act.put, List.setIfInBounds_toArray, List.set_cons_zero, List.set_cons_succ, i64_w, i32_w]
         rfl
        refine take_ (i := 6) (N := some 54) (v := ?_) (a' := ?_) #[true, true, false, true, false, true, true, false, false, false, false, false, false, false, false, false, false, false, false, false, false] rfl rfl (take_ofW HT_.out HW_.out (by kernel_rfl)) (fun _ _ _ h => h) (Or.inl ⟨by rfl, ?_⟩) hHeld ?_ ?_
        rotate_left
        ·rintro w' ⟨s0, s1, s2, s3, s4, s5⟩
         go_simp
         with_reducible rfl
        rotate_left
        ·simp only [Act.put, List.setIfInBounds_toArray, List.set_cons_zero, List.set_cons_succ, i64_w, i32_w]
         rfl
        refine take_ (i := 7) (N := some 55) (v := ?_) (a' := ?_) #[true, true, false, true, false, true, true, true, false, false, false, false, false, false, false, false, false, false, false, false, false] rfl rfl (take_ofW HT_.out HW_.out (by kernel_rfl)) (fun _ _ _ h => h) (Or.inl ⟨by rfl, ?_⟩) hHeld ?_ ?_
        rotate_left
        ·rintro w' ⟨s0, s1, s2, s3, s4, s5⟩
         go_simp
         with_reducible rfl
        rotate_left
        ·simp only [Act.put, List.setIfInBounds_toArray, List.set_cons_zero, List.set_cons_succ, i64_w, i32_w]
         rfl
        refine one_ (i := 2) (N := some 50) #[true, true, true, true, false, true, true, true, false, false, false, false, false, false, false, false, false, false, false, false, false] rfl rfl (one_of HT_.out (by kernel_rfl)) (by decide) (fun K hK => ?_)
        refine goes_ Tryd.func40 (by kernel_rfl) rfl #[.agg #[.bool a0_0, .string a0_1], .agg #[.bool a1_0, .string a1_1]] (by rfl) rfl rfl (by (try simp only [List.map_toArray, List.map_cons, List.map_nil]); first | done | rfl | (simp only [List.length_drop, List.length_take]; rfl)) ?_
        with_reducible refine (integer_Mul.calls kj26 a0_0 a0_1 a1_0 a1_1 t741 t742 _ A48.out).mono ?_
        rintro e w63 ⟨rfl, hb⟩
        refine ⟨_, rfl, ?_⟩
        replace BK725 := Q.a (Q.bb BK725 hb)
        replace BK726 := Q.a (Q.bb BK726 hb)
        replace BK727 := Q.a (Q.bb BK727 hb)
        replace HB := Q.a (below_step (Q.bw3 HB GE725 GE726 GE727) hb)
        (try clear hb)
        (try clear hb2)
        (try clear hk)
        (try clear hi)
        refine hK.out _ _ ⟨(blk_cell BK725.out 0).trans rfl, (blk_cell BK725.out 1).trans rfl, (blk_cell BK726.out 0).trans rfl, (blk_cell BK726.out 1).trans rfl, (blk_cell BK727.out 0).trans rfl, (blk_cell BK727.out 1).trans rfl⟩ (fun hHeld => ?_)
        clear hK K
        refine norm_ (a' := ?_) ?_ ?_
        rotate_left
        ·show Act.put _ (some 50) _ = _
         simp only [Act.put, List.setIfInBounds_toArray, List.set_cons_zero, List.set_cons_succ, i64_w, i32_w]
         rfl
        refine one_ (i := 4) (N := some 52) #[true, true, true, true, true, true, true, true, false, false, false, false, false, false, false, false, false, false, false, false, false] rfl rfl (one_of HT_.out (by kernel_rfl)) (by decide) (fun K hK => ?_)
        refine goes_ Tryd.func40 (by kernel_rfl) rfl #[.agg #[.bool t741, .string t742], .agg #[.bool a2_0, .string a2_1]] (by rfl) rfl rfl (by (try simp only [List.map_toArray, List.map_cons, List.map_nil]); first | done | rfl | (simp only [List.length_drop, List.length_take]; rfl)) ?_
        with_reducible refine (integer_Mul.calls kj26 t741 t742 a2_0 a2_1 t743 t744 _ A49.out).mono ?_
        rintro e w64 ⟨rfl, hb⟩
        refine ⟨_, rfl, ?_⟩
        replace BK725 := Q.a (Q.bb BK725 hb)
        replace BK726 := Q.a (Q.bb BK726 hb)
        replace BK727 := Q.a (Q.bb BK727 hb)
        replace HB := Q.a (below_step (Q.bw3 HB GE725 GE726 GE727) hb)
        (try clear hb)
        (try clear hb2)
        (try clear hk)
        (try clear hi)
        refine hK.out _ _ ⟨(blk_cell BK725.out 0).trans rfl, (blk_cell BK725.out 1).trans rfl, (blk_cell BK726.out 0).trans rfl, (blk_cell BK726.out 1).trans rfl, (blk_cell BK727.out 0).trans rfl, (blk_cell BK727.out 1).trans rfl⟩ (fun hHeld => ?_)
        clear hK K
        refine norm_ (a' := ?_) ?_ ?_
        rotate_left
        ·show Act.put _ (some 52) _ = _
         simp only [Act.put, List.setIfInBounds_toArray, List.set_cons_zero, List.set_cons_succ, i64_w, i32_w]
         rfl
        refine one_ (i := 8) (N := some 56) #[true, true, true, true, true, true, true, true, true, false, false, false, false, false, false, false, false, false, false, false, false] rfl rfl (one_of HT_.out (by kernel_rfl)) (by decide) (fun K hK => ?_)
        refine goes_ Tryd.func40 (by kernel_rfl) rfl #[.agg #[.bool a1_0, .string a1_1], .agg #[.bool a2_0, .string a2_1]] (by rfl) rfl rfl (by (try simp only [List.map_toArray, List.map_cons, List.map_nil]); first | done | rfl | (simp only [List.length_drop, List.length_take]; rfl)) ?_
        with_reducible refine (integer_Mul.calls kj26 a1_0 a1_1 a2_0 a2_1 t745 t746 _ A50.out).mono ?_
        rintro e w65 ⟨rfl, hb⟩
        refine ⟨_, rfl, ?_⟩
        replace BK725 := Q.a (Q.bb BK725 hb)
        replace BK726 := Q.a (Q.bb BK726 hb)
        replace BK727 := Q.a (Q.bb BK727 hb)
        replace HB := Q.a (below_step (Q.bw3 HB GE725 GE726 GE727) hb)
        (try clear hb)
        (try clear hb2)
        (try clear hk)
        (try clear hi)
        refine hK.out _ _ ⟨(blk_cell BK725.out 0).trans rfl, (blk_cell BK725.out 1).trans rfl, (blk_cell BK726.out 0).trans rfl, (blk_cell BK726.out 1).trans rfl, (blk_cell BK727.out 0).trans rfl, (blk_cell BK727.out 1).trans rfl⟩ (fun hHeld => ?_)
        clear hK K
        refine norm_ (a' := ?_) ?_ ?_
        rotate_left
        ·show Act.put _ (some 56) _ = _
         simp only [Act.put, List.setIfInBounds_toArray, List.set_cons_zero, List.set_cons_succ, i64_w, i32_w]
         rfl
        refine one_ (i := 9) (N := some 57) #[true, true, true, true, true, true, true, true, true, true, false, false, false, false, false, false, false, false, false, false, false] rfl rfl (one_of HT_.out (by kernel_rfl)) (by decide) (fun K hK => ?_)
        refine goes_ Tryd.func40 (by kernel_rfl) rfl #[.agg #[.bool a0_0, .string a0_1], .agg #[.bool t745, .string t746]] (by rfl) rfl rfl (by (try simp only [List.map_toArray, List.map_cons, List.map_nil]); first | done | rfl | (simp only [List.length_drop, List.length_take]; rfl)) ?_
        with_reducible refine (integer_Mul.calls kj26 a0_0 a0_1 t745 t746 t747 t748 _ A51.out).mono ?_
        rintro e w66 ⟨rfl, hb⟩
        refine ⟨_, rfl, ?_⟩
        replace BK725 := Q.a (Q.bb BK725 hb)
        replace BK726 := Q.a (Q.bb BK726 hb)
        replace BK727 := Q.a (Q.bb BK727 hb)
        replace HB := Q.a (below_step (Q.bw3 HB GE725 GE726 GE727) hb)
        (try clear hb)
        (try clear hb2)
        (try clear hk)
        (try clear hi)
        refine hK.out _ _ ⟨(blk_cell BK725.out 0).trans rfl, (blk_cell BK725.out 1).trans rfl, (blk_cell BK726.out 0).trans rfl, (blk_cell BK726.out 1).trans rfl, (blk_cell BK727.out 0).trans rfl, (blk_cell BK727.out 1).trans rfl⟩ (fun hHeld => ?_)
        clear hK K
        refine norm_ (a' := ?_) ?_ ?_
        rotate_left
        ·show Act.put _ (some 57) _ = _
         simp only [Act.put, List.setIfInBounds_toArray, List.set_cons_zero, List.set_cons_succ, i64_w, i32_w]
         rfl
        refine pure_ (i := 10) (N := some 58) (v := ?_) (a' := ?_) #[true, true, true, true, true, true, true, true, true, true, true, false, false, false, false, false, false, false, false, false, false] rfl rfl (any_of HT_.out (by kernel_rfl)) (fun _ _ _ h => h) (Or.inl ⟨by rfl, ?_⟩) ?_ ?_
        rotate_left
        ·intro w'
         go_simp
         with_reducible rfl
        rotate_left
        ·simp only [Act.put, List.setIfInBounds_toArray, List.set_cons_zero, List.set_cons_succ, i64_w, i32_w]
         rfl
        refine pure_ (i := 11) (N := some 59) (v := ?_) (a' := ?_) #[true, true, true, true, true, true, true, true, true, true, true, true, false, false, false, false, false, false, false, false, false] rfl rfl (any_of HT_.out (by kernel_rfl)) (fun _ _ _ h => h) (Or.inl ⟨by rfl, ?_⟩) ?_ ?_
        rotate_left
        ·intro w'
         go_simp
         with_reducible rfl
        rotate_left
        ·simp only [Act.put, List.setIfInBounds_toArray, List.set_cons_zero, List.set_cons_succ, i64_w, i32_w]
         rfl
        refine pure_ (i := 12) (N := some 60) (v := undef) (a' := ?_) #[true, true, true, true, true, true, true, true, true, true, true, true, true, false, false, false, false, false, false, false, false] rfl rfl (any_of HT_.out (by kernel_rfl)) (fun _ _ _ h => h) (Or.inr ⟨by rfl, rfl⟩) ?_ ?_
        rotate_left
        ·simp only [Act.put, List.setIfInBounds_toArray, List.set_cons_zero, List.set_cons_succ, i64_w, i32_w]
         rfl
        refine pure_ (i := 13) (N := some 61) (v := undef) (a' := ?_) #[true, true, true, true, true, true, true, true, true, true, true, true, true, true, false, false, false, false, false, false, false] rfl rfl (any_of HT_.out (by kernel_rfl)) (fun _ _ _ h => h) (Or.inr ⟨by rfl, rfl⟩) ?_ ?_
        rotate_left
        ·simp only [Act.put, List.setIfInBounds_toArray, List.set_cons_zero, List.set_cons_succ, i64_w, i32_w]
         rfl
        refine pure_ (i := 14) (N := some 62) (v := undef) (a' := ?_) #[true, true, true, true, true, true, true, true, true, true, true, true, true, true, true, false, false, false, false, false, false] rfl rfl (any_of HT_.out (by kernel_rfl)) (fun _ _ _ h => h) (Or.inr ⟨by rfl, rfl⟩) ?_ ?_
        rotate_left
        ·simp only [Act.put, List.setIfInBounds_toArray, List.set_cons_zero, List.set_cons_succ, i64_w, i32_w]
         rfl
        refine pure_ (i := 15) (N := some 63) (v := undef) (a' := ?_) #[true, true, true, true, true, true, true, true, true, true, true, true, true, true, true, true, false, false, false, false, false] rfl rfl (any_of HT_.out (by kernel_rfl)) (fun _ _ _ h => h) (Or.inr ⟨by rfl, rfl⟩) ?_ ?_
        rotate_left
        ·simp only [Act.put, List.setIfInBounds_toArray, List.set_cons_zero, List.set_cons_succ, i64_w, i32_w]
         rfl
        refine pure_ (i := 16) (N := some 64) (v := undef) (a' := ?_) #[true, true, true, true, true, true, true, true, true, true, true, true, true, true, true, true, true, false, false, false, false] rfl rfl (any_of HT_.out (by kernel_rfl)) (fun _ _ _ h => h) (Or.inr ⟨by rfl, rfl⟩) ?_ ?_
        rotate_left
        ·simp only [Act.put, List.setIfInBounds_toArray, List.set_cons_zero, List.set_cons_succ, i64_w, i32_w]
         rfl
        refine pure_ (i := 17) (N := some 65) (v := undef) (a' := ?_) #[true, true, true, true, true, true, true, true, true, true, true, true, true, true, true, true, true, true, false, false, false] rfl rfl (any_of HT_.out (by kernel_rfl)) (fun _ _ _ h => h) (Or.inr ⟨by rfl, rfl⟩) ?_ ?_
        rotate_left
        ·simp only [Act.put, List.setIfInBounds_toArray, List.set_cons_zero, List.set_cons_succ, i64_w, i32_w]
         rfl
        refine pure_ (i := 18) (N := some 66) (v := undef) (a' := ?_) #[true, true, true, true, true, true, true, true, true, true, true, true, true, true, true, true, true, true, true, false, false] rfl rfl (any_of HT_.out (by kernel_rfl)) (fun _ _ _ h => h) (Or.inr ⟨by rfl, rfl⟩) ?_ ?_
        rotate_left
        ·simp only [Act.put, List.setIfInBounds_toArray, List.set_cons_zero, List.set_cons_succ, i64_w, i32_w]
         rfl
        refine pure_ (i := 19) (N := some 67) (v := ?_) (a' := ?_) #[true, true, true, true, true, true, true, true, true, true, true, true, true, true, true, true, true, true, true, true, false] rfl rfl (any_of HT_.out (by kernel_rfl)) (fun _ _ _ h => h) (Or.inl ⟨by rfl, ?_⟩) ?_ ?_
        rotate_left
        ·intro w'
         go_simp
         with_reducible rfl
        rotate_left
        ·simp only [Act.put, List.setIfInBounds_toArray, List.set_cons_zero, List.set_cons_succ, i64_w, i32_w]
         rfl
        refine pure_ (i := 20) (N := some 8) (v := ?_) (a' := ?_) #[true, true, true, true, true, true, true, true, true, true, true, true, true, true, true, true, true, true, true, true, true] rfl rfl (any_of HT_.out (by kernel_rfl)) (fun _ _ _ h => h) (Or.inl ⟨by rfl, ?_⟩) ?_ ?_
        rotate_left
        ·intro w'
         go_simp
         with_reducible rfl
        rotate_left
        ·simp only [Act.put, List.setIfInBounds_toArray, List.set_cons_zero, List.set_cons_succ, i64_w, i32_w]
         rfl
        refine done_ (done_of HT_.out (by kernel_rfl)) ?_
        try go_wp2
        go_meet
        case rel => exact ⟨_, (false), Q.rs, H', ⟨by have := HJ3.out; have := HJ26.out; first | omega | exact Nat.le_refl _⟩, ⟨Q.kb BK725⟩, ⟨Q.kb BK726⟩, ⟨Q.kb BK727⟩, ⟨Q.bw3 HB GE725 GE726 GE727⟩⟩
      case rest =>
       clear HC47
       try clear p2
       try clear c4
       try clear c5
       try clear c40
       try clear c52
       try clear c52b0
       try clear c52b1
       try clear c52b2
       obtain ⟨kq, x8_46, rfl, HA, HJ46, BK725, BK726, BK727, HB⟩ := hcut
       cases kq with
       | zero => exact absurd HA.out (by simp [voussoirlaw02_IntegerRing.j2])
       | succ kj46 =>
        have H := HA.out
        clear HA
        simp only [voussoirlaw02_IntegerRing.j2] at H
        replace H := Option.bind_eq_some_iff.mp H
        obtain ⟨⟨t753, t754⟩, A670, H⟩ := H
        try dsimp only at H
        have A67 := Q.a A670
        clear A670
        replace H := Option.bind_eq_some_iff.mp H
        obtain ⟨⟨t755, t756⟩, A680, H⟩ := H
        try dsimp only at H
        have A68 := Q.a A680
        clear A680
        replace H := Option.bind_eq_some_iff.mp H
        obtain ⟨⟨t757, t758⟩, A690, H⟩ := H
        try dsimp only at H
        have A69 := Q.a A690
        clear A690
        replace H := Option.bind_eq_some_iff.mp H
        obtain ⟨⟨t759, t760⟩, A700, H⟩ := H
        try dsimp only at H
        have A70 := Q.a A700
        clear A700
        replace H := Option.bind_eq_some_iff.mp H
        obtain ⟨⟨t761, t762⟩, A710, H⟩ := H
        try dsimp only at H
        have A71 := Q.a A710
        clear A710
        replace H := Option.bind_eq_some_iff.mp H
        obtain ⟨⟨t763, t764⟩, A720, H⟩ := H
        try dsimp only at H
        have A72 := Q.a A720
        clear A720
        replace H := Option.bind_eq_some_iff.mp H
        obtain ⟨t766, A730, H⟩ := H
        try dsimp only at H
        have A73 := Q.a A730
        clear A730
        by_cases c74 : t766 = true
        ·subst c74
         rw [if_pos rfl] at H
         by_cases c75 : x7_26 = true
         ·subst c75
          rw [if_pos rfl] at H
          by_cases c76 : x8_46 = true
          ·subst c76
           rw [if_pos rfl] at H
           by_cases c77 : (t755 == t761 && (t756.toList == t762.toList)) = true
           ·rw [if_pos c77] at H
            have c77b0 : (t755 == t761 && (t756.toList == t762.toList)) = true := c77
            (try (have c77b1 : decide (t755 = t761 && (t756.toList == t762.toList)) = true := by simpa using c77))
            (try (have c77b2 : (t755 == t761 && (t756.toList == t762.toList)) = true := by simpa using c77))
            clear c77
            replace H := Option.bind_eq_some_iff.mp H
            obtain ⟨⟨t767, t768⟩, A780, H⟩ := H
            try dsimp only at H
            have A78 := Q.a A780
            clear A780
            replace H := Option.bind_eq_some_iff.mp H
            obtain ⟨⟨t769, t770⟩, A790, H⟩ := H
            try dsimp only at H
            have A79 := Q.a A790
            clear A790
            replace H := Option.bind_eq_some_iff.mp H
            obtain ⟨⟨t771, t772⟩, A800, H⟩ := H
            try dsimp only at H
            have A80 := Q.a A800
            clear A800
            by_cases c81 : (t769 == t771 && (t770.toList == t772.toList)) = true
            ·rw [if_pos c81] at H
             have c81b0 : (t769 == t771 && (t770.toList == t772.toList)) = true := c81
             (try (have c81b1 : decide (t769 = t771 && (t770.toList == t772.toList)) = true := by simpa using c81))
             (try (have c81b2 : (t769 == t771 && (t770.toList == t772.toList)) = true := by simpa using c81))
             clear c81
             replace H := Option.bind_eq_some_iff.mp H
             obtain ⟨⟨t773, t774⟩, A820, H⟩ := H
             try dsimp only at H
             have A82 := Q.a A820
             clear A820
             replace H := Option.bind_eq_some_iff.mp H
             obtain ⟨⟨t775, t776⟩, A830, H⟩ := H
             try dsimp only at H
             have A83 := Q.a A830
             clear A830
             by_cases c84 : (!t775 && (t776.toList == ([] : List UInt8))) = true
             ·rw [if_pos c84] at H
              have c84b0 : (!t775 && (t776.toList == ([] : List UInt8))) = true := c84
              have c84b2 : (!t775 && t776.toList.isEmpty) = true := by simpa using c84b0
              clear c84
              replace H := Option.bind_eq_some_iff.mp H
              obtain ⟨⟨t777, t778⟩, A850, H⟩ := H
              try dsimp only at H
              have A85 := Q.a A850
              clear A850
              replace H := Option.bind_eq_some_iff.mp H
              obtain ⟨⟨t779, t780⟩, A860, H⟩ := H
              try dsimp only at H
              have A86 := Q.a A860
              clear A860
              by_cases c87 : (t777 == t779 && (t778.toList == t780.toList)) = true
              ·rw [if_pos c87] at H
               have c87b0 : (t777 == t779 && (t778.toList == t780.toList)) = true := c87
               (try (have c87b1 : decide (t777 = t779 && (t778.toList == t780.toList)) = true := by simpa using c87))
               (try (have c87b2 : (t777 == t779 && (t778.toList == t780.toList)) = true := by simpa using c87))
               clear c87
               replace H := Option.bind_eq_some_iff.mp H
               obtain ⟨⟨t781, t782⟩, A880, H⟩ := H
               try dsimp only at H
               have A88 := Q.a A880
               clear A880
               obtain rfl := Option.some.inj H
               try go_wp2
               replace BK725 := Q.a (blk_drew BK725.out)
               replace BK726 := Q.a (blk_drew BK726.out)
               replace BK727 := Q.a (blk_drew BK727.out)
               replace HB := Q.a (below_drew1 HB.out)
               refine start_ (n := 14) (S := fun w' => w'.cell? ⟨gb725, 0, none⟩ = some (.bool a0_0) ∧ w'.cell? ⟨gb725, 1, none⟩ = some (.string a0_1) ∧ w'.cell? ⟨gb726, 0, none⟩ = some (.bool a1_0) ∧ w'.cell? ⟨gb726, 1, none⟩ = some (.string a1_1) ∧ w'.cell? ⟨gb727, 0, none⟩ = some (.bool a2_0) ∧ w'.cell? ⟨gb727, 1, none⟩ = some (.string a2_1)) (ds := []) #[false, false, false, false, false, false, false, false, false, false, false, false, false, false] (by kernel_rfl) rfl rfl ⟨(blk_cell BK725.out 0).trans rfl, (blk_cell BK725.out 1).trans rfl, (blk_cell BK726.out 0).trans rfl, (blk_cell BK726.out 1).trans rfl, (blk_cell BK727.out 0).trans rfl, (blk_cell BK727.out 1).trans rfl⟩ (fun hHeld => ?_); refine with_tabW voussoirlaw02_IntegerRing.tab5 voussoirlaw02_IntegerRing.bits5 (fun HT_ HW_ => ?_)
               generalize wc.drew = w89 at BK725 BK726 BK727 HB hHeld ⊢
               refine take_ (i := 0) (N := some 68) (v := ?_) (a' := ?_) #[true, false, false, false, false, false, false, false, false, false, false, false, false, false] rfl rfl (take_ofW HT_.out HW_.out (by kernel_rfl)) (fun _ _ _ h => h) (Or.inl ⟨by rfl, ?_⟩) hHeld ?_ ?_
               rotate_left
               ·rintro w' ⟨s0, s1, s2, s3, s4, s5⟩
                go_simp
                with_reducible rfl
               rotate_left
               ·simp only [Act.put, List.setIfInBounds_toArray, List.set_cons_zero, List.set_cons_succ, i64_w, i32_w]
                rfl
               refine take_ (i := 1) (N := some 69) (v := ?_) (a' := ?_) #[true, true, false, false, false, false, false, false, false, false, false, false, false, false] rfl rfl (take_ofW HT_.out HW_.out (by kernel_rfl)) (fun _ _ _ h => h) (Or.inl ⟨by rfl, ?_⟩) hHeld ?_ ?_
               rotate_left
               ·rintro w' ⟨s0, s1, s2, s3, s4, s5⟩
                go_simp
                with_reducible rfl
               rotate_left
               ·simp only [Act.put, List.setIfInBounds_toArray, List.set_cons_zero, List.set_cons_succ, i64_w, i32_w]
                rfl
               refine take_ (i := 2) (N := some 70) (v := ?_) (a' := ?_) #[true, true, true, false, false, false, false, false, false, false, false, false, false, false] rfl rfl (take_ofW HT_.out HW_.out (by kernel_rfl)) (fun _ _ _ h => h) (Or.inl ⟨by rfl, ?_⟩) hHeld ?_ ?_
               rotate_left
               ·rintro w' ⟨s0, s1, s2, s3, s4, s5⟩
                go_simp
                with_reducible rfl
               rotate_left
               ·simp only [Act.put, List.setIfInBounds_toArray, List.set_cons_zero, List.set_cons_succ, i64_w, i32_w]
                rfl
               refine take_ (i := 5) (N := some 73) (v := ?_) (a' := ?_) #[true, true, true, false, false, true, false, false, false, false, false, false, false, false] rfl rfl (take_ofW HT_.out HW_.out (by kernel_rfl)) (fun _ _ _ h => h) (Or.inl ⟨by rfl, ?_⟩) hHeld ?_ ?_
               rotate_left
               ·rintro w' ⟨s0, s1, s2, s3, s4, s5⟩
                go_simp
                with_reducible rfl
               rotate_left
               ·simp only [Act.put, List.setIfInBounds_toArray, List.set_cons_zero, List.set_cons_succ, i64_w, i32_w]
                rfl
               refine take_ (i := 6) (N := some 74) (v := ?_) (a' := ?_) #[true, true, true, false, false, true, true, false, false, false, false, false, false, false] rfl rfl (take_ofW HT_.out HW_.out (by kernel_rfl)) (fun _ _ _ h => h) (Or.inl ⟨by rfl, ?_⟩) hHeld ?_ ?_
               rotate_left
               ·rintro w' ⟨s0, s1, s2, s3, s4, s5⟩
                go_simp
                with_reducible rfl
               rotate_left
               ·simp only [Act.put, List.setIfInBounds_toArray, List.set_cons_zero, List.set_cons_succ, i64_w, i32_w]
                rfl
               refine take_ (i := 8) (N := some 76) (v := ?_) (a' := ?_) #[true, true, true, false, false, true, true, false, true, false, false, false, false, false] rfl rfl (take_ofW HT_.out HW_.out (by kernel_rfl)) (fun _ _ _ h => h) (Or.inl ⟨by rfl, ?_⟩) hHeld ?_ ?_
               rotate_left
               ·rintro w' ⟨s0, s1, s2, s3, s4, s5⟩
                go_simp
                with_reducible rfl
               rotate_left
               ·simp only [Act.put, List.setIfInBounds_toArray, List.set_cons_zero, List.set_cons_succ, i64_w, i32_w]
                rfl
               refine take_ (i := 9) (N := some 77) (v := ?_) (a' := ?_) #[true, true, true, false, false, true, true, false, true, true, false, false, false, false] rfl rfl (take_ofW HT_.out HW_.out (by kernel_rfl)) (fun _ _ _ h => h) (Or.inl ⟨by rfl, ?_⟩) hHeld ?_ ?_
               rotate_left
               ·rintro w' ⟨s0, s1, s2, s3, s4, s5⟩
                go_simp
                with_reducible rfl
               rotate_left
               ·simp only [Act.put, List.setIfInBounds_toArray, List.set_cons_zero, List.set_cons_succ, i64_w, i32_w]
                rfl
               refine one_ (i := 3) (N := some 71) #[true, true, true, true, false, true, true, false, true, true, false, false, false, false] rfl rfl (one_of HT_.out (by kernel_rfl)) (by decide) (fun K hK => ?_)
               refine goes_ Tryd.func42 (by kernel_rfl) rfl #[.agg #[.bool a1_0, .string a1_1], .agg #[.bool a2_0, .string a2_1]] (by rfl) rfl rfl (by (try simp only [List.map_toArray, List.map_cons, List.map_nil]); first | done | rfl | (simp only [List.length_drop, List.length_take]; rfl)) ?_
               with_reducible refine (integer_Add.calls kj46 a1_0 a1_1 a2_0 a2_1 t753 t754 _ A67.out).mono ?_
               rintro e w90 ⟨rfl, hb⟩
               refine ⟨_, rfl, ?_⟩
               replace BK725 := Q.a (Q.bb BK725 hb)
               replace BK726 := Q.a (Q.bb BK726 hb)
               replace BK727 := Q.a (Q.bb BK727 hb)
               replace HB := Q.a (below_step (Q.bw3 HB GE725 GE726 GE727) hb)
               (try clear hb)
               (try clear hb2)
               (try clear hk)
               (try clear hi)
               refine hK.out _ _ ⟨(blk_cell BK725.out 0).trans rfl, (blk_cell BK725.out 1).trans rfl, (blk_cell BK726.out 0).trans rfl, (blk_cell BK726.out 1).trans rfl, (blk_cell BK727.out 0).trans rfl, (blk_cell BK727.out 1).trans rfl⟩ (fun hHeld => ?_)
               clear hK K
               refine norm_ (a' := ?_) ?_ ?_
               rotate_left
               ·show Act.put _ (some 71) _ = _
                simp only [Act.put, List.setIfInBounds_toArray, List.set_cons_zero, List.set_cons_succ, i64_w, i32_w]
                rfl
               refine one_ (i := 4) (N := some 72) #[true, true, true, true, true, true, true, false, true, true, false, false, false, false] rfl rfl (one_of HT_.out (by kernel_rfl)) (by decide) (fun K hK => ?_)
               refine goes_ Tryd.func40 (by kernel_rfl) rfl #[.agg #[.bool a0_0, .string a0_1], .agg #[.bool t753, .string t754]] (by rfl) rfl rfl (by (try simp only [List.map_toArray, List.map_cons, List.map_nil]); first | done | rfl | (simp only [List.length_drop, List.length_take]; rfl)) ?_
               with_reducible refine (integer_Mul.calls kj46 a0_0 a0_1 t753 t754 t755 t756 _ A68.out).mono ?_
               rintro e w91 ⟨rfl, hb⟩
               refine ⟨_, rfl, ?_⟩
               replace BK725 := Q.a (Q.bb BK725 hb)
               replace BK726 := Q.a (Q.bb BK726 hb)
               replace BK727 := Q.a (Q.bb BK727 hb)
               replace HB := Q.a (below_step (Q.bw3 HB GE725 GE726 GE727) hb)
               (try clear hb)
               (try clear hb2)
               (try clear hk)
               (try clear hi)
               refine hK.out _ _ ⟨(blk_cell BK725.out 0).trans rfl, (blk_cell BK725.out 1).trans rfl, (blk_cell BK726.out 0).trans rfl, (blk_cell BK726.out 1).trans rfl, (blk_cell BK727.out 0).trans rfl, (blk_cell BK727.out 1).trans rfl⟩ (fun hHeld => ?_)
               clear hK K
               refine norm_ (a' := ?_) ?_ ?_
               rotate_left
               ·show Act.put _ (some 72) _ = _
                simp only [Act.put, List.setIfInBounds_toArray, List.set_cons_zero, List.set_cons_succ, i64_w, i32_w]
                rfl
               refine one_ (i := 7) (N := some 75) #[true, true, true, true, true, true, true, true, true, true, false, false, false, false] rfl rfl (one_of HT_.out (by kernel_rfl)) (by decide) (fun K hK => ?_)
               refine goes_ Tryd.func40 (by kernel_rfl) rfl #[.agg #[.bool a0_0, .string a0_1], .agg #[.bool a1_0, .string a1_1]] (by rfl) rfl rfl (by (try simp only [List.map_toArray, List.map_cons, List.map_nil]); first | done | rfl | (simp only [List.length_drop, List.length_take]; rfl)) ?_
               with_reducible refine (integer_Mul.calls kj46 a0_0 a0_1 a1_0 a1_1 t757 t758 _ A69.out).mono ?_
               rintro e w92 ⟨rfl, hb⟩
               refine ⟨_, rfl, ?_⟩
               replace BK725 := Q.a (Q.bb BK725 hb)
               replace BK726 := Q.a (Q.bb BK726 hb)
               replace BK727 := Q.a (Q.bb BK727 hb)
               replace HB := Q.a (below_step (Q.bw3 HB GE725 GE726 GE727) hb)
               (try clear hb)
               (try clear hb2)
               (try clear hk)
               (try clear hi)
               refine hK.out _ _ ⟨(blk_cell BK725.out 0).trans rfl, (blk_cell BK725.out 1).trans rfl, (blk_cell BK726.out 0).trans rfl, (blk_cell BK726.out 1).trans rfl, (blk_cell BK727.out 0).trans rfl, (blk_cell BK727.out 1).trans rfl⟩ (fun hHeld => ?_)
               clear hK K
               refine norm_ (a' := ?_) ?_ ?_
               rotate_left
               ·show Act.put _ (some 75) _ = _
                simp only [Act.put, List.setIfInBounds_toArray, List.set_cons_zero, List.set_cons_succ, i64_w, i32_w]
                rfl
               refine one_ (i := 10) (N := some 78) #[true, true, true, true, true, true, true, true, true, true, true, false, false, false] rfl rfl (one_of HT_.out (by kernel_rfl)) (by decide) (fun K hK => ?_)
               refine goes_ Tryd.func40 (by kernel_rfl) rfl #[.agg #[.bool a0_0, .string a0_1], .agg #[.bool a2_0, .string a2_1]] (by rfl) rfl rfl (by (try simp only [List.map_toArray, List.map_cons, List.map_nil]); first | done | rfl | (simp only [List.length_drop, List.length_take]; rfl)) ?_
               with_reducible refine (integer_Mul.calls kj46 a0_0 a0_1 a2_0 a2_1 t759 t760 _ A70.out).mono ?_
               rintro e w93 ⟨rfl, hb⟩
               refine ⟨_, rfl, ?_⟩
               replace BK725 := Q.a (Q.bb BK725 hb)
               replace BK726 := Q.a (Q.bb BK726 hb)
               replace BK727 := Q.a (Q.bb BK727 hb)
               replace HB := Q.a (below_step (Q.bw3 HB GE725 GE726 GE727) hb)
               (try clear hb)
               (try clear hb2)
               (try clear hk)
               (try clear hi)
               refine hK.out _ _ ⟨(blk_cell BK725.out 0).trans rfl, (blk_cell BK725.out 1).trans rfl, (blk_cell BK726.out 0).trans rfl, (blk_cell BK726.out 1).trans rfl, (blk_cell BK727.out 0).trans rfl, (blk_cell BK727.out 1).trans rfl⟩ (fun hHeld => ?_)
               clear hK K
               refine norm_ (a' := ?_) ?_ ?_
               rotate_left
               ·show Act.put _ (some 78) _ = _
                simp only [Act.put, List.setIfInBounds_toArray, List.set_cons_zero, List.set_cons_succ, i64_w, i32_w]
                rfl
               refine one_ (i := 11) (N := some 79) #[true, true, true, true, true, true, true, true, true, true, true, true, false, false] rfl rfl (one_of HT_.out (by kernel_rfl)) (by decide) (fun K hK => ?_)
               refine goes_ Tryd.func42 (by kernel_rfl) rfl #[.agg #[.bool t757, .string t758], .agg #[.bool t759, .string t760]] (by rfl) rfl rfl (by (try simp only [List.map_toArray, List.map_cons, List.map_nil]); first | done | rfl | (simp only [List.length_drop, List.length_take]; rfl)) ?_
               with_reducible refine (integer_Add.calls kj46 t757 t758 t759 t760 t761 t762 _ A71.out).mono ?_
               rintro e w94 ⟨rfl, hb⟩
               refine ⟨_, rfl, ?_⟩
               replace BK725 := Q.a (Q.bb BK725 hb)
               replace BK726 := Q.a (Q.bb BK726 hb)
               replace BK727 := Q.a (Q.bb BK727 hb)
               replace HB := Q.a (below_step (Q.bw3 HB GE725 GE726 GE727) hb)
               (try clear hb)
               (try clear hb2)
               (try clear hk)
               (try clear hi)
               refine hK.out _ _ ⟨(blk_cell BK725.out 0).trans rfl, (blk_cell BK725.out 1).trans rfl, (blk_cell BK726.out 0).trans rfl, (blk_cell BK726.out 1).trans rfl, (blk_cell BK727.out 0).trans rfl, (blk_cell BK727.out 1).trans rfl⟩ (fun hHeld => ?_)
               clear hK K
               refine norm_ (a' := ?_) ?_ ?_
               rotate_left
               ·show Act.put _ (some 79) _ = _
                simp only [Act.put, List.setIfInBounds_toArray, List.set_cons_zero, List.set_cons_succ, i64_w, i32_w]
                rfl
               refine pure_ (i := 12) (N := some 80) (v := ?_) (a' := ?_) #[true, true, true, true, true, true, true, true, true, true, true, true, true, false] rfl rfl (any_of HT_.out (by kernel_rfl)) (fun _ _ _ h => h) (Or.inl ⟨by rfl, ?_⟩) ?_ ?_
               rotate_left
               ·intro w'
                go_simp
                with_reducible rfl
               rotate_left
               ·simp only [Act.put, List.setIfInBounds_toArray, List.set_cons_zero, List.set_cons_succ, i64_w, i32_w]
                rfl
               refine pure_ (i := 13) (N := some 9) (v := ?_) (a' := ?_) #[true, true, true, true, true, true, true, true, true, true, true, true, true, true] rfl rfl (any_of HT_.out (by kernel_rfl)) (fun _ _ _ h => h) (Or.inl ⟨by rfl, ?_⟩) ?_ ?_
               rotate_left
               ·intro w'
                go_simp
                with_reducible rfl
               rotate_left
               ·simp only [Act.put, List.setIfInBounds_toArray, List.set_cons_zero, List.set_cons_succ, i64_w, i32_w]
                rfl
               refine done_ (done_of HT_.out (by kernel_rfl)) ?_
               try go_wp2_with (first | ((with_reducible refine gate_callee (f := 54) rfl ?_); refine Q.gl 81 Tryd.func54 #[.int .i64 1] rfl rfl rfl rfl ?_; (with_reducible refine (integer_FromInt64.calls kj46 1 t763 t764 _ A72.out).mono ?_); rintro e w95 ⟨rfl, hb⟩; refine ⟨_, rfl, ?_⟩; replace BK725 := Q.a (Q.bb BK725 hb); replace BK726 := Q.a (Q.bb BK726 hb); replace BK727 := Q.a (Q.bb BK727 hb); replace HB := Q.a (below_step (Q.bw3 HB GE725 GE726 GE727) hb); (try clear hb)) | ((with_reducible refine gate_dst (N := 10) rfl ?_); (try (refine gate_guard (by rfl) ?_; dsimp only)); refine Q.bx 10 #[.bool false, .string (⟨#[]⟩ : ByteArray)] 36 rfl rfl ?_; intro gb765 hg w96 hbox hb; replace BK765 := Q.a (hbox); replace GW765 := Q.a (Q.gs hg (below_size (Q.bw3 HB GE725 GE726 GE727))); replace GE765 := GW765; replace HB := Q.a (below_step (Q.bw3 HB GE725 GE726 GE727) hb); replace NB725_765 := Q.a (Q.nl hg BK725); replace NB765_725 := Q.a (Q.ng hg BK725); replace BK725 := Q.a (Q.bb BK725 hb); replace NB726_765 := Q.a (Q.nl hg BK726); replace NB765_726 := Q.a (Q.ng hg BK726); replace BK726 := Q.a (Q.bb BK726 hb); replace NB727_765 := Q.a (Q.nl hg BK727); replace NB765_727 := Q.a (Q.ng hg BK727); replace BK727 := Q.a (Q.bb BK727 hb); clear hb hbox hg; have hnb97 := NB765_725.out; have hnc97 := NB725_765.out; have hnb98 := NB765_726.out; have hnc98 := NB726_765.out; have hnb99 := NB765_727.out; have hnc99 := NB727_765.out; have hcz100_0 : w96.cell? ⟨gb765, 0, none⟩ = some (.bool false) := (blk_cell BK765.out 0).trans rfl; have hcz100_1 : w96.cell? ⟨gb765, 1, none⟩ = some (.string (⟨#[]⟩ : ByteArray)) := (blk_cell BK765.out 1).trans rfl; have hfz100_0 := blk_frozen BK765.out 0; have hfz100_1 := blk_frozen BK765.out 1))
               have n0_ : Aside0 (((w96.setCell ⟨gb765, 0, none⟩ (.bool t763)).setCell ⟨gb765, 1, none⟩ (.string t764)).heap[gb725]? = some (.cells #[.bool a0_0, .string a0_1] 36 (0, 0))) := ⟨Q.kf BK725 NB725_765⟩
               have n1_ : Aside0 (((w96.setCell ⟨gb765, 0, none⟩ (.bool t763)).setCell ⟨gb765, 1, none⟩ (.string t764)).heap[gb726]? = some (.cells #[.bool a1_0, .string a1_1] 36 (0, 0))) := ⟨Q.kf BK726 NB726_765⟩
               have n2_ : Aside0 (((w96.setCell ⟨gb765, 0, none⟩ (.bool t763)).setCell ⟨gb765, 1, none⟩ (.string t764)).heap[gb727]? = some (.cells #[.bool a2_0, .string a2_1] 36 (0, 0))) := ⟨Q.kf BK727 NB727_765⟩
               have n3_ : Aside0 (((w96.setCell ⟨gb765, 0, none⟩ (.bool t763)).setCell ⟨gb765, 1, none⟩ (.string t764)).heap[gb765]? = some (.cells #[.bool t763, .string t764] 36 (0, 0))) := ⟨by (with_reducible repeat (first | refine blk_drewN ?_ _ | refine blk_drew ?_ | refine blk_alloc ?_ _)); refine blk_put (cs := #[.bool t763, .string (⟨#[]⟩ : ByteArray)]) ?_ 1 _ (by first | rfl | (cases a0.toList <;> rfl) | (cases a1.toList <;> rfl)); (with_reducible repeat (first | refine blk_drewN ?_ _ | refine blk_drew ?_ | refine blk_alloc ?_ _)); refine blk_put (cs := #[.bool false, .string (⟨#[]⟩ : ByteArray)]) ?_ 0 _ (by first | rfl | (cases a0.toList <;> rfl) | (cases a1.toList <;> rfl)); (with_reducible repeat (first | refine blk_drewN ?_ _ | refine blk_drew ?_ | refine blk_alloc ?_ _)); exact BK765.out⟩
               have n4_ : Aside0 (Below w.heap.size w ((w96.setCell ⟨gb765, 0, none⟩ (.bool t763)).setCell ⟨gb765, 1, none⟩ (.string t764))) := ⟨Q.bw4 HB GE725 GE726 GE727 GE765⟩
               (try clear BK725)
               (try clear BK726)
               (try clear BK727)
               (try clear BK765)
               (try clear HB)
               generalize ((w96.setCell ⟨gb765, 0, none⟩ (.bool t763)).setCell ⟨gb765, 1, none⟩ (.string t764)) = w101 at n0_ n1_ n2_ n3_ n4_ ⊢
               have BK725 := n0_
               have BK726 := n1_
               have BK727 := n2_
               have BK765 := n3_
               have HB := n4_
               clear n0_ n1_ n2_ n3_ n4_
               replace BK725 := Q.a (blk_drew BK725.out)
               replace BK726 := Q.a (blk_drew BK726.out)
               replace BK727 := Q.a (blk_drew BK727.out)
               replace BK765 := Q.a (blk_drew BK765.out)
               replace HB := Q.a (below_drew1 HB.out)
               refine start_ (n := 44) (S := fun w' => w'.cell? ⟨gb725, 0, none⟩ = some (.bool a0_0) ∧ w'.cell? ⟨gb725, 1, none⟩ = some (.string a0_1) ∧ w'.cell? ⟨gb726, 0, none⟩ = some (.bool a1_0) ∧ w'.cell? ⟨gb726, 1, none⟩ = some (.string a1_1) ∧ w'.cell? ⟨gb765, 0, none⟩ = some (.bool t763) ∧ w'.cell? ⟨gb765, 1, none⟩ = some (.string t764)) (ds := []) #[false, false, false, false, false, false, false, false, false, false, false, false, false, false, false, false, false, false, false, false, false, false, false, false, false, false, false, false, false, false, false, false, false, false, false, false, false, false, false, false, false, false, false, false] (by kernel_rfl) rfl rfl ⟨(blk_cell BK725.out 0).trans rfl, (blk_cell BK725.out 1).trans rfl, (blk_cell BK726.out 0).trans rfl, (blk_cell BK726.out 1).trans rfl, (blk_cell BK765.out 0).trans rfl, (blk_cell BK765.out 1).trans rfl⟩ (fun hHeld => ?_); refine with_tabW voussoirlaw02_IntegerRing.tab7 voussoirlaw02_IntegerRing.bits7 (fun HT_ HW_ => ?_)
               generalize w101.drew = w102 at BK725 BK726 BK727 BK765 HB hHeld ⊢
               refine one_ (i := 0) (N := some 82) #[true, false, false, false, false, false, false, false, false, false, false, false, false, false, false, false, false, false, false, false, false, false, false, false, false, false, false, false, false, false, false, false, false, false, false, false, false, false, false, false, false, false, false, false] rfl rfl (one_of HT_.out (by kernel_rfl)) (by decide) (fun K hK => ?_)
               refine goes_ Tryd.func37 (by kernel_rfl) rfl #[] (by rfl) rfl rfl (by (try simp only [List.map_toArray, List.map_cons, List.map_nil]); first | done | rfl | (simp only [List.length_drop, List.length_take]; rfl)) ?_
               with_reducible refine (voussoirlaw02_fixed.calls kj46  true rfl _ ?side1 A73.out).mono ?_
               (case side1 => exact X.G.below HG.out (Q.bw4 HB GE725 GE726 GE727 GE765))
               rintro e w103 ⟨rfl, hb⟩
               refine ⟨_, rfl, ?_⟩
               replace BK725 := Q.a (Q.bb BK725 hb)
               replace BK726 := Q.a (Q.bb BK726 hb)
               replace BK727 := Q.a (Q.bb BK727 hb)
               replace BK765 := Q.a (Q.bb BK765 hb)
               replace HB := Q.a (below_step (Q.bw4 HB GE725 GE726 GE727 GE765) hb)
               (try clear hb)
               (try clear hb2)
               (try clear hk)
               (try clear hi)
               refine hK.out _ _ ⟨(blk_cell BK725.out 0).trans rfl, (blk_cell BK725.out 1).trans rfl, (blk_cell BK726.out 0).trans rfl, (blk_cell BK726.out 1).trans rfl, (blk_cell BK765.out 0).trans rfl, (blk_cell BK765.out 1).trans rfl⟩ (fun hHeld => ?_)
               clear hK K
               refine norm_ (a' := ?_) ?_ ?_
               rotate_left
               ·show Act.put _ (some 82) _ = _
                simp only [Act.put, List.setIfInBounds_toArray, List.set_cons_zero, List.set_cons_succ, i64_w, i32_w]
                rfl
               refine pure_ (i := 1) (N := some 83) (v := ?_) (a' := ?_) #[true, true, false, false, false, false, false, false, false, false, false, false, false, false, false, false, false, false, false, false, false, false, false, false, false, false, false, false, false, false, false, false, false, false, false, false, false, false, false, false, false, false, false, false] rfl rfl (any_of HT_.out (by kernel_rfl)) (fun _ _ _ h => h) (Or.inl ⟨by rfl, ?_⟩) ?_ ?_
               rotate_left
               ·intro w'
                go_simp
                with_reducible rfl
               rotate_left
               ·simp only [Act.put, List.setIfInBounds_toArray, List.set_cons_zero, List.set_cons_succ, i64_w, i32_w]
                rfl
               refine pure_ (i := 2) (N := some 84) (v := ?_) (a' := ?_) #[true, true, true, false, false, false, false, false, false, false, false, false, false, false, false, false, false, false, false, false, false, false, false, false, false, false, false, false, false, false, false, false, false, false, false, false, false, false, false, false, false, false, false, false] rfl rfl (any_of HT_.out (by kernel_rfl)) (fun _ _ _ h => h) (Or.inl ⟨by rfl, ?_⟩) ?_ ?_
               rotate_left
               ·intro w'
                go_simp
                with_reducible rfl
               rotate_left
               ·simp only [Act.put, List.setIfInBounds_toArray, List.set_cons_zero, List.set_cons_succ, i64_w, i32_w]
                rfl
               refine pure_ (i := 3) (N := some 85) (v := ?_) (a' := ?_) #[true, true, true, true, false, false, false, false, false, false, false, false, false, false, false, false, false, false, false, false, false, false, false, false, false, false, false, false, false, false, false, false, false, false, false, false, false, false, false, false, false, false, false, false] rfl rfl (any_of HT_.out (by kernel_rfl)) (fun _ _ _ h => h) (Or.inl ⟨by rfl, ?_⟩) ?_ ?_
               rotate_left
               ·intro w'
                go_simp
                with_reducible rfl
               rotate_left
               ·simp only [Act.put, List.setIfInBounds_toArray, List.set_cons_zero, List.set_cons_succ, i64_w, i32_w]
                rfl
               refine pure_ (i := 4) (N := some 86) (v := ?_) (a' := ?_) #[true, true, true, true, true, false, false, false, false, false, false, false, false, false, false, false, false, false, false, false, false, false, false, false, false, false, false, false, false, false, false, false, false, false, false, false, false, false, false, false, false, false, false, false] rfl rfl (any_of HT_.out (by kernel_rfl)) (fun _ _ _ h => h) (Or.inl ⟨by rfl, ?_⟩) ?_ ?_
               rotate_left
               ·intro w'
                go_simp
                with_reducible rfl
               rotate_left
               ·simp only [Act.put, List.setIfInBounds_toArray, List.set_cons_zero, List.set_cons_succ, i64_w, i32_w]
                rfl
               refine pure_ (i := 5) (N := some 87) (v := ?_) (a' := ?_) #[true, true, true, true, true, true, false, false, false, false, false, false, false, false, false, false, false, false, false, false, false, false, false, false, false, false, false, false, false, false, false, false, false, false, false, false, false, false, false, false, false, false, false, false] rfl rfl (any_of HT_.out (by kernel_rfl)) (fun _ _ _ h => h) (Or.inl ⟨by rfl, ?_⟩) ?_ ?_
               rotate_left
               ·intro w'
                go_simp
                with_reducible rfl
               rotate_left
               ·simp only [Act.put, List.setIfInBounds_toArray, List.set_cons_zero, List.set_cons_succ, i64_w, i32_w]
                rfl
               refine pure_ (i := 6) (N := some 88) (v := ?_) (a' := ?_) #[true, true, true, true, true, true, true, false, false, false, false, false, false, false, false, false, false, false, false, false, false, false, false, false, false, false, false, false, false, false, false, false, false, false, false, false, false, false, false, false, false, false, false, false] rfl rfl (any_of HT_.out (by kernel_rfl)) (fun _ _ _ h => h) (Or.inl ⟨by rfl, ?_⟩) ?_ ?_
               rotate_left
               ·intro w'
                go_simp
                with_reducible rfl
               rotate_left
               ·simp only [Act.put, List.setIfInBounds_toArray, List.set_cons_zero, List.set_cons_succ, i64_w, i32_w]
                rfl
               refine pure_ (i := 7) (N := some 89) (v := ?_) (a' := ?_) #[true, true, true, true, true, true, true, true, false, false, false, false, false, false, false, false, false, false, false, false, false, false, false, false, false, false, false, false, false, false, false, false, false, false, false, false, false, false, false, false, false, false, false, false] rfl rfl (any_of HT_.out (by kernel_rfl)) (fun _ _ _ h => h) (Or.inl ⟨by rfl, ?_⟩) ?_ ?_
               rotate_left
               ·intro w'
                go_simp
                with_reducible rfl
               rotate_left
               ·simp only [Act.put, List.setIfInBounds_toArray, List.set_cons_zero, List.set_cons_succ, i64_w, i32_w]
                rfl
               refine pure_ (i := 8) (N := some 90) (v := ?_) (a' := ?_) #[true, true, true, true, true, true, true, true, true, false, false, false, false, false, false, false, false, false, false, false, false, false, false, false, false, false, false, false, false, false, false, false, false, false, false, false, false, false, false, false, false, false, false, false] rfl rfl (any_of HT_.out (by kernel_rfl)) (fun _ _ _ h => h) (Or.inl ⟨by rfl, ?_⟩) ?_ ?_
               rotate_left
               ·intro w'
                go_simp
                with_reducible rfl
               rotate_left
               ·simp only [Act.put, List.setIfInBounds_toArray, List.set_cons_zero, List.set_cons_succ, i64_w, i32_w]
                rfl
               refine pure_ (i := 9) (N := some 91) (v := ?_) (a' := ?_) #[true, true, true, true, true, true, true, true, true, true, false, false, false, false, false, false, false, false, false, false, false, false, false, false, false, false, false, false, false, false, false, false, false, false, false, false, false, false, false, false, false, false, false, false] rfl rfl (any_of HT_.out (by kernel_rfl)) (fun _ _ _ h => h) (Or.inl ⟨by rfl, ?_⟩) ?_ ?_
               rotate_left
               ·intro w'
                go_simp
                with_reducible rfl
               rotate_left
               ·simp only [Act.put, List.setIfInBounds_toArray, List.set_cons_zero, List.set_cons_succ, i64_w, i32_w]
                rfl
               refine pure_ (i := 10) (N := some 92) (v := ?_) (a' := ?_) #[true, true, true, true, true, true, true, true, true, true, true, false, false, false, false, false, false, false, false, false, false, false, false, false, false, false, false, false, false, false, false, false, false, false, false, false, false, false, false, false, false, false, false, false] rfl rfl (any_of HT_.out (by kernel_rfl)) (fun _ _ _ h => h) (Or.inl ⟨by rfl, ?_⟩) ?_ ?_
               rotate_left
               ·intro w'
                go_simp
                with_reducible rfl
               rotate_left
               ·simp only [Act.put, List.setIfInBounds_toArray, List.set_cons_zero, List.set_cons_succ, i64_w, i32_w]
                rfl
               refine take_ (i := 11) (N := some 93) (v := ?_) (a' := ?_) #[true, true, true, true, true, true, true, true, true, true, true, true, false, false, false, false, false, false, false, false, false, false, false, false, false, false, false, false, false, false, false, false, false, false, false, false, false, false, false, false, false, false, false, false] rfl rfl (take_ofW HT_.out HW_.out (by kernel_rfl)) (fun _ _ _ h => h) (Or.inl ⟨by rfl, ?_⟩) hHeld ?_ ?_
               rotate_left
               ·rintro w' ⟨s0, s1, s2, s3, s4, s5⟩
                go_simp
                with_reducible rfl
               rotate_left
               ·simp only [Act.put, List.setIfInBounds_toArray, List.set_cons_zero, List.set_cons_succ, i64_w, i32_w]
                rfl
               refine take_ (i := 12) (N := some 94) (v := ?_) (a' := ?_) #[true, true, true, true, true, true, true, true, true, true, true, true, true, false, false, false, false, false, false, false, false, false, false, false, false, false, false, false, false, false, false, false, false, false, false, false, false, false, false, false, false, false, false, false] rfl rfl (take_ofW HT_.out HW_.out (by kernel_rfl)) (fun _ _ _ h => h) (Or.inl ⟨by rfl, ?_⟩) hHeld ?_ ?_
               rotate_left
               ·rintro w' ⟨s0, s1, s2, s3, s4, s5⟩
                go_simp
                with_reducible rfl
               rotate_left
               ·simp only [Act.put, List.setIfInBounds_toArray, List.set_cons_zero, List.set_cons_succ, i64_w, i32_w]
                rfl
               refine take_ (i := 14) (N := some 96) (v := ?_) (a' := ?_) #[true, true, true, true, true, true, true, true, true, true, true, true, true, false, true, false, false, false, false, false, false, false, false, false, false, false, false, false, false, false, false, false, false, false, false, false, false, false, false, false, false, false, false, false] rfl rfl (take_ofW HT_.out HW_.out (by kernel_rfl)) (fun _ _ _ h => h) (Or.inl ⟨by rfl, ?_⟩) hHeld ?_ ?_
               rotate_left
               ·rintro w' ⟨s0, s1, s2, s3, s4, s5⟩
                go_simp
                with_reducible rfl
               rotate_left
               ·simp only [Act.put, List.setIfInBounds_toArray, List.set_cons_zero, List.set_cons_succ, i64_w, i32_w]
                rfl
               refine take_ (i := 16) (N := some 98) (v := ?_) (a' := ?_) #[true, true, true, true, true, true, true, true, true, true, true, true, true, false, true, false, true, false, false, false, false, false, false, false, false, false, false, false, false, false, false, false, false, false, false, false, false, false, false, false, false, false, false, false] rfl rfl (take_ofW HT_.out HW_.out (by kernel_rfl)) (fun _ _ _ h => h) (Or.inl ⟨by rfl, ?_⟩) hHeld ?_ ?_
               rotate_left
               ·rintro w' ⟨s0, s1, s2, s3, s4, s5⟩
                go_simp
                with_reducible rfl
               rotate_left
               ·simp only [Act.put, List.setIfInBounds_toArray, List.set_cons_zero, List.set_cons_succ, i64_w, i32_w]
                rfl
               refine one_ (i := 13) (N := some 95) #[true, true, true, true, true, true, true, true, true, true, true, true, true, true, true, false, true, false, false, false, false, false, false, false, false, false, false, false, false, false, false, false, false, false, false, false, false, false, false, false, false, false, false, false] rfl rfl (one_of HT_.out (by kernel_rfl)) (by decide) (fun K hK => ?_)
               refine goes_ Tryd.func42 (by kernel_rfl) rfl #[.agg #[.bool a0_0, .string a0_1], .agg #[.bool a1_0, .string a1_1]] (by rfl) rfl rfl (by (try simp only [List.map_toArray, List.map_cons, List.map_nil]); first | done | rfl | (simp only [List.length_drop, List.length_take]; rfl)) ?_
               with_reducible refine (integer_Add.calls kj46 a0_0 a0_1 a1_0 a1_1 t767 t768 _ A78.out).mono ?_
               rintro e w104 ⟨rfl, hb⟩
               refine ⟨_, rfl, ?_⟩
               replace BK725 := Q.a (Q.bb BK725 hb)
               replace BK726 := Q.a (Q.bb BK726 hb)
               replace BK727 := Q.a (Q.bb BK727 hb)
               replace BK765 := Q.a (Q.bb BK765 hb)
               replace HB := Q.a (below_step (Q.bw4 HB GE725 GE726 GE727 GE765) hb)
               (try clear hb)
               (try clear hb2)
               (try clear hk)
               (try clear hi)
               refine hK.out _ _ ⟨(blk_cell BK725.out 0).trans rfl, (blk_cell BK725.out 1).trans rfl, (blk_cell BK726.out 0).trans rfl, (blk_cell BK726.out 1).trans rfl, (blk_cell BK765.out 0).trans rfl, (blk_cell BK765.out 1).trans rfl⟩ (fun hHeld => ?_)
               clear hK K
               refine norm_ (a' := ?_) ?_ ?_
               rotate_left
               ·show Act.put _ (some 95) _ = _
                simp only [Act.put, List.setIfInBounds_toArray, List.set_cons_zero, List.set_cons_succ, i64_w, i32_w]
                rfl
               refine one_ (i := 15) (N := some 97) #[true, true, true, true, true, true, true, true, true, true, true, true, true, true, true, true, true, false, false, false, false, false, false, false, false, false, false, false, false, false, false, false, false, false, false, false, false, false, false, false, false, false, false, false] rfl rfl (one_of HT_.out (by kernel_rfl)) (by decide) (fun K hK => ?_)
               refine goes_ Tryd.func44 (by kernel_rfl) rfl #[.agg #[.bool t767, .string t768], .agg #[.bool a1_0, .string a1_1]] (by rfl) rfl rfl (by (try simp only [List.map_toArray, List.map_cons, List.map_nil]); first | done | rfl | (simp only [List.length_drop, List.length_take]; rfl)) ?_
               with_reducible refine (integer_Sub.calls kj46 t767 t768 a1_0 a1_1 t769 t770 _ A79.out).mono ?_
               rintro e w105 ⟨rfl, hb⟩
               refine ⟨_, rfl, ?_⟩
               replace BK725 := Q.a (Q.bb BK725 hb)
               replace BK726 := Q.a (Q.bb BK726 hb)
               replace BK727 := Q.a (Q.bb BK727 hb)
               replace BK765 := Q.a (Q.bb BK765 hb)
               replace HB := Q.a (below_step (Q.bw4 HB GE725 GE726 GE727 GE765) hb)
               (try clear hb)
               (try clear hb2)
               (try clear hk)
               (try clear hi)
               refine hK.out _ _ ⟨(blk_cell BK725.out 0).trans rfl, (blk_cell BK725.out 1).trans rfl, (blk_cell BK726.out 0).trans rfl, (blk_cell BK726.out 1).trans rfl, (blk_cell BK765.out 0).trans rfl, (blk_cell BK765.out 1).trans rfl⟩ (fun hHeld => ?_)
               clear hK K
               refine norm_ (a' := ?_) ?_ ?_
               rotate_left
               ·show Act.put _ (some 97) _ = _
                simp only [Act.put, List.setIfInBounds_toArray, List.set_cons_zero, List.set_cons_succ, i64_w, i32_w]
                rfl
               refine one_ (i := 17) (N := some 99) #[true, true, true, true, true, true, true, true, true, true, true, true, true, true, true, true, true, true, false, false, false, false, false, false, false, false, false, false, false, false, false, false, false, false, false, false, false, false, false, false, false, false, false, false] rfl rfl (one_of HT_.out (by kernel_rfl)) (by decide) (fun K hK => ?_)
               refine goes_ Tryd.func52 (by kernel_rfl) rfl #[.agg #[.bool a0_0, .string a0_1]] (by rfl) rfl rfl (by (try simp only [List.map_toArray, List.map_cons, List.map_nil]); first | done | rfl | (simp only [List.length_drop, List.length_take]; rfl)) ?_
               with_reducible refine (integer_Normalize.calls kj46 a0_0 a0_1 t771 t772 _ A80.out).mono ?_
               rintro e w106 ⟨rfl, hb⟩
               refine ⟨_, rfl, ?_⟩
               replace BK725 := Q.a (Q.bb BK725 hb)
               replace BK726 := Q.a (Q.bb BK726 hb)
               replace BK727 := Q.a (Q.bb BK727 hb)
               replace BK765 := Q.a (Q.bb BK765 hb)
               replace HB := Q.a (below_step (Q.bw4 HB GE725 GE726 GE727 GE765) hb)
               (try clear hb)
               (try clear hb2)
               (try clear hk)
               (try clear hi)
               refine hK.out _ _ ⟨(blk_cell BK725.out 0).trans rfl, (blk_cell BK725.out 1).trans rfl, (blk_cell BK726.out 0).trans rfl, (blk_cell BK726.out 1).trans rfl, (blk_cell BK765.out 0).trans rfl, (blk_cell BK765.out 1).trans rfl⟩ (fun hHeld => ?_)
               clear hK K
               refine norm_ (a' := ?_) ?_ ?_
               rotate_left
               ·show Act.put _ (some 99) _ = _
                simp only [Act.put, List.setIfInBounds_toArray, List.set_cons_zero, List.set_cons_succ, i64_w, i32_w]
                rfl
               refine pure_ (i := 18) (N := some 100) (v := ?_) (a' := ?_) #[true, true, true, true, true, true, true, true, true, true, true, true, true, true, true, true, true, true, true, false, false, false, false, false, false, false, false, false, false, false, false, false, false, false, false, false, false, false, false, false, false, false, false, false] rfl rfl (any_of HT_.out (by kernel_rfl)) (fun _ _ _ h => h) (Or.inl ⟨by rfl, ?_⟩) ?_ ?_
               rotate_left
               ·intro w'
                go_simp
                with_reducible rfl
               rotate_left
               ·simp only [Act.put, List.setIfInBounds_toArray, List.set_cons_zero, List.set_cons_succ, i64_w, i32_w]
                rfl
               refine pure_ (i := 19) (N := some 101) (v := ?_) (a' := ?_) #[true, true, true, true, true, true, true, true, true, true, true, true, true, true, true, true, true, true, true, true, false, false, false, false, false, false, false, false, false, false, false, false, false, false, false, false, false, false, false, false, false, false, false, false] rfl rfl (any_of HT_.out (by kernel_rfl)) (fun _ _ _ h => h) (Or.inl ⟨by rfl, ?_⟩) ?_ ?_
               rotate_left
               ·intro w'
                go_simp
                with_reducible rfl
               rotate_left
               ·simp only [Act.put, List.setIfInBounds_toArray, List.set_cons_zero, List.set_cons_succ, i64_w, i32_w]
                rfl
               refine pure_ (i := 20) (N := some 102) (v := ?_) (a' := ?_) #[true, true, true, true, true, true, true, true, true, true, true, true, true, true, true, true, true, true, true, true, true, false, false, false, false, false, false, false, false, false, false, false, false, false, false, false, false, false, false, false, false, false, false, false] rfl rfl (any_of HT_.out (by kernel_rfl)) (fun _ _ _ h => h) (Or.inl ⟨by rfl, ?_⟩) ?_ ?_
               rotate_left
               ·intro w'
                go_simp
                with_reducible rfl
               rotate_left
               ·simp only [Act.put, List.setIfInBounds_toArray, List.set_cons_zero, List.set_cons_succ, i64_w, i32_w]
                rfl
               refine pure_ (i := 25) (N := some 107) (v := ?_) (a' := ?_) #[true, true, true, true, true, true, true, true, true, true, true, true, true, true, true, true, true, true, true, true, true, false, false, false, false, true, false, false, false, false, false, false, false, false, false, false, false, false, false, false, false, false, false, false] rfl rfl (any_of HT_.out (by kernel_rfl)) (fun _ _ _ h => h) (Or.inl ⟨by rfl, ?_⟩) ?_ ?_
               rotate_left
               ·intro w'
                go_simp
                with_reducible rfl
               rotate_left
               ·simp only [Act.put, List.setIfInBounds_toArray, List.set_cons_zero, List.set_cons_succ, i64_w, i32_w]
                rfl
               refine take_ (i := 21) (N := some 103) (v := ?_) (a' := ?_) #[true, true, true, true, true, true, true, true, true, true, true, true, true, true, true, true, true, true, true, true, true, true, false, false, false, true, false, false, false, false, false, false, false, false, false, false, false, false, false, false, false, false, false, false] rfl rfl (take_ofW HT_.out HW_.out (by kernel_rfl)) (fun _ _ _ h => h) (Or.inl ⟨by rfl, ?_⟩) hHeld ?_ ?_
               rotate_left
               ·rintro w' ⟨s0, s1, s2, s3, s4, s5⟩
                go_simp
                with_reducible rfl
               rotate_left
               ·simp only [Act.put, List.setIfInBounds_toArray, List.set_cons_zero, List.set_cons_succ, i64_w, i32_w]
                rfl
               refine take_ (i := 22) (N := some 104) (v := ?_) (a' := ?_) #[true, true, true, true, true, true, true, true, true, true, true, true, true, true, true, true, true, true, true, true, true, true, true, false, false, true, false, false, false, false, false, false, false, false, false, false, false, false, false, false, false, false, false, false] rfl rfl (take_ofW HT_.out HW_.out (by kernel_rfl)) (fun _ _ _ h => h) (Or.inl ⟨by rfl, ?_⟩) hHeld ?_ ?_
               rotate_left
               ·rintro w' ⟨s0, s1, s2, s3, s4, s5⟩
                go_simp
                with_reducible rfl
               rotate_left
               ·simp only [Act.put, List.setIfInBounds_toArray, List.set_cons_zero, List.set_cons_succ, i64_w, i32_w]
                rfl
               refine one_ (i := 23) (N := some 105) #[true, true, true, true, true, true, true, true, true, true, true, true, true, true, true, true, true, true, true, true, true, true, true, true, false, true, false, false, false, false, false, false, false, false, false, false, false, false, false, false, false, false, false, false] rfl rfl (one_of HT_.out (by kernel_rfl)) (by decide) (fun K hK => ?_)
               refine goes_ Tryd.func46 (by kernel_rfl) rfl #[.agg #[.bool a0_0, .string a0_1]] (by rfl) rfl rfl (by (try simp only [List.map_toArray, List.map_cons, List.map_nil]); first | done | rfl | (simp only [List.length_drop, List.length_take]; rfl)) ?_
               with_reducible refine (integer_Neg.calls kj46 a0_0 a0_1 t773 t774 _ A82.out).mono ?_
               rintro e w107 ⟨rfl, hb⟩
               refine ⟨_, rfl, ?_⟩
               replace BK725 := Q.a (Q.bb BK725 hb)
               replace BK726 := Q.a (Q.bb BK726 hb)
               replace BK727 := Q.a (Q.bb BK727 hb)
               replace BK765 := Q.a (Q.bb BK765 hb)
               replace HB := Q.a (below_step (Q.bw4 HB GE725 GE726 GE727 GE765) hb)
               (try clear hb)
               (try clear hb2)
               (try clear hk)
               (try clear hi)
               refine hK.out _ _ ⟨(blk_cell BK725.out 0).trans rfl, (blk_cell BK725.out 1).trans rfl, (blk_cell BK726.out 0).trans rfl, (blk_cell BK726.out 1).trans rfl, (blk_cell BK765.out 0).trans rfl, (blk_cell BK765.out 1).trans rfl⟩ (fun hHeld => ?_)
               clear hK K
               refine norm_ (a' := ?_) ?_ ?_
               rotate_left
               ·show Act.put _ (some 105) _ = _
                simp only [Act.put, List.setIfInBounds_toArray, List.set_cons_zero, List.set_cons_succ, i64_w, i32_w]
                rfl
               refine one_ (i := 24) (N := some 106) #[true, true, true, true, true, true, true, true, true, true, true, true, true, true, true, true, true, true, true, true, true, true, true, true, true, true, false, false, false, false, false, false, false, false, false, false, false, false, false, false, false, false, false, false] rfl rfl (one_of HT_.out (by kernel_rfl)) (by decide) (fun K hK => ?_)
               refine goes_ Tryd.func42 (by kernel_rfl) rfl #[.agg #[.bool a0_0, .string a0_1], .agg #[.bool t773, .string t774]] (by rfl) rfl rfl (by (try simp only [List.map_toArray, List.map_cons, List.map_nil]); first | done | rfl | (simp only [List.length_drop, List.length_take]; rfl)) ?_
               with_reducible refine (integer_Add.calls kj46 a0_0 a0_1 t773 t774 t775 t776 _ A83.out).mono ?_
               rintro e w108 ⟨rfl, hb⟩
               refine ⟨_, rfl, ?_⟩
               replace BK725 := Q.a (Q.bb BK725 hb)
               replace BK726 := Q.a (Q.bb BK726 hb)
               replace BK727 := Q.a (Q.bb BK727 hb)
               replace BK765 := Q.a (Q.bb BK765 hb)
               replace HB := Q.a (below_step (Q.bw4 HB GE725 GE726 GE727 GE765) hb)
               (try clear hb)
               (try clear hb2)
               (try clear hk)
               (try clear hi)
               refine hK.out _ _ ⟨(blk_cell BK725.out 0).trans rfl, (blk_cell BK725.out 1).trans rfl, (blk_cell BK726.out 0).trans rfl, (blk_cell BK726.out 1).trans rfl, (blk_cell BK765.out 0).trans rfl, (blk_cell BK765.out 1).trans rfl⟩ (fun hHeld => ?_)
               clear hK K
               refine norm_ (a' := ?_) ?_ ?_
               rotate_left
               ·show Act.put _ (some 106) _ = _
                simp only [Act.put, List.setIfInBounds_toArray, List.set_cons_zero, List.set_cons_succ, i64_w, i32_w]
                rfl
               refine pure_ (i := 26) (N := some 108) (v := ?_) (a' := ?_) #[true, true, true, true, true, true, true, true, true, true, true, true, true, true, true, true, true, true, true, true, true, true, true, true, true, true, true, false, false, false, false, false, false, false, false, false, false, false, false, false, false, false, false, false] rfl rfl (any_of HT_.out (by kernel_rfl)) (fun _ _ _ h => h) (Or.inl ⟨by rfl, ?_⟩) ?_ ?_
               rotate_left
               ·intro w'
                go_simp
                with_reducible rfl
               rotate_left
               ·simp only [Act.put, List.setIfInBounds_toArray, List.set_cons_zero, List.set_cons_succ, i64_w, i32_w]
                rfl
               refine pure_ (i := 27) (N := some 109) (v := ?_) (a' := ?_) #[true, true, true, true, true, true, true, true, true, true, true, true, true, true, true, true, true, true, true, true, true, true, true, true, true, true, true, true, false, false, false, false, false, false, false, false, false, false, false, false, false, false, false, false] rfl rfl (any_of HT_.out (by kernel_rfl)) (fun _ _ _ h => h) (Or.inl ⟨by rfl, ?_⟩) ?_ ?_
               rotate_left
               ·intro w'
                go_simp
                with_reducible rfl
               rotate_left
               ·simp only [Act.put, List.setIfInBounds_toArray, List.set_cons_zero, List.set_cons_succ, i64_w, i32_w]
                rfl
               refine pure_ (i := 28) (N := some 110) (v := ?_) (a' := ?_) #[true, true, true, true, true, true, true, true, true, true, true, true, true, true, true, true, true, true, true, true, true, true, true, true, true, true, true, true, true, false, false, false, false, false, false, false, false, false, false, false, false, false, false, false] rfl rfl (any_of HT_.out (by kernel_rfl)) (fun _ _ _ h => h) (Or.inl ⟨by rfl, ?_⟩) ?_ ?_
               rotate_left
               ·intro w'
                go_simp
                with_reducible rfl
               rotate_left
               ·simp only [Act.put, List.setIfInBounds_toArray, List.set_cons_zero, List.set_cons_succ, i64_w, i32_w]
                rfl
               refine take_ (i := 29) (N := some 111) (v := ?_) (a' := ?_) #[true, true, true, true, true, true, true, true, true, true, true, true, true, true, true, true, true, true, true, true, true, true, true, true, true, true, true, true, true, true, false, false, false, false, false, false, false, false, false, false, false, false, false, false] rfl rfl (take_ofW HT_.out HW_.out (by kernel_rfl)) (fun _ _ _ h => h) (Or.inl ⟨by rfl, ?_⟩) hHeld ?_ ?_
               rotate_left
               ·rintro w' ⟨s0, s1, s2, s3, s4, s5⟩
                go_simp
                with_reducible rfl
               rotate_left
               ·simp only [Act.put, List.setIfInBounds_toArray, List.set_cons_zero, List.set_cons_succ, i64_w, i32_w]
                rfl
               refine take_ (i := 30) (N := some 112) (v := ?_) (a' := ?_) #[true, true, true, true, true, true, true, true, true, true, true, true, true, true, true, true, true, true, true, true, true, true, true, true, true, true, true, true, true, true, true, false, false, false, false, false, false, false, false, false, false, false, false, false] rfl rfl (take_ofW HT_.out HW_.out (by kernel_rfl)) (fun _ _ _ h => h) (Or.inl ⟨by rfl, ?_⟩) hHeld ?_ ?_
               rotate_left
               ·rintro w' ⟨s0, s1, s2, s3, s4, s5⟩
                go_simp
                with_reducible rfl
               rotate_left
               ·simp only [Act.put, List.setIfInBounds_toArray, List.set_cons_zero, List.set_cons_succ, i64_w, i32_w]
                rfl
               refine take_ (i := 32) (N := some 114) (v := ?_) (a' := ?_) #[true, true, true, true, true, true, true, true, true, true, true, true, true, true, true, true, true, true, true, true, true, true, true, true, true, true, true, true, true, true, true, false, true, false, false, false, false, false, false, false, false, false, false, false] rfl rfl (take_ofW HT_.out HW_.out (by kernel_rfl)) (fun _ _ _ h => h) (Or.inl ⟨by rfl, ?_⟩) hHeld ?_ ?_
               rotate_left
               ·rintro w' ⟨s0, s1, s2, s3, s4, s5⟩
                go_simp
                with_reducible rfl
               rotate_left
               ·simp only [Act.put, List.setIfInBounds_toArray, List.set_cons_zero, List.set_cons_succ, i64_w, i32_w]
                rfl
               refine one_ (i := 31) (N := some 113) #[true, true, true, true, true, true, true, true, true, true, true, true, true, true, true, true, true, true, true, true, true, true, true, true, true, true, true, true, true, true, true, true, true, false, false, false, false, false, false, false, false, false, false, false] rfl rfl (one_of HT_.out (by kernel_rfl)) (by decide) (fun K hK => ?_)
               refine goes_ Tryd.func40 (by kernel_rfl) rfl #[.agg #[.bool a0_0, .string a0_1], .agg #[.bool t763, .string t764]] (by rfl) rfl rfl (by (try simp only [List.map_toArray, List.map_cons, List.map_nil]); first | done | rfl | (simp only [List.length_drop, List.length_take]; rfl)) ?_
               with_reducible refine (integer_Mul.calls kj46 a0_0 a0_1 t763 t764 t777 t778 _ A85.out).mono ?_
               rintro e w109 ⟨rfl, hb⟩
               refine ⟨_, rfl, ?_⟩
               replace BK725 := Q.a (Q.bb BK725 hb)
               replace BK726 := Q.a (Q.bb BK726 hb)
               replace BK727 := Q.a (Q.bb BK727 hb)
               replace BK765 := Q.a (Q.bb BK765 hb)
               replace HB := Q.a (below_step (Q.bw4 HB GE725 GE726 GE727 GE765) hb)
               (try clear hb)
               (try clear hb2)
               (try clear hk)
               (try clear hi)
               refine hK.out _ _ ⟨(blk_cell BK725.out 0).trans rfl, (blk_cell BK725.out 1).trans rfl, (blk_cell BK726.out 0).trans rfl, (blk_cell BK726.out 1).trans rfl, (blk_cell BK765.out 0).trans rfl, (blk_cell BK765.out 1).trans rfl⟩ (fun hHeld => ?_)
               clear hK K
               refine norm_ (a' := ?_) ?_ ?_
               rotate_left
               ·show Act.put _ (some 113) _ = _
                simp only [Act.put, List.setIfInBounds_toArray, List.set_cons_zero, List.set_cons_succ, i64_w, i32_w]
                rfl
               refine one_ (i := 33) (N := some 115) #[true, true, true, true, true, true, true, true, true, true, true, true, true, true, true, true, true, true, true, true, true, true, true, true, true, true, true, true, true, true, true, true, true, true, false, false, false, false, false, false, false, false, false, false] rfl rfl (one_of HT_.out (by kernel_rfl)) (by decide) (fun K hK => ?_)
               refine goes_ Tryd.func52 (by kernel_rfl) rfl #[.agg #[.bool a0_0, .string a0_1]] (by rfl) rfl rfl (by (try simp only [List.map_toArray, List.map_cons, List.map_nil]); first | done | rfl | (simp only [List.length_drop, List.length_take]; rfl)) ?_
               with_reducible refine (integer_Normalize.calls kj46 a0_0 a0_1 t779 t780 _ A86.out).mono ?_
               rintro e w110 ⟨rfl, hb⟩
               refine ⟨_, rfl, ?_⟩
               replace BK725 := Q.a (Q.bb BK725 hb)
               replace BK726 := Q.a (Q.bb BK726 hb)
               replace BK727 := Q.a (Q.bb BK727 hb)
               replace BK765 := Q.a (Q.bb BK765 hb)
               replace HB := Q.a (below_step (Q.bw4 HB GE725 GE726 GE727 GE765) hb)
               (try clear hb)
               (try clear hb2)
               (try clear hk)
               (try clear hi)
               refine hK.out _ _ ⟨(blk_cell BK725.out 0).trans rfl, (blk_cell BK725.out 1).trans rfl, (blk_cell BK726.out 0).trans rfl, (blk_cell BK726.out 1).trans rfl, (blk_cell BK765.out 0).trans rfl, (blk_cell BK765.out 1).trans rfl⟩ (fun hHeld => ?_)
               clear hK K
               refine norm_ (a' := ?_) ?_ ?_
               rotate_left
               ·show Act.put _ (some 115) _ = _
                simp only [Act.put, List.setIfInBounds_toArray, List.set_cons_zero, List.set_cons_succ, i64_w, i32_w]
                rfl
               refine pure_ (i := 34) (N := some 116) (v := ?_) (a' := ?_) #[true, true, true, true, true, true, true, true, true, true, true, true, true, true, true, true, true, true, true, true, true, true, true, true, true, true, true, true, true, true, true, true, true, true, true, false, false, false, false, false, false, false, false, false] rfl rfl (any_of HT_.out (by kernel_rfl)) (fun _ _ _ h => h) (Or.inl ⟨by rfl, ?_⟩) ?_ ?_
               rotate_left
               ·intro w'
                go_simp
                with_reducible rfl
               rotate_left
               ·simp only [Act.put, List.setIfInBounds_toArray, List.set_cons_zero, List.set_cons_succ, i64_w, i32_w]
                rfl
               refine pure_ (i := 35) (N := some 117) (v := ?_) (a' := ?_) #[true, true, true, true, true, true, true, true, true, true, true, true, true, true, true, true, true, true, true, true, true, true, true, true, true, true, true, true, true, true, true, true, true, true, true, true, false, false, false, false, false, false, false, false] rfl rfl (any_of HT_.out (by kernel_rfl)) (fun _ _ _ h => h) (Or.inl ⟨by rfl, ?_⟩) ?_ ?_
               rotate_left
               ·intro w'
                go_simp
                with_reducible rfl
               rotate_left
               ·simp only [Act.put, List.setIfInBounds_toArray, List.set_cons_zero, List.set_cons_succ, i64_w, i32_w]
                rfl
               refine pure_ (i := 36) (N := some 118) (v := ?_) (a' := ?_) #[true, true, true, true, true, true, true, true, true, true, true, true, true, true, true, true, true, true, true, true, true, true, true, true, true, true, true, true, true, true, true, true, true, true, true, true, true, false, false, false, false, false, false, false] rfl rfl (any_of HT_.out (by kernel_rfl)) (fun _ _ _ h => h) (Or.inl ⟨by rfl, ?_⟩) ?_ ?_
               rotate_left
               ·intro w'
                go_simp
                with_reducible rfl
               rotate_left
               ·simp only [Act.put, List.setIfInBounds_toArray, List.set_cons_zero, List.set_cons_succ, i64_w, i32_w]
                rfl
               refine pure_ (i := 38) (N := some 120) (v := ?_) (a' := ?_) #[true, true, true, true, true, true, true, true, true, true, true, true, true, true, true, true, true, true, true, true, true, true, true, true, true, true, true, true, true, true, true, true, true, true, true, true, true, false, true, false, false, false, false, false] rfl rfl (any_of HT_.out (by kernel_rfl)) (fun _ _ _ h => h) (Or.inl ⟨by rfl, ?_⟩) ?_ ?_
               rotate_left
               ·intro w'
                go_simp
                with_reducible rfl
               rotate_left
               ·simp only [Act.put, List.setIfInBounds_toArray, List.set_cons_zero, List.set_cons_succ, i64_w, i32_w]
                rfl
               refine pure_ (i := 40) (N := some 122) (v := ?_) (a' := ?_) #[true, true, true, true, true, true, true, true, true, true, true, true, true, true, true, true, true, true, true, true, true, true, true, true, true, true, true, true, true, true, true, true, true, true, true, true, true, false, true, false, true, false, false, false] rfl rfl (any_of HT_.out (by kernel_rfl)) (fun _ _ _ h => h) (Or.inl ⟨by rfl, ?_⟩) ?_ ?_
               rotate_left
               ·intro w'
                go_simp
                with_reducible rfl
               rotate_left
               ·simp only [Act.put, List.setIfInBounds_toArray, List.set_cons_zero, List.set_cons_succ, i64_w, i32_w]
                rfl
               refine take_ (i := 37) (N := some 119) (v := ?_) (a' := ?_) #[true, true, true, true, true, true, true, true, true, true, true, true, true, true, true, true, true, true, true, true, true, true, true, true, true, true, true, true, true, true, true, true, true, true, true, true, true, true, true, false, true, false, false, false] rfl rfl (take_ofW HT_.out HW_.out (by kernel_rfl)) (fun _ _ _ h => h) (Or.inl ⟨by rfl, ?_⟩) hHeld ?_ ?_
               rotate_left
               ·rintro w' ⟨s0, s1, s2, s3, s4, s5⟩
                go_simp
                with_reducible rfl
               rotate_left
               ·simp only [Act.put, List.setIfInBounds_toArray, List.set_cons_zero, List.set_cons_succ, i64_w, i32_w]
                rfl
               refine one_ (i := 39) (N := some 121) #[true, true, true, true, true, true, true, true, true, true, true, true, true, true, true, true, true, true, true, true, true, true, true, true, true, true, true, true, true, true, true, true, true, true, true, true, true, true, true, true, true, false, false, false] rfl rfl (one_of HT_.out (by kernel_rfl)) (by decide) (fun K hK => ?_)
               refine goes_ Tryd.func40 (by kernel_rfl) rfl #[.agg #[.bool a0_0, .string a0_1], .agg #[.bool false, .string (⟨#[]⟩ : ByteArray)]] (by rfl) rfl rfl (by (try simp only [List.map_toArray, List.map_cons, List.map_nil]); first | done | rfl | (simp only [List.length_drop, List.length_take]; rfl)) ?_
               with_reducible refine (integer_Mul.calls kj46 a0_0 a0_1 false (⟨#[]⟩ : ByteArray) t781 t782 _ A88.out).mono ?_
               rintro e w111 ⟨rfl, hb⟩
               refine ⟨_, rfl, ?_⟩
               replace BK725 := Q.a (Q.bb BK725 hb)
               replace BK726 := Q.a (Q.bb BK726 hb)
               replace BK727 := Q.a (Q.bb BK727 hb)
               replace BK765 := Q.a (Q.bb BK765 hb)
               replace HB := Q.a (below_step (Q.bw4 HB GE725 GE726 GE727 GE765) hb)
               (try clear hb)
               (try clear hb2)
               (try clear hk)
               (try clear hi)
               refine hK.out _ _ ⟨(blk_cell BK725.out 0).trans rfl, (blk_cell BK725.out 1).trans rfl, (blk_cell BK726.out 0).trans rfl, (blk_cell BK726.out 1).trans rfl, (blk_cell BK765.out 0).trans rfl, (blk_cell BK765.out 1).trans rfl⟩ (fun hHeld => ?_)
               clear hK K
               refine norm_ (a' := ?_) ?_ ?_
               rotate_left
               ·show Act.put _ (some 121) _ = _
                simp only [Act.put, List.setIfInBounds_toArray, List.set_cons_zero, List.set_cons_succ, i64_w, i32_w]
                rfl
               refine pure_ (i := 41) (N := some 123) (v := ?_) (a' := ?_) #[true, true, true, true, true, true, true, true, true, true, true, true, true, true, true, true, true, true, true, true, true, true, true, true, true, true, true, true, true, true, true, true, true, true, true, true, true, true, true, true, true, true, false, false] rfl rfl (any_of HT_.out (by kernel_rfl)) (fun _ _ _ h => h) (Or.inl ⟨by rfl, ?_⟩) ?_ ?_
               rotate_left
               ·intro w'
                go_simp
                with_reducible rfl
               rotate_left
               ·simp only [Act.put, List.setIfInBounds_toArray, List.set_cons_zero, List.set_cons_succ, i64_w, i32_w]
                rfl
               refine pure_ (i := 42) (N := some 124) (v := ?_) (a' := ?_) #[true, true, true, true, true, true, true, true, true, true, true, true, true, true, true, true, true, true, true, true, true, true, true, true, true, true, true, true, true, true, true, true, true, true, true, true, true, true, true, true, true, true, true, false] rfl rfl (any_of HT_.out (by kernel_rfl)) (fun _ _ _ h => h) (Or.inl ⟨by rfl, ?_⟩) ?_ ?_
               rotate_left
               ·intro w'
                go_simp
                with_reducible rfl
               rotate_left
               ·simp only [Act.put, List.setIfInBounds_toArray, List.set_cons_zero, List.set_cons_succ, i64_w, i32_w]
                rfl
               refine pure_ (i := 43) (N := some 6) (v := ?_) (a' := ?_) #[true, true, true, true, true, true, true, true, true, true, true, true, true, true, true, true, true, true, true, true, true, true, true, true, true, true, true, true, true, true, true, true, true, true, true, true, true, true, true, true, true, true, true, true] rfl rfl (any_of HT_.out (by kernel_rfl)) (fun _ _ _ h => h) (Or.inl ⟨by rfl, ?_⟩) ?_ ?_
               rotate_left
               ·intro w'
                go_simp
                with_reducible rfl
               rotate_left
               ·simp only [Act.put, List.setIfInBounds_toArray, List.set_cons_zero, List.set_cons_succ, i64_w, i32_w]
                rfl
               refine done_ (done_of HT_.out (by kernel_rfl)) ?_
               try go_wp2
               go_ret
               exact ⟨Q.en, Q.bw4 HB GE725 GE726 GE727 GE765⟩
              ·rw [if_neg c87] at H
               have c87b0 : (t777 == t779 && (t778.toList == t780.toList)) = false := by simpa using c87
               (try (have c87b1 : decide (t777 = t779 && (t778.toList == t780.toList)) = false := by simpa using c87))
               (try (have c87b2 : (t777 == t779 && (t778.toList == t780.toList)) = false := by simpa using c87))
               (try (have c87b3 : ¬ (t777 = t779 && (t778.toList == t780.toList)) := by simpa using c87))
               clear c87
               obtain rfl := Option.some.inj H
               exact absurd HR.out (by decide)
             ·rw [if_neg c84] at H
              have c84b0 : (!t775 && (t776.toList == ([] : List UInt8))) = false := by simpa using c84
              clear c84
              obtain rfl := Option.some.inj H
              exact absurd HR.out (by decide)
            ·rw [if_neg c81] at H
             have c81b0 : (t769 == t771 && (t770.toList == t772.toList)) = false := by simpa using c81
             (try (have c81b1 : decide (t769 = t771 && (t770.toList == t772.toList)) = false := by simpa using c81))
             (try (have c81b2 : (t769 == t771 && (t770.toList == t772.toList)) = false := by simpa using c81))
             (try (have c81b3 : ¬ (t769 = t771 && (t770.toList == t772.toList)) := by simpa using c81))
             clear c81
             obtain rfl := Option.some.inj H
             exact absurd HR.out (by decide)
           ·rw [if_neg c77] at H
            have c77b0 : (t755 == t761 && (t756.toList == t762.toList)) = false := by simpa using c77
            (try (have c77b1 : decide (t755 = t761 && (t756.toList == t762.toList)) = false := by simpa using c77))
            (try (have c77b2 : (t755 == t761 && (t756.toList == t762.toList)) = false := by simpa using c77))
            (try (have c77b3 : ¬ (t755 = t761 && (t756.toList == t762.toList)) := by simpa using c77))
            clear c77
            obtain rfl := Option.some.inj H
            exact absurd HR.out (by decide)
          ·replace c76 := Bool.eq_false_iff.mpr c76
           subst c76
           rw [if_neg (show ¬ (false = true) by decide)] at H
           obtain rfl := Option.some.inj H
           exact absurd HR.out (by decide)
         ·replace c75 := Bool.eq_false_iff.mpr c75
          subst c75
          rw [if_neg (show ¬ (false = true) by decide)] at H
          obtain rfl := Option.some.inj H
          exact absurd HR.out (by decide)
        ·replace c74 := Bool.eq_false_iff.mpr c74
         subst c74
         rw [if_neg (show ¬ (false = true) by decide)] at H
         obtain rfl := Option.some.inj H
         exact absurd HR.out (by decide)
end Go.Proofs.YtpokflilobkoaaaDoor.P
