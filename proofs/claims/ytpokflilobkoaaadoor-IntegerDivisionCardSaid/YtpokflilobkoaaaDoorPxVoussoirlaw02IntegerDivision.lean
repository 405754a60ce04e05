/- Out of what mp.py printed for this seat (squeeze.py, repack.py). Not trusted: Lean checks it. -/
import Derived.Test.YtpokflilobkoaaaDoorPx0
import Derived.Test.YtpokflilobkoaaaDoorPx1
import Derived.Test.YtpokflilobkoaaaDoorPxIA
import Derived.Test.YtpokflilobkoaaaDoorPxIB
import Derived.Test.YtpokflilobkoaaaDoorPxIC
import Derived.Test.YtpokflilobkoaaaDoorPxID
import Derived.Test.YtpokflilobkoaaaDoorPxIntegerMul
import Derived.Test.YtpokflilobkoaaaDoorPxVoussoirlaw02Fixed
import Derived.Test.YtpokflilobkoaaaDoorXQ
-- squeezed twice
namespace Go.Proofs.YtpokflilobkoaaaDoor.P
open Go.RowKit Go.Proofs.YtpokflilobkoaaaDoorW.PrintWords Go.Proofs.YtpokflilobkoaaaDoorW.PrintLast Go.Proofs.YtpokflilobkoaaaDoorW.PrintMore
attribute [local go_sem] max2_int min2_int max_two min_two max_three min_three max_four min_four   -- for this text's walks alone
attribute [local go_sem] XW.cell_twice   -- for this text's walks alone
set_option linter.unusedVariables false
set_option linter.unusedSimpArgs false
attribute [local go_sem high] eqA36

/-! ### voussoirlaw02_IntegerDivision: function 15 -/
mutual
def voussoirlaw02_IntegerDivision.j0 : Nat → Bool → Bool → ByteArray → Bool → ByteArray → Option (Bool)
 | 0, _, _, _, _, _ => none
 | k + 1, x18, x857000, x857001, x858000, x858001 => if x18 = true then ((voussoirlaw02_fixed.f k).bind fun t858 => (some t858)) else ((integer_Div.f k x857000 x857001 x858000 x858001).bind fun bt859 => ((integer_Sign.f k x858000 x858001).bind fun t866 => (if t866 = 0 then ((voussoirlaw02_fixed.f k).bind fun t867 => (if t867 = true then (if bt859.2.2.2.2 = true then (some false) else (if (!bt859.1 && (bt859.2.1.toList == ([] : List UInt8))) = true then (some (!bt859.2.2.1 && (bt859.2.2.2.1.toList == ([] : List UInt8)))) else (some false))) else (some false))) else ((integer_Sign.f k x858000 x858001).bind fun t869 => (if t869 < 0 then ((integer_Neg.f k x858000 x858001).bind fun bt870 => (voussoirlaw02_IntegerDivision.j1 k bt859.2.2.2.2 x857000 x857001 x858000 x858001 bt859.1 bt859.2.1 bt859.2.2.1 bt859.2.2.2.1 bt870.1 bt870.2)) else (voussoirlaw02_IntegerDivision.j1 k bt859.2.2.2.2 x857000 x857001 x858000 x858001 bt859.1 bt859.2.1 bt859.2.2.1 bt859.2.2.2.1 x858000 x858001))))))
def voussoirlaw02_IntegerDivision.j1 : Nat → Bool → Bool → ByteArray → Bool → ByteArray → Bool → ByteArray → Bool → ByteArray → Bool → ByteArray → Option (Bool)
 | 0, _, _, _, _, _, _, _, _, _, _, _ => none
 | k + 1, x7, x857000, x857001, x858000, x858001, x865000, x865001, x866000, x866001, x869000, x869001 => (voussoirlaw02_fixed.f k).bind fun t872 => (if t872 = true then (if x7 = true then ((integer_Mul.f k x865000 x865001 x858000 x858001).bind fun bt873 => ((integer_Add.f k bt873.1 bt873.2 x866000 x866001).bind fun bt875 => ((integer_Normalize.f k x857000 x857001).bind fun bt877 => (if (bt875.1 == bt877.1 && (bt875.2.toList == bt877.2.toList)) = true then ((integer_Sign.f k x866000 x866001).bind fun t879 => (if t879 ≥ 0 then ((integer_Cmp.f k x866000 x866001 x869000 x869001).bind fun t880 => (some (decide (t880 < 0)))) else (some false))) else (some false))))) else (some false)) else (some false))
end
def voussoirlaw02_IntegerDivision.f (k : Nat) (a0_0 : Bool) (a0_1 : ByteArray) (a1_0 : Bool) (a1_1 : ByteArray) : Option (Bool) := if (a0_1.size : Int) > 30 then (voussoirlaw02_IntegerDivision.j0 k true a0_0 a0_1 a1_0 a1_1) else (voussoirlaw02_IntegerDivision.j0 k (decide ((a1_1.size : Int) > 30)) a0_0 a0_1 a1_0 a1_1)
theorem voussoirlaw02_IntegerDivision.mono_l : ∀ k, (∀ y0 y1 y2 y3 y4, LeO (voussoirlaw02_IntegerDivision.j0 k y0 y1 y2 y3 y4) (voussoirlaw02_IntegerDivision.j0 (k + 1) y0 y1 y2 y3 y4)) ∧ (∀ y0 y1 y2 y3 y4 y5 y6 y7 y8 y9 y10, LeO (voussoirlaw02_IntegerDivision.j1 k y0 y1 y2 y3 y4 y5 y6 y7 y8 y9 y10) (voussoirlaw02_IntegerDivision.j1 (k + 1) y0 y1 y2 y3 y4 y5 y6 y7 y8 y9 y10))
 | 0 => ⟨fun _ _ _ _ _ r h => by simp [voussoirlaw02_IntegerDivision.j0] at h, fun _ _ _ _ _ _ _ _ _ _ _ r h => by simp [voussoirlaw02_IntegerDivision.j1] at h⟩
 | k + 1 => by
  obtain ⟨ih0, ih1⟩ := voussoirlaw02_IntegerDivision.mono_l k
  refine ⟨?_, ?_⟩
  ·intro y0 y1 y2 y3 y4
   unfold voussoirlaw02_IntegerDivision.j0
   repeat' first
   | (with_reducible exact ih0 _ _ _ _ _)
   | (with_reducible exact ih1 _ _ _ _ _ _ _ _ _ _ _)
   | (with_reducible exact integer_Add.mono _ _ _ _ _)
   | (with_reducible exact integer_Cmp.mono _ _ _ _ _)
   | (with_reducible exact integer_Div.mono _ _ _ _ _)
   | (with_reducible exact integer_Mul.mono _ _ _ _ _)
   | (with_reducible exact integer_Neg.mono _ _ _)
   | (with_reducible exact integer_Normalize.mono _ _ _)
   | (with_reducible exact integer_Sign.mono _ _ _)
   | (with_reducible exact voussoirlaw02_fixed.mono _)
   | (with_reducible exact LeO.refl _)
   | (with_reducible exact LeO.none _)
   | (with_reducible refine LeO.ite ?_ ?_)
   | (with_reducible refine LeO.bind ?_ (fun _ => ?_))
   | exact ih0 _ _ _ _ _
   | exact ih1 _ _ _ _ _ _ _ _ _ _ _
   | exact integer_Add.mono _ _ _ _ _
   | exact integer_Cmp.mono _ _ _ _ _
   | exact integer_Div.mono _ _ _ _ _
   | exact integer_Mul.mono _ _ _ _ _
   | exact integer_Neg.mono _ _ _
   | exact integer_Normalize.mono _ _ _
   | exact integer_Sign.mono _ _ _
   | exact voussoirlaw02_fixed.mono _
   | exact LeO.none _
   | refine LeO.ite ?_ ?_
   | refine LeO.bind ?_ (fun _ => ?_)
  ·intro y0 y1 y2 y3 y4 y5 y6 y7 y8 y9 y10
   unfold voussoirlaw02_IntegerDivision.j1
   repeat' first
   | (with_reducible exact ih0 _ _ _ _ _)
   | (with_reducible exact ih1 _ _ _ _ _ _ _ _ _ _ _)
   | (with_reducible exact integer_Add.mono _ _ _ _ _)
   | (with_reducible exact integer_Cmp.mono _ _ _ _ _)
   | (with_reducible exact integer_Div.mono _ _ _ _ _)
   | (with_reducible exact integer_Mul.mono _ _ _ _ _)
   | (with_reducible exact integer_Neg.mono _ _ _)
   | (with_reducible exact integer_Normalize.mono _ _ _)
   | (with_reducible exact integer_Sign.mono _ _ _)
   | (with_reducible exact voussoirlaw02_fixed.mono _)
   | (with_reducible exact LeO.refl _)
   | (with_reducible exact LeO.none _)
   | (with_reducible refine LeO.ite ?_ ?_)
   | (with_reducible refine LeO.bind ?_ (fun _ => ?_))
   | exact ih0 _ _ _ _ _
   | exact ih1 _ _ _ _ _ _ _ _ _ _ _
   | exact integer_Add.mono _ _ _ _ _
   | exact integer_Cmp.mono _ _ _ _ _
   | exact integer_Div.mono _ _ _ _ _
   | exact integer_Mul.mono _ _ _ _ _
   | exact integer_Neg.mono _ _ _
   | exact integer_Normalize.mono _ _ _
   | exact integer_Sign.mono _ _ _
   | exact voussoirlaw02_fixed.mono _
   | exact LeO.none _
   | refine LeO.ite ?_ ?_
   | refine LeO.bind ?_ (fun _ => ?_)
theorem voussoirlaw02_IntegerDivision.mono : ∀ a0 a1 a2 a3 k, LeO (voussoirlaw02_IntegerDivision.f k a0 a1 a2 a3) (voussoirlaw02_IntegerDivision.f (k + 1) a0 a1 a2 a3) := by
 intro a0 a1 a2 a3 k
 obtain ⟨ih0, ih1⟩ := voussoirlaw02_IntegerDivision.mono_l k
 unfold voussoirlaw02_IntegerDivision.f
 repeat' first
   | (with_reducible exact ih0 _ _ _ _ _)
   | (with_reducible exact ih1 _ _ _ _ _ _ _ _ _ _ _)
   | (with_reducible exact integer_Add.mono _ _ _ _ _)
   | (with_reducible exact integer_Cmp.mono _ _ _ _ _)
   | (with_reducible exact integer_Div.mono _ _ _ _ _)
   | (with_reducible exact integer_Mul.mono _ _ _ _ _)
   | (with_reducible exact integer_Neg.mono _ _ _)
   | (with_reducible exact integer_Normalize.mono _ _ _)
   | (with_reducible exact integer_Sign.mono _ _ _)
   | (with_reducible exact voussoirlaw02_fixed.mono _)
   | (with_reducible exact LeO.refl _)
   | (with_reducible exact LeO.none _)
   | (with_reducible refine LeO.ite ?_ ?_)
   | (with_reducible refine LeO.bind ?_ (fun _ => ?_))
   | exact ih0 _ _ _ _ _
   | exact ih1 _ _ _ _ _ _ _ _ _ _ _
   | exact integer_Add.mono _ _ _ _ _
   | exact integer_Cmp.mono _ _ _ _ _
   | exact integer_Div.mono _ _ _ _ _
   | exact integer_Mul.mono _ _ _ _ _
   | exact integer_Neg.mono _ _ _
   | exact integer_Normalize.mono _ _ _
   | exact integer_Sign.mono _ _ _
   | exact voussoirlaw02_fixed.mono _
   | exact LeO.none _
   | refine LeO.ite ?_ ?_
   | refine LeO.bind ?_ (fun _ => ?_)
def voussoirlaw02_IntegerDivision.T9 : Bool × List (List Nat × List Nat) := (true, [([], []), ([0, 0], [0]), ([1], [1]), ([1, 2], [1, 2]), ([3, 1], [3]), ([4], [4]), ([4], [4]), ([5, 6, 4, 4], [4, 5, 6]), ([4], [4]), ([7, 8, 7, 4], [4, 7, 8]), ([4], [4]), ([10, 9, 4], [4, 10]), ([9, 11, 4], [4, 9, 11]), ([4, 12], [4, 12]), ([13, 11], [13]), ([14], [14]), ([15, 14, 14], [14, 15]), ([16, 14], [14, 16]), ([14, 17], [14, 17]), ([18, 16], [18]), ([19], [19]), ([19], [19]), ([20, 21, 19, 19], [19, 20, 21]), ([22, 19], [19, 22]), ([19, 23], [19, 23]), ([24, 22, 0, 1, 2, 3, 4, 5, 6, 7, 8, 9, 10, 11, 12, 13, 14, 15, 16, 17, 18, 19, 20, 21, 22, 23, 24], [24])])
def voussoirlaw02_IntegerDivision.B9 : List Nat := [0, 1, 3, 7, 15, 31, 31, 127, 31, 511, 31, 2047, 4095, 8191, 16383, 32767, 65535, 131071, 262143, 524287, 1048575, 1048575, 4194303, 8388607, 16777215, 33554431]
theorem voussoirlaw02_IntegerDivision.tab9 : rtab .any (opsOf Tryd.f15 9) = voussoirlaw02_IntegerDivision.T9 := by kernel_rfl
theorem voussoirlaw02_IntegerDivision.bits9 : waitsOk voussoirlaw02_IntegerDivision.T9.2 voussoirlaw02_IntegerDivision.B9 = true := by kernel_rfl
set_option maxHeartbeats 8000000 in
set_option maxRecDepth 100000 in
theorem voussoirlaw02_IntegerDivision.calls (k : Nat) (a0_0 : Bool) (a0_1 : ByteArray) (a1_0 : Bool) (a1_1 : ByteArray) (r : Bool) (hr : r = true) (w : World) (hG : X.G w) (h : voussoirlaw02_IntegerDivision.f k a0_0 a0_1 a1_0 a1_1 = some r) :
  Calls Tryd.prog 15 #[.agg #[.bool a0_0, .string a0_1], .agg #[.bool a1_0, .string a1_1]] w fun e w' => e = .returned (.bool r) ∧ Below w.heap.size w w' := by
 have HR := Q.a hr
 clear hr
 have hu36 := Tryd.underlying36
 have HG := Q.a hG
 clear hG
 have HB := Q.a (Below.refl w.heap.size w)
 have H : (if (a0_1.size : Int) > 30 then (voussoirlaw02_IntegerDivision.j0 k true a0_0 a0_1 a1_0 a1_1) else (voussoirlaw02_IntegerDivision.j0 k (decide ((a1_1.size : Int) > 30)) a0_0 a0_1 a1_0 a1_1)) = some r := h
 clear h
 have HC3 := Q.a H
 clear H
 go_enter Tryd.func15, Tryd.ntmps15
 go_upto_region 1 with (first | ((with_reducible refine gate_dst (N := 2) rfl ?_); (try (refine gate_guard (by rfl) ?_; dsimp only)); refine Q.bx 2 #[.bool a0_0, .string a0_1] 36 rfl rfl ?_; intro gb856 hg w4 hbox hb; replace BK856 := Q.a (hbox); replace GW856 := Q.a (Q.gs hg (below_size (Q.bw HB))); replace GE856 := GW856; replace HB := Q.a (below_step (Q.bw HB) hb); clear hb hbox hg) | ((with_reducible refine gate_dst (N := 3) rfl ?_); (try (refine gate_guard (by rfl) ?_; dsimp only)); refine Q.bx 3 #[.bool a1_0, .string a1_1] 36 rfl rfl ?_; intro gb857 hg w5 hbox hb; replace BK857 := Q.a (hbox); replace GW857 := Q.a (Q.gs hg (below_size (Q.bw1 HB GE856))); replace GE857 := GW857; replace HB := Q.a (below_step (Q.bw1 HB GE856) hb); replace NB856_857 := Q.a (Q.nl hg BK856); replace NB857_856 := Q.a (Q.ng hg BK856); replace BK856 := Q.a (Q.bb BK856 hb); clear hb hbox hg))
 (try simp only [Act.put, List.setIfInBounds_toArray, List.set_cons_zero, List.set_cons_succ])
 go_cut [18] (fun v18 wc => ∃ (kq : Nat) (x18_2 : Bool), v18 = .bool x18_2 ∧ Aside0 (voussoirlaw02_IntegerDivision.j0 kq x18_2 a0_0 a0_1 a1_0 a1_1 = some r) ∧ Aside0 (kq ≤ k) ∧ Aside0 (wc.heap[gb856]? = some (.cells #[.bool a0_0, .string a0_1] 36 (0, 0))) ∧ Aside0 (wc.heap[gb857]? = some (.cells #[.bool a1_0, .string a1_1] 36 (0, 0))) ∧ Aside0 (Below w.heap.size w wc))
 case first =>
  have H := HC3.out
  clear HC3
  by_cases c6 : (a0_1.size : Int) > 30
  ·rw [if_pos c6] at H
   have c6b0 : decide (30 < (a0_1.size : Int)) = true := decide_eq_true c6
   have c6b1 : decide (30 < a0_1.size) = true := decide_eq_true (by omega)
   clear c6
   (first | rw [c6b0] | (simp only [i64_w, i32_w]; rw [c6b0]) | skip)
   have H' := Q.a H
   clear H
   have hnb7 := NB856_857.out
   have hnc7 := NB857_856.out
   have hcz8_0 : w5.cell? ⟨gb856, 0, none⟩ = some (.bool a0_0) := (blk_cell BK856.out 0).trans rfl
   have hcz8_1 : w5.cell? ⟨gb856, 1, none⟩ = some (.string a0_1) := (blk_cell BK856.out 1).trans rfl
   have hfz8_0 := blk_frozen BK856.out 0
   have hfz8_1 := blk_frozen BK856.out 1
   go_wp2
   go_meet
   case rel => exact ⟨_, (true), Q.rs, H', ⟨by first | omega | exact Nat.le_refl _⟩, ⟨Q.kb BK856⟩, ⟨Q.kb BK857⟩, ⟨Q.bw2 HB GE856 GE857⟩⟩
  ·rw [if_neg c6] at H
   have c6b0 : decide (30 < (a0_1.size : Int)) = false := decide_eq_false c6
   have c6b1 : decide (30 < a0_1.size) = false := decide_eq_false (by omega)
   clear c6
   (first | rw [c6b0] | (simp only [i64_w, i32_w]; rw [c6b0]) | skip)
   have H' := Q.a H
   clear H
   have hnb9 := NB856_857.out
   have hnc9 := NB857_856.out
   have hcz10_0 : w5.cell? ⟨gb856, 0, none⟩ = some (.bool a0_0) := (blk_cell BK856.out 0).trans rfl
   have hcz10_1 : w5.cell? ⟨gb856, 1, none⟩ = some (.string a0_1) := (blk_cell BK856.out 1).trans rfl
   have hfz10_0 := blk_frozen BK856.out 0
   have hfz10_1 := blk_frozen BK856.out 1
   have hcz11_0 : w5.cell? ⟨gb857, 0, none⟩ = some (.bool a1_0) := (blk_cell BK857.out 0).trans rfl
   have hcz11_1 : w5.cell? ⟨gb857, 1, none⟩ = some (.string a1_1) := (blk_cell BK857.out 1).trans rfl
   have hfz11_0 := blk_frozen BK857.out 0
   have hfz11_1 := blk_frozen BK857.out 1
   go_wp2
   go_meet
   case rel => exact ⟨_, (decide ((a1_1.size : Int) > 30)), Q.rs, H', ⟨by first | omega | exact Nat.le_refl _⟩, ⟨Q.kb BK856⟩, ⟨Q.kb BK857⟩, ⟨Q.bw2 HB GE856 GE857⟩⟩
 case rest =>
  clear HC3
  try clear c1
  try clear p2
  try clear c6
  try clear c6b0
  try clear c6b1
  try clear c7
  try clear c9
  try clear hcz10_0
  try clear hcz10_1
  try clear hcz11_0
  try clear hcz11_1
  try clear hcz8_0
  try clear hcz8_1
  try clear hfz10_0
  try clear hfz10_1
  try clear hfz11_0
  try clear hfz11_1
  try clear hfz8_0
  try clear hfz8_1
  obtain ⟨kq, x18_2, rfl, HA, HJ2, BK856, BK857, HB⟩ := hcut
  cases kq with
  | zero => exact absurd HA.out (by simp [voussoirlaw02_IntegerDivision.j0])
  | succ kj2 =>
   have H := HA.out
   clear HA
   simp only [voussoirlaw02_IntegerDivision.j0] at H
   by_cases c12 : x18_2 = true
   ·subst c12
    rw [if_pos rfl] at H
    replace H := Option.bind_eq_some_iff.mp H
    obtain ⟨t858, A130, H⟩ := H
    try dsimp only at H
    have A13 := Q.a A130
    clear A130
    obtain rfl := Option.some.inj H
    go_wp2_with (first | ((with_reducible refine gate_callee (f := 37) rfl ?_); refine Q.gl 19 Tryd.func37 #[] rfl rfl rfl rfl ?_; (with_reducible refine (voussoirlaw02_fixed.calls kj2  t858 HR.out _ ?side1 A13.out).mono ?_); (case side1 => exact X.G.below HG.out (Q.bw2 HB GE856 GE857)); rintro e w14 ⟨rfl, hb⟩; refine ⟨_, rfl, ?_⟩; replace BK856 := Q.a (Q.bb BK856 hb); replace BK857 := Q.a (Q.bb BK857 hb); replace HB := Q.a (below_step (Q.bw2 HB GE856 GE857) hb); (try clear hb)))
    go_ret
    exact ⟨Q.en, Q.bw2 HB GE856 GE857⟩
   ·replace c12 := Bool.eq_false_iff.mpr c12
    subst c12
    rw [if_neg (show ¬ (false = true) by decide)] at H
    replace H := Option.bind_eq_some_iff.mp H
    obtain ⟨⟨t859, t860, t861, t862, t863⟩, A150, H⟩ := H
    try dsimp only at H
    have A15 := Q.a A150
    clear A150
    replace H := Option.bind_eq_some_iff.mp H
    obtain ⟨t866, A160, H⟩ := H
    try dsimp only at H
    have A16 := Q.a A160
    clear A160
    by_cases c17 : t866 = 0
    ·rw [if_pos c17] at H
     have c17b0 : (t866 == 0) = true := beq_iff_eq.mpr c17
     have c17b1 : (t866 != 0) = false := bne_eq_false_iff_eq.mpr c17
     clear c17
     replace H := Option.bind_eq_some_iff.mp H
     obtain ⟨t867, A180, H⟩ := H
     try dsimp only at H
     have A18 := Q.a A180
     clear A180
     by_cases c19 : t867 = true
     ·subst c19
      rw [if_pos rfl] at H
      by_cases c20 : t863 = true
      ·subst c20
       rw [if_pos rfl] at H
       obtain rfl := Option.some.inj H
       exact absurd HR.out (by decide)
      ·replace c20 := Bool.eq_false_iff.mpr c20
       subst c20
       rw [if_neg (show ¬ (false = true) by decide)] at H
       by_cases c37 : (!t859 && (t860.toList == ([] : List UInt8))) = true
       ·rw [if_pos c37] at H
        have c37b0 : (!t859 && (t860.toList == ([] : List UInt8))) = true := c37
        have c37b2 : (!t859 && t860.toList.isEmpty) = true := by simpa using c37b0
        clear c37
        obtain rfl := Option.some.inj H
        have hnb38 := NB856_857.out
        have hnc38 := NB857_856.out
        have hcz39_0 : wc.cell? ⟨gb856, 0, none⟩ = some (.bool a0_0) := (blk_cell BK856.out 0).trans rfl
        have hcz39_1 : wc.cell? ⟨gb856, 1, none⟩ = some (.string a0_1) := (blk_cell BK856.out 1).trans rfl
        have hfz39_0 := blk_frozen BK856.out 0
        have hfz39_1 := blk_frozen BK856.out 1
        have hcz40_0 : wc.cell? ⟨gb857, 0, none⟩ = some (.bool a1_0) := (blk_cell BK857.out 0).trans rfl
        have hcz40_1 : wc.cell? ⟨gb857, 1, none⟩ = some (.string a1_1) := (blk_cell BK857.out 1).trans rfl
        have hfz40_0 := blk_frozen BK857.out 0
        have hfz40_1 := blk_frozen BK857.out 1
        go_wp2_with (first | ((with_reducible refine gate_callee (f := 38) rfl ?_); refine Q.gl 23 Tryd.func38 #[.agg #[.bool a0_0, .string a0_1], .agg #[.bool a1_0, .string a1_1]] rfl rfl rfl rfl ?_; (with_reducible refine (integer_Div.calls kj2 a0_0 a0_1 a1_0 a1_1 t859 t860 t861 t862 false _ A15.out).mono ?_); rintro e w41 ⟨rfl, hb⟩; refine ⟨_, rfl, ?_⟩; replace BK856 := Q.a (Q.bb BK856 hb); replace BK857 := Q.a (Q.bb BK857 hb); replace HB := Q.a (below_step (Q.bw2 HB GE856 GE857) hb); (try clear hb)) | ((with_reducible refine gate_dst (N := 5) rfl ?_); (try (refine gate_guard (by rfl) ?_; dsimp only)); refine Q.bx 5 #[.bool false, .string (⟨#[]⟩ : ByteArray)] 36 rfl rfl ?_; intro gb864 hg w42 hbox hb; replace BK864 := Q.a (hbox); replace GW864 := Q.a (Q.gs hg (below_size (Q.bw2 HB GE856 GE857))); replace GE864 := GW864; replace HB := Q.a (below_step (Q.bw2 HB GE856 GE857) hb); replace NB856_864 := Q.a (Q.nl hg BK856); replace NB864_856 := Q.a (Q.ng hg BK856); replace BK856 := Q.a (Q.bb BK856 hb); replace NB857_864 := Q.a (Q.nl hg BK857); replace NB864_857 := Q.a (Q.ng hg BK857); replace BK857 := Q.a (Q.bb BK857 hb); clear hb hbox hg) | ((with_reducible refine gate_dst (N := 6) rfl ?_); (try (refine gate_guard (by rfl) ?_; dsimp only)); refine Q.bx 6 #[.bool false, .string (⟨#[]⟩ : ByteArray)] 36 rfl rfl ?_; intro gb865 hg w43 hbox hb; replace BK865 := Q.a (hbox); replace GW865 := Q.a (Q.gs hg (below_size (Q.bw3 HB GE856 GE857 GE864))); replace GE865 := GW865; replace HB := Q.a (below_step (Q.bw3 HB GE856 GE857 GE864) hb); replace NB856_865 := Q.a (Q.nl hg BK856); replace NB865_856 := Q.a (Q.ng hg BK856); replace BK856 := Q.a (Q.bb BK856 hb); replace NB857_865 := Q.a (Q.nl hg BK857); replace NB865_857 := Q.a (Q.ng hg BK857); replace BK857 := Q.a (Q.bb BK857 hb); replace NB864_865 := Q.a (Q.nl hg BK864); replace NB865_864 := Q.a (Q.ng hg BK864); replace BK864 := Q.a (Q.bb BK864 hb); clear hb hbox hg; have hnb44 := NB864_856.out; have hnc44 := NB856_864.out; have hnb45 := NB864_857.out; have hnc45 := NB857_864.out; have hnb46 := NB864_865.out; have hnc46 := NB865_864.out; have hcz47_0 : w43.cell? ⟨gb864, 0, none⟩ = some (.bool false) := (blk_cell BK864.out 0).trans rfl; have hcz47_1 : w43.cell? ⟨gb864, 1, none⟩ = some (.string (⟨#[]⟩ : ByteArray)) := (blk_cell BK864.out 1).trans rfl; have hfz47_0 := blk_frozen BK864.out 0; have hfz47_1 := blk_frozen BK864.out 1; have hnb48 := NB865_856.out; have hnc48 := NB856_865.out; have hnb49 := NB865_857.out; have hnc49 := NB857_865.out; have hcz50_0 : w43.cell? ⟨gb865, 0, none⟩ = some (.bool false) := (blk_cell BK865.out 0).trans rfl; have hcz50_1 : w43.cell? ⟨gb865, 1, none⟩ = some (.string (⟨#[]⟩ : ByteArray)) := (blk_cell BK865.out 1).trans rfl; have hfz50_0 := blk_frozen BK865.out 0; have hfz50_1 := blk_frozen BK865.out 1; have hcz51_0 : w43.cell? ⟨gb857, 0, none⟩ = some (.bool a1_0) := (blk_cell BK857.out 0).trans rfl; have hcz51_1 : w43.cell? ⟨gb857, 1, none⟩ = some (.string a1_1) := (blk_cell BK857.out 1).trans rfl; have hfz51_0 := blk_frozen BK857.out 0; have hfz51_1 := blk_frozen BK857.out 1) | ((with_reducible refine gate_callee (f := 50) rfl ?_); refine Q.gl 28 Tryd.func50 #[.agg #[.bool a1_0, .string a1_1]] rfl rfl rfl rfl ?_; (with_reducible refine (integer_Sign.calls kj2 a1_0 a1_1 t866 _ A16.out).mono ?_); rintro e w52 ⟨rfl, hb⟩; refine ⟨_, rfl, ?_⟩; replace BK856 := Q.a (blk_below (g := gb856) (o := .cells #[.bool a0_0, .string a0_1] 36 (0, 0)) (by (with_reducible repeat (first | refine blk_drewN ?_ _ | refine blk_drew ?_ | refine blk_alloc ?_ _)); refine blk_far ?_ NB856_865.out _; (with_reducible repeat (first | refine blk_drewN ?_ _ | refine blk_drew ?_ | refine blk_alloc ?_ _)); refine blk_far ?_ NB856_865.out _; (with_reducible repeat (first | refine blk_drewN ?_ _ | refine blk_drew ?_ | refine blk_alloc ?_ _)); refine blk_far ?_ NB856_864.out _; (with_reducible repeat (first | refine blk_drewN ?_ _ | refine blk_drew ?_ | refine blk_alloc ?_ _)); refine blk_far ?_ NB856_864.out _; (with_reducible repeat (first | refine blk_drewN ?_ _ | refine blk_drew ?_ | refine blk_alloc ?_ _)); exact BK856.out) hb); replace BK857 := Q.a (blk_below (g := gb857) (o := .cells #[.bool a1_0, .string a1_1] 36 (0, 0)) (by (with_reducible repeat (first | refine blk_drewN ?_ _ | refine blk_drew ?_ | refine blk_alloc ?_ _)); refine blk_far ?_ NB857_865.out _; (with_reducible repeat (first | refine blk_drewN ?_ _ | refine blk_drew ?_ | refine blk_alloc ?_ _)); refine blk_far ?_ NB857_865.out _; (with_reducible repeat (first | refine blk_drewN ?_ _ | refine blk_drew ?_ | refine blk_alloc ?_ _)); refine blk_far ?_ NB857_864.out _; (with_reducible repeat (first | refine blk_drewN ?_ _ | refine blk_drew ?_ | refine blk_alloc ?_ _)); refine blk_far ?_ NB857_864.out _; (with_reducible repeat (first | refine blk_drewN ?_ _ | refine blk_drew ?_ | refine blk_alloc ?_ _)); exact BK857.out) hb); replace BK864 := Q.a (blk_below (g := gb864) (o := .cells #[.bool t859, .string t860] 36 (0, 0)) (by (with_reducible repeat (first | refine blk_drewN ?_ _ | refine blk_drew ?_ | refine blk_alloc ?_ _)); refine blk_far ?_ NB864_865.out _; (with_reducible repeat (first | refine blk_drewN ?_ _ | refine blk_drew ?_ | refine blk_alloc ?_ _)); refine blk_far ?_ NB864_865.out _; (with_reducible repeat (first | refine blk_drewN ?_ _ | refine blk_drew ?_ | refine blk_alloc ?_ _)); refine blk_put (cs := #[.bool t859, .string (⟨#[]⟩ : ByteArray)]) ?_ 1 _ (by first | rfl | (cases a0.toList <;> rfl) | (cases a1.toList <;> rfl)); (with_reducible repeat (first | refine blk_drewN ?_ _ | refine blk_drew ?_ | refine blk_alloc ?_ _)); refine blk_put (cs := #[.bool false, .string (⟨#[]⟩ : ByteArray)]) ?_ 0 _ (by first | rfl | (cases a0.toList <;> rfl) | (cases a1.toList <;> rfl)); (with_reducible repeat (first | refine blk_drewN ?_ _ | refine blk_drew ?_ | refine blk_alloc ?_ _)); exact BK864.out) hb); replace BK865 := Q.a (blk_below (g := gb865) (o := .cells #[.bool t861, .string t862] 36 (0, 0)) (by (with_reducible repeat (first | refine blk_drewN ?_ _ | refine blk_drew ?_ | refine blk_alloc ?_ _)); refine blk_put (cs := #[.bool t861, .string (⟨#[]⟩ : ByteArray)]) ?_ 1 _ (by first | rfl | (cases a0.toList <;> rfl) | (cases a1.toList <;> rfl)); (with_reducible repeat (first | refine blk_drewN ?_ _ | refine blk_drew ?_ | refine blk_alloc ?_ _)); refine blk_put (cs := #[.bool false, .string (⟨#[]⟩ : ByteArray)]) ?_ 0 _ (by first | rfl | (cases a0.toList <;> rfl) | (cases a1.toList <;> rfl)); (with_reducible repeat (first | refine blk_drewN ?_ _ | refine blk_drew ?_ | refine blk_alloc ?_ _)); refine blk_far ?_ NB865_864.out _; (with_reducible repeat (first | refine blk_drewN ?_ _ | refine blk_drew ?_ | refine blk_alloc ?_ _)); refine blk_far ?_ NB865_864.out _; (with_reducible repeat (first | refine blk_drewN ?_ _ | refine blk_drew ?_ | refine blk_alloc ?_ _)); exact BK865.out) hb); replace HB := Q.a (below_step (Q.bw4 HB GE856 GE857 GE864 GE865) hb); (try clear hb)) | ((with_reducible refine gate_callee (f := 37) rfl ?_); refine Q.gl 30 Tryd.func37 #[] rfl rfl rfl rfl ?_; (with_reducible refine (voussoirlaw02_fixed.calls kj2  true rfl _ ?side1 A18.out).mono ?_); (case side1 => exact X.G.below HG.out (Q.bw4 HB GE856 GE857 GE864 GE865)); rintro e w53 ⟨rfl, hb⟩; refine ⟨_, rfl, ?_⟩; replace BK856 := Q.a (Q.bb BK856 hb); replace BK857 := Q.a (Q.bb BK857 hb); replace BK864 := Q.a (Q.bb BK864 hb); replace BK865 := Q.a (Q.bb BK865 hb); replace HB := Q.a (below_step (Q.bw4 HB GE856 GE857 GE864 GE865) hb); (try clear hb); have hcz54_0 : w53.cell? ⟨gb864, 0, none⟩ = some (.bool t859) := (blk_cell BK864.out 0).trans rfl; have hcz54_1 : w53.cell? ⟨gb864, 1, none⟩ = some (.string t860) := (blk_cell BK864.out 1).trans rfl; have hfz54_0 := blk_frozen BK864.out 0; have hfz54_1 := blk_frozen BK864.out 1; have hcz55_0 : w53.cell? ⟨gb865, 0, none⟩ = some (.bool t861) := (blk_cell BK865.out 0).trans rfl; have hcz55_1 : w53.cell? ⟨gb865, 1, none⟩ = some (.string t862) := (blk_cell BK865.out 1).trans rfl; have hfz55_0 := blk_frozen BK865.out 0; have hfz55_1 := blk_frozen BK865.out 1))
        go_ret
        exact ⟨Q.en, Q.bw4 HB GE856 GE857 GE864 GE865⟩
       ·rw [if_neg c37] at H
        have c37b0 : (!t859 && (t860.toList == ([] : List UInt8))) = false := by simpa using c37
        clear c37
        obtain rfl := Option.some.inj H
        exact absurd HR.out (by decide)
     ·replace c19 := Bool.eq_false_iff.mpr c19
      subst c19
      rw [if_neg (show ¬ (false = true) by decide)] at H
      obtain rfl := Option.some.inj H
      exact absurd HR.out (by decide)
    ·rw [if_neg c17] at H
     have c17b0 : (t866 == 0) = false := beq_eq_false_iff_ne.mpr c17
     have c17b1 : (t866 != 0) = true := bne_iff_ne.mpr c17
     replace H := Option.bind_eq_some_iff.mp H
     obtain ⟨t869, A890, H⟩ := H
     try dsimp only at H
     have A89 := Q.a A890
     clear A890
     have HC90 := Q.a H
     clear H
     have hnb91 := NB856_857.out
     have hnc91 := NB857_856.out
     have hcz92_0 : wc.cell? ⟨gb856, 0, none⟩ = some (.bool a0_0) := (blk_cell BK856.out 0).trans rfl
     have hcz92_1 : wc.cell? ⟨gb856, 1, none⟩ = some (.string a0_1) := (blk_cell BK856.out 1).trans rfl
     have hfz92_0 := blk_frozen BK856.out 0
     have hfz92_1 := blk_frozen BK856.out 1
     have hcz93_0 : wc.cell? ⟨gb857, 0, none⟩ = some (.bool a1_0) := (blk_cell BK857.out 0).trans rfl
     have hcz93_1 : wc.cell? ⟨gb857, 1, none⟩ = some (.string a1_1) := (blk_cell BK857.out 1).trans rfl
     have hfz93_0 := blk_frozen BK857.out 0
     have hfz93_1 := blk_frozen BK857.out 1
     go_upto_if 48 with (first | ((with_reducible refine gate_callee (f := 38) rfl ?_); refine Q.gl 23 Tryd.func38 #[.agg #[.bool a0_0, .string a0_1], .agg #[.bool a1_0, .string a1_1]] rfl rfl rfl rfl ?_; (with_reducible refine (integer_Div.calls kj2 a0_0 a0_1 a1_0 a1_1 t859 t860 t861 t862 t863 _ A15.out).mono ?_); rintro e w94 ⟨rfl, hb⟩; refine ⟨_, rfl, ?_⟩; replace BK856 := Q.a (Q.bb BK856 hb); replace BK857 := Q.a (Q.bb BK857 hb); replace HB := Q.a (below_step (Q.bw2 HB GE856 GE857) hb); (try clear hb)) | ((with_reducible refine gate_dst (N := 5) rfl ?_); (try (refine gate_guard (by rfl) ?_; dsimp only)); refine Q.bx 5 #[.bool false, .string (⟨#[]⟩ : ByteArray)] 36 rfl rfl ?_; intro gb864 hg w95 hbox hb; replace BK864 := Q.a (hbox); replace GW864 := Q.a (Q.gs hg (below_size (Q.bw2 HB GE856 GE857))); replace GE864 := GW864; replace HB := Q.a (below_step (Q.bw2 HB GE856 GE857) hb); replace NB856_864 := Q.a (Q.nl hg BK856); replace NB864_856 := Q.a (Q.ng hg BK856); replace BK856 := Q.a (Q.bb BK856 hb); replace NB857_864 := Q.a (Q.nl hg BK857); replace NB864_857 := Q.a (Q.ng hg BK857); replace BK857 := Q.a (Q.bb BK857 hb); clear hb hbox hg) | ((with_reducible refine gate_dst (N := 6) rfl ?_); (try (refine gate_guard (by rfl) ?_; dsimp only)); refine Q.bx 6 #[.bool false, .string (⟨#[]⟩ : ByteArray)] 36 rfl rfl ?_; intro gb865 hg w96 hbox hb; replace BK865 := Q.a (hbox); replace GW865 := Q.a (Q.gs hg (below_size (Q.bw3 HB GE856 GE857 GE864))); replace GE865 := GW865; replace HB := Q.a (below_step (Q.bw3 HB GE856 GE857 GE864) hb); replace NB856_865 := Q.a (Q.nl hg BK856); replace NB865_856 := Q.a (Q.ng hg BK856); replace BK856 := Q.a (Q.bb BK856 hb); replace NB857_865 := Q.a (Q.nl hg BK857); replace NB865_857 := Q.a (Q.ng hg BK857); replace BK857 := Q.a (Q.bb BK857 hb); replace NB864_865 := Q.a (Q.nl hg BK864); replace NB865_864 := Q.a (Q.ng hg BK864); replace BK864 := Q.a (Q.bb BK864 hb); clear hb hbox hg; have hnb97 := NB864_856.out; have hnc97 := NB856_864.out; have hnb98 := NB864_857.out; have hnc98 := NB857_864.out; have hnb99 := NB864_865.out; have hnc99 := NB865_864.out; have hcz100_0 : w96.cell? ⟨gb864, 0, none⟩ = some (.bool false) := (blk_cell BK864.out 0).trans rfl; have hcz100_1 : w96.cell? ⟨gb864, 1, none⟩ = some (.string (⟨#[]⟩ : ByteArray)) := (blk_cell BK864.out 1).trans rfl; have hfz100_0 := blk_frozen BK864.out 0; have hfz100_1 := blk_frozen BK864.out 1; have hnb101 := NB865_856.out; have hnc101 := NB856_865.out; have hnb102 := NB865_857.out; have hnc102 := NB857_865.out; have hcz103_0 : w96.cell? ⟨gb865, 0, none⟩ = some (.bool false) := (blk_cell BK865.out 0).trans rfl; have hcz103_1 : w96.cell? ⟨gb865, 1, none⟩ = some (.string (⟨#[]⟩ : ByteArray)) := (blk_cell BK865.out 1).trans rfl; have hfz103_0 := blk_frozen BK865.out 0; have hfz103_1 := blk_frozen BK865.out 1; have hcz104_0 : w96.cell? ⟨gb857, 0, none⟩ = some (.bool a1_0) := (blk_cell BK857.out 0).trans rfl; have hcz104_1 : w96.cell? ⟨gb857, 1, none⟩ = some (.string a1_1) := (blk_cell BK857.out 1).trans rfl; have hfz104_0 := blk_frozen BK857.out 0; have hfz104_1 := blk_frozen BK857.out 1) | ((with_reducible refine gate_callee (f := 50) rfl ?_); refine Q.gl 28 Tryd.func50 #[.agg #[.bool a1_0, .string a1_1]] rfl rfl rfl rfl ?_; (with_reducible refine (integer_Sign.calls kj2 a1_0 a1_1 t866 _ A16.out).mono ?_); rintro e w105 ⟨rfl, hb⟩; refine ⟨_, rfl, ?_⟩; replace BK856 := Q.a (blk_below (g := gb856) (o := .cells #[.bool a0_0, .string a0_1] 36 (0, 0)) (by (with_reducible repeat (first | refine blk_drewN ?_ _ | refine blk_drew ?_ | refine blk_alloc ?_ _)); refine blk_far ?_ NB856_865.out _; (with_reducible repeat (first | refine blk_drewN ?_ _ | refine blk_drew ?_ | refine blk_alloc ?_ _)); refine blk_far ?_ NB856_865.out _; (with_reducible repeat (first | refine blk_drewN ?_ _ | refine blk_drew ?_ | refine blk_alloc ?_ _)); refine blk_far ?_ NB856_864.out _; (with_reducible repeat (first | refine blk_drewN ?_ _ | refine blk_drew ?_ | refine blk_alloc ?_ _)); refine blk_far ?_ NB856_864.out _; (with_reducible repeat (first | refine blk_drewN ?_ _ | refine blk_drew ?_ | refine blk_alloc ?_ _)); exact BK856.out) hb); replace BK857 := Q.a (blk_below (g := gb857) (o := .cells #[.bool a1_0, .string a1_1] 36 (0, 0)) (by (with_reducible repeat (first | refine blk_drewN ?_ _ | refine blk_drew ?_ | refine blk_alloc ?_ _)); refine blk_far ?_ NB857_865.out _; (with_reducible repeat (first | refine blk_drewN ?_ _ | refine blk_drew ?_ | refine blk_alloc ?_ _)); refine blk_far ?_ NB857_865.out _; (with_reducible repeat (first | refine blk_drewN ?_ _ | refine blk_drew ?_ | refine blk_alloc ?_ _)); refine blk_far ?_ NB857_864.out _; (with_reducible repeat (first | refine blk_drewN ?_ _ | refine blk_drew ?_ | refine blk_alloc ?_ _)); refine blk_far ?_ NB857_864.out _; (with_reducible repeat (first | refine blk_drewN ?_ _ | refine blk_drew ?_ | refine blk_alloc ?_ _)); exact BK857.out) hb); replace BK864 := Q.a (blk_below (g := gb864) (o := .cells #[.bool t859, .string t860] 36 (0, 0)) (by (with_reducible repeat (first | refine blk_drewN ?_ _ | refine blk_drew ?_ | refine blk_alloc ?_ _)); refine blk_far ?_ NB864_865.out _; (with_reducible repeat (first | refine blk_drewN ?_ _ | refine blk_drew ?_ | refine blk_alloc ?_ _)); refine blk_far ?_ NB864_865.out _; (with_reducible repeat (first | refine blk_drewN ?_ _ | refine blk_drew ?_ | refine blk_alloc ?_ _)); refine blk_put (cs := #[.bool t859, .string (⟨#[]⟩ : ByteArray)]) ?_ 1 _ (by first | rfl | (cases a0.toList <;> rfl) | (cases a1.toList <;> rfl)); (with_reducible repeat (first | refine blk_drewN ?_ _ | refine blk_drew ?_ | refine blk_alloc ?_ _)); refine blk_put (cs := #[.bool false, .string (⟨#[]⟩ : ByteArray)]) ?_ 0 _ (by first | rfl | (cases a0.toList <;> rfl) | (cases a1.toList <;> rfl)); (with_reducible repeat (first | refine blk_drewN ?_ _ | refine blk_drew ?_ | refine blk_alloc ?_ _)); exact BK864.out) hb); replace BK865 := Q.a (blk_below (g := gb865) (o := .cells #[.bool t861, .string t862] 36 (0, 0)) (by (with_reducible repeat (first | refine blk_drewN ?_ _ | refine blk_drew ?_ | refine blk_alloc ?_ _)); refine blk_put (cs := #[.bool t861, .string (⟨#[]⟩ : ByteArray)]) ?_ 1 _ (by first | rfl | (cases a0.toList <;> rfl) | (cases a1.toList <;> rfl)); (with_reducible repeat (first | refine blk_drewN ?_ _ | refine blk_drew ?_ | refine blk_alloc ?_ _)); refine blk_put (cs := #[.bool false, .string (⟨#[]⟩ : ByteArray)]) ?_ 0 _ (by first | rfl | (cases a0.toList <;> rfl) | (cases a1.toList <;> rfl)); (with_reducible repeat (first | refine blk_drewN ?_ _ | refine blk_drew ?_ | refine blk_alloc ?_ _)); refine blk_far ?_ NB865_864.out _; (with_reducible repeat (first | refine blk_drewN ?_ _ | refine blk_drew ?_ | refine blk_alloc ?_ _)); refine blk_far ?_ NB865_864.out _; (with_reducible repeat (first | refine blk_drewN ?_ _ | refine blk_drew ?_ | refine blk_alloc ?_ _)); exact BK865.out) hb); replace HB := Q.a (below_step (Q.bw4 HB GE856 GE857 GE864 GE865) hb); (try clear hb); have hcz106_0 : w105.cell? ⟨gb857, 0, none⟩ = some (.bool a1_0) := (blk_cell BK857.out 0).trans rfl; have hcz106_1 : w105.cell? ⟨gb857, 1, none⟩ = some (.string a1_1) := (blk_cell BK857.out 1).trans rfl; have hfz106_0 := blk_frozen BK857.out 0; have hfz106_1 := blk_frozen BK857.out 1) | ((with_reducible refine gate_dst (N := 8) rfl ?_); (try (refine gate_guard (by rfl) ?_; dsimp only)); refine Q.bx 8 #[.bool false, .string (⟨#[]⟩ : ByteArray)] 36 rfl rfl ?_; intro gb868 hg w107 hbox hb; replace BK868 := Q.a (hbox); replace GW868 := Q.a (Q.gs hg (below_size (Q.bw4 HB GE856 GE857 GE864 GE865))); replace GE868 := GW868; replace HB := Q.a (below_step (Q.bw4 HB GE856 GE857 GE864 GE865) hb); replace NB856_868 := Q.a (Q.nl hg BK856); replace NB868_856 := Q.a (Q.ng hg BK856); replace BK856 := Q.a (Q.bb BK856 hb); replace NB857_868 := Q.a (Q.nl hg BK857); replace NB868_857 := Q.a (Q.ng hg BK857); replace BK857 := Q.a (Q.bb BK857 hb); replace NB864_868 := Q.a (Q.nl hg BK864); replace NB868_864 := Q.a (Q.ng hg BK864); replace BK864 := Q.a (Q.bb BK864 hb); replace NB865_868 := Q.a (Q.nl hg BK865); replace NB868_865 := Q.a (Q.ng hg BK865); replace BK865 := Q.a (Q.bb BK865 hb); clear hb hbox hg; have hnb108 := NB868_856.out; have hnc108 := NB856_868.out; have hnb109 := NB868_857.out; have hnc109 := NB857_868.out; have hnb110 := NB868_864.out; have hnc110 := NB864_868.out; have hnb111 := NB868_865.out; have hnc111 := NB865_868.out; have hcz112_0 : w107.cell? ⟨gb868, 0, none⟩ = some (.bool false) := (blk_cell BK868.out 0).trans rfl; have hcz112_1 : w107.cell? ⟨gb868, 1, none⟩ = some (.string (⟨#[]⟩ : ByteArray)) := (blk_cell BK868.out 1).trans rfl; have hfz112_0 := blk_frozen BK868.out 0; have hfz112_1 := blk_frozen BK868.out 1; have hcz113_0 : w107.cell? ⟨gb857, 0, none⟩ = some (.bool a1_0) := (blk_cell BK857.out 0).trans rfl; have hcz113_1 : w107.cell? ⟨gb857, 1, none⟩ = some (.string a1_1) := (blk_cell BK857.out 1).trans rfl; have hfz113_0 := blk_frozen BK857.out 0; have hfz113_1 := blk_frozen BK857.out 1) | ((with_reducible refine gate_callee (f := 50) rfl ?_); refine Q.gl 47 Tryd.func50 #[.agg #[.bool a1_0, .string a1_1]] rfl rfl rfl rfl ?_; (with_reducible refine (integer_Sign.calls kj2 a1_0 a1_1 t869 _ A89.out).mono ?_); rintro e w114 ⟨rfl, hb⟩; refine ⟨_, rfl, ?_⟩; replace BK856 := Q.a (Q.bf BK856 NB856_868 hb); replace BK857 := Q.a (Q.bf BK857 NB857_868 hb); replace BK864 := Q.a (Q.bf BK864 NB864_868 hb); replace BK865 := Q.a (Q.bf BK865 NB865_868 hb); replace BK868 := Q.a (blk_below (g := gb868) (o := .cells #[.bool a1_0, .string a1_1] 36 (0, 0)) (by (with_reducible repeat (first | refine blk_drewN ?_ _ | refine blk_drew ?_ | refine blk_alloc ?_ _)); refine blk_put (cs := #[.bool a1_0, .string (⟨#[]⟩ : ByteArray)]) ?_ 1 _ (by first | rfl | (cases a0.toList <;> rfl) | (cases a1.toList <;> rfl)); (with_reducible repeat (first | refine blk_drewN ?_ _ | refine blk_drew ?_ | refine blk_alloc ?_ _)); refine blk_put (cs := #[.bool false, .string (⟨#[]⟩ : ByteArray)]) ?_ 0 _ (by first | rfl | (cases a0.toList <;> rfl) | (cases a1.toList <;> rfl)); (with_reducible repeat (first | refine blk_drewN ?_ _ | refine blk_drew ?_ | refine blk_alloc ?_ _)); exact BK868.out) hb); replace HB := Q.a (below_step (Q.bw5 HB GE856 GE857 GE864 GE865 GE868) hb); (try clear hb)))
     (try simp only [Act.put, List.setIfInBounds_toArray, List.set_cons_zero, List.set_cons_succ])
     go_cut [] (fun wc => ∃ (kq : Nat) (x869000_89 : Bool) (x869001_89 : ByteArray), Aside0 (voussoirlaw02_IntegerDivision.j1 kq t863 a0_0 a0_1 a1_0 a1_1 t859 t860 t861 t862 x869000_89 x869001_89 = some r) ∧ Aside0 (kq ≤ kj2) ∧ Aside0 (wc.heap[gb856]? = some (.cells #[.bool a0_0, .string a0_1] 36 (0, 0))) ∧ Aside0 (wc.heap[gb857]? = some (.cells #[.bool a1_0, .string a1_1] 36 (0, 0))) ∧ Aside0 (wc.heap[gb864]? = some (.cells #[.bool t859, .string t860] 36 (0, 0))) ∧ Aside0 (wc.heap[gb865]? = some (.cells #[.bool t861, .string t862] 36 (0, 0))) ∧ Aside0 (wc.heap[gb868]? = some (.cells #[.bool x869000_89, .string x869001_89] 36 (0, 0))) ∧ Aside0 (Below w.heap.size w wc))
     case first =>
      have H := HC90.out
      clear HC90
      by_cases c115 : t869 < 0
      ·rw [if_pos c115] at H
       have c115b0 : decide (t869 < 0) = true := decide_eq_true c115
       clear c115
       (first | rw [c115b0] | (simp only [i64_w, i32_w]; rw [c115b0]) | skip)
       replace H := Option.bind_eq_some_iff.mp H
       obtain ⟨⟨t870, t871⟩, A1160, H⟩ := H
       try dsimp only at H
       have A116 := Q.a A1160
       clear A1160
       have H' := Q.a H
       clear H
       have hnb117 := NB857_856.out
       have hnc117 := NB856_857.out
       have hnb118 := NB857_864.out
       have hnc118 := NB864_857.out
       have hnb119 := NB857_865.out
       have hnc119 := NB865_857.out
       have hnb120 := NB857_868.out
       have hnc120 := NB868_857.out
       have hcz121_0 : w114.cell? ⟨gb857, 0, none⟩ = some (.bool a1_0) := (blk_cell BK857.out 0).trans rfl
       have hcz121_1 : w114.cell? ⟨gb857, 1, none⟩ = some (.string a1_1) := (blk_cell BK857.out 1).trans rfl
       have hfz121_0 := blk_frozen BK857.out 0
       have hfz121_1 := blk_frozen BK857.out 1
       go_wp2_with (first | ((with_reducible refine gate_callee (f := 46) rfl ?_); refine Q.gl 50 Tryd.func46 #[.agg #[.bool a1_0, .string a1_1]] rfl rfl rfl rfl ?_; (with_reducible refine (integer_Neg.calls kj2 a1_0 a1_1 t870 t871 _ A116.out).mono ?_); rintro e w122 ⟨rfl, hb⟩; refine ⟨_, rfl, ?_⟩; replace BK856 := Q.a (Q.bb BK856 hb); replace BK857 := Q.a (Q.bb BK857 hb); replace BK864 := Q.a (Q.bb BK864 hb); replace BK865 := Q.a (Q.bb BK865 hb); replace BK868 := Q.a (Q.bb BK868 hb); replace HB := Q.a (below_step (Q.bw5 HB GE856 GE857 GE864 GE865 GE868) hb); (try clear hb); have hnb123 := NB868_856.out; have hnc123 := NB856_868.out; have hnb124 := NB868_864.out; have hnc124 := NB864_868.out; have hnb125 := NB868_865.out; have hnc125 := NB865_868.out; have hcz126_0 : w122.cell? ⟨gb868, 0, none⟩ = some (.bool a1_0) := (blk_cell BK868.out 0).trans rfl; have hcz126_1 : w122.cell? ⟨gb868, 1, none⟩ = some (.string a1_1) := (blk_cell BK868.out 1).trans rfl; have hfz126_0 := blk_frozen BK868.out 0; have hfz126_1 := blk_frozen BK868.out 1))
       go_meet
       case rel => exact ⟨_, (t870), (t871), H', ⟨by have := HJ2.out; first | omega | exact Nat.le_refl _⟩, ⟨Q.kf BK856 NB856_868⟩, ⟨Q.kf BK857 NB857_868⟩, ⟨Q.kf BK864 NB864_868⟩, ⟨Q.kf BK865 NB865_868⟩, ⟨by (with_reducible repeat (first | refine blk_drewN ?_ _ | refine blk_drew ?_ | refine blk_alloc ?_ _)); refine blk_put (cs := #[.bool t870, .string a1_1]) ?_ 1 _ (by first | rfl | (cases a0.toList <;> rfl) | (cases a1.toList <;> rfl)); (with_reducible repeat (first | refine blk_drewN ?_ _ | refine blk_drew ?_ | refine blk_alloc ?_ _)); refine blk_put (cs := #[.bool a1_0, .string a1_1]) ?_ 0 _ (by first | rfl | (cases a0.toList <;> rfl) | (cases a1.toList <;> rfl)); (with_reducible repeat (first | refine blk_drewN ?_ _ | refine blk_drew ?_ | refine blk_alloc ?_ _)); exact BK868.out⟩, ⟨Q.bw5 HB GE856 GE857 GE864 GE865 GE868⟩⟩
      ·rw [if_neg c115] at H
       have c115b0 : decide (t869 < 0) = false := decide_eq_false c115
       clear c115
       (first | rw [c115b0] | (simp only [i64_w, i32_w]; rw [c115b0]) | skip)
       have H' := Q.a H
       clear H
       go_wp2
       go_meet
       case rel => exact ⟨_, (a1_0), (a1_1), H', ⟨by have := HJ2.out; first | omega | exact Nat.le_refl _⟩, ⟨Q.kb BK856⟩, ⟨Q.kb BK857⟩, ⟨Q.kb BK864⟩, ⟨Q.kb BK865⟩, ⟨Q.kb BK868⟩, ⟨Q.bw5 HB GE856 GE857 GE864 GE865 GE868⟩⟩
     case rest =>
      clear HC90
      try clear c1
      try clear c2
      try clear p2
      try clear c3
      try clear c4
      try clear c5
      try clear c6
      try clear c6b0
      try clear c6b1
      try clear c7
      try clear c8
      try clear c9
      try clear c10
      try clear c11
      try clear c12
      try clear c15
      try clear c17
      try clear c17b0
      try clear c17b1
      try clear c19
      try clear c20
      try clear c21
      try clear c27
      try clear c28
      try clear c29
      try clear c31
      try clear c32
      try clear c37
      try clear c37b0
      try clear c38
      try clear c44
      try clear c45
      try clear c46
      try clear c48
      try clear c49
      try clear c50
      try clear c56
      try clear c62
      try clear c63
      try clear c64
      try clear c66
      try clear c67
      try clear c73
      try clear c79
      try clear c80
      try clear c81
      try clear c83
      try clear c84
      try clear c91
      try clear c97
      try clear c98
      try clear c99
      try clear c101
      try clear c102
      try clear c108
      try clear c109
      try clear c110
      try clear c111
      try clear c115
      try clear c115b0
      try clear c117
      try clear c118
      try clear c119
      try clear c120
      try clear c123
      try clear c124
      try clear c125
      try clear hcz100_0
      try clear hcz100_1
      try clear hcz103_0
      try clear hcz103_1
      try clear hcz104_0
      try clear hcz104_1
      try clear hcz106_0
      try clear hcz106_1
      try clear hcz10_0
      try clear hcz10_1
      try clear hcz112_0
      try clear hcz112_1
      try clear hcz113_0
      try clear hcz113_1
      try clear hcz11_0
      try clear hcz11_1
      try clear hcz121_0
      try clear hcz121_1
      try clear hcz126_0
      try clear hcz126_1
      try clear hcz22_0
      try clear hcz22_1
      try clear hcz23_0
      try clear hcz23_1
      try clear hcz30_0
      try clear hcz30_1
      try clear hcz33_0
      try clear hcz33_1
      try clear hcz34_0
      try clear hcz34_1
      try clear hcz39_0
      try clear hcz39_1
      try clear hcz40_0
      try clear hcz40_1
      try clear hcz47_0
      try clear hcz47_1
      try clear hcz50_0
      try clear hcz50_1
      try clear hcz51_0
      try clear hcz51_1
      try clear hcz54_0
      try clear hcz54_1
      try clear hcz55_0
      try clear hcz55_1
      try clear hcz57_0
      try clear hcz57_1
      try clear hcz58_0
      try clear hcz58_1
      try clear hcz65_0
      try clear hcz65_1
      try clear hcz68_0
      try clear hcz68_1
      try clear hcz69_0
      try clear hcz69_1
      try clear hcz72_0
      try clear hcz72_1
      try clear hcz74_0
      try clear hcz74_1
      try clear hcz75_0
      try clear hcz75_1
      try clear hcz82_0
      try clear hcz82_1
      try clear hcz85_0
      try clear hcz85_1
      try clear hcz86_0
      try clear hcz86_1
      try clear hcz8_0
      try clear hcz8_1
      try clear hcz92_0
      try clear hcz92_1
      try clear hcz93_0
      try clear hcz93_1
      try clear hfz100_0
      try clear hfz100_1
      try clear hfz103_0
      try clear hfz103_1
      try clear hfz104_0
      try clear hfz104_1
      try clear hfz106_0
      try clear hfz106_1
      try clear hfz10_0
      try clear hfz10_1
      try clear hfz112_0
      try clear hfz112_1
      try clear hfz113_0
      try clear hfz113_1
      try clear hfz11_0
      try clear hfz11_1
      try clear hfz121_0
      try clear hfz121_1
      try clear hfz126_0
      try clear hfz126_1
      try clear hfz22_0
      try clear hfz22_1
      try clear hfz23_0
      try clear hfz23_1
      try clear hfz30_0
      try clear hfz30_1
      try clear hfz33_0
      try clear hfz33_1
      try clear hfz34_0
      try clear hfz34_1
      try clear hfz39_0
      try clear hfz39_1
      try clear hfz40_0
      try clear hfz40_1
      try clear hfz47_0
      try clear hfz47_1
      try clear hfz50_0
      try clear hfz50_1
      try clear hfz51_0
      try clear hfz51_1
      try clear hfz54_0
      try clear hfz54_1
      try clear hfz55_0
      try clear hfz55_1
      try clear hfz57_0
      try clear hfz57_1
      try clear hfz58_0
      try clear hfz58_1
      try clear hfz65_0
      try clear hfz65_1
      try clear hfz68_0
      try clear hfz68_1
      try clear hfz69_0
      try clear hfz69_1
      try clear hfz72_0
      try clear hfz72_1
      try clear hfz74_0
      try clear hfz74_1
      try clear hfz75_0
      try clear hfz75_1
      try clear hfz82_0
      try clear hfz82_1
      try clear hfz85_0
      try clear hfz85_1
      try clear hfz86_0
      try clear hfz86_1
      try clear hfz8_0
      try clear hfz8_1
      try clear hfz92_0
      try clear hfz92_1
      try clear hfz93_0
      try clear hfz93_1
      try clear p2
      obtain ⟨kq, x869000_89, x869001_89, HA, HJ89, BK856, BK857, BK864, BK865, BK868, HB⟩ := hcut
      cases kq with
      | zero => exact absurd HA.out (by simp [voussoirlaw02_IntegerDivision.j1])
      | succ kj89 =>
       have H := HA.out
       clear HA
       simp only [voussoirlaw02_IntegerDivision.j1] at H
       replace H := Option.bind_eq_some_iff.mp H
       obtain ⟨t872, A1270, H⟩ := H
       try dsimp only at H
       have A127 := Q.a A1270
       clear A1270
       by_cases c128 : t872 = true
       ·subst c128
        rw [if_pos rfl] at H
        by_cases c129 : t863 = true
        ·subst c129
         rw [if_pos rfl] at H
         replace H := Option.bind_eq_some_iff.mp H
         obtain ⟨⟨t873, t874⟩, A1300, H⟩ := H
         try dsimp only at H
         have A130 := Q.a A1300
         clear A1300
         replace H := Option.bind_eq_some_iff.mp H
         obtain ⟨⟨t875, t876⟩, A1310, H⟩ := H
         try dsimp only at H
         have A131 := Q.a A1310
         clear A1310
         replace H := Option.bind_eq_some_iff.mp H
         obtain ⟨⟨t877, t878⟩, A1320, H⟩ := H
         try dsimp only at H
         have A132 := Q.a A1320
         clear A1320
         by_cases c133 : (t875 == t877 && (t876.toList == t878.toList)) = true
         ·rw [if_pos c133] at H
          have c133b0 : (t875 == t877 && (t876.toList == t878.toList)) = true := c133
          (try (have c133b1 : decide (t875 = t877 && (t876.toList == t878.toList)) = true := by simpa using c133))
          (try (have c133b2 : (t875 == t877 && (t876.toList == t878.toList)) = true := by simpa using c133))
          clear c133
          replace H := Option.bind_eq_some_iff.mp H
          obtain ⟨t879, A1340, H⟩ := H
          try dsimp only at H
          have A134 := Q.a A1340
          clear A1340
          by_cases c135 : t879 ≥ 0
          ·rw [if_pos c135] at H
           have c135b0 : decide (0 ≤ t879) = true := decide_eq_true c135
           clear c135
           replace H := Option.bind_eq_some_iff.mp H
           obtain ⟨t880, A1360, H⟩ := H
           try dsimp only at H
           have A136 := Q.a A1360
           clear A1360
           obtain rfl := Option.some.inj H
           try go_wp2
           replace BK856 := Q.a (blk_drew BK856.out)
           replace BK857 := Q.a (blk_drew BK857.out)
           replace BK864 := Q.a (blk_drew BK864.out)
           replace BK865 := Q.a (blk_drew BK865.out)
           replace BK868 := Q.a (blk_drew BK868.out)
           replace HB := Q.a (below_drew1 HB.out)
           refine start_ (n := 26) (S := fun w' => w'.cell? ⟨gb864, 0, none⟩ = some (.bool t859) ∧ w'.cell? ⟨gb864, 1, none⟩ = some (.string t860) ∧ w'.cell? ⟨gb857, 0, none⟩ = some (.bool a1_0) ∧ w'.cell? ⟨gb857, 1, none⟩ = some (.string a1_1) ∧ w'.cell? ⟨gb865, 0, none⟩ = some (.bool t861) ∧ w'.cell? ⟨gb865, 1, none⟩ = some (.string t862) ∧ w'.cell? ⟨gb856, 0, none⟩ = some (.bool a0_0) ∧ w'.cell? ⟨gb856, 1, none⟩ = some (.string a0_1) ∧ w'.cell? ⟨gb868, 0, none⟩ = some (.bool x869000_89) ∧ w'.cell? ⟨gb868, 1, none⟩ = some (.string x869001_89)) (ds := []) #[false, false, false, false, false, false, false, false, false, false, false, false, false, false, false, false, false, false, false, false, false, false, false, false, false, false] (by kernel_rfl) rfl rfl ⟨(blk_cell BK864.out 0).trans rfl, (blk_cell BK864.out 1).trans rfl, (blk_cell BK857.out 0).trans rfl, (blk_cell BK857.out 1).trans rfl, (blk_cell BK865.out 0).trans rfl, (blk_cell BK865.out 1).trans rfl, (blk_cell BK856.out 0).trans rfl, (blk_cell BK856.out 1).trans rfl, (blk_cell BK868.out 0).trans rfl, (blk_cell BK868.out 1).trans rfl⟩ (fun hHeld => ?_); refine with_tabW voussoirlaw02_IntegerDivision.tab9 voussoirlaw02_IntegerDivision.bits9 (fun HT_ HW_ => ?_)
           generalize wc.drew = w137 at BK856 BK857 BK864 BK865 BK868 HB hHeld ⊢
           refine one_ (i := 0) (N := some 51) #[true, false, false, false, false, false, false, false, false, false, false, false, false, false, false, false, false, false, false, false, false, false, false, false, false, false] rfl rfl (one_of HT_.out (by kernel_rfl)) (by decide) (fun K hK => ?_)
           refine goes_ Tryd.func37 (by kernel_rfl) rfl #[] (by rfl) rfl rfl (by (try simp only [List.map_toArray, List.map_cons, List.map_nil]); first | done | rfl | (simp only [List.length_drop, List.length_take]; rfl)) ?_
           with_reducible refine (voussoirlaw02_fixed.calls kj89  true rfl _ ?side1 A127.out).mono ?_
           (case side1 => exact X.G.below HG.out (Q.bw5 HB GE856 GE857 GE864 GE865 GE868))
           rintro e w138 ⟨rfl, hb⟩
           refine ⟨_, rfl, ?_⟩
           replace BK856 := Q.a (Q.bb BK856 hb)
           replace BK857 := Q.a (Q.bb BK857 hb)
           replace BK864 := Q.a (Q.bb BK864 hb)
           replace BK865 := Q.a (Q.bb BK865 hb)
           replace BK868 := Q.a (Q.bb BK868 hb)
           replace HB := Q.a (below_step (Q.bw5 HB GE856 GE857 GE864 GE865 GE868) hb)
           (try clear hb)
           (try clear hb2)
           (try clear hk)
           (try clear hi)
           refine hK.out _ _ ⟨(blk_cell BK864.out 0).trans rfl, (blk_cell BK864.out 1).trans rfl, (blk_cell BK857.out 0).trans rfl, (blk_cell BK857.out 1).trans rfl, (blk_cell BK865.out 0).trans rfl, (blk_cell BK865.out 1).trans rfl, (blk_cell BK856.out 0).trans rfl, (blk_cell BK856.out 1).trans rfl, (blk_cell BK868.out 0).trans rfl, (blk_cell BK868.out 1).trans rfl⟩ (fun hHeld => ?_)
           clear hK K
           refine norm_ (a' := ?_) ?_ ?_
           rotate_left
           ·show Act.put _ (some 51) _ = _
            simp only [Act.put, List.setIfInBounds_toArray, List.set_cons_zero, List.set_cons_succ, i64_w, i32_w]
            rfl
           refine pure_ (i := 1) (N := some 52) (v := ?_) (a' := ?_) #[true, true, false, false, false, false, false, false, false, false, false, false, false, false, false, false, false, false, false, false, false, false, false, false, false, false] rfl rfl (any_of HT_.out (by kernel_rfl)) (fun _ _ _ h => h) (Or.inl ⟨by rfl, ?_⟩) ?_ ?_
           rotate_left
           ·intro w'
            go_simp
            with_reducible rfl
           rotate_left
           ·simp only [Act.put, List.setIfInBounds_toArray, List.set_cons_zero, List.set_cons_succ, i64_w, i32_w]
            rfl
           refine pure_ (i := 2) (N := some 53) (v := ?_) (a' := ?_) #[true, true, true, false, false, false, false, false, false, false, false, false, false, false, false, false, false, false, false, false, false, false, false, false, false, false] rfl rfl (any_of HT_.out (by kernel_rfl)) (fun _ _ _ h => h) (Or.inl ⟨by rfl, ?_⟩) ?_ ?_
           rotate_left
           ·intro w'
            go_simp
            with_reducible rfl
           rotate_left
           ·simp only [Act.put, List.setIfInBounds_toArray, List.set_cons_zero, List.set_cons_succ, i64_w, i32_w]
            rfl
           refine pure_ (i := 3) (N := some 54) (v := ?_) (a' := ?_) #[true, true, true, true, false, false, false, false, false, false, false, false, false, false, false, false, false, false, false, false, false, false, false, false, false, false] rfl rfl (any_of HT_.out (by kernel_rfl)) (fun _ _ _ h => h) (Or.inl ⟨by rfl, ?_⟩) ?_ ?_
           rotate_left
           ·intro w'
            go_simp
            with_reducible rfl
           rotate_left
           ·simp only [Act.put, List.setIfInBounds_toArray, List.set_cons_zero, List.set_cons_succ, i64_w, i32_w]
            rfl
           refine pure_ (i := 4) (N := some 55) (v := ?_) (a' := ?_) #[true, true, true, true, true, false, false, false, false, false, false, false, false, false, false, false, false, false, false, false, false, false, false, false, false, false] rfl rfl (any_of HT_.out (by kernel_rfl)) (fun _ _ _ h => h) (Or.inl ⟨by rfl, ?_⟩) ?_ ?_
           rotate_left
           ·intro w'
            go_simp
            with_reducible rfl
           rotate_left
           ·simp only [Act.put, List.setIfInBounds_toArray, List.set_cons_zero, List.set_cons_succ, i64_w, i32_w]
            rfl
           refine take_ (i := 5) (N := some 56) (v := ?_) (a' := ?_) #[true, true, true, true, true, true, false, false, false, false, false, false, false, false, false, false, false, false, false, false, false, false, false, false, false, false] rfl rfl (take_ofW HT_.out HW_.out (by kernel_rfl)) (fun _ _ _ h => h) (Or.inl ⟨by rfl, ?_⟩) hHeld ?_ ?_
           rotate_left
           ·rintro w' ⟨s0, s1, s2, s3, s4, s5, s6, s7, s8, s9⟩
            go_simp
            with_reducible rfl
           rotate_left
           ·simp only [Act.put, List.setIfInBounds_toArray, List.set_cons_zero, List.set_cons_succ, i64_w, i32_w]
            rfl
           refine take_ (i := 6) (N := some 57) (v := ?_) (a' := ?_) #[true, true, true, true, true, true, true, false, false, false, false, false, false, false, false, false, false, false, false, false, false, false, false, false, false, false] rfl rfl (take_ofW HT_.out HW_.out (by kernel_rfl)) (fun _ _ _ h => h) (Or.inl ⟨by rfl, ?_⟩) hHeld ?_ ?_
           rotate_left
           ·rintro w' ⟨s0, s1, s2, s3, s4, s5, s6, s7, s8, s9⟩
            go_simp
            with_reducible rfl
           rotate_left
           ·simp only [Act.put, List.setIfInBounds_toArray, List.set_cons_zero, List.set_cons_succ, i64_w, i32_w]
            rfl
           refine take_ (i := 8) (N := some 59) (v := ?_) (a' := ?_) #[true, true, true, true, true, true, true, false, true, false, false, false, false, false, false, false, false, false, false, false, false, false, false, false, false, false] rfl rfl (take_ofW HT_.out HW_.out (by kernel_rfl)) (fun _ _ _ h => h) (Or.inl ⟨by rfl, ?_⟩) hHeld ?_ ?_
           rotate_left
           ·rintro w' ⟨s0, s1, s2, s3, s4, s5, s6, s7, s8, s9⟩
            go_simp
            with_reducible rfl
           rotate_left
           ·simp only [Act.put, List.setIfInBounds_toArray, List.set_cons_zero, List.set_cons_succ, i64_w, i32_w]
            rfl
           refine take_ (i := 10) (N := some 61) (v := ?_) (a' := ?_) #[true, true, true, true, true, true, true, false, true, false, true, false, false, false, false, false, false, false, false, false, false, false, false, false, false, false] rfl rfl (take_ofW HT_.out HW_.out (by kernel_rfl)) (fun _ _ _ h => h) (Or.inl ⟨by rfl, ?_⟩) hHeld ?_ ?_
           rotate_left
           ·rintro w' ⟨s0, s1, s2, s3, s4, s5, s6, s7, s8, s9⟩
            go_simp
            with_reducible rfl
           rotate_left
           ·simp only [Act.put, List.setIfInBounds_toArray, List.set_cons_zero, List.set_cons_succ, i64_w, i32_w]
            rfl
           refine one_ (i := 7) (N := some 58) #[true, true, true, true, true, true, true, true, true, false, true, false, false, false, false, false, false, false, false, false, false, false, false, false, false, false] rfl rfl (one_of HT_.out (by kernel_rfl)) (by decide) (fun K hK => ?_)
           refine goes_ Tryd.func40 (by kernel_rfl) rfl #[.agg #[.bool t859, .string t860], .agg #[.bool a1_0, .string a1_1]] (by rfl) rfl rfl (by (try simp only [List.map_toArray, List.map_cons, List.map_nil]); first | done | rfl | (simp only [List.length_drop, List.length_take]; rfl)) ?_
           with_reducible refine (integer_Mul.calls kj89 t859 t860 a1_0 a1_1 t873 t874 _ A130.out).mono ?_
           rintro e w139 ⟨rfl, hb⟩
           refine ⟨_, rfl, ?_⟩
           replace BK856 := Q.a (Q.bb BK856 hb)
           replace BK857 := Q.a (Q.bb BK857 hb)
           replace BK864 := Q.a (Q.bb BK864 hb)
           replace BK865 := Q.a (Q.bb BK865 hb)
           replace BK868 := Q.a (Q.bb BK868 hb)
           replace HB := Q.a (below_step (Q.bw5 HB GE856 GE857 GE864 GE865 GE868) hb)
           (try clear hb)
           (try clear hb2)
           (try clear hk)
           (try clear hi)
           refine hK.out _ _ ⟨(blk_cell BK864.out 0).trans rfl, (blk_cell BK864.out 1).trans rfl, (blk_cell BK857.out 0).trans rfl, (blk_cell BK857.out 1).trans rfl, (blk_cell BK865.out 0).trans rfl, (blk_cell BK865.out 1).trans rfl, (blk_cell BK856.out 0).trans rfl, (blk_cell BK856.out 1).trans rfl, (blk_cell BK868.out 0).trans rfl, (blk_cell BK868.out 1).trans rfl⟩ (fun hHeld => ?_)
           clear hK K
           refine norm_ (a' := ?_) ?_ ?_
           rotate_left
           ·show Act.put _ (some 58) _ = _
            simp only [Act.put, List.setIfInBounds_toArray, List.set_cons_zero, List.set_cons_succ, i64_w, i32_w]
            rfl
           refine one_ (i := 9) (N := some 60) #[true, true, true, true, true, true, true, true, true, true, true, false, false, false, false, false, false, false, false, false, false, false, false, false, false, false] rfl rfl (one_of HT_.out (by kernel_rfl)) (by decide) (fun K hK => ?_)
           refine goes_ Tryd.func42 (by kernel_rfl) rfl #[.agg #[.bool t873, .string t874], .agg #[.bool t861, .string t862]] (by rfl) rfl rfl (by (try simp only [List.map_toArray, List.map_cons, List.map_nil]); first | done | rfl | (simp only [List.length_drop, List.length_take]; rfl)) ?_
           with_reducible refine (integer_Add.calls kj89 t873 t874 t861 t862 t875 t876 _ A131.out).mono ?_
           rintro e w140 ⟨rfl, hb⟩
           refine ⟨_, rfl, ?_⟩
           replace BK856 := Q.a (Q.bb BK856 hb)
           replace BK857 := Q.a (Q.bb BK857 hb)
           replace BK864 := Q.a (Q.bb BK864 hb)
           replace BK865 := Q.a (Q.bb BK865 hb)
           replace BK868 := Q.a (Q.bb BK868 hb)
           replace HB := Q.a (below_step (Q.bw5 HB GE856 GE857 GE864 GE865 GE868) hb)
           (try clear hb)
           (try clear hb2)
           (try clear hk)
           (try clear hi)
           refine hK.out _ _ ⟨(blk_cell BK864.out 0).trans rfl, (blk_cell BK864.out 1).trans rfl, (blk_cell BK857.out 0).trans rfl, (blk_cell BK857.out 1).trans rfl, (blk_cell BK865.out 0).trans rfl, (blk_cell BK865.out 1).trans rfl, (blk_cell BK856.out 0).trans rfl, (blk_cell BK856.out 1).trans rfl, (blk_cell BK868.out 0).trans rfl, (blk_cell BK868.out 1).trans rfl⟩ (fun hHeld => ?_)
           clear hK K
           refine norm_ (a' := ?_) ?_ ?_
           rotate_left
           ·show Act.put _ (some 60) _ = _
            simp only [Act.put, List.setIfInBounds_toArray, List.set_cons_zero, List.set_cons_succ, i64_w, i32_w]
            rfl
           refine one_ (i := 11) (N := some 62) #[true, true, true, true, true, true, true, true, true, true, true, true, false, false, false, false, false, false, false, false, false, false, false, false, false, false] rfl rfl (one_of HT_.out (by kernel_rfl)) (by decide) (fun K hK => ?_)
           refine goes_ Tryd.func52 (by kernel_rfl) rfl #[.agg #[.bool a0_0, .string a0_1]] (by rfl) rfl rfl (by (try simp only [List.map_toArray, List.map_cons, List.map_nil]); first | done | rfl | (simp only [List.length_drop, List.length_take]; rfl)) ?_
           with_reducible refine (integer_Normalize.calls kj89 a0_0 a0_1 t877 t878 _ A132.out).mono ?_
           rintro e w141 ⟨rfl, hb⟩
           refine ⟨_, rfl, ?_⟩
           replace BK856 := Q.a (Q.bb BK856 hb)
           replace BK857 := Q.a (Q.bb BK857 hb)
           replace BK864 := Q.a (Q.bb BK864 hb)
           replace BK865 := Q.a (Q.bb BK865 hb)
           replace BK868 := Q.a (Q.bb BK868 hb)
           replace HB := Q.a (below_step (Q.bw5 HB GE856 GE857 GE864 GE865 GE868) hb)
           (try clear hb)
           (try clear hb2)
           (try clear hk)
           (try clear hi)
           refine hK.out _ _ ⟨(blk_cell BK864.out 0).trans rfl, (blk_cell BK864.out 1).trans rfl, (blk_cell BK857.out 0).trans rfl, (blk_cell BK857.out 1).trans rfl, (blk_cell BK865.out 0).trans rfl, (blk_cell BK865.out 1).trans rfl, (blk_cell BK856.out 0).trans rfl, (blk_cell BK856.out 1).trans rfl, (blk_cell BK868.out 0).trans rfl, (blk_cell BK868.out 1).trans rfl⟩ (fun hHeld => ?_)
           clear hK K
           refine norm_ (a' := ?_) ?_ ?_
           rotate_left
           ·show Act.put _ (some 62) _ = _
            simp only [Act.put, List.setIfInBounds_toArray, List.set_cons_zero, List.set_cons_succ, i64_w, i32_w]
            rfl
           refine pure_ (i := 12) (N := some 63) (v := ?_) (a' := ?_) #[true, true, true, true, true, true, true, true, true, true, true, true, true, false, false, false, false, false, false, false, false, false, false, false, false, false] rfl rfl (any_of HT_.out (by kernel_rfl)) (fun _ _ _ h => h) (Or.inl ⟨by rfl, ?_⟩) ?_ ?_
           rotate_left
           ·intro w'
            go_simp
            with_reducible rfl
           rotate_left
           ·simp only [Act.put, List.setIfInBounds_toArray, List.set_cons_zero, List.set_cons_succ, i64_w, i32_w]
            rfl
           refine pure_ (i := 13) (N := some 64) (v := ?_) (a' := ?_) #[true, true, true, true, true, true, true, true, true, true, true, true, true, true, false, false, false, false, false, false, false, false, false, false, false, false] rfl rfl (any_of HT_.out (by kernel_rfl)) (fun _ _ _ h => h) (Or.inl ⟨by rfl, ?_⟩) ?_ ?_
           rotate_left
           ·intro w'
            go_simp
            with_reducible rfl
           rotate_left
           ·simp only [Act.put, List.setIfInBounds_toArray, List.set_cons_zero, List.set_cons_succ, i64_w, i32_w]
            rfl
           refine pure_ (i := 14) (N := some 65) (v := ?_) (a' := ?_) #[true, true, true, true, true, true, true, true, true, true, true, true, true, true, true, false, false, false, false, false, false, false, false, false, false, false] rfl rfl (any_of HT_.out (by kernel_rfl)) (fun _ _ _ h => h) (Or.inl ⟨by rfl, ?_⟩) ?_ ?_
           rotate_left
           ·intro w'
            go_simp
            with_reducible rfl
           rotate_left
           ·simp only [Act.put, List.setIfInBounds_toArray, List.set_cons_zero, List.set_cons_succ, i64_w, i32_w]
            rfl
           refine take_ (i := 15) (N := some 66) (v := ?_) (a' := ?_) #[true, true, true, true, true, true, true, true, true, true, true, true, true, true, true, true, false, false, false, false, false, false, false, false, false, false] rfl rfl (take_ofW HT_.out HW_.out (by kernel_rfl)) (fun _ _ _ h => h) (Or.inl ⟨by rfl, ?_⟩) hHeld ?_ ?_
           rotate_left
           ·rintro w' ⟨s0, s1, s2, s3, s4, s5, s6, s7, s8, s9⟩
            go_simp
            with_reducible rfl
           rotate_left
           ·simp only [Act.put, List.setIfInBounds_toArray, List.set_cons_zero, List.set_cons_succ, i64_w, i32_w]
            rfl
           refine one_ (i := 16) (N := some 67) #[true, true, true, true, true, true, true, true, true, true, true, true, true, true, true, true, true, false, false, false, false, false, false, false, false, false] rfl rfl (one_of HT_.out (by kernel_rfl)) (by decide) (fun K hK => ?_)
           refine goes_ Tryd.func50 (by kernel_rfl) rfl #[.agg #[.bool t861, .string t862]] (by rfl) rfl rfl (by (try simp only [List.map_toArray, List.map_cons, List.map_nil]); first | done | rfl | (simp only [List.length_drop, List.length_take]; rfl)) ?_
           with_reducible refine (integer_Sign.calls kj89 t861 t862 t879 _ A134.out).mono ?_
           rintro e w142 ⟨rfl, hb⟩
           refine ⟨_, rfl, ?_⟩
           replace BK856 := Q.a (Q.bb BK856 hb)
           replace BK857 := Q.a (Q.bb BK857 hb)
           replace BK864 := Q.a (Q.bb BK864 hb)
           replace BK865 := Q.a (Q.bb BK865 hb)
           replace BK868 := Q.a (Q.bb BK868 hb)
           replace HB := Q.a (below_step (Q.bw5 HB GE856 GE857 GE864 GE865 GE868) hb)
           (try clear hb)
           (try clear hb2)
           (try clear hk)
           (try clear hi)
           refine hK.out _ _ ⟨(blk_cell BK864.out 0).trans rfl, (blk_cell BK864.out 1).trans rfl, (blk_cell BK857.out 0).trans rfl, (blk_cell BK857.out 1).trans rfl, (blk_cell BK865.out 0).trans rfl, (blk_cell BK865.out 1).trans rfl, (blk_cell BK856.out 0).trans rfl, (blk_cell BK856.out 1).trans rfl, (blk_cell BK868.out 0).trans rfl, (blk_cell BK868.out 1).trans rfl⟩ (fun hHeld => ?_)
           clear hK K
           refine norm_ (a' := ?_) ?_ ?_
           rotate_left
           ·show Act.put _ (some 67) _ = _
            simp only [Act.put, List.setIfInBounds_toArray, List.set_cons_zero, List.set_cons_succ, i64_w, i32_w]
            rfl
           refine pure_ (i := 17) (N := some 68) (v := ?_) (a' := ?_) #[true, true, true, true, true, true, true, true, true, true, true, true, true, true, true, true, true, true, false, false, false, false, false, false, false, false] rfl rfl (any_of HT_.out (by kernel_rfl)) (fun _ _ _ h => h) (Or.inl ⟨by rfl, ?_⟩) ?_ ?_
           rotate_left
           ·intro w'
            go_simp
            with_reducible rfl
           rotate_left
           ·simp only [Act.put, List.setIfInBounds_toArray, List.set_cons_zero, List.set_cons_succ, i64_w, i32_w]
            rfl
           refine pure_ (i := 18) (N := some 69) (v := ?_) (a' := ?_) #[true, true, true, true, true, true, true, true, true, true, true, true, true, true, true, true, true, true, true, false, false, false, false, false, false, false] rfl rfl (any_of HT_.out (by kernel_rfl)) (fun _ _ _ h => h) (Or.inl ⟨by rfl, ?_⟩) ?_ ?_
           rotate_left
           ·intro w'
            go_simp
            with_reducible rfl
           rotate_left
           ·simp only [Act.put, List.setIfInBounds_toArray, List.set_cons_zero, List.set_cons_succ, i64_w, i32_w]
            rfl
           refine pure_ (i := 19) (N := some 70) (v := ?_) (a' := ?_) #[true, true, true, true, true, true, true, true, true, true, true, true, true, true, true, true, true, true, true, true, false, false, false, false, false, false] rfl rfl (any_of HT_.out (by kernel_rfl)) (fun _ _ _ h => h) (Or.inl ⟨by rfl, ?_⟩) ?_ ?_
           rotate_left
           ·intro w'
            go_simp
            with_reducible rfl
           rotate_left
           ·simp only [Act.put, List.setIfInBounds_toArray, List.set_cons_zero, List.set_cons_succ, i64_w, i32_w]
            rfl
           refine take_ (i := 20) (N := some 71) (v := ?_) (a' := ?_) #[true, true, true, true, true, true, true, true, true, true, true, true, true, true, true, true, true, true, true, true, true, false, false, false, false, false] rfl rfl (take_ofW HT_.out HW_.out (by kernel_rfl)) (fun _ _ _ h => h) (Or.inl ⟨by rfl, ?_⟩) hHeld ?_ ?_
           rotate_left
           ·rintro w' ⟨s0, s1, s2, s3, s4, s5, s6, s7, s8, s9⟩
            go_simp
            with_reducible rfl
           rotate_left
           ·simp only [Act.put, List.setIfInBounds_toArray, List.set_cons_zero, List.set_cons_succ, i64_w, i32_w]
            rfl
           refine take_ (i := 21) (N := some 72) (v := ?_) (a' := ?_) #[true, true, true, true, true, true, true, true, true, true, true, true, true, true, true, true, true, true, true, true, true, true, false, false, false, false] rfl rfl (take_ofW HT_.out HW_.out (by kernel_rfl)) (fun _ _ _ h => h) (Or.inl ⟨by rfl, ?_⟩) hHeld ?_ ?_
           rotate_left
           ·rintro w' ⟨s0, s1, s2, s3, s4, s5, s6, s7, s8, s9⟩
            go_simp
            with_reducible rfl
           rotate_left
           ·simp only [Act.put, List.setIfInBounds_toArray, List.set_cons_zero, List.set_cons_succ, i64_w, i32_w]
            rfl
           refine one_ (i := 22) (N := some 73) #[true, true, true, true, true, true, true, true, true, true, true, true, true, true, true, true, true, true, true, true, true, true, true, false, false, false] rfl rfl (one_of HT_.out (by kernel_rfl)) (by decide) (fun K hK => ?_)
           refine goes_ Tryd.func48 (by kernel_rfl) rfl #[.agg #[.bool t861, .string t862], .agg #[.bool x869000_89, .string x869001_89]] (by rfl) rfl rfl (by (try simp only [List.map_toArray, List.map_cons, List.map_nil]); first | done | rfl | (simp only [List.length_drop, List.length_take]; rfl)) ?_
           with_reducible refine (integer_Cmp.calls kj89 t861 t862 x869000_89 x869001_89 t880 _ A136.out).mono ?_
           rintro e w143 ⟨rfl, hb⟩
           refine ⟨_, rfl, ?_⟩
           replace BK856 := Q.a (Q.bb BK856 hb)
           replace BK857 := Q.a (Q.bb BK857 hb)
           replace BK864 := Q.a (Q.bb BK864 hb)
           replace BK865 := Q.a (Q.bb BK865 hb)
           replace BK868 := Q.a (Q.bb BK868 hb)
           replace HB := Q.a (below_step (Q.bw5 HB GE856 GE857 GE864 GE865 GE868) hb)
           (try clear hb)
           (try clear hb2)
           (try clear hk)
           (try clear hi)
           refine hK.out _ _ ⟨(blk_cell BK864.out 0).trans rfl, (blk_cell BK864.out 1).trans rfl, (blk_cell BK857.out 0).trans rfl, (blk_cell BK857.out 1).trans rfl, (blk_cell BK865.out 0).trans rfl, (blk_cell BK865.out 1).trans rfl, (blk_cell BK856.out 0).trans rfl, (blk_cell BK856.out 1).trans rfl, (blk_cell BK868.out 0).trans rfl, (blk_cell BK868.out 1).trans rfl⟩ (fun hHeld => ?_)
           clear hK K
           refine norm_ (a' := ?_) ?_ ?_
           rotate_left
           ·show Act.put _ (some 73) _ = _
            simp only [Act.put, List.setIfInBounds_toArray, List.set_cons_zero, List.set_cons_succ, i64_w, i32_w]
            rfl
           refine pure_ (i := 23) (N := some 74) (v := ?_) (a' := ?_) #[true, true, true, true, true, true, true, true, true, true, true, true, true, true, true, true, true, true, true, true, true, true, true, true, false, false] rfl rfl (any_of HT_.out (by kernel_rfl)) (fun _ _ _ h => h) (Or.inl ⟨by rfl, ?_⟩) ?_ ?_
           rotate_left
           ·intro w'
            go_simp
            with_reducible rfl
           rotate_left
           ·simp only [Act.put, List.setIfInBounds_toArray, List.set_cons_zero, List.set_cons_succ, i64_w, i32_w]
            rfl
           refine pure_ (i := 24) (N := some 75) (v := ?_) (a' := ?_) #[true, true, true, true, true, true, true, true, true, true, true, true, true, true, true, true, true, true, true, true, true, true, true, true, true, false] rfl rfl (any_of HT_.out (by kernel_rfl)) (fun _ _ _ h => h) (Or.inl ⟨by rfl, ?_⟩) ?_ ?_
           rotate_left
           ·intro w'
            go_simp
            with_reducible rfl
           rotate_left
           ·simp only [Act.put, List.setIfInBounds_toArray, List.set_cons_zero, List.set_cons_succ, i64_w, i32_w]
            rfl
           refine pure_ (i := 25) (N := some 4) (v := ?_) (a' := ?_) #[true, true, true, true, true, true, true, true, true, true, true, true, true, true, true, true, true, true, true, true, true, true, true, true, true, true] rfl rfl (any_of HT_.out (by kernel_rfl)) (fun _ _ _ h => h) (Or.inl ⟨by rfl, ?_⟩) ?_ ?_
           rotate_left
           ·intro w'
            go_simp
            with_reducible rfl
           rotate_left
           ·simp only [Act.put, List.setIfInBounds_toArray, List.set_cons_zero, List.set_cons_succ, i64_w, i32_w]
            rfl
           refine done_ (done_of HT_.out (by kernel_rfl)) ?_
           try go_wp2
           go_ret
           exact ⟨Q.en, Q.bw5 HB GE856 GE857 GE864 GE865 GE868⟩
          ·rw [if_neg c135] at H
           have c135b0 : decide (0 ≤ t879) = false := decide_eq_false c135
           clear c135
           obtain rfl := Option.some.inj H
           exact absurd HR.out (by decide)
         ·rw [if_neg c133] at H
          have c133b0 : (t875 == t877 && (t876.toList == t878.toList)) = false := by simpa using c133
          (try (have c133b1 : decide (t875 = t877 && (t876.toList == t878.toList)) = false := by simpa using c133))
          (try (have c133b2 : (t875 == t877 && (t876.toList == t878.toList)) = false := by simpa using c133))
          (try (have c133b3 : ¬ (t875 = t877 && (t876.toList == t878.toList)) := by simpa using c133))
          clear c133
          obtain rfl := Option.some.inj H
          exact absurd HR.out (by decide)
        ·replace c129 := Bool.eq_false_iff.mpr c129
         subst c129
         rw [if_neg (show ¬ (false = true) by decide)] at H
         obtain rfl := Option.some.inj H
         exact absurd HR.out (by decide)
       ·replace c128 := Bool.eq_false_iff.mpr c128
        subst c128
        rw [if_neg (show ¬ (false = true) by decide)] at H
        obtain rfl := Option.some.inj H
        exact absurd HR.out (by decide)
end Go.Proofs.YtpokflilobkoaaaDoor.P
