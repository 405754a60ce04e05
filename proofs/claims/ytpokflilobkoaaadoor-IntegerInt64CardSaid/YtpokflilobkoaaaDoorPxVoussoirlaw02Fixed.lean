/- Out of what mp.py printed for this seat (squeeze.py, repack.py). Not trusted: Lean checks it. -/
import Derived.Test.YtpokflilobkoaaaDoorPx0
import Derived.Test.YtpokflilobkoaaaDoorPx1
import Derived.Test.YtpokflilobkoaaaDoorPxIB
import Derived.Test.YtpokflilobkoaaaDoorXQ
-- squeezed twice
namespace Go.Proofs.YtpokflilobkoaaaDoor.P
open Go.RowKit Go.Proofs.YtpokflilobkoaaaDoorW.PrintWords Go.Proofs.YtpokflilobkoaaaDoorW.PrintLast Go.Proofs.YtpokflilobkoaaaDoorW.PrintMore
attribute [local go_sem] max2_int min2_int max_two min_two max_three min_three max_four min_four   -- for this text's walks alone
attribute [local go_sem] XW.cell_twice   -- for this text's walks alone
set_option linter.unusedVariables false
set_option linter.unusedSimpArgs false
attribute [local go_sem high] eqA36

/-! ### voussoirlaw02_fixed: function 37 -/
def voussoirlaw02_fixed.f (k : Nat)  : Option (Bool) := (integer_FromInt64.f k 7).bind fun bt507 => ((integer_FromInt64.f k (-2)).bind fun bt509 => ((integer_Div.f k bt507.1 bt507.2 bt509.1 bt509.2).bind fun bt511 => ((integer_FromInt64.f k (-7)).bind fun bt518 => ((integer_FromInt64.f k 2).bind fun bt520 => ((integer_Div.f k bt518.1 bt518.2 bt520.1 bt520.2).bind fun bt522 => (if bt511.2.2.2.2 = true then (if bt522.2.2.2.2 = true then ((integer_FromInt64.f k (-3)).bind fun bt529 => (if (bt511.1 == bt529.1 && (bt511.2.1.toList == bt529.2.toList)) = true then ((integer_FromInt64.f k 1).bind fun bt531 => (if (bt511.2.2.1 == bt531.1 && (bt511.2.2.2.1.toList == bt531.2.toList)) = true then ((integer_FromInt64.f k (-4)).bind fun bt533 => (if (bt522.1 == bt533.1 && (bt522.2.1.toList == bt533.2.toList)) = true then ((integer_FromInt64.f k 1).bind fun bt535 => (if (bt522.2.2.1 == bt535.1 && (bt522.2.2.2.1.toList == bt535.2.toList)) = true then ((integer_Format.f k bt522.1 bt522.2.1).bind fun t537 => (some (t537.toList == ([45, 52] : List UInt8)))) else (some false))) else (some false))) else (some false))) else (some false))) else (some false)) else (some false)))))))
theorem voussoirlaw02_fixed.mono : ∀ k, LeO (voussoirlaw02_fixed.f k ) (voussoirlaw02_fixed.f (k + 1) ) := by
 intro  k
 unfold voussoirlaw02_fixed.f
 repeat' first
   | (with_reducible exact integer_Div.mono _ _ _ _ _)
   | (with_reducible exact integer_Format.mono _ _ _)
   | (with_reducible exact integer_FromInt64.mono _ _)
   | (with_reducible exact LeO.refl _)
   | (with_reducible exact LeO.none _)
   | (with_reducible refine LeO.ite ?_ ?_)
   | (with_reducible refine LeO.bind ?_ (fun _ => ?_))
   | exact integer_Div.mono _ _ _ _ _
   | exact integer_Format.mono _ _ _
   | exact integer_FromInt64.mono _ _
   | exact LeO.none _
   | refine LeO.ite ?_ ?_
   | refine LeO.bind ?_ (fun _ => ?_)
def voussoirlaw02_fixed.T3 : Bool × List (List Nat × List Nat) := (true, [([], []), ([0], [0]), ([1], [1]), ([1, 2], [1, 2]), ([3, 1], [3]), ([4], [4]), ([4, 4], [4]), ([5, 6, 4], [4, 5, 6]), ([4, 7], [4, 7]), ([8, 6], [8]), ([9], [9]), ([9, 9], [9]), ([10, 11, 9], [9, 10, 11]), ([9, 12], [9, 12]), ([13, 11], [13]), ([14], [14]), ([14, 14], [14]), ([15, 16, 14], [14, 15, 16]), ([14, 17], [14, 17]), ([18, 16], [18]), ([19], [19]), ([19, 19], [19]), ([20, 21, 19], [19, 20, 21]), ([19, 22], [19, 22]), ([23, 21], [23]), ([24], [24]), ([25, 24, 24], [24, 25]), ([26, 24], [24, 26]), ([24, 27], [24, 27]), ([28, 26, 0, 1, 2, 3, 4, 5, 6, 7, 8, 9, 10, 11, 12, 13, 14, 15, 16, 17, 18, 19, 20, 21, 22, 23, 24, 25, 26, 27, 28], [28])])
def voussoirlaw02_fixed.B3 : List Nat := [0, 1, 3, 7, 15, 31, 31, 127, 255, 511, 1023, 1023, 4095, 8191, 16383, 32767, 32767, 131071, 262143, 524287, 1048575, 1048575, 4194303, 8388607, 16777215, 33554431, 67108863, 134217727, 268435455, 536870911]
theorem voussoirlaw02_fixed.tab3 : rtab .any (opsOf Tryd.f37 3) = voussoirlaw02_fixed.T3 := by kernel_rfl
theorem voussoirlaw02_fixed.bits3 : waitsOk voussoirlaw02_fixed.T3.2 voussoirlaw02_fixed.B3 = true := by kernel_rfl
set_option maxHeartbeats 8000000 in
set_option maxRecDepth 100000 in
theorem voussoirlaw02_fixed.calls (k : Nat)  (r : Bool) (hr : r = true) (w : World) (hG : X.G w) (h : voussoirlaw02_fixed.f k  = some r) :
  Calls Tryd.prog 37 #[] w fun e w' => e = .returned (.bool r) ∧ Below w.heap.size w w' := by
 have HR := Q.a hr
 clear hr
 have hu36 := Tryd.underlying36
 have HG := Q.a hG
 clear hG
 have HB := Q.a (Below.refl w.heap.size w)
 have H : ((integer_FromInt64.f k 7).bind fun bt507 => ((integer_FromInt64.f k (-2)).bind fun bt509 => ((integer_Div.f k bt507.1 bt507.2 bt509.1 bt509.2).bind fun bt511 => ((integer_FromInt64.f k (-7)).bind fun bt518 => ((integer_FromInt64.f k 2).bind fun bt520 => ((integer_Div.f k bt518.1 bt518.2 bt520.1 bt520.2).bind fun bt522 => (if bt511.2.2.2.2 = true then (if bt522.2.2.2.2 = true then ((integer_FromInt64.f k (-3)).bind fun bt529 => (if (bt511.1 == bt529.1 && (bt511.2.1.toList == bt529.2.toList)) = true then ((integer_FromInt64.f k 1).bind fun bt531 => (if (bt511.2.2.1 == bt531.1 && (bt511.2.2.2.1.toList == bt531.2.toList)) = true then ((integer_FromInt64.f k (-4)).bind fun bt533 => (if (bt522.1 == bt533.1 && (bt522.2.1.toList == bt533.2.toList)) = true then ((integer_FromInt64.f k 1).bind fun bt535 => (if (bt522.2.2.1 == bt535.1 && (bt522.2.2.2.1.toList == bt535.2.toList)) = true then ((integer_Format.f k bt522.1 bt522.2.1).bind fun t537 => (some (t537.toList == ([45, 52] : List UInt8)))) else (some false))) else (some false))) else (some false))) else (some false))) else (some false)) else (some false)))))))) = some r := h
 clear h
 replace H := Option.bind_eq_some_iff.mp H
 obtain ⟨⟨t507, t508⟩, A10, H⟩ := H
 try dsimp only at H
 have A1 := Q.a A10
 clear A10
 replace H := Option.bind_eq_some_iff.mp H
 obtain ⟨⟨t509, t510⟩, A20, H⟩ := H
 try dsimp only at H
 have A2 := Q.a A20
 clear A20
 replace H := Option.bind_eq_some_iff.mp H
 obtain ⟨⟨t511, t512, t513, t514, t515⟩, A30, H⟩ := H
 try dsimp only at H
 have A3 := Q.a A30
 clear A30
 replace H := Option.bind_eq_some_iff.mp H
 obtain ⟨⟨t518, t519⟩, A40, H⟩ := H
 try dsimp only at H
 have A4 := Q.a A40
 clear A40
 replace H := Option.bind_eq_some_iff.mp H
 obtain ⟨⟨t520, t521⟩, A50, H⟩ := H
 try dsimp only at H
 have A5 := Q.a A50
 clear A50
 replace H := Option.bind_eq_some_iff.mp H
 obtain ⟨⟨t522, t523, t524, t525, t526⟩, A60, H⟩ := H
 try dsimp only at H
 have A6 := Q.a A60
 clear A60
 by_cases c7 : t515 = true
 ·subst c7
  rw [if_pos rfl] at H
  by_cases c8 : t526 = true
  ·subst c8
   rw [if_pos rfl] at H
   replace H := Option.bind_eq_some_iff.mp H
   obtain ⟨⟨t529, t530⟩, A90, H⟩ := H
   try dsimp only at H
   have A9 := Q.a A90
   clear A90
   by_cases c10 : (t511 == t529 && (t512.toList == t530.toList)) = true
   ·rw [if_pos c10] at H
    have c10b0 : (t511 == t529 && (t512.toList == t530.toList)) = true := c10
    (try (have c10b1 : decide (t511 = t529 && (t512.toList == t530.toList)) = true := by simpa using c10))
    (try (have c10b2 : (t511 == t529 && (t512.toList == t530.toList)) = true := by simpa using c10))
    clear c10
    replace H := Option.bind_eq_some_iff.mp H
    obtain ⟨⟨t531, t532⟩, A110, H⟩ := H
    try dsimp only at H
    have A11 := Q.a A110
    clear A110
    by_cases c12 : (t513 == t531 && (t514.toList == t532.toList)) = true
    ·rw [if_pos c12] at H
     have c12b0 : (t513 == t531 && (t514.toList == t532.toList)) = true := c12
     (try (have c12b1 : decide (t513 = t531 && (t514.toList == t532.toList)) = true := by simpa using c12))
     (try (have c12b2 : (t513 == t531 && (t514.toList == t532.toList)) = true := by simpa using c12))
     clear c12
     replace H := Option.bind_eq_some_iff.mp H
     obtain ⟨⟨t533, t534⟩, A130, H⟩ := H
     try dsimp only at H
     have A13 := Q.a A130
     clear A130
     by_cases c14 : (t522 == t533 && (t523.toList == t534.toList)) = true
     ·rw [if_pos c14] at H
      have c14b0 : (t522 == t533 && (t523.toList == t534.toList)) = true := c14
      (try (have c14b1 : decide (t522 = t533 && (t523.toList == t534.toList)) = true := by simpa using c14))
      (try (have c14b2 : (t522 == t533 && (t523.toList == t534.toList)) = true := by simpa using c14))
      clear c14
      replace H := Option.bind_eq_some_iff.mp H
      obtain ⟨⟨t535, t536⟩, A150, H⟩ := H
      try dsimp only at H
      have A15 := Q.a A150
      clear A150
      by_cases c16 : (t524 == t535 && (t525.toList == t536.toList)) = true
      ·rw [if_pos c16] at H
       have c16b0 : (t524 == t535 && (t525.toList == t536.toList)) = true := c16
       (try (have c16b1 : decide (t524 = t535 && (t525.toList == t536.toList)) = true := by simpa using c16))
       (try (have c16b2 : (t524 == t535 && (t525.toList == t536.toList)) = true := by simpa using c16))
       clear c16
       replace H := Option.bind_eq_some_iff.mp H
       obtain ⟨t537, A170, H⟩ := H
       try dsimp only at H
       have A17 := Q.a A170
       clear A170
       obtain rfl := Option.some.inj H
       go_enter Tryd.func37, Tryd.ntmps37
       try go_wp2_with (first | ((with_reducible refine gate_callee (f := 54) rfl ?_); refine Q.gl 8 Tryd.func54 #[.int .i64 7] rfl rfl rfl rfl ?_; (with_reducible refine (integer_FromInt64.calls k 7 t507 t508 _ A1.out).mono ?_); rintro e w18 ⟨rfl, hb⟩; refine ⟨_, rfl, ?_⟩; replace HB := Q.a (below_step (Q.bw HB) hb); (try clear hb)) | ((with_reducible refine gate_callee (f := 54) rfl ?_); refine Q.gl 9 Tryd.func54 #[.int .i64 (-2)] rfl rfl rfl rfl ?_; (with_reducible refine (integer_FromInt64.calls k (-2) t509 t510 _ A2.out).mono ?_); rintro e w19 ⟨rfl, hb⟩; refine ⟨_, rfl, ?_⟩; replace HB := Q.a (below_step (Q.bw HB) hb); (try clear hb)) | ((with_reducible refine gate_callee (f := 38) rfl ?_); refine Q.gl 10 Tryd.func38 #[.agg #[.bool t507, .string t508], .agg #[.bool t509, .string t510]] rfl rfl rfl rfl ?_; (with_reducible refine (integer_Div.calls k t507 t508 t509 t510 t511 t512 t513 t514 true _ A3.out).mono ?_); rintro e w20 ⟨rfl, hb⟩; refine ⟨_, rfl, ?_⟩; replace HB := Q.a (below_step (Q.bw HB) hb); (try clear hb)) | ((with_reducible refine gate_dst (N := 1) rfl ?_); refine Q.bx 1 #[.bool false, .string (⟨#[]⟩ : ByteArray)] 36 rfl rfl ?_; intro gb516 hg w21 hbox hb; replace BK516 := Q.a (hbox); replace GW516 := Q.a (Q.gs hg (below_size (Q.bw HB))); replace GE516 := GW516; replace HB := Q.a (below_step (Q.bw HB) hb); clear hb hbox hg) | ((with_reducible refine gate_dst (N := 2) rfl ?_); refine Q.bx 2 #[.bool false, .string (⟨#[]⟩ : ByteArray)] 36 rfl rfl ?_; intro gb517 hg w22 hbox hb; replace BK517 := Q.a (hbox); replace GW517 := Q.a (Q.gs hg (below_size (Q.bw1 HB GE516))); replace GE517 := GW517; replace HB := Q.a (below_step (Q.bw1 HB GE516) hb); replace NB516_517 := Q.a (Q.nl hg BK516); replace NB517_516 := Q.a (Q.ng hg BK516); replace BK516 := Q.a (Q.bb BK516 hb); clear hb hbox hg; have hnb23 := NB516_517.out; have hnc23 := NB517_516.out; have hcz24_0 : w22.cell? ⟨gb516, 0, none⟩ = some (.bool false) := (blk_cell BK516.out 0).trans rfl; have hcz24_1 : w22.cell? ⟨gb516, 1, none⟩ = some (.string (⟨#[]⟩ : ByteArray)) := (blk_cell BK516.out 1).trans rfl; have hfz24_0 := blk_frozen BK516.out 0; have hfz24_1 := blk_frozen BK516.out 1; have hcz25_0 : w22.cell? ⟨gb517, 0, none⟩ = some (.bool false) := (blk_cell BK517.out 0).trans rfl; have hcz25_1 : w22.cell? ⟨gb517, 1, none⟩ = some (.string (⟨#[]⟩ : ByteArray)) := (blk_cell BK517.out 1).trans rfl; have hfz25_0 := blk_frozen BK517.out 0; have hfz25_1 := blk_frozen BK517.out 1) | ((with_reducible refine gate_callee (f := 54) rfl ?_); refine Q.gl 15 Tryd.func54 #[.int .i64 (-7)] rfl rfl rfl rfl ?_; (with_reducible refine (integer_FromInt64.calls k (-7) t518 t519 _ A4.out).mono ?_); rintro e w26 ⟨rfl, hb⟩; refine ⟨_, rfl, ?_⟩; replace BK516 := Q.a (blk_below (g := gb516) (o := .cells #[.bool t511, .string t512] 36 (0, 0)) (by (with_reducible repeat (first | refine blk_drewN ?_ _ | refine blk_drew ?_ | refine blk_alloc ?_ _)); refine blk_far ?_ NB516_517.out _; (with_reducible repeat (first | refine blk_drewN ?_ _ | refine blk_drew ?_ | refine blk_alloc ?_ _)); refine blk_far ?_ NB516_517.out _; (with_reducible repeat (first | refine blk_drewN ?_ _ | refine blk_drew ?_ | refine blk_alloc ?_ _)); refine blk_put (cs := #[.bool t511, .string (⟨#[]⟩ : ByteArray)]) ?_ 1 _ (by first | rfl | (cases a0.toList <;> rfl) | (cases a1.toList <;> rfl)); (with_reducible repeat (first | refine blk_drewN ?_ _ | refine blk_drew ?_ | refine blk_alloc ?_ _)); refine blk_put (cs := #[.bool false, .string (⟨#[]⟩ : ByteArray)]) ?_ 0 _ (by first | rfl | (cases a0.toList <;> rfl) | (cases a1.toList <;> rfl)); (with_reducible repeat (first | refine blk_drewN ?_ _ | refine blk_drew ?_ | refine blk_alloc ?_ _)); exact BK516.out) hb); replace BK517 := Q.a (blk_below (g := gb517) (o := .cells #[.bool t513, .string t514] 36 (0, 0)) (by (with_reducible repeat (first | refine blk_drewN ?_ _ | refine blk_drew ?_ | refine blk_alloc ?_ _)); refine blk_put (cs := #[.bool t513, .string (⟨#[]⟩ : ByteArray)]) ?_ 1 _ (by first | rfl | (cases a0.toList <;> rfl) | (cases a1.toList <;> rfl)); (with_reducible repeat (first | refine blk_drewN ?_ _ | refine blk_drew ?_ | refine blk_alloc ?_ _)); refine blk_put (cs := #[.bool false, .string (⟨#[]⟩ : ByteArray)]) ?_ 0 _ (by first | rfl | (cases a0.toList <;> rfl) | (cases a1.toList <;> rfl)); (with_reducible repeat (first | refine blk_drewN ?_ _ | refine blk_drew ?_ | refine blk_alloc ?_ _)); refine blk_far ?_ NB517_516.out _; (with_reducible repeat (first | refine blk_drewN ?_ _ | refine blk_drew ?_ | refine blk_alloc ?_ _)); refine blk_far ?_ NB517_516.out _; (with_reducible repeat (first | refine blk_drewN ?_ _ | refine blk_drew ?_ | refine blk_alloc ?_ _)); exact BK517.out) hb); replace HB := Q.a (below_step (Q.bw2 HB GE516 GE517) hb); (try clear hb)) | ((with_reducible refine gate_callee (f := 54) rfl ?_); refine Q.gl 16 Tryd.func54 #[.int .i64 2] rfl rfl rfl rfl ?_; (with_reducible refine (integer_FromInt64.calls k 2 t520 t521 _ A5.out).mono ?_); rintro e w27 ⟨rfl, hb⟩; refine ⟨_, rfl, ?_⟩; replace BK516 := Q.a (Q.bb BK516 hb); replace BK517 := Q.a (Q.bb BK517 hb); replace HB := Q.a (below_step (Q.bw2 HB GE516 GE517) hb); (try clear hb)) | ((with_reducible refine gate_callee (f := 38) rfl ?_); refine Q.gl 17 Tryd.func38 #[.agg #[.bool t518, .string t519], .agg #[.bool t520, .string t521]] rfl rfl rfl rfl ?_; (with_reducible refine (integer_Div.calls k t518 t519 t520 t521 t522 t523 t524 t525 true _ A6.out).mono ?_); rintro e w28 ⟨rfl, hb⟩; refine ⟨_, rfl, ?_⟩; replace BK516 := Q.a (Q.bb BK516 hb); replace BK517 := Q.a (Q.bb BK517 hb); replace HB := Q.a (below_step (Q.bw2 HB GE516 GE517) hb); (try clear hb)) | ((with_reducible refine gate_dst (N := 4) rfl ?_); refine Q.bx 4 #[.bool false, .string (⟨#[]⟩ : ByteArray)] 36 rfl rfl ?_; intro gb527 hg w29 hbox hb; replace BK527 := Q.a (hbox); replace GW527 := Q.a (Q.gs hg (below_size (Q.bw2 HB GE516 GE517))); replace GE527 := GW527; replace HB := Q.a (below_step (Q.bw2 HB GE516 GE517) hb); replace NB516_527 := Q.a (Q.nl hg BK516); replace NB527_516 := Q.a (Q.ng hg BK516); replace BK516 := Q.a (Q.bb BK516 hb); replace NB517_527 := Q.a (Q.nl hg BK517); replace NB527_517 := Q.a (Q.ng hg BK517); replace BK517 := Q.a (Q.bb BK517 hb); clear hb hbox hg) | ((with_reducible refine gate_dst (N := 5) rfl ?_); refine Q.bx 5 #[.bool false, .string (⟨#[]⟩ : ByteArray)] 36 rfl rfl ?_; intro gb528 hg w30 hbox hb; replace BK528 := Q.a (hbox); replace GW528 := Q.a (Q.gs hg (below_size (Q.bw3 HB GE516 GE517 GE527))); replace GE528 := GW528; replace HB := Q.a (below_step (Q.bw3 HB GE516 GE517 GE527) hb); replace NB516_528 := Q.a (Q.nl hg BK516); replace NB528_516 := Q.a (Q.ng hg BK516); replace BK516 := Q.a (Q.bb BK516 hb); replace NB517_528 := Q.a (Q.nl hg BK517); replace NB528_517 := Q.a (Q.ng hg BK517); replace BK517 := Q.a (Q.bb BK517 hb); replace NB527_528 := Q.a (Q.nl hg BK527); replace NB528_527 := Q.a (Q.ng hg BK527); replace BK527 := Q.a (Q.bb BK527 hb); clear hb hbox hg; have hnb31 := NB527_516.out; have hnc31 := NB516_527.out; have hnb32 := NB527_517.out; have hnc32 := NB517_527.out; have hnb33 := NB527_528.out; have hnc33 := NB528_527.out; have hcz34_0 : w30.cell? ⟨gb527, 0, none⟩ = some (.bool false) := (blk_cell BK527.out 0).trans rfl; have hcz34_1 : w30.cell? ⟨gb527, 1, none⟩ = some (.string (⟨#[]⟩ : ByteArray)) := (blk_cell BK527.out 1).trans rfl; have hfz34_0 := blk_frozen BK527.out 0; have hfz34_1 := blk_frozen BK527.out 1; have hnb35 := NB528_516.out; have hnc35 := NB516_528.out; have hnb36 := NB528_517.out; have hnc36 := NB517_528.out; have hcz37_0 : w30.cell? ⟨gb528, 0, none⟩ = some (.bool false) := (blk_cell BK528.out 0).trans rfl; have hcz37_1 : w30.cell? ⟨gb528, 1, none⟩ = some (.string (⟨#[]⟩ : ByteArray)) := (blk_cell BK528.out 1).trans rfl; have hfz37_0 := blk_frozen BK528.out 0; have hfz37_1 := blk_frozen BK528.out 1))
       have n0_ : Aside0 (((((w30.setCell ⟨gb527, 0, none⟩ (.bool t522)).setCell ⟨gb527, 1, none⟩ (.string t523)).setCell ⟨gb528, 0, none⟩ (.bool t524)).setCell ⟨gb528, 1, none⟩ (.string t525)).heap[gb516]? = some (.cells #[.bool t511, .string t512] 36 (0, 0))) := ⟨by (with_reducible repeat (first | refine blk_drewN ?_ _ | refine blk_drew ?_ | refine blk_alloc ?_ _)); refine blk_far ?_ NB516_528.out _; (with_reducible repeat (first | refine blk_drewN ?_ _ | refine blk_drew ?_ | refine blk_alloc ?_ _)); refine blk_far ?_ NB516_528.out _; (with_reducible repeat (first | refine blk_drewN ?_ _ | refine blk_drew ?_ | refine blk_alloc ?_ _)); refine blk_far ?_ NB516_527.out _; (with_reducible repeat (first | refine blk_drewN ?_ _ | refine blk_drew ?_ | refine blk_alloc ?_ _)); refine blk_far ?_ NB516_527.out _; (with_reducible repeat (first | refine blk_drewN ?_ _ | refine blk_drew ?_ | refine blk_alloc ?_ _)); exact BK516.out⟩
       have n1_ : Aside0 (((((w30.setCell ⟨gb527, 0, none⟩ (.bool t522)).setCell ⟨gb527, 1, none⟩ (.string t523)).setCell ⟨gb528, 0, none⟩ (.bool t524)).setCell ⟨gb528, 1, none⟩ (.string t525)).heap[gb517]? = some (.cells #[.bool t513, .string t514] 36 (0, 0))) := ⟨by (with_reducible repeat (first | refine blk_drewN ?_ _ | refine blk_drew ?_ | refine blk_alloc ?_ _)); refine blk_far ?_ NB517_528.out _; (with_reducible repeat (first | refine blk_drewN ?_ _ | refine blk_drew ?_ | refine blk_alloc ?_ _)); refine blk_far ?_ NB517_528.out _; (with_reducible repeat (first | refine blk_drewN ?_ _ | refine blk_drew ?_ | refine blk_alloc ?_ _)); refine blk_far ?_ NB517_527.out _; (with_reducible repeat (first | refine blk_drewN ?_ _ | refine blk_drew ?_ | refine blk_alloc ?_ _)); refine blk_far ?_ NB517_527.out _; (with_reducible repeat (first | refine blk_drewN ?_ _ | refine blk_drew ?_ | refine blk_alloc ?_ _)); exact BK517.out⟩
       have n2_ : Aside0 (((((w30.setCell ⟨gb527, 0, none⟩ (.bool t522)).setCell ⟨gb527, 1, none⟩ (.string t523)).setCell ⟨gb528, 0, none⟩ (.bool t524)).setCell ⟨gb528, 1, none⟩ (.string t525)).heap[gb527]? = some (.cells #[.bool t522, .string t523] 36 (0, 0))) := ⟨by (with_reducible repeat (first | refine blk_drewN ?_ _ | refine blk_drew ?_ | refine blk_alloc ?_ _)); refine blk_far ?_ NB527_528.out _; (with_reducible repeat (first | refine blk_drewN ?_ _ | refine blk_drew ?_ | refine blk_alloc ?_ _)); refine blk_far ?_ NB527_528.out _; (with_reducible repeat (first | refine blk_drewN ?_ _ | refine blk_drew ?_ | refine blk_alloc ?_ _)); refine blk_put (cs := #[.bool t522, .string (⟨#[]⟩ : ByteArray)]) ?_ 1 _ (by first | rfl | (cases a0.toList <;> rfl) | (cases a1.toList <;> rfl)); (with_reducible repeat (first | refine blk_drewN ?_ _ | refine blk_drew ?_ | refine blk_alloc ?_ _)); refine blk_put (cs := #[.bool false, .string (⟨#[]⟩ : ByteArray)]) ?_ 0 _ (by first | rfl | (cases a0.toList <;> rfl) | (cases a1.toList <;> rfl)); (with_reducible repeat (first | refine blk_drewN ?_ _ | refine blk_drew ?_ | refine blk_alloc ?_ _)); exact BK527.out⟩
       have n3_ : Aside0 (((((w30.setCell ⟨gb527, 0, none⟩ (.bool t522)).setCell ⟨gb527, 1, none⟩ (.string t523)).setCell ⟨gb528, 0, none⟩ (.bool t524)).setCell ⟨gb528, 1, none⟩ (.string t525)).heap[gb528]? = some (.cells #[.bool t524, .string t525] 36 (0, 0))) := ⟨by (with_reducible repeat (first | refine blk_drewN ?_ _ | refine blk_drew ?_ | refine blk_alloc ?_ _)); refine blk_put (cs := #[.bool t524, .string (⟨#[]⟩ : ByteArray)]) ?_ 1 _ (by first | rfl | (cases a0.toList <;> rfl) | (cases a1.toList <;> rfl)); (with_reducible repeat (first | refine blk_drewN ?_ _ | refine blk_drew ?_ | refine blk_alloc ?_ _)); refine blk_put (cs := #[.bool false, .string (⟨#[]⟩ : ByteArray)]) ?_ 0 _ (by first | rfl | (cases a0.toList <;> rfl) | (cases a1.toList <;> rfl)); (with_reducible repeat (first | refine blk_drewN ?_ _ | refine blk_drew ?_ | refine blk_alloc ?_ _)); refine blk_far ?_ NB528_527.out _; (with_reducible repeat (first | refine blk_drewN ?_ _ | refine blk_drew ?_ | refine blk_alloc ?_ _)); refine blk_far ?_ NB528_527.out _; (with_reducible repeat (first | refine blk_drewN ?_ _ | refine blk_drew ?_ | refine blk_alloc ?_ _)); exact BK528.out⟩
       have n4_ : Aside0 (Below w.heap.size w ((((w30.setCell ⟨gb527, 0, none⟩ (.bool t522)).setCell ⟨gb527, 1, none⟩ (.string t523)).setCell ⟨gb528, 0, none⟩ (.bool t524)).setCell ⟨gb528, 1, none⟩ (.string t525))) := ⟨Q.bw4 HB GE516 GE517 GE527 GE528⟩
       (try clear BK516)
       (try clear BK517)
       (try clear BK527)
       (try clear BK528)
       (try clear HB)
       generalize ((((w30.setCell ⟨gb527, 0, none⟩ (.bool t522)).setCell ⟨gb527, 1, none⟩ (.string t523)).setCell ⟨gb528, 0, none⟩ (.bool t524)).setCell ⟨gb528, 1, none⟩ (.string t525)) = w38 at n0_ n1_ n2_ n3_ n4_ ⊢
       have BK516 := n0_
       have BK517 := n1_
       have BK527 := n2_
       have BK528 := n3_
       have HB := n4_
       clear n0_ n1_ n2_ n3_ n4_
       replace BK516 := Q.a (blk_drew BK516.out)
       replace BK517 := Q.a (blk_drew BK517.out)
       replace BK527 := Q.a (blk_drew BK527.out)
       replace BK528 := Q.a (blk_drew BK528.out)
       replace HB := Q.a (below_drew1 HB.out)
       refine start_ (n := 30) (S := fun w' => w'.cell? ⟨gb516, 0, none⟩ = some (.bool t511) ∧ w'.cell? ⟨gb516, 1, none⟩ = some (.string t512) ∧ w'.cell? ⟨gb517, 0, none⟩ = some (.bool t513) ∧ w'.cell? ⟨gb517, 1, none⟩ = some (.string t514) ∧ w'.cell? ⟨gb527, 0, none⟩ = some (.bool t522) ∧ w'.cell? ⟨gb527, 1, none⟩ = some (.string t523) ∧ w'.cell? ⟨gb528, 0, none⟩ = some (.bool t524) ∧ w'.cell? ⟨gb528, 1, none⟩ = some (.string t525)) (ds := []) #[false, false, false, false, false, false, false, false, false, false, false, false, false, false, false, false, false, false, false, false, false, false, false, false, false, false, false, false, false, false] (by kernel_rfl) rfl rfl ⟨(blk_cell BK516.out 0).trans rfl, (blk_cell BK516.out 1).trans rfl, (blk_cell BK517.out 0).trans rfl, (blk_cell BK517.out 1).trans rfl, (blk_cell BK527.out 0).trans rfl, (blk_cell BK527.out 1).trans rfl, (blk_cell BK528.out 0).trans rfl, (blk_cell BK528.out 1).trans rfl⟩ (fun hHeld => ?_); refine with_tabW voussoirlaw02_fixed.tab3 voussoirlaw02_fixed.bits3 (fun HT_ HW_ => ?_)
       generalize w38.drew = w39 at BK516 BK517 BK527 BK528 HB hHeld ⊢
       refine pure_ (i := 0) (N := some 21) (v := ?_) (a' := ?_) #[true, false, false, false, false, false, false, false, false, false, false, false, false, false, false, false, false, false, false, false, false, false, false, false, false, false, false, false, false, false] rfl rfl (any_of HT_.out (by kernel_rfl)) (fun _ _ _ h => h) (Or.inl ⟨by rfl, ?_⟩) ?_ ?_
       rotate_left
       ·intro w'
        go_simp
        with_reducible rfl
       rotate_left
       ·simp only [Act.put, List.setIfInBounds_toArray, List.set_cons_zero, List.set_cons_succ, i64_w, i32_w]
        rfl
       refine pure_ (i := 1) (N := some 22) (v := ?_) (a' := ?_) #[true, true, false, false, false, false, false, false, false, false, false, false, false, false, false, false, false, false, false, false, false, false, false, false, false, false, false, false, false, false] rfl rfl (any_of HT_.out (by kernel_rfl)) (fun _ _ _ h => h) (Or.inl ⟨by rfl, ?_⟩) ?_ ?_
       rotate_left
       ·intro w'
        go_simp
        with_reducible rfl
       rotate_left
       ·simp only [Act.put, List.setIfInBounds_toArray, List.set_cons_zero, List.set_cons_succ, i64_w, i32_w]
        rfl
       refine pure_ (i := 2) (N := some 23) (v := ?_) (a' := ?_) #[true, true, true, false, false, false, false, false, false, false, false, false, false, false, false, false, false, false, false, false, false, false, false, false, false, false, false, false, false, false] rfl rfl (any_of HT_.out (by kernel_rfl)) (fun _ _ _ h => h) (Or.inl ⟨by rfl, ?_⟩) ?_ ?_
       rotate_left
       ·intro w'
        go_simp
        with_reducible rfl
       rotate_left
       ·simp only [Act.put, List.setIfInBounds_toArray, List.set_cons_zero, List.set_cons_succ, i64_w, i32_w]
        rfl
       refine pure_ (i := 3) (N := some 24) (v := ?_) (a' := ?_) #[true, true, true, true, false, false, false, false, false, false, false, false, false, false, false, false, false, false, false, false, false, false, false, false, false, false, false, false, false, false] rfl rfl (any_of HT_.out (by kernel_rfl)) (fun _ _ _ h => h) (Or.inl ⟨by rfl, ?_⟩) ?_ ?_
       rotate_left
       ·intro w'
        go_simp
        with_reducible rfl
       rotate_left
       ·simp only [Act.put, List.setIfInBounds_toArray, List.set_cons_zero, List.set_cons_succ, i64_w, i32_w]
        rfl
       refine pure_ (i := 4) (N := some 25) (v := ?_) (a' := ?_) #[true, true, true, true, true, false, false, false, false, false, false, false, false, false, false, false, false, false, false, false, false, false, false, false, false, false, false, false, false, false] rfl rfl (any_of HT_.out (by kernel_rfl)) (fun _ _ _ h => h) (Or.inl ⟨by rfl, ?_⟩) ?_ ?_
       rotate_left
       ·intro w'
        go_simp
        with_reducible rfl
       rotate_left
       ·simp only [Act.put, List.setIfInBounds_toArray, List.set_cons_zero, List.set_cons_succ, i64_w, i32_w]
        rfl
       refine take_ (i := 5) (N := some 26) (v := ?_) (a' := ?_) #[true, true, true, true, true, true, false, false, false, false, false, false, false, false, false, false, false, false, false, false, false, false, false, false, false, false, false, false, false, false] rfl rfl (take_ofW HT_.out HW_.out (by kernel_rfl)) (fun _ _ _ h => h) (Or.inl ⟨by rfl, ?_⟩) hHeld ?_ ?_
       rotate_left
       ·rintro w' ⟨s0, s1, s2, s3, s4, s5, s6, s7⟩
        go_simp
        with_reducible rfl
       rotate_left
       ·simp only [Act.put, List.setIfInBounds_toArray, List.set_cons_zero, List.set_cons_succ, i64_w, i32_w]
        rfl
       refine one_ (i := 6) (N := some 27) #[true, true, true, true, true, true, true, false, false, false, false, false, false, false, false, false, false, false, false, false, false, false, false, false, false, false, false, false, false, false] rfl rfl (one_of HT_.out (by kernel_rfl)) (by decide) (fun K hK => ?_)
       refine goes_ Tryd.func54 (by kernel_rfl) rfl #[.int .i64 (-3)] (by rfl) rfl rfl (by (try simp only [List.map_toArray, List.map_cons, List.map_nil]); first | done | rfl | (simp only [List.length_drop, List.length_take]; rfl)) ?_
       with_reducible refine (integer_FromInt64.calls k (-3) t529 t530 _ A9.out).mono ?_
       rintro e w40 ⟨rfl, hb⟩
       refine ⟨_, rfl, ?_⟩
       replace BK516 := Q.a (Q.bb BK516 hb)
       replace BK517 := Q.a (Q.bb BK517 hb)
       replace BK527 := Q.a (Q.bb BK527 hb)
       replace BK528 := Q.a (Q.bb BK528 hb)
       replace HB := Q.a (below_step (Q.bw4 HB GE516 GE517 GE527 GE528) hb)
       (try clear hb)
       (try clear hb2)
       (try clear hk)
       (try clear hi)
       refine hK.out _ _ ⟨(blk_cell BK516.out 0).trans rfl, (blk_cell BK516.out 1).trans rfl, (blk_cell BK517.out 0).trans rfl, (blk_cell BK517.out 1).trans rfl, (blk_cell BK527.out 0).trans rfl, (blk_cell BK527.out 1).trans rfl, (blk_cell BK528.out 0).trans rfl, (blk_cell BK528.out 1).trans rfl⟩ (fun hHeld => ?_)
       clear hK K
       refine norm_ (a' := ?_) ?_ ?_
       rotate_left
       ·show Act.put _ (some 27) _ = _
        simp only [Act.put, List.setIfInBounds_toArray, List.set_cons_zero, List.set_cons_succ, i64_w, i32_w]
        rfl
       refine pure_ (i := 7) (N := some 28) (v := ?_) (a' := ?_) #[true, true, true, true, true, true, true, true, false, false, false, false, false, false, false, false, false, false, false, false, false, false, false, false, false, false, false, false, false, false] rfl rfl (any_of HT_.out (by kernel_rfl)) (fun _ _ _ h => h) (Or.inl ⟨by rfl, ?_⟩) ?_ ?_
       rotate_left
       ·intro w'
        go_simp
        with_reducible rfl
       rotate_left
       ·simp only [Act.put, List.setIfInBounds_toArray, List.set_cons_zero, List.set_cons_succ, i64_w, i32_w]
        rfl
       refine pure_ (i := 8) (N := some 29) (v := ?_) (a' := ?_) #[true, true, true, true, true, true, true, true, true, false, false, false, false, false, false, false, false, false, false, false, false, false, false, false, false, false, false, false, false, false] rfl rfl (any_of HT_.out (by kernel_rfl)) (fun _ _ _ h => h) (Or.inl ⟨by rfl, ?_⟩) ?_ ?_
       rotate_left
       ·intro w'
        go_simp
        with_reducible rfl
       rotate_left
       ·simp only [Act.put, List.setIfInBounds_toArray, List.set_cons_zero, List.set_cons_succ, i64_w, i32_w]
        rfl
       refine pure_ (i := 9) (N := some 30) (v := ?_) (a' := ?_) #[true, true, true, true, true, true, true, true, true, true, false, false, false, false, false, false, false, false, false, false, false, false, false, false, false, false, false, false, false, false] rfl rfl (any_of HT_.out (by kernel_rfl)) (fun _ _ _ h => h) (Or.inl ⟨by rfl, ?_⟩) ?_ ?_
       rotate_left
       ·intro w'
        go_simp
        with_reducible rfl
       rotate_left
       ·simp only [Act.put, List.setIfInBounds_toArray, List.set_cons_zero, List.set_cons_succ, i64_w, i32_w]
        rfl
       refine take_ (i := 10) (N := some 31) (v := ?_) (a' := ?_) #[true, true, true, true, true, true, true, true, true, true, true, false, false, false, false, false, false, false, false, false, false, false, false, false, false, false, false, false, false, false] rfl rfl (take_ofW HT_.out HW_.out (by kernel_rfl)) (fun _ _ _ h => h) (Or.inl ⟨by rfl, ?_⟩) hHeld ?_ ?_
       rotate_left
       ·rintro w' ⟨s0, s1, s2, s3, s4, s5, s6, s7⟩
        go_simp
        with_reducible rfl
       rotate_left
       ·simp only [Act.put, List.setIfInBounds_toArray, List.set_cons_zero, List.set_cons_succ, i64_w, i32_w]
        rfl
       refine one_ (i := 11) (N := some 32) #[true, true, true, true, true, true, true, true, true, true, true, true, false, false, false, false, false, false, false, false, false, false, false, false, false, false, false, false, false, false] rfl rfl (one_of HT_.out (by kernel_rfl)) (by decide) (fun K hK => ?_)
       refine goes_ Tryd.func54 (by kernel_rfl) rfl #[.int .i64 1] (by rfl) rfl rfl (by (try simp only [List.map_toArray, List.map_cons, List.map_nil]); first | done | rfl | (simp only [List.length_drop, List.length_take]; rfl)) ?_
       with_reducible refine (integer_FromInt64.calls k 1 t531 t532 _ A11.out).mono ?_
       rintro e w41 ⟨rfl, hb⟩
       refine ⟨_, rfl, ?_⟩
       replace BK516 := Q.a (Q.bb BK516 hb)
       replace BK517 := Q.a (Q.bb BK517 hb)
       replace BK527 := Q.a (Q.bb BK527 hb)
       replace BK528 := Q.a (Q.bb BK528 hb)
       replace HB := Q.a (below_step (Q.bw4 HB GE516 GE517 GE527 GE528) hb)
       (try clear hb)
       (try clear hb2)
       (try clear hk)
       (try clear hi)
       refine hK.out _ _ ⟨(blk_cell BK516.out 0).trans rfl, (blk_cell BK516.out 1).trans rfl, (blk_cell BK517.out 0).trans rfl, (blk_cell BK517.out 1).trans rfl, (blk_cell BK527.out 0).trans rfl, (blk_cell BK527.out 1).trans rfl, (blk_cell BK528.out 0).trans rfl, (blk_cell BK528.out 1).trans rfl⟩ (fun hHeld => ?_)
       clear hK K
       refine norm_ (a' := ?_) ?_ ?_
       rotate_left
       ·show Act.put _ (some 32) _ = _
        simp only [Act.put, List.setIfInBounds_toArray, List.set_cons_zero, List.set_cons_succ, i64_w, i32_w]
        rfl
       refine pure_ (i := 12) (N := some 33) (v := ?_) (a' := ?_) #[true, true, true, true, true, true, true, true, true, true, true, true, true, false, false, false, false, false, false, false, false, false, false, false, false, false, false, false, false, false] rfl rfl (any_of HT_.out (by kernel_rfl)) (fun _ _ _ h => h) (Or.inl ⟨by rfl, ?_⟩) ?_ ?_
       rotate_left
       ·intro w'
        go_simp
        with_reducible rfl
       rotate_left
       ·simp only [Act.put, List.setIfInBounds_toArray, List.set_cons_zero, List.set_cons_succ, i64_w, i32_w]
        rfl
       refine pure_ (i := 13) (N := some 34) (v := ?_) (a' := ?_) #[true, true, true, true, true, true, true, true, true, true, true, true, true, true, false, false, false, false, false, false, false, false, false, false, false, false, false, false, false, false] rfl rfl (any_of HT_.out (by kernel_rfl)) (fun _ _ _ h => h) (Or.inl ⟨by rfl, ?_⟩) ?_ ?_
       rotate_left
       ·intro w'
        go_simp
        with_reducible rfl
       rotate_left
       ·simp only [Act.put, List.setIfInBounds_toArray, List.set_cons_zero, List.set_cons_succ, i64_w, i32_w]
        rfl
       refine pure_ (i := 14) (N := some 35) (v := ?_) (a' := ?_) #[true, true, true, true, true, true, true, true, true, true, true, true, true, true, true, false, false, false, false, false, false, false, false, false, false, false, false, false, false, false] rfl rfl (any_of HT_.out (by kernel_rfl)) (fun _ _ _ h => h) (Or.inl ⟨by rfl, ?_⟩) ?_ ?_
       rotate_left
       ·intro w'
        go_simp
        with_reducible rfl
       rotate_left
       ·simp only [Act.put, List.setIfInBounds_toArray, List.set_cons_zero, List.set_cons_succ, i64_w, i32_w]
        rfl
       refine take_ (i := 15) (N := some 36) (v := ?_) (a' := ?_) #[true, true, true, true, true, true, true, true, true, true, true, true, true, true, true, true, false, false, false, false, false, false, false, false, false, false, false, false, false, false] rfl rfl (take_ofW HT_.out HW_.out (by kernel_rfl)) (fun _ _ _ h => h) (Or.inl ⟨by rfl, ?_⟩) hHeld ?_ ?_
       rotate_left
       ·rintro w' ⟨s0, s1, s2, s3, s4, s5, s6, s7⟩
        go_simp
        with_reducible rfl
       rotate_left
       ·simp only [Act.put, List.setIfInBounds_toArray, List.set_cons_zero, List.set_cons_succ, i64_w, i32_w]
        rfl
       refine one_ (i := 16) (N := some 37) #[true, true, true, true, true, true, true, true, true, true, true, true, true, true, true, true, true, false, false, false, false, false, false, false, false, false, false, false, false, false] rfl rfl (one_of HT_.out (by kernel_rfl)) (by decide) (fun K hK => ?_)
       refine goes_ Tryd.func54 (by kernel_rfl) rfl #[.int .i64 (-4)] (by rfl) rfl rfl (by (try simp only [List.map_toArray, List.map_cons, List.map_nil]); first | done | rfl | (simp only [List.length_drop, List.length_take]; rfl)) ?_
       with_reducible refine (integer_FromInt64.calls k (-4) t533 t534 _ A13.out).mono ?_
       rintro e w42 ⟨rfl, hb⟩
       refine ⟨_, rfl, ?_⟩
       replace BK516 := Q.a (Q.bb BK516 hb)
       replace BK517 := Q.a (Q.bb BK517 hb)
       replace BK527 := Q.a (Q.bb BK527 hb)
       replace BK528 := Q.a (Q.bb BK528 hb)
       replace HB := Q.a (below_step (Q.bw4 HB GE516 GE517 GE527 GE528) hb)
       (try clear hb)
       (try clear hb2)
       (try clear hk)
       (try clear hi)
       refine hK.out _ _ ⟨(blk_cell BK516.out 0).trans rfl, (blk_cell BK516.out 1).trans rfl, (blk_cell BK517.out 0).trans rfl, (blk_cell BK517.out 1).trans rfl, (blk_cell BK527.out 0).trans rfl, (blk_cell BK527.out 1).trans rfl, (blk_cell BK528.out 0).trans rfl, (blk_cell BK528.out 1).trans rfl⟩ (fun hHeld => ?_)
       clear hK K
       refine norm_ (a' := ?_) ?_ ?_
       rotate_left
       ·show Act.put _ (some 37) _ = _
        simp only [Act.put, List.setIfInBounds_toArray, List.set_cons_zero, List.set_cons_succ, i64_w, i32_w]
        rfl
       refine pure_ (i := 17) (N := some 38) (v := ?_) (a' := ?_) #[true, true, true, true, true, true, true, true, true, true, true, true, true, true, true, true, true, true, false, false, false, false, false, false, false, false, false, false, false, false] rfl rfl (any_of HT_.out (by kernel_rfl)) (fun _ _ _ h => h) (Or.inl ⟨by rfl, ?_⟩) ?_ ?_
       rotate_left
       ·intro w'
        go_simp
        with_reducible rfl
       rotate_left
       ·simp only [Act.put, List.setIfInBounds_toArray, List.set_cons_zero, List.set_cons_succ, i64_w, i32_w]
        rfl
       refine pure_ (i := 18) (N := some 39) (v := ?_) (a' := ?_) #[true, true, true, true, true, true, true, true, true, true, true, true, true, true, true, true, true, true, true, false, false, false, false, false, false, false, false, false, false, false] rfl rfl (any_of HT_.out (by kernel_rfl)) (fun _ _ _ h => h) (Or.inl ⟨by rfl, ?_⟩) ?_ ?_
       rotate_left
       ·intro w'
        go_simp
        with_reducible rfl
       rotate_left
       ·simp only [Act.put, List.setIfInBounds_toArray, List.set_cons_zero, List.set_cons_succ, i64_w, i32_w]
        rfl
       refine pure_ (i := 19) (N := some 40) (v := ?_) (a' := ?_) #[true, true, true, true, true, true, true, true, true, true, true, true, true, true, true, true, true, true, true, true, false, false, false, false, false, false, false, false, false, false] rfl rfl (any_of HT_.out (by kernel_rfl)) (fun _ _ _ h => h) (Or.inl ⟨by rfl, ?_⟩) ?_ ?_
       rotate_left
       ·intro w'
        go_simp
        with_reducible rfl
       rotate_left
       ·simp only [Act.put, List.setIfInBounds_toArray, List.set_cons_zero, List.set_cons_succ, i64_w, i32_w]
        rfl
       refine take_ (i := 20) (N := some 41) (v := ?_) (a' := ?_) #[true, true, true, true, true, true, true, true, true, true, true, true, true, true, true, true, true, true, true, true, true, false, false, false, false, false, false, false, false, false] rfl rfl (take_ofW HT_.out HW_.out (by kernel_rfl)) (fun _ _ _ h => h) (Or.inl ⟨by rfl, ?_⟩) hHeld ?_ ?_
       rotate_left
       ·rintro w' ⟨s0, s1, s2, s3, s4, s5, s6, s7⟩
        go_simp
        with_reducible rfl
       rotate_left
       ·simp only [Act.put, List.setIfInBounds_toArray, List.set_cons_zero, List.set_cons_succ, i64_w, i32_w]
        rfl
       refine one_ (i := 21) (N := some 42) #[true, true, true, true, true, true, true, true, true, true, true, true, true, true, true, true, true, true, true, true, true, true, false, false, false, false, false, false, false, false] rfl rfl (one_of HT_.out (by kernel_rfl)) (by decide) (fun K hK => ?_)
       refine goes_ Tryd.func54 (by kernel_rfl) rfl #[.int .i64 1] (by rfl) rfl rfl (by (try simp only [List.map_toArray, List.map_cons, List.map_nil]); first | done | rfl | (simp only [List.length_drop, List.length_take]; rfl)) ?_
       with_reducible refine (integer_FromInt64.calls k 1 t535 t536 _ A15.out).mono ?_
       rintro e w43 ⟨rfl, hb⟩
       refine ⟨_, rfl, ?_⟩
       replace BK516 := Q.a (Q.bb BK516 hb)
       replace BK517 := Q.a (Q.bb BK517 hb)
       replace BK527 := Q.a (Q.bb BK527 hb)
       replace BK528 := Q.a (Q.bb BK528 hb)
       replace HB := Q.a (below_step (Q.bw4 HB GE516 GE517 GE527 GE528) hb)
       (try clear hb)
       (try clear hb2)
       (try clear hk)
       (try clear hi)
       refine hK.out _ _ ⟨(blk_cell BK516.out 0).trans rfl, (blk_cell BK516.out 1).trans rfl, (blk_cell BK517.out 0).trans rfl, (blk_cell BK517.out 1).trans rfl, (blk_cell BK527.out 0).trans rfl, (blk_cell BK527.out 1).trans rfl, (blk_cell BK528.out 0).trans rfl, (blk_cell BK528.out 1).trans rfl⟩ (fun hHeld => ?_)
       clear hK K
       refine norm_ (a' := ?_) ?_ ?_
       rotate_left
       ·show Act.put _ (some 42) _ = _
        simp only [Act.put, List.setIfInBounds_toArray, List.set_cons_zero, List.set_cons_succ, i64_w, i32_w]
        rfl
       refine pure_ (i := 22) (N := some 43) (v := ?_) (a' := ?_) #[true, true, true, true, true, true, true, true, true, true, true, true, true, true, true, true, true, true, true, true, true, true, true, false, false, false, false, false, false, false] rfl rfl (any_of HT_.out (by kernel_rfl)) (fun _ _ _ h => h) (Or.inl ⟨by rfl, ?_⟩) ?_ ?_
       rotate_left
       ·intro w'
        go_simp
        with_reducible rfl
       rotate_left
       ·simp only [Act.put, List.setIfInBounds_toArray, List.set_cons_zero, List.set_cons_succ, i64_w, i32_w]
        rfl
       refine pure_ (i := 23) (N := some 44) (v := ?_) (a' := ?_) #[true, true, true, true, true, true, true, true, true, true, true, true, true, true, true, true, true, true, true, true, true, true, true, true, false, false, false, false, false, false] rfl rfl (any_of HT_.out (by kernel_rfl)) (fun _ _ _ h => h) (Or.inl ⟨by rfl, ?_⟩) ?_ ?_
       rotate_left
       ·intro w'
        go_simp
        with_reducible rfl
       rotate_left
       ·simp only [Act.put, List.setIfInBounds_toArray, List.set_cons_zero, List.set_cons_succ, i64_w, i32_w]
        rfl
       refine pure_ (i := 24) (N := some 45) (v := ?_) (a' := ?_) #[true, true, true, true, true, true, true, true, true, true, true, true, true, true, true, true, true, true, true, true, true, true, true, true, true, false, false, false, false, false] rfl rfl (any_of HT_.out (by kernel_rfl)) (fun _ _ _ h => h) (Or.inl ⟨by rfl, ?_⟩) ?_ ?_
       rotate_left
       ·intro w'
        go_simp
        with_reducible rfl
       rotate_left
       ·simp only [Act.put, List.setIfInBounds_toArray, List.set_cons_zero, List.set_cons_succ, i64_w, i32_w]
        rfl
       refine take_ (i := 25) (N := some 46) (v := ?_) (a' := ?_) #[true, true, true, true, true, true, true, true, true, true, true, true, true, true, true, true, true, true, true, true, true, true, true, true, true, true, false, false, false, false] rfl rfl (take_ofW HT_.out HW_.out (by kernel_rfl)) (fun _ _ _ h => h) (Or.inl ⟨by rfl, ?_⟩) hHeld ?_ ?_
       rotate_left
       ·rintro w' ⟨s0, s1, s2, s3, s4, s5, s6, s7⟩
        go_simp
        with_reducible rfl
       rotate_left
       ·simp only [Act.put, List.setIfInBounds_toArray, List.set_cons_zero, List.set_cons_succ, i64_w, i32_w]
        rfl
       refine one_ (i := 26) (N := some 47) #[true, true, true, true, true, true, true, true, true, true, true, true, true, true, true, true, true, true, true, true, true, true, true, true, true, true, true, false, false, false] rfl rfl (one_of HT_.out (by kernel_rfl)) (by decide) (fun K hK => ?_)
       refine goes_ Tryd.func65 (by kernel_rfl) rfl #[.agg #[.bool t522, .string t523]] (by rfl) rfl rfl (by (try simp only [List.map_toArray, List.map_cons, List.map_nil]); first | done | rfl | (simp only [List.length_drop, List.length_take]; rfl)) ?_
       with_reducible refine (integer_Format.calls k t522 t523 t537 _ ?side1 A17.out).mono ?_
       (case side1 => exact X.G.below HG.out (Q.bw4 HB GE516 GE517 GE527 GE528))
       rintro e w44 ⟨rfl, hb⟩
       refine ⟨_, rfl, ?_⟩
       replace BK516 := Q.a (Q.bb BK516 hb)
       replace BK517 := Q.a (Q.bb BK517 hb)
       replace BK527 := Q.a (Q.bb BK527 hb)
       replace BK528 := Q.a (Q.bb BK528 hb)
       replace HB := Q.a (below_step (Q.bw4 HB GE516 GE517 GE527 GE528) hb)
       (try clear hb)
       (try clear hb2)
       (try clear hk)
       (try clear hi)
       refine hK.out _ _ ⟨(blk_cell BK516.out 0).trans rfl, (blk_cell BK516.out 1).trans rfl, (blk_cell BK517.out 0).trans rfl, (blk_cell BK517.out 1).trans rfl, (blk_cell BK527.out 0).trans rfl, (blk_cell BK527.out 1).trans rfl, (blk_cell BK528.out 0).trans rfl, (blk_cell BK528.out 1).trans rfl⟩ (fun hHeld => ?_)
       clear hK K
       refine norm_ (a' := ?_) ?_ ?_
       rotate_left
       ·show Act.put _ (some 47) _ = _
        simp only [Act.put, List.setIfInBounds_toArray, List.set_cons_zero, List.set_cons_succ, i64_w, i32_w]
        rfl
       refine pure_ (i := 27) (N := some 48) (v := ?_) (a' := ?_) #[true, true, true, true, true, true, true, true, true, true, true, true, true, true, true, true, true, true, true, true, true, true, true, true, true, true, true, true, false, false] rfl rfl (any_of HT_.out (by kernel_rfl)) (fun _ _ _ h => h) (Or.inl ⟨by rfl, ?_⟩) ?_ ?_
       rotate_left
       ·intro w'
        go_simp
        with_reducible rfl
       rotate_left
       ·simp only [Act.put, List.setIfInBounds_toArray, List.set_cons_zero, List.set_cons_succ, i64_w, i32_w]
        rfl
       refine pure_ (i := 28) (N := some 49) (v := ?_) (a' := ?_) #[true, true, true, true, true, true, true, true, true, true, true, true, true, true, true, true, true, true, true, true, true, true, true, true, true, true, true, true, true, false] rfl rfl (any_of HT_.out (by kernel_rfl)) (fun _ _ _ h => h) (Or.inl ⟨by rfl, ?_⟩) ?_ ?_
       rotate_left
       ·intro w'
        go_simp
        with_reducible rfl
       rotate_left
       ·simp only [Act.put, List.setIfInBounds_toArray, List.set_cons_zero, List.set_cons_succ, i64_w, i32_w]
        rfl
       refine pure_ (i := 29) (N := some 0) (v := ?_) (a' := ?_) #[true, true, true, true, true, true, true, true, true, true, true, true, true, true, true, true, true, true, true, true, true, true, true, true, true, true, true, true, true, true] rfl rfl (any_of HT_.out (by kernel_rfl)) (fun _ _ _ h => h) (Or.inl ⟨by rfl, ?_⟩) ?_ ?_
       rotate_left
       ·intro w'
        go_simp
        with_reducible rfl
       rotate_left
       ·simp only [Act.put, List.setIfInBounds_toArray, List.set_cons_zero, List.set_cons_succ, i64_w, i32_w]
        rfl
       refine done_ (done_of HT_.out (by kernel_rfl)) ?_
       try go_wp2
       go_ret
       exact ⟨Q.en, Q.bw4 HB GE516 GE517 GE527 GE528⟩
      ·rw [if_neg c16] at H
       have c16b0 : (t524 == t535 && (t525.toList == t536.toList)) = false := by simpa using c16
       (try (have c16b1 : decide (t524 = t535 && (t525.toList == t536.toList)) = false := by simpa using c16))
       (try (have c16b2 : (t524 == t535 && (t525.toList == t536.toList)) = false := by simpa using c16))
       (try (have c16b3 : ¬ (t524 = t535 && (t525.toList == t536.toList)) := by simpa using c16))
       clear c16
       obtain rfl := Option.some.inj H
       exact absurd HR.out (by decide)
     ·rw [if_neg c14] at H
      have c14b0 : (t522 == t533 && (t523.toList == t534.toList)) = false := by simpa using c14
      (try (have c14b1 : decide (t522 = t533 && (t523.toList == t534.toList)) = false := by simpa using c14))
      (try (have c14b2 : (t522 == t533 && (t523.toList == t534.toList)) = false := by simpa using c14))
      (try (have c14b3 : ¬ (t522 = t533 && (t523.toList == t534.toList)) := by simpa using c14))
      clear c14
      obtain rfl := Option.some.inj H
      exact absurd HR.out (by decide)
    ·rw [if_neg c12] at H
     have c12b0 : (t513 == t531 && (t514.toList == t532.toList)) = false := by simpa using c12
     (try (have c12b1 : decide (t513 = t531 && (t514.toList == t532.toList)) = false := by simpa using c12))
     (try (have c12b2 : (t513 == t531 && (t514.toList == t532.toList)) = false := by simpa using c12))
     (try (have c12b3 : ¬ (t513 = t531 && (t514.toList == t532.toList)) := by simpa using c12))
     clear c12
     obtain rfl := Option.some.inj H
     exact absurd HR.out (by decide)
   ·rw [if_neg c10] at H
    have c10b0 : (t511 == t529 && (t512.toList == t530.toList)) = false := by simpa using c10
    (try (have c10b1 : decide (t511 = t529 && (t512.toList == t530.toList)) = false := by simpa using c10))
    (try (have c10b2 : (t511 == t529 && (t512.toList == t530.toList)) = false := by simpa using c10))
    (try (have c10b3 : ¬ (t511 = t529 && (t512.toList == t530.toList)) := by simpa using c10))
    clear c10
    obtain rfl := Option.some.inj H
    exact absurd HR.out (by decide)
  ·replace c8 := Bool.eq_false_iff.mpr c8
   subst c8
   rw [if_neg (show ¬ (false = true) by decide)] at H
   obtain rfl := Option.some.inj H
   exact absurd HR.out (by decide)
 ·replace c7 := Bool.eq_false_iff.mpr c7
  subst c7
  rw [if_neg (show ¬ (false = true) by decide)] at H
  obtain rfl := Option.some.inj H
  exact absurd HR.out (by decide)
end Go.Proofs.YtpokflilobkoaaaDoor.P
