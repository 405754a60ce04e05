/- Out of what mp.py printed for this seat (squeeze.py, repack.py). Not trusted: Lean checks it. -/
import Derived.Test.YtpokflilobkoaaaDoorPx0
import Derived.Test.YtpokflilobkoaaaDoorPx1
import Derived.Test.YtpokflilobkoaaaDoorPxIB
import Derived.Test.YtpokflilobkoaaaDoorPxIntegerMul
import Derived.Test.YtpokflilobkoaaaDoorPxSB
import Derived.Test.YtpokflilobkoaaaDoorPxVoussoirlaw02Fixed
import Derived.Test.YtpokflilobkoaaaDoorPxVoussoirlaw02Great
import Derived.Test.YtpokflilobkoaaaDoorPxVoussoirref02Mul
import Derived.Test.YtpokflilobkoaaaDoorXQ
-- squeezed twice
namespace Go.Proofs.YtpokflilobkoaaaDoor.P
open Go.RowKit Go.Proofs.YtpokflilobkoaaaDoorW.PrintWords Go.Proofs.YtpokflilobkoaaaDoorW.PrintLast Go.Proofs.YtpokflilobkoaaaDoorW.PrintMore
attribute [local go_sem] max2_int min2_int max_two min_two max_three min_three max_four min_four   -- for this text's walks alone
attribute [local go_sem] XW.cell_twice   -- for this text's walks alone
set_option linter.unusedVariables false
set_option linter.unusedSimpArgs false
attribute [local go_sem high] eqA36

/-! ### voussoirlaw02_IntegerMultiplication: function 10 -/
def voussoirlaw02_IntegerMultiplication.f (k : Nat) (a0_0 : Bool) (a0_1 : ByteArray) (a1_0 : Bool) (a1_1 : ByteArray) : Option (Bool) := (voussoirlaw02_Great.f k (([(⟨a0_0, a0_1⟩ : S36), (⟨a1_0, a1_1⟩ : S36)] : List (S36)))).bind fun t628 => (if t628 > 0 then ((voussoirlaw02_fixed.f k).bind fun t629 => (some t629)) else ((integer_Div.f k a0_0 a0_1 a1_0 a1_1).bind fun bt630 => ((voussoirref02_Div.f k a0_0 a0_1 a1_0 a1_1).bind fun bt637 => ((voussoirlaw02_fixed.f k).bind fun t644 => (if t644 = true then ((integer_Mul.f k a0_0 a0_1 a1_0 a1_1).bind fun bt645 => ((voussoirref02_Mul.f k a0_0 a0_1 a1_0 a1_1).bind fun bt647 => (if (bt645.1 == bt647.1 && (bt645.2.toList == bt647.2.toList)) = true then (if (bt630.1 == bt637.1 && (bt630.2.1.toList == bt637.2.1.toList)) = true then (if (bt630.2.2.1 == bt637.2.2.1 && (bt630.2.2.2.1.toList == bt637.2.2.2.1.toList)) = true then (some (bt630.2.2.2.2 == bt637.2.2.2.2)) else (some false)) else (some false)) else (some false)))) else (some false))))))
theorem voussoirlaw02_IntegerMultiplication.mono : ∀ a0 a1 a2 a3 k, LeO (voussoirlaw02_IntegerMultiplication.f k a0 a1 a2 a3) (voussoirlaw02_IntegerMultiplication.f (k + 1) a0 a1 a2 a3) := by
 intro a0 a1 a2 a3 k
 unfold voussoirlaw02_IntegerMultiplication.f
 repeat' first
   | (with_reducible exact integer_Div.mono _ _ _ _ _)
   | (with_reducible exact integer_Mul.mono _ _ _ _ _)
   | (with_reducible exact voussoirlaw02_Great.mono _ _)
   | (with_reducible exact voussoirlaw02_fixed.mono _)
   | (with_reducible exact voussoirref02_Div.mono _ _ _ _ _)
   | (with_reducible exact voussoirref02_Mul.mono _ _ _ _ _)
   | (with_reducible exact LeO.refl _)
   | (with_reducible exact LeO.none _)
   | (with_reducible refine LeO.ite ?_ ?_)
   | (with_reducible refine LeO.bind ?_ (fun _ => ?_))
   | exact integer_Div.mono _ _ _ _ _
   | exact integer_Mul.mono _ _ _ _ _
   | exact voussoirlaw02_Great.mono _ _
   | exact voussoirlaw02_fixed.mono _
   | exact voussoirref02_Div.mono _ _ _ _ _
   | exact voussoirref02_Mul.mono _ _ _ _ _
   | exact LeO.none _
   | refine LeO.ite ?_ ?_
   | refine LeO.bind ?_ (fun _ => ?_)
def voussoirlaw02_IntegerMultiplication.T5 : Bool × List (List Nat × List Nat) := (true, [([], []), ([0, 0], [0]), ([1], [1]), ([1], [1]), ([2, 3, 1, 1], [1, 2, 3]), ([1], [1]), ([1], [1]), ([5, 6, 4, 1], [1, 5, 6]), ([4, 7, 1], [1, 4, 7]), ([1, 8], [1, 8]), ([9, 7], [9]), ([10], [10]), ([10], [10]), ([11, 12, 10], [10, 11, 12]), ([10, 13], [10, 13]), ([14, 10], [14]), ([15], [15]), ([15], [15]), ([16, 17, 15], [15, 16, 17]), ([15, 18], [15, 18]), ([19, 15], [19]), ([20], [20]), ([20], [20]), ([21, 22, 20], [20, 21, 22]), ([20, 23], [20, 23]), ([24, 20, 0, 1, 2, 3, 4, 5, 6, 7, 8, 9, 10, 11, 12, 13, 14, 15, 16, 17, 18, 19, 20, 21, 22, 23, 24], [24])])
def voussoirlaw02_IntegerMultiplication.B5 : List Nat := [0, 1, 3, 3, 15, 3, 3, 127, 255, 511, 1023, 2047, 2047, 8191, 16383, 32767, 65535, 65535, 262143, 524287, 1048575, 2097151, 2097151, 8388607, 16777215, 33554431]
theorem voussoirlaw02_IntegerMultiplication.tab5 : rtab .any (opsOf Tryd.f10 5) = voussoirlaw02_IntegerMultiplication.T5 := by kernel_rfl
theorem voussoirlaw02_IntegerMultiplication.bits5 : waitsOk voussoirlaw02_IntegerMultiplication.T5.2 voussoirlaw02_IntegerMultiplication.B5 = true := by kernel_rfl
set_option maxHeartbeats 8000000 in
set_option maxRecDepth 100000 in
theorem voussoirlaw02_IntegerMultiplication.calls (k : Nat) (a0_0 : Bool) (a0_1 : ByteArray) (a1_0 : Bool) (a1_1 : ByteArray) (r : Bool) (hr : r = true) (w : World) (hG : X.G w) (h : voussoirlaw02_IntegerMultiplication.f k a0_0 a0_1 a1_0 a1_1 = some r) :
  Calls Tryd.prog 10 #[.agg #[.bool a0_0, .string a0_1], .agg #[.bool a1_0, .string a1_1]] w fun e w' => e = .returned (.bool r) ∧ Below w.heap.size w w' := by
 have HR := Q.a hr
 clear hr
 have hu36 := Tryd.underlying36
 have HG := Q.a hG
 clear hG
 have HB := Q.a (Below.refl w.heap.size w)
 have H : ((voussoirlaw02_Great.f k (([(⟨a0_0, a0_1⟩ : S36), (⟨a1_0, a1_1⟩ : S36)] : List (S36)))).bind fun t628 => (if t628 > 0 then ((voussoirlaw02_fixed.f k).bind fun t629 => (some t629)) else ((integer_Div.f k a0_0 a0_1 a1_0 a1_1).bind fun bt630 => ((voussoirref02_Div.f k a0_0 a0_1 a1_0 a1_1).bind fun bt637 => ((voussoirlaw02_fixed.f k).bind fun t644 => (if t644 = true then ((integer_Mul.f k a0_0 a0_1 a1_0 a1_1).bind fun bt645 => ((voussoirref02_Mul.f k a0_0 a0_1 a1_0 a1_1).bind fun bt647 => (if (bt645.1 == bt647.1 && (bt645.2.toList == bt647.2.toList)) = true then (if (bt630.1 == bt637.1 && (bt630.2.1.toList == bt637.2.1.toList)) = true then (if (bt630.2.2.1 == bt637.2.2.1 && (bt630.2.2.2.1.toList == bt637.2.2.2.1.toList)) = true then (some (bt630.2.2.2.2 == bt637.2.2.2.2)) else (some false)) else (some false)) else (some false)))) else (some false))))))) = some r := h
 clear h
 obtain ⟨y625, hy625⟩ : ∃ y_ : List (S36), y_ = (([(⟨a0_0, a0_1⟩ : S36), (⟨a1_0, a1_1⟩ : S36)] : List (S36))) := ⟨_, rfl⟩
 replace H : ((voussoirlaw02_Great.f k y625).bind fun t628 => (if t628 > 0 then ((voussoirlaw02_fixed.f k).bind fun t629 => (some t629)) else ((integer_Div.f k a0_0 a0_1 a1_0 a1_1).bind fun bt630 => ((voussoirref02_Div.f k a0_0 a0_1 a1_0 a1_1).bind fun bt637 => ((voussoirlaw02_fixed.f k).bind fun t644 => (if t644 = true then ((integer_Mul.f k a0_0 a0_1 a1_0 a1_1).bind fun bt645 => ((voussoirref02_Mul.f k a0_0 a0_1 a1_0 a1_1).bind fun bt647 => (if (bt645.1 == bt647.1 && (bt645.2.toList == bt647.2.toList)) = true then (if (bt630.1 == bt637.1 && (bt630.2.1.toList == bt637.2.1.toList)) = true then (if (bt630.2.2.1 == bt637.2.2.1 && (bt630.2.2.2.1.toList == bt637.2.2.2.1.toList)) = true then (some (bt630.2.2.2.2 == bt637.2.2.2.2)) else (some false)) else (some false)) else (some false)))) else (some false))))))) = some r := by first | (rw [hy625]; with_reducible exact H) | (have H2_ := (Option.bind_some _ _).symm.trans H; rw [hy625]; with_reducible exact H2_) | (have H2_ := (Option.bind_some _ _).symm.trans H; with_reducible exact H2_) | with_reducible exact H | (rw [hy625]; exact H) | exact H
 have Ny625 := Q.a hy625
 clear hy625
 replace H := Option.bind_eq_some_iff.mp H
 obtain ⟨t628, A30, H⟩ := H
 try dsimp only at H
 have A3 := Q.a A30
 clear A30
 by_cases c4 : t628 > 0
 ·rw [if_pos c4] at H
  have c4b0 : decide (0 < t628) = true := decide_eq_true c4
  clear c4
  replace H := Option.bind_eq_some_iff.mp H
  obtain ⟨t629, A50, H⟩ := H
  try dsimp only at H
  have A5 := Q.a A50
  clear A50
  obtain rfl := Option.some.inj H
  go_enter Tryd.func10, Tryd.ntmps10
  go_wp2_with (first | ((with_reducible refine gate_dst (N := 2) rfl ?_); refine Q.bx 2 #[.bool a0_0, .string a0_1] 36 rfl rfl ?_; intro gb623 hg w6 hbox hb; replace BK623 := Q.a (hbox); replace GW623 := Q.a (Q.gs hg (below_size (Q.bw HB))); replace GE623 := GW623; replace HB := Q.a (below_step (Q.bw HB) hb); clear hb hbox hg) | ((with_reducible refine gate_dst (N := 3) rfl ?_); refine Q.bx 3 #[.bool a1_0, .string a1_1] 36 rfl rfl ?_; intro gb624 hg w7 hbox hb; replace BK624 := Q.a (hbox); replace GW624 := Q.a (Q.gs hg (below_size (Q.bw1 HB GE623))); replace GE624 := GW624; replace HB := Q.a (below_step (Q.bw1 HB GE623) hb); replace NB623_624 := Q.a (Q.nl hg BK623); replace NB624_623 := Q.a (Q.ng hg BK623); replace BK623 := Q.a (Q.bb BK623 hb); clear hb hbox hg; have hnb8 := NB623_624.out; have hnc8 := NB624_623.out; have hcz9_0 : w7.cell? ⟨gb623, 0, none⟩ = some (.bool a0_0) := (blk_cell BK623.out 0).trans rfl; have hcz9_1 : w7.cell? ⟨gb623, 1, none⟩ = some (.string a0_1) := (blk_cell BK623.out 1).trans rfl; have hfz9_0 := blk_frozen BK623.out 0; have hfz9_1 := blk_frozen BK623.out 1; have hcz10_0 : w7.cell? ⟨gb624, 0, none⟩ = some (.bool a1_0) := (blk_cell BK624.out 0).trans rfl; have hcz10_1 : w7.cell? ⟨gb624, 1, none⟩ = some (.string a1_1) := (blk_cell BK624.out 1).trans rfl; have hfz10_0 := blk_frozen BK624.out 0; have hfz10_1 := blk_frozen BK624.out 1) | ((with_reducible refine gate_dst (N := 13) rfl ?_); refine Kd.R_lit k36 _ 36 ?hg (N := 13) ?hd (xs := ([(⟨a0_0, a0_1⟩ : S36), (⟨a1_0, a1_1⟩ : S36)] : List (S36))) (inner := [.bool a0_0, .string a0_1, .bool a1_0, .string a1_1]) (ok := fun _ => True) (okp := fun _ => True) ?hr ?hp (fun _ hk => hk) trivial (Below.refl _ _) (Nat.le_refl _) (by simp) ?_; (case hd => rfl); (case hg => rfl); (case hr => first | (go_simp; done) | (go_simp; rfl)); (case hp => exact (Reps.c2 (show Kd.M k36 _ _ _ (⟨a0_0, a0_1⟩ : S36) [.bool a0_0, .string a0_1] from (k36_mkM _ _ _ (⟨a0_0, a0_1⟩ : S36) )) (Reps.c2 (show Kd.M k36 _ _ _ (⟨a1_0, a1_1⟩ : S36) [.bool a1_0, .string a1_1] from (k36_mkM _ _ _ (⟨a1_0, a1_1⟩ : S36) )) (Reps.none _ _)))); intro v626 w11 ho12 hb hg_ hnew_; clear hg_ hnew_; (first | rw [← Ny625.out] at ho12 | (simp only [Int.reduceToNat] at ho12; rw [← Ny625.out] at ho12)); replace HO627 := Q.a (Kd.R_lower (Kd.R_newB (Kd.R_newB ho12 (g := gb623) (o := .cells #[.bool a0_0, .string a0_1] 36 (0, 0)) (Q.kb BK623)) (g := gb624) (o := .cells #[.bool a1_0, .string a1_1] 36 (0, 0)) (Q.kb BK624)) (below_size (Q.bw2 HB GE623 GE624))); replace BK623 := Q.a (Q.bb BK623 hb); replace BK624 := Q.a (Q.bb BK624 hb); replace HB := Q.a (below_step (Q.bw2 HB GE623 GE624) hb); clear hb ho12; obtain ⟨Ao13, co13, eo13⟩ := Kd.R_slice HO627.out; subst eo13) | ((with_reducible refine gate_callee (f := 36) rfl ?_); refine Q.gl 14 Tryd.func36 #[.slice Ao13 y625.length co13] rfl rfl rfl rfl ?_; (with_reducible refine (voussoirlaw02_Great.calls k _ _ y625 t628 _ ?side1 ?side2 A3.out).mono ?_); (case side1 => repeat (first | exact (Kd.R_reads' HO627.out).2.2 | (with_reducible refine Kd.C_alloc ?_ _) | (with_reducible refine Kd.C_drewN ?_ _) | (with_reducible refine Kd.C_drew ?_))); (case side2 => exact (Kd.R_reads' HO627.out).2.1); rintro e w14 ⟨rfl, hb⟩; refine ⟨_, rfl, ?_⟩; replace HO627 := Q.a (Kd.R_below (Q.kr HO627) hb); replace BK623 := Q.a (Q.bb BK623 hb); replace BK624 := Q.a (Q.bb BK624 hb); replace HB := Q.a (below_step (Q.bw2 HB GE623 GE624) hb); (try clear hb)) | ((with_reducible refine gate_callee (f := 37) rfl ?_); refine Q.gl 16 Tryd.func37 #[] rfl rfl rfl rfl ?_; (with_reducible refine (voussoirlaw02_fixed.calls k  t629 HR.out _ ?side1 A5.out).mono ?_); (case side1 => exact X.G.below HG.out (Q.bw2 HB GE623 GE624)); rintro e w15 ⟨rfl, hb⟩; refine ⟨_, rfl, ?_⟩; replace HO627 := Q.a (Kd.R_below (Q.kr HO627) hb); replace BK623 := Q.a (Q.bb BK623 hb); replace BK624 := Q.a (Q.bb BK624 hb); replace HB := Q.a (below_step (Q.bw2 HB GE623 GE624) hb); (try clear hb)))
  go_ret
  exact ⟨Q.en, Q.bw2 HB GE623 GE624⟩
 ·rw [if_neg c4] at H
  have c4b0 : decide (0 < t628) = false := decide_eq_false c4
  clear c4
  replace H := Option.bind_eq_some_iff.mp H
  obtain ⟨⟨t630, t631, t632, t633, t634⟩, A160, H⟩ := H
  try dsimp only at H
  have A16 := Q.a A160
  clear A160
  replace H := Option.bind_eq_some_iff.mp H
  obtain ⟨⟨t637, t638, t639, t640, t641⟩, A170, H⟩ := H
  try dsimp only at H
  have A17 := Q.a A170
  clear A170
  replace H := Option.bind_eq_some_iff.mp H
  obtain ⟨t644, A180, H⟩ := H
  try dsimp only at H
  have A18 := Q.a A180
  clear A180
  by_cases c19 : t644 = true
  ·subst c19
   rw [if_pos rfl] at H
   replace H := Option.bind_eq_some_iff.mp H
   obtain ⟨⟨t645, t646⟩, A200, H⟩ := H
   try dsimp only at H
   have A20 := Q.a A200
   clear A200
   replace H := Option.bind_eq_some_iff.mp H
   obtain ⟨⟨t647, t648⟩, A210, H⟩ := H
   try dsimp only at H
   have A21 := Q.a A210
   clear A210
   by_cases c22 : (t645 == t647 && (t646.toList == t648.toList)) = true
   ·rw [if_pos c22] at H
    have c22b0 : (t645 == t647 && (t646.toList == t648.toList)) = true := c22
    (try (have c22b1 : decide (t645 = t647 && (t646.toList == t648.toList)) = true := by simpa using c22))
    (try (have c22b2 : (t645 == t647 && (t646.toList == t648.toList)) = true := by simpa using c22))
    clear c22
    by_cases c23 : (t630 == t637 && (t631.toList == t638.toList)) = true
    ·rw [if_pos c23] at H
     have c23b0 : (t630 == t637 && (t631.toList == t638.toList)) = true := c23
     (try (have c23b1 : decide (t630 = t637 && (t631.toList == t638.toList)) = true := by simpa using c23))
     (try (have c23b2 : (t630 == t637 && (t631.toList == t638.toList)) = true := by simpa using c23))
     clear c23
     by_cases c24 : (t632 == t639 && (t633.toList == t640.toList)) = true
     ·rw [if_pos c24] at H
      have c24b0 : (t632 == t639 && (t633.toList == t640.toList)) = true := c24
      (try (have c24b1 : decide (t632 = t639 && (t633.toList == t640.toList)) = true := by simpa using c24))
      (try (have c24b2 : (t632 == t639 && (t633.toList == t640.toList)) = true := by simpa using c24))
      clear c24
      obtain rfl := Option.some.inj H
      go_enter Tryd.func10, Tryd.ntmps10
      try go_wp2_with (first | ((with_reducible refine gate_dst (N := 2) rfl ?_); refine Q.bx 2 #[.bool a0_0, .string a0_1] 36 rfl rfl ?_; intro gb623 hg w25 hbox hb; replace BK623 := Q.a (hbox); replace GW623 := Q.a (Q.gs hg (below_size (Q.bw HB))); replace GE623 := GW623; replace HB := Q.a (below_step (Q.bw HB) hb); clear hb hbox hg) | ((with_reducible refine gate_dst (N := 3) rfl ?_); refine Q.bx 3 #[.bool a1_0, .string a1_1] 36 rfl rfl ?_; intro gb624 hg w26 hbox hb; replace BK624 := Q.a (hbox); replace GW624 := Q.a (Q.gs hg (below_size (Q.bw1 HB GE623))); replace GE624 := GW624; replace HB := Q.a (below_step (Q.bw1 HB GE623) hb); replace NB623_624 := Q.a (Q.nl hg BK623); replace NB624_623 := Q.a (Q.ng hg BK623); replace BK623 := Q.a (Q.bb BK623 hb); clear hb hbox hg; have hnb27 := NB623_624.out; have hnc27 := NB624_623.out; have hcz28_0 : w26.cell? ⟨gb623, 0, none⟩ = some (.bool a0_0) := (blk_cell BK623.out 0).trans rfl; have hcz28_1 : w26.cell? ⟨gb623, 1, none⟩ = some (.string a0_1) := (blk_cell BK623.out 1).trans rfl; have hfz28_0 := blk_frozen BK623.out 0; have hfz28_1 := blk_frozen BK623.out 1; have hcz29_0 : w26.cell? ⟨gb624, 0, none⟩ = some (.bool a1_0) := (blk_cell BK624.out 0).trans rfl; have hcz29_1 : w26.cell? ⟨gb624, 1, none⟩ = some (.string a1_1) := (blk_cell BK624.out 1).trans rfl; have hfz29_0 := blk_frozen BK624.out 0; have hfz29_1 := blk_frozen BK624.out 1) | ((with_reducible refine gate_dst (N := 13) rfl ?_); refine Kd.R_lit k36 _ 36 ?hg (N := 13) ?hd (xs := ([(⟨a0_0, a0_1⟩ : S36), (⟨a1_0, a1_1⟩ : S36)] : List (S36))) (inner := [.bool a0_0, .string a0_1, .bool a1_0, .string a1_1]) (ok := fun _ => True) (okp := fun _ => True) ?hr ?hp (fun _ hk => hk) trivial (Below.refl _ _) (Nat.le_refl _) (by simp) ?_; (case hd => rfl); (case hg => rfl); (case hr => first | (go_simp; done) | (go_simp; rfl)); (case hp => exact (Reps.c2 (show Kd.M k36 _ _ _ (⟨a0_0, a0_1⟩ : S36) [.bool a0_0, .string a0_1] from (k36_mkM _ _ _ (⟨a0_0, a0_1⟩ : S36) )) (Reps.c2 (show Kd.M k36 _ _ _ (⟨a1_0, a1_1⟩ : S36) [.bool a1_0, .string a1_1] from (k36_mkM _ _ _ (⟨a1_0, a1_1⟩ : S36) )) (Reps.none _ _)))); intro v626 w30 ho31 hb hg_ hnew_; clear hg_ hnew_; (first | rw [← Ny625.out] at ho31 | (simp only [Int.reduceToNat] at ho31; rw [← Ny625.out] at ho31)); replace HO627 := Q.a (Kd.R_lower (Kd.R_newB (Kd.R_newB ho31 (g := gb623) (o := .cells #[.bool a0_0, .string a0_1] 36 (0, 0)) (Q.kb BK623)) (g := gb624) (o := .cells #[.bool a1_0, .string a1_1] 36 (0, 0)) (Q.kb BK624)) (below_size (Q.bw2 HB GE623 GE624))); replace BK623 := Q.a (Q.bb BK623 hb); replace BK624 := Q.a (Q.bb BK624 hb); replace HB := Q.a (below_step (Q.bw2 HB GE623 GE624) hb); clear hb ho31; obtain ⟨Ao32, co32, eo32⟩ := Kd.R_slice HO627.out; subst eo32) | ((with_reducible refine gate_callee (f := 36) rfl ?_); refine Q.gl 14 Tryd.func36 #[.slice Ao32 y625.length co32] rfl rfl rfl rfl ?_; (with_reducible refine (voussoirlaw02_Great.calls k _ _ y625 t628 _ ?side1 ?side2 A3.out).mono ?_); (case side1 => repeat (first | exact (Kd.R_reads' HO627.out).2.2 | (with_reducible refine Kd.C_alloc ?_ _) | (with_reducible refine Kd.C_drewN ?_ _) | (with_reducible refine Kd.C_drew ?_))); (case side2 => exact (Kd.R_reads' HO627.out).2.1); rintro e w33 ⟨rfl, hb⟩; refine ⟨_, rfl, ?_⟩; replace HO627 := Q.a (Kd.R_below (Q.kr HO627) hb); replace BK623 := Q.a (Q.bb BK623 hb); replace BK624 := Q.a (Q.bb BK624 hb); replace HB := Q.a (below_step (Q.bw2 HB GE623 GE624) hb); (try clear hb); have hcz34_0 : w33.cell? ⟨gb623, 0, none⟩ = some (.bool a0_0) := (blk_cell BK623.out 0).trans rfl; have hcz34_1 : w33.cell? ⟨gb623, 1, none⟩ = some (.string a0_1) := (blk_cell BK623.out 1).trans rfl; have hfz34_0 := blk_frozen BK623.out 0; have hfz34_1 := blk_frozen BK623.out 1; have hcz35_0 : w33.cell? ⟨gb624, 0, none⟩ = some (.bool a1_0) := (blk_cell BK624.out 0).trans rfl; have hcz35_1 : w33.cell? ⟨gb624, 1, none⟩ = some (.string a1_1) := (blk_cell BK624.out 1).trans rfl; have hfz35_0 := blk_frozen BK624.out 0; have hfz35_1 := blk_frozen BK624.out 1) | ((with_reducible refine gate_callee (f := 38) rfl ?_); refine Q.gl 20 Tryd.func38 #[.agg #[.bool a0_0, .string a0_1], .agg #[.bool a1_0, .string a1_1]] rfl rfl rfl rfl ?_; (with_reducible refine (integer_Div.calls k a0_0 a0_1 a1_0 a1_1 t630 t631 t632 t633 t634 _ A16.out).mono ?_); rintro e w36 ⟨rfl, hb⟩; refine ⟨_, rfl, ?_⟩; replace HO627 := Q.a (Kd.R_below (Q.kr HO627) hb); replace BK623 := Q.a (Q.bb BK623 hb); replace BK624 := Q.a (Q.bb BK624 hb); replace HB := Q.a (below_step (Q.bw2 HB GE623 GE624) hb); (try clear hb)) | ((with_reducible refine gate_dst (N := 5) rfl ?_); refine Q.bx 5 #[.bool false, .string (⟨#[]⟩ : ByteArray)] 36 rfl rfl ?_; intro gb635 hg w37 hbox hb; replace HO627 := Q.a (Kd.R_below (Kd.R_elderB (Q.kr HO627) gb635 (Nat.le_of_eq hg.symm)) hb); replace BK635 := Q.a (hbox); replace GW635 := Q.a (Q.gs hg (below_size (Q.bw2 HB GE623 GE624))); replace GE635 := GW635; replace HB := Q.a (below_step (Q.bw2 HB GE623 GE624) hb); replace NB623_635 := Q.a (Q.nl hg BK623); replace NB635_623 := Q.a (Q.ng hg BK623); replace BK623 := Q.a (Q.bb BK623 hb); replace NB624_635 := Q.a (Q.nl hg BK624); replace NB635_624 := Q.a (Q.ng hg BK624); replace BK624 := Q.a (Q.bb BK624 hb); clear hb hbox hg) | ((with_reducible refine gate_dst (N := 6) rfl ?_); refine Q.bx 6 #[.bool false, .string (⟨#[]⟩ : ByteArray)] 36 rfl rfl ?_; intro gb636 hg w38 hbox hb; replace HO627 := Q.a (Kd.R_below (Kd.R_elderB (Q.kr HO627) gb636 (Nat.le_of_eq hg.symm)) hb); replace BK636 := Q.a (hbox); replace GW636 := Q.a (Q.gs hg (below_size (Q.bw3 HB GE623 GE624 GE635))); replace GE636 := GW636; replace HB := Q.a (below_step (Q.bw3 HB GE623 GE624 GE635) hb); replace NB623_636 := Q.a (Q.nl hg BK623); replace NB636_623 := Q.a (Q.ng hg BK623); replace BK623 := Q.a (Q.bb BK623 hb); replace NB624_636 := Q.a (Q.nl hg BK624); replace NB636_624 := Q.a (Q.ng hg BK624); replace BK624 := Q.a (Q.bb BK624 hb); replace NB635_636 := Q.a (Q.nl hg BK635); replace NB636_635 := Q.a (Q.ng hg BK635); replace BK635 := Q.a (Q.bb BK635 hb); clear hb hbox hg; have hnb39 := NB635_623.out; have hnc39 := NB623_635.out; have hnb40 := NB635_624.out; have hnc40 := NB624_635.out; have hnb41 := NB635_636.out; have hnc41 := NB636_635.out; have hcz42_0 : w38.cell? ⟨gb635, 0, none⟩ = some (.bool false) := (blk_cell BK635.out 0).trans rfl; have hcz42_1 : w38.cell? ⟨gb635, 1, none⟩ = some (.string (⟨#[]⟩ : ByteArray)) := (blk_cell BK635.out 1).trans rfl; have hfz42_0 := blk_frozen BK635.out 0; have hfz42_1 := blk_frozen BK635.out 1; have hnb43 := NB636_623.out; have hnc43 := NB623_636.out; have hnb44 := NB636_624.out; have hnc44 := NB624_636.out; have hcz45_0 : w38.cell? ⟨gb636, 0, none⟩ = some (.bool false) := (blk_cell BK636.out 0).trans rfl; have hcz45_1 : w38.cell? ⟨gb636, 1, none⟩ = some (.string (⟨#[]⟩ : ByteArray)) := (blk_cell BK636.out 1).trans rfl; have hfz45_0 := blk_frozen BK636.out 0; have hfz45_1 := blk_frozen BK636.out 1; have hcz46_0 : w38.cell? ⟨gb623, 0, none⟩ = some (.bool a0_0) := (blk_cell BK623.out 0).trans rfl; have hcz46_1 : w38.cell? ⟨gb623, 1, none⟩ = some (.string a0_1) := (blk_cell BK623.out 1).trans rfl; have hfz46_0 := blk_frozen BK623.out 0; have hfz46_1 := blk_frozen BK623.out 1; have hcz47_0 : w38.cell? ⟨gb624, 0, none⟩ = some (.bool a1_0) := (blk_cell BK624.out 0).trans rfl; have hcz47_1 : w38.cell? ⟨gb624, 1, none⟩ = some (.string a1_1) := (blk_cell BK624.out 1).trans rfl; have hfz47_0 := blk_frozen BK624.out 0; have hfz47_1 := blk_frozen BK624.out 1) | ((with_reducible refine gate_callee (f := 39) rfl ?_); refine Q.gl 27 Tryd.func39 #[.agg #[.bool a0_0, .string a0_1], .agg #[.bool a1_0, .string a1_1]] rfl rfl rfl rfl ?_; (with_reducible refine (voussoirref02_Div.calls k a0_0 a0_1 a1_0 a1_1 t637 t638 t639 t640 t641 _ A17.out).mono ?_); rintro e w48 ⟨rfl, hb⟩; refine ⟨_, rfl, ?_⟩; replace HO627 := Q.a (Kd.R_below (by (with_reducible repeat (first | apply Kd.R_alloc | apply Kd.R_drewN | apply Kd.R_drew)); exact (Kd.R_mono (Kd.R_mono (Kd.R_far (p := ⟨gb636, 1, none⟩) (Kd.R_far (p := ⟨gb636, 0, none⟩) (Kd.R_far (p := ⟨gb635, 1, none⟩) (Kd.R_far (p := ⟨gb635, 0, none⟩) (Kd.R_mono (Kd.R_mono HO627.out (fun k_ hk => (⟨hk, hk.1.2⟩ : _ ∧ k_ ≠ gb635))) (fun k_ hk => (⟨hk, hk.1.2⟩ : _ ∧ k_ ≠ gb636))) (fun _ hk => hk.1.2) (.bool t630)) (fun _ hk => hk.1.2) (.string t631)) (fun _ hk => hk.2) (.bool t632)) (fun _ hk => hk.2) (.string t633)) (fun _ h_ => h_.1)) (fun _ h_ => h_.1))) hb); replace BK623 := Q.a (blk_below (g := gb623) (o := .cells #[.bool a0_0, .string a0_1] 36 (0, 0)) (by (with_reducible repeat (first | refine blk_drewN ?_ _ | refine blk_drew ?_ | refine blk_alloc ?_ _)); refine blk_far ?_ NB623_636.out _; (with_reducible repeat (first | refine blk_drewN ?_ _ | refine blk_drew ?_ | refine blk_alloc ?_ _)); refine blk_far ?_ NB623_636.out _; (with_reducible repeat (first | refine blk_drewN ?_ _ | refine blk_drew ?_ | refine blk_alloc ?_ _)); refine blk_far ?_ NB623_635.out _; (with_reducible repeat (first | refine blk_drewN ?_ _ | refine blk_drew ?_ | refine blk_alloc ?_ _)); refine blk_far ?_ NB623_635.out _; (with_reducible repeat (first | refine blk_drewN ?_ _ | refine blk_drew ?_ | refine blk_alloc ?_ _)); exact BK623.out) hb); replace BK624 := Q.a (blk_below (g := gb624) (o := .cells #[.bool a1_0, .string a1_1] 36 (0, 0)) (by (with_reducible repeat (first | refine blk_drewN ?_ _ | refine blk_drew ?_ | refine blk_alloc ?_ _)); refine blk_far ?_ NB624_636.out _; (with_reducible repeat (first | refine blk_drewN ?_ _ | refine blk_drew ?_ | refine blk_alloc ?_ _)); refine blk_far ?_ NB624_636.out _; (with_reducible repeat (first | refine blk_drewN ?_ _ | refine blk_drew ?_ | refine blk_alloc ?_ _)); refine blk_far ?_ NB624_635.out _; (with_reducible repeat (first | refine blk_drewN ?_ _ | refine blk_drew ?_ | refine blk_alloc ?_ _)); refine blk_far ?_ NB624_635.out _; (with_reducible repeat (first | refine blk_drewN ?_ _ | refine blk_drew ?_ | refine blk_alloc ?_ _)); exact BK624.out) hb); replace BK635 := Q.a (blk_below (g := gb635) (o := .cells #[.bool t630, .string t631] 36 (0, 0)) (by (with_reducible repeat (first | refine blk_drewN ?_ _ | refine blk_drew ?_ | refine blk_alloc ?_ _)); refine blk_far ?_ NB635_636.out _; (with_reducible repeat (first | refine blk_drewN ?_ _ | refine blk_drew ?_ | refine blk_alloc ?_ _)); refine blk_far ?_ NB635_636.out _; (with_reducible repeat (first | refine blk_drewN ?_ _ | refine blk_drew ?_ | refine blk_alloc ?_ _)); refine blk_put (cs := #[.bool t630, .string (⟨#[]⟩ : ByteArray)]) ?_ 1 _ (by first | rfl | (cases a0.toList <;> rfl) | (cases a1.toList <;> rfl)); (with_reducible repeat (first | refine blk_drewN ?_ _ | refine blk_drew ?_ | refine blk_alloc ?_ _)); refine blk_put (cs := #[.bool false, .string (⟨#[]⟩ : ByteArray)]) ?_ 0 _ (by first | rfl | (cases a0.toList <;> rfl) | (cases a1.toList <;> rfl)); (with_reducible repeat (first | refine blk_drewN ?_ _ | refine blk_drew ?_ | refine blk_alloc ?_ _)); exact BK635.out) hb); replace BK636 := Q.a (blk_below (g := gb636) (o := .cells #[.bool t632, .string t633] 36 (0, 0)) (by (with_reducible repeat (first | refine blk_drewN ?_ _ | refine blk_drew ?_ | refine blk_alloc ?_ _)); refine blk_put (cs := #[.bool t632, .string (⟨#[]⟩ : ByteArray)]) ?_ 1 _ (by first | rfl | (cases a0.toList <;> rfl) | (cases a1.toList <;> rfl)); (with_reducible repeat (first | refine blk_drewN ?_ _ | refine blk_drew ?_ | refine blk_alloc ?_ _)); refine blk_put (cs := #[.bool false, .string (⟨#[]⟩ : ByteArray)]) ?_ 0 _ (by first | rfl | (cases a0.toList <;> rfl) | (cases a1.toList <;> rfl)); (with_reducible repeat (first | refine blk_drewN ?_ _ | refine blk_drew ?_ | refine blk_alloc ?_ _)); refine blk_far ?_ NB636_635.out _; (with_reducible repeat (first | refine blk_drewN ?_ _ | refine blk_drew ?_ | refine blk_alloc ?_ _)); refine blk_far ?_ NB636_635.out _; (with_reducible repeat (first | refine blk_drewN ?_ _ | refine blk_drew ?_ | refine blk_alloc ?_ _)); exact BK636.out) hb); replace HB := Q.a (below_step (Q.bw4 HB GE623 GE624 GE635 GE636) hb); (try clear hb); (try clear hk)) | ((with_reducible refine gate_dst (N := 8) rfl ?_); refine Q.bx 8 #[.bool false, .string (⟨#[]⟩ : ByteArray)] 36 rfl rfl ?_; intro gb642 hg w49 hbox hb; replace HO627 := Q.a (Kd.R_below (Kd.R_elderB (Q.kr HO627) gb642 (Nat.le_of_eq hg.symm)) hb); replace BK642 := Q.a (hbox); replace GW642 := Q.a (Q.gs hg (below_size (Q.bw4 HB GE623 GE624 GE635 GE636))); replace GE642 := GW642; replace HB := Q.a (below_step (Q.bw4 HB GE623 GE624 GE635 GE636) hb); replace NB623_642 := Q.a (Q.nl hg BK623); replace NB642_623 := Q.a (Q.ng hg BK623); replace BK623 := Q.a (Q.bb BK623 hb); replace NB624_642 := Q.a (Q.nl hg BK624); replace NB642_624 := Q.a (Q.ng hg BK624); replace BK624 := Q.a (Q.bb BK624 hb); replace NB635_642 := Q.a (Q.nl hg BK635); replace NB642_635 := Q.a (Q.ng hg BK635); replace BK635 := Q.a (Q.bb BK635 hb); replace NB636_642 := Q.a (Q.nl hg BK636); replace NB642_636 := Q.a (Q.ng hg BK636); replace BK636 := Q.a (Q.bb BK636 hb); clear hb hbox hg) | ((with_reducible refine gate_dst (N := 9) rfl ?_); refine Q.bx 9 #[.bool false, .string (⟨#[]⟩ : ByteArray)] 36 rfl rfl ?_; intro gb643 hg w50 hbox hb; replace HO627 := Q.a (Kd.R_below (Kd.R_elderB (Q.kr HO627) gb643 (Nat.le_of_eq hg.symm)) hb); replace BK643 := Q.a (hbox); replace GW643 := Q.a (Q.gs hg (below_size (Q.bw5 HB GE623 GE624 GE635 GE636 GE642))); replace GE643 := GW643; replace HB := Q.a (below_step (Q.bw5 HB GE623 GE624 GE635 GE636 GE642) hb); replace NB623_643 := Q.a (Q.nl hg BK623); replace NB643_623 := Q.a (Q.ng hg BK623); replace BK623 := Q.a (Q.bb BK623 hb); replace NB624_643 := Q.a (Q.nl hg BK624); replace NB643_624 := Q.a (Q.ng hg BK624); replace BK624 := Q.a (Q.bb BK624 hb); replace NB635_643 := Q.a (Q.nl hg BK635); replace NB643_635 := Q.a (Q.ng hg BK635); replace BK635 := Q.a (Q.bb BK635 hb); replace NB636_643 := Q.a (Q.nl hg BK636); replace NB643_636 := Q.a (Q.ng hg BK636); replace BK636 := Q.a (Q.bb BK636 hb); replace NB642_643 := Q.a (Q.nl hg BK642); replace NB643_642 := Q.a (Q.ng hg BK642); replace BK642 := Q.a (Q.bb BK642 hb); clear hb hbox hg; have hnb51 := NB642_623.out; have hnc51 := NB623_642.out; have hnb52 := NB642_624.out; have hnc52 := NB624_642.out; have hnb53 := NB642_635.out; have hnc53 := NB635_642.out; have hnb54 := NB642_636.out; have hnc54 := NB636_642.out; have hnb55 := NB642_643.out; have hnc55 := NB643_642.out; have hcz56_0 : w50.cell? ⟨gb642, 0, none⟩ = some (.bool false) := (blk_cell BK642.out 0).trans rfl; have hcz56_1 : w50.cell? ⟨gb642, 1, none⟩ = some (.string (⟨#[]⟩ : ByteArray)) := (blk_cell BK642.out 1).trans rfl; have hfz56_0 := blk_frozen BK642.out 0; have hfz56_1 := blk_frozen BK642.out 1; have hnb57 := NB643_623.out; have hnc57 := NB623_643.out; have hnb58 := NB643_624.out; have hnc58 := NB624_643.out; have hnb59 := NB643_635.out; have hnc59 := NB635_643.out; have hnb60 := NB643_636.out; have hnc60 := NB636_643.out; have hcz61_0 : w50.cell? ⟨gb643, 0, none⟩ = some (.bool false) := (blk_cell BK643.out 0).trans rfl; have hcz61_1 : w50.cell? ⟨gb643, 1, none⟩ = some (.string (⟨#[]⟩ : ByteArray)) := (blk_cell BK643.out 1).trans rfl; have hfz61_0 := blk_frozen BK643.out 0; have hfz61_1 := blk_frozen BK643.out 1))
      have n0_ : Aside0 (Kd.R k36 36 ((((w50.setCell ⟨gb642, 0, none⟩ (.bool t637)).setCell ⟨gb642, 1, none⟩ (.string t638)).setCell ⟨gb643, 0, none⟩ (.bool t639)).setCell ⟨gb643, 1, none⟩ (.string t640)) w.heap.size (fun k_ => k_ ≠ gb623 ∧ k_ ≠ gb624 ∧ k_ ≠ gb635 ∧ k_ ≠ gb636 ∧ k_ ≠ gb642 ∧ k_ ≠ gb643) (.slice Ao32 y625.length co32) y625) := ⟨by (with_reducible repeat (first | apply Kd.R_alloc | apply Kd.R_drewN | apply Kd.R_drew)); exact Kd.R_mono (Kd.R_far (p := ⟨gb643, 1, none⟩) (Kd.R_far (p := ⟨gb643, 0, none⟩) (Kd.R_far (p := ⟨gb642, 1, none⟩) (Kd.R_far (p := ⟨gb642, 0, none⟩) (Kd.R_mono (Kd.R_mono HO627.out (fun k_ hk => (⟨hk, hk.1.2⟩ : _ ∧ k_ ≠ gb642))) (fun k_ hk => (⟨hk, hk.1.2⟩ : _ ∧ k_ ≠ gb643))) (fun _ hk => hk.1.2) (.bool t637)) (fun _ hk => hk.1.2) (.string t638)) (fun _ hk => hk.2) (.bool t639)) (fun _ hk => hk.2) (.string t640)) (fun _ hk => ⟨hk.1.1.1.1.1.1.1.2, ⟨hk.1.1.1.1.1.1.2, ⟨hk.1.1.1.1.1.2, ⟨hk.1.1.1.1.2, ⟨hk.1.1.1.2, hk.1.1.2⟩⟩⟩⟩⟩)⟩
      have n1_ : Aside0 (((((w50.setCell ⟨gb642, 0, none⟩ (.bool t637)).setCell ⟨gb642, 1, none⟩ (.string t638)).setCell ⟨gb643, 0, none⟩ (.bool t639)).setCell ⟨gb643, 1, none⟩ (.string t640)).heap[gb623]? = some (.cells #[.bool a0_0, .string a0_1] 36 (0, 0))) := ⟨by (with_reducible repeat (first | refine blk_drewN ?_ _ | refine blk_drew ?_ | refine blk_alloc ?_ _)); refine blk_far ?_ NB623_643.out _; (with_reducible repeat (first | refine blk_drewN ?_ _ | refine blk_drew ?_ | refine blk_alloc ?_ _)); refine blk_far ?_ NB623_643.out _; (with_reducible repeat (first | refine blk_drewN ?_ _ | refine blk_drew ?_ | refine blk_alloc ?_ _)); refine blk_far ?_ NB623_642.out _; (with_reducible repeat (first | refine blk_drewN ?_ _ | refine blk_drew ?_ | refine blk_alloc ?_ _)); refine blk_far ?_ NB623_642.out _; (with_reducible repeat (first | refine blk_drewN ?_ _ | refine blk_drew ?_ | refine blk_alloc ?_ _)); exact BK623.out⟩
      have n2_ : Aside0 (((((w50.setCell ⟨gb642, 0, none⟩ (.bool t637)).setCell ⟨gb642, 1, none⟩ (.string t638)).setCell ⟨gb643, 0, none⟩ (.bool t639)).setCell ⟨gb643, 1, none⟩ (.string t640)).heap[gb624]? = some (.cells #[.bool a1_0, .string a1_1] 36 (0, 0))) := ⟨by (with_reducible repeat (first | refine blk_drewN ?_ _ | refine blk_drew ?_ | refine blk_alloc ?_ _)); refine blk_far ?_ NB624_643.out _; (with_reducible repeat (first | refine blk_drewN ?_ _ | refine blk_drew ?_ | refine blk_alloc ?_ _)); refine blk_far ?_ NB624_643.out _; (with_reducible repeat (first | refine blk_drewN ?_ _ | refine blk_drew ?_ | refine blk_alloc ?_ _)); refine blk_far ?_ NB624_642.out _; (with_reducible repeat (first | refine blk_drewN ?_ _ | refine blk_drew ?_ | refine blk_alloc ?_ _)); refine blk_far ?_ NB624_642.out _; (with_reducible repeat (first | refine blk_drewN ?_ _ | refine blk_drew ?_ | refine blk_alloc ?_ _)); exact BK624.out⟩
      have n3_ : Aside0 (((((w50.setCell ⟨gb642, 0, none⟩ (.bool t637)).setCell ⟨gb642, 1, none⟩ (.string t638)).setCell ⟨gb643, 0, none⟩ (.bool t639)).setCell ⟨gb643, 1, none⟩ (.string t640)).heap[gb635]? = some (.cells #[.bool t630, .string t631] 36 (0, 0))) := ⟨by (with_reducible repeat (first | refine blk_drewN ?_ _ | refine blk_drew ?_ | refine blk_alloc ?_ _)); refine blk_far ?_ NB635_643.out _; (with_reducible repeat (first | refine blk_drewN ?_ _ | refine blk_drew ?_ | refine blk_alloc ?_ _)); refine blk_far ?_ NB635_643.out _; (with_reducible repeat (first | refine blk_drewN ?_ _ | refine blk_drew ?_ | refine blk_alloc ?_ _)); refine blk_far ?_ NB635_642.out _; (with_reducible repeat (first | refine blk_drewN ?_ _ | refine blk_drew ?_ | refine blk_alloc ?_ _)); refine blk_far ?_ NB635_642.out _; (with_reducible repeat (first | refine blk_drewN ?_ _ | refine blk_drew ?_ | refine blk_alloc ?_ _)); exact BK635.out⟩
      have n4_ : Aside0 (((((w50.setCell ⟨gb642, 0, none⟩ (.bool t637)).setCell ⟨gb642, 1, none⟩ (.string t638)).setCell ⟨gb643, 0, none⟩ (.bool t639)).setCell ⟨gb643, 1, none⟩ (.string t640)).heap[gb636]? = some (.cells #[.bool t632, .string t633] 36 (0, 0))) := ⟨by (with_reducible repeat (first | refine blk_drewN ?_ _ | refine blk_drew ?_ | refine blk_alloc ?_ _)); refine blk_far ?_ NB636_643.out _; (with_reducible repeat (first | refine blk_drewN ?_ _ | refine blk_drew ?_ | refine blk_alloc ?_ _)); refine blk_far ?_ NB636_643.out _; (with_reducible repeat (first | refine blk_drewN ?_ _ | refine blk_drew ?_ | refine blk_alloc ?_ _)); refine blk_far ?_ NB636_642.out _; (with_reducible repeat (first | refine blk_drewN ?_ _ | refine blk_drew ?_ | refine blk_alloc ?_ _)); refine blk_far ?_ NB636_642.out _; (with_reducible repeat (first | refine blk_drewN ?_ _ | refine blk_drew ?_ | refine blk_alloc ?_ _)); exact BK636.out⟩
      have n5_ : Aside0 (((((w50.setCell ⟨gb642, 0, none⟩ (.bool t637)).setCell ⟨gb642, 1, none⟩ (.string t638)).setCell ⟨gb643, 0, none⟩ (.bool t639)).setCell ⟨gb643, 1, none⟩ (.string t640)).heap[gb642]? = some (.cells #[.bool t637, .string t638] 36 (0, 0))) := ⟨by (with_reducible repeat (first | refine blk_drewN ?_ _ | refine blk_drew ?_ | refine blk_alloc ?_ _)); refine blk_far ?_ NB642_643.out _; (with_reducible repeat (first | refine blk_drewN ?_ _ | refine blk_drew ?_ | refine blk_alloc ?_ _)); refine blk_far ?_ NB642_643.out _; (with_reducible repeat (first | refine blk_drewN ?_ _ | refine blk_drew ?_ | refine blk_alloc ?_ _)); refine blk_put (cs := #[.bool t637, .string (⟨#[]⟩ : ByteArray)]) ?_ 1 _ (by first | rfl | (cases a0.toList <;> rfl) | (cases a1.toList <;> rfl)); (with_reducible repeat (first | refine blk_drewN ?_ _ | refine blk_drew ?_ | refine blk_alloc ?_ _)); refine blk_put (cs := #[.bool false, .string (⟨#[]⟩ : ByteArray)]) ?_ 0 _ (by first | rfl | (cases a0.toList <;> rfl) | (cases a1.toList <;> rfl)); (with_reducible repeat (first | refine blk_drewN ?_ _ | refine blk_drew ?_ | refine blk_alloc ?_ _)); exact BK642.out⟩
      have n6_ : Aside0 (((((w50.setCell ⟨gb642, 0, none⟩ (.bool t637)).setCell ⟨gb642, 1, none⟩ (.string t638)).setCell ⟨gb643, 0, none⟩ (.bool t639)).setCell ⟨gb643, 1, none⟩ (.string t640)).heap[gb643]? = some (.cells #[.bool t639, .string t640] 36 (0, 0))) := ⟨by (with_reducible repeat (first | refine blk_drewN ?_ _ | refine blk_drew ?_ | refine blk_alloc ?_ _)); refine blk_put (cs := #[.bool t639, .string (⟨#[]⟩ : ByteArray)]) ?_ 1 _ (by first | rfl | (cases a0.toList <;> rfl) | (cases a1.toList <;> rfl)); (with_reducible repeat (first | refine blk_drewN ?_ _ | refine blk_drew ?_ | refine blk_alloc ?_ _)); refine blk_put (cs := #[.bool false, .string (⟨#[]⟩ : ByteArray)]) ?_ 0 _ (by first | rfl | (cases a0.toList <;> rfl) | (cases a1.toList <;> rfl)); (with_reducible repeat (first | refine blk_drewN ?_ _ | refine blk_drew ?_ | refine blk_alloc ?_ _)); refine blk_far ?_ NB643_642.out _; (with_reducible repeat (first | refine blk_drewN ?_ _ | refine blk_drew ?_ | refine blk_alloc ?_ _)); refine blk_far ?_ NB643_642.out _; (with_reducible repeat (first | refine blk_drewN ?_ _ | refine blk_drew ?_ | refine blk_alloc ?_ _)); exact BK643.out⟩
      have n7_ : Aside0 (Below w.heap.size w ((((w50.setCell ⟨gb642, 0, none⟩ (.bool t637)).setCell ⟨gb642, 1, none⟩ (.string t638)).setCell ⟨gb643, 0, none⟩ (.bool t639)).setCell ⟨gb643, 1, none⟩ (.string t640))) := ⟨Q.bw6 HB GE623 GE624 GE635 GE636 GE642 GE643⟩
      (try clear HO627)
      (try clear BK623)
      (try clear BK624)
      (try clear BK635)
      (try clear BK636)
      (try clear BK642)
      (try clear BK643)
      (try clear HB)
      generalize ((((w50.setCell ⟨gb642, 0, none⟩ (.bool t637)).setCell ⟨gb642, 1, none⟩ (.string t638)).setCell ⟨gb643, 0, none⟩ (.bool t639)).setCell ⟨gb643, 1, none⟩ (.string t640)) = w62 at n0_ n1_ n2_ n3_ n4_ n5_ n6_ n7_ ⊢
      have HO627 := n0_
      have BK623 := n1_
      have BK624 := n2_
      have BK635 := n3_
      have BK636 := n4_
      have BK642 := n5_
      have BK643 := n6_
      have HB := n7_
      clear n0_ n1_ n2_ n3_ n4_ n5_ n6_ n7_
      replace HO627 := Q.a (Kd.R_drew HO627.out)
      replace BK623 := Q.a (blk_drew BK623.out)
      replace BK624 := Q.a (blk_drew BK624.out)
      replace BK635 := Q.a (blk_drew BK635.out)
      replace BK636 := Q.a (blk_drew BK636.out)
      replace BK642 := Q.a (blk_drew BK642.out)
      replace BK643 := Q.a (blk_drew BK643.out)
      replace HB := Q.a (below_drew1 HB.out)
      refine start_ (n := 26) (S := fun w' => w'.cell? ⟨gb623, 0, none⟩ = some (.bool a0_0) ∧ w'.cell? ⟨gb623, 1, none⟩ = some (.string a0_1) ∧ w'.cell? ⟨gb624, 0, none⟩ = some (.bool a1_0) ∧ w'.cell? ⟨gb624, 1, none⟩ = some (.string a1_1) ∧ w'.cell? ⟨gb635, 0, none⟩ = some (.bool t630) ∧ w'.cell? ⟨gb635, 1, none⟩ = some (.string t631) ∧ w'.cell? ⟨gb642, 0, none⟩ = some (.bool t637) ∧ w'.cell? ⟨gb642, 1, none⟩ = some (.string t638) ∧ w'.cell? ⟨gb636, 0, none⟩ = some (.bool t632) ∧ w'.cell? ⟨gb636, 1, none⟩ = some (.string t633) ∧ w'.cell? ⟨gb643, 0, none⟩ = some (.bool t639) ∧ w'.cell? ⟨gb643, 1, none⟩ = some (.string t640)) (ds := []) #[false, false, false, false, false, false, false, false, false, false, false, false, false, false, false, false, false, false, false, false, false, false, false, false, false, false] (by kernel_rfl) rfl rfl ⟨(blk_cell BK623.out 0).trans rfl, (blk_cell BK623.out 1).trans rfl, (blk_cell BK624.out 0).trans rfl, (blk_cell BK624.out 1).trans rfl, (blk_cell BK635.out 0).trans rfl, (blk_cell BK635.out 1).trans rfl, (blk_cell BK642.out 0).trans rfl, (blk_cell BK642.out 1).trans rfl, (blk_cell BK636.out 0).trans rfl, (blk_cell BK636.out 1).trans rfl, (blk_cell BK643.out 0).trans rfl, (blk_cell BK643.out 1).trans rfl⟩ (fun hHeld => ?_); refine with_tabW voussoirlaw02_IntegerMultiplication.tab5 voussoirlaw02_IntegerMultiplication.bits5 (fun HT_ HW_ => ?_)
      generalize w62.drew = w63 at HO627 BK623 BK624 BK635 BK636 BK642 BK643 HB hHeld ⊢
      refine one_ (i := 0) (N := some 31) #[true, false, false, false, false, false, false, false, false, false, false, false, false, false, false, false, false, false, false, false, false, false, false, false, false, false] rfl rfl (one_of HT_.out (by kernel_rfl)) (by decide) (fun K hK => ?_)
      refine goes_ Tryd.func37 (by kernel_rfl) rfl #[] (by rfl) rfl rfl (by (try simp only [List.map_toArray, List.map_cons, List.map_nil]); first | done | rfl | (simp only [List.length_drop, List.length_take]; rfl)) ?_
      with_reducible refine (voussoirlaw02_fixed.calls k  true rfl _ ?side1 A18.out).mono ?_
      (case side1 => exact X.G.below HG.out (Q.bw6 HB GE623 GE624 GE635 GE636 GE642 GE643))
      rintro e w64 ⟨rfl, hb⟩
      refine ⟨_, rfl, ?_⟩
      replace HO627 := Q.a (Kd.R_below (Q.kr HO627) hb)
      replace BK623 := Q.a (Q.bb BK623 hb)
      replace BK624 := Q.a (Q.bb BK624 hb)
      replace BK635 := Q.a (Q.bb BK635 hb)
      replace BK636 := Q.a (Q.bb BK636 hb)
      replace BK642 := Q.a (Q.bb BK642 hb)
      replace BK643 := Q.a (Q.bb BK643 hb)
      replace HB := Q.a (below_step (Q.bw6 HB GE623 GE624 GE635 GE636 GE642 GE643) hb)
      (try clear hb)
      (try clear hb2)
      (try clear hk)
      (try clear hi)
      refine hK.out _ _ ⟨(blk_cell BK623.out 0).trans rfl, (blk_cell BK623.out 1).trans rfl, (blk_cell BK624.out 0).trans rfl, (blk_cell BK624.out 1).trans rfl, (blk_cell BK635.out 0).trans rfl, (blk_cell BK635.out 1).trans rfl, (blk_cell BK642.out 0).trans rfl, (blk_cell BK642.out 1).trans rfl, (blk_cell BK636.out 0).trans rfl, (blk_cell BK636.out 1).trans rfl, (blk_cell BK643.out 0).trans rfl, (blk_cell BK643.out 1).trans rfl⟩ (fun hHeld => ?_)
      clear hK K
      refine norm_ (a' := ?_) ?_ ?_
      rotate_left
      ·show Act.put _ (some 31) _ = _
       simp only [Act.put, List.setIfInBounds_toArray, List.set_cons_zero, List.set_cons_succ, i64_w, i32_w]
       rfl
      refine pure_ (i := 1) (N := some 32) (v := ?_) (a' := ?_) #[true, true, false, false, false, false, false, false, false, false, false, false, false, false, false, false, false, false, false, false, false, false, false, false, false, false] rfl rfl (any_of HT_.out (by kernel_rfl)) (fun _ _ _ h => h) (Or.inl ⟨by rfl, ?_⟩) ?_ ?_
      rotate_left
      ·intro w'
       go_simp
       with_reducible rfl
      rotate_left
      ·simp only [Act.put, List.setIfInBounds_toArray, List.set_cons_zero, List.set_cons_succ, i64_w, i32_w]
       rfl
      refine take_ (i := 2) (N := some 33) (v := ?_) (a' := ?_) #[true, true, true, false, false, false, false, false, false, false, false, false, false, false, false, false, false, false, false, false, false, false, false, false, false, false] rfl rfl (take_ofW HT_.out HW_.out (by kernel_rfl)) (fun _ _ _ h => h) (Or.inl ⟨by rfl, ?_⟩) hHeld ?_ ?_
      rotate_left
      ·rintro w' ⟨s0, s1, s2, s3, s4, s5, s6, s7, s8, s9, s10, s11⟩
       go_simp
       with_reducible rfl
      rotate_left
      ·simp only [Act.put, List.setIfInBounds_toArray, List.set_cons_zero, List.set_cons_succ, i64_w, i32_w]
       rfl
      refine take_ (i := 3) (N := some 34) (v := ?_) (a' := ?_) #[true, true, true, true, false, false, false, false, false, false, false, false, false, false, false, false, false, false, false, false, false, false, false, false, false, false] rfl rfl (take_ofW HT_.out HW_.out (by kernel_rfl)) (fun _ _ _ h => h) (Or.inl ⟨by rfl, ?_⟩) hHeld ?_ ?_
      rotate_left
      ·rintro w' ⟨s0, s1, s2, s3, s4, s5, s6, s7, s8, s9, s10, s11⟩
       go_simp
       with_reducible rfl
      rotate_left
      ·simp only [Act.put, List.setIfInBounds_toArray, List.set_cons_zero, List.set_cons_succ, i64_w, i32_w]
       rfl
      refine take_ (i := 5) (N := some 36) (v := ?_) (a' := ?_) #[true, true, true, true, false, true, false, false, false, false, false, false, false, false, false, false, false, false, false, false, false, false, false, false, false, false] rfl rfl (take_ofW HT_.out HW_.out (by kernel_rfl)) (fun _ _ _ h => h) (Or.inl ⟨by rfl, ?_⟩) hHeld ?_ ?_
      rotate_left
      ·rintro w' ⟨s0, s1, s2, s3, s4, s5, s6, s7, s8, s9, s10, s11⟩
       go_simp
       with_reducible rfl
      rotate_left
      ·simp only [Act.put, List.setIfInBounds_toArray, List.set_cons_zero, List.set_cons_succ, i64_w, i32_w]
       rfl
      refine take_ (i := 6) (N := some 37) (v := ?_) (a' := ?_) #[true, true, true, true, false, true, true, false, false, false, false, false, false, false, false, false, false, false, false, false, false, false, false, false, false, false] rfl rfl (take_ofW HT_.out HW_.out (by kernel_rfl)) (fun _ _ _ h => h) (Or.inl ⟨by rfl, ?_⟩) hHeld ?_ ?_
      rotate_left
      ·rintro w' ⟨s0, s1, s2, s3, s4, s5, s6, s7, s8, s9, s10, s11⟩
       go_simp
       with_reducible rfl
      rotate_left
      ·simp only [Act.put, List.setIfInBounds_toArray, List.set_cons_zero, List.set_cons_succ, i64_w, i32_w]
       rfl
      refine one_ (i := 4) (N := some 35) #[true, true, true, true, true, true, true, false, false, false, false, false, false, false, false, false, false, false, false, false, false, false, false, false, false, false] rfl rfl (one_of HT_.out (by kernel_rfl)) (by decide) (fun K hK => ?_)
      refine goes_ Tryd.func40 (by kernel_rfl) rfl #[.agg #[.bool a0_0, .string a0_1], .agg #[.bool a1_0, .string a1_1]] (by rfl) rfl rfl (by (try simp only [List.map_toArray, List.map_cons, List.map_nil]); first | done | rfl | (simp only [List.length_drop, List.length_take]; rfl)) ?_
      with_reducible refine (integer_Mul.calls k a0_0 a0_1 a1_0 a1_1 t645 t646 _ A20.out).mono ?_
      rintro e w65 ⟨rfl, hb⟩
      refine ⟨_, rfl, ?_⟩
      replace HO627 := Q.a (Kd.R_below (Q.kr HO627) hb)
      replace BK623 := Q.a (Q.bb BK623 hb)
      replace BK624 := Q.a (Q.bb BK624 hb)
      replace BK635 := Q.a (Q.bb BK635 hb)
      replace BK636 := Q.a (Q.bb BK636 hb)
      replace BK642 := Q.a (Q.bb BK642 hb)
      replace BK643 := Q.a (Q.bb BK643 hb)
      replace HB := Q.a (below_step (Q.bw6 HB GE623 GE624 GE635 GE636 GE642 GE643) hb)
      (try clear hb)
      (try clear hb2)
      (try clear hk)
      (try clear hi)
      refine hK.out _ _ ⟨(blk_cell BK623.out 0).trans rfl, (blk_cell BK623.out 1).trans rfl, (blk_cell BK624.out 0).trans rfl, (blk_cell BK624.out 1).trans rfl, (blk_cell BK635.out 0).trans rfl, (blk_cell BK635.out 1).trans rfl, (blk_cell BK642.out 0).trans rfl, (blk_cell BK642.out 1).trans rfl, (blk_cell BK636.out 0).trans rfl, (blk_cell BK636.out 1).trans rfl, (blk_cell BK643.out 0).trans rfl, (blk_cell BK643.out 1).trans rfl⟩ (fun hHeld => ?_)
      clear hK K
      refine norm_ (a' := ?_) ?_ ?_
      rotate_left
      ·show Act.put _ (some 35) _ = _
       simp only [Act.put, List.setIfInBounds_toArray, List.set_cons_zero, List.set_cons_succ, i64_w, i32_w]
       rfl
      refine one_ (i := 7) (N := some 38) #[true, true, true, true, true, true, true, true, false, false, false, false, false, false, false, false, false, false, false, false, false, false, false, false, false, false] rfl rfl (one_of HT_.out (by kernel_rfl)) (by decide) (fun K hK => ?_)
      refine goes_ Tryd.func41 (by kernel_rfl) rfl #[.agg #[.bool a0_0, .string a0_1], .agg #[.bool a1_0, .string a1_1]] (by rfl) rfl rfl (by (try simp only [List.map_toArray, List.map_cons, List.map_nil]); first | done | rfl | (simp only [List.length_drop, List.length_take]; rfl)) ?_
      with_reducible refine (voussoirref02_Mul.calls k a0_0 a0_1 a1_0 a1_1 t647 t648 _ A21.out).mono ?_
      rintro e w66 ⟨rfl, hb⟩
      refine ⟨_, rfl, ?_⟩
      replace HO627 := Q.a (Kd.R_below (Q.kr HO627) hb)
      replace BK623 := Q.a (Q.bb BK623 hb)
      replace BK624 := Q.a (Q.bb BK624 hb)
      replace BK635 := Q.a (Q.bb BK635 hb)
      replace BK636 := Q.a (Q.bb BK636 hb)
      replace BK642 := Q.a (Q.bb BK642 hb)
      replace BK643 := Q.a (Q.bb BK643 hb)
      replace HB := Q.a (below_step (Q.bw6 HB GE623 GE624 GE635 GE636 GE642 GE643) hb)
      (try clear hb)
      (try clear hb2)
      (try clear hk)
      (try clear hi)
      refine hK.out _ _ ⟨(blk_cell BK623.out 0).trans rfl, (blk_cell BK623.out 1).trans rfl, (blk_cell BK624.out 0).trans rfl, (blk_cell BK624.out 1).trans rfl, (blk_cell BK635.out 0).trans rfl, (blk_cell BK635.out 1).trans rfl, (blk_cell BK642.out 0).trans rfl, (blk_cell BK642.out 1).trans rfl, (blk_cell BK636.out 0).trans rfl, (blk_cell BK636.out 1).trans rfl, (blk_cell BK643.out 0).trans rfl, (blk_cell BK643.out 1).trans rfl⟩ (fun hHeld => ?_)
      clear hK K
      refine norm_ (a' := ?_) ?_ ?_
      rotate_left
      ·show Act.put _ (some 38) _ = _
       simp only [Act.put, List.setIfInBounds_toArray, List.set_cons_zero, List.set_cons_succ, i64_w, i32_w]
       rfl
      refine pure_ (i := 8) (N := some 39) (v := ?_) (a' := ?_) #[true, true, true, true, true, true, true, true, true, false, false, false, false, false, false, false, false, false, false, false, false, false, false, false, false, false] rfl rfl (any_of HT_.out (by kernel_rfl)) (fun _ _ _ h => h) (Or.inl ⟨by rfl, ?_⟩) ?_ ?_
      rotate_left
      ·intro w'
       go_simp
       with_reducible rfl
      rotate_left
      ·simp only [Act.put, List.setIfInBounds_toArray, List.set_cons_zero, List.set_cons_succ, i64_w, i32_w]
       rfl
      refine pure_ (i := 9) (N := some 40) (v := ?_) (a' := ?_) #[true, true, true, true, true, true, true, true, true, true, false, false, false, false, false, false, false, false, false, false, false, false, false, false, false, false] rfl rfl (any_of HT_.out (by kernel_rfl)) (fun _ _ _ h => h) (Or.inl ⟨by rfl, ?_⟩) ?_ ?_
      rotate_left
      ·intro w'
       go_simp
       with_reducible rfl
      rotate_left
      ·simp only [Act.put, List.setIfInBounds_toArray, List.set_cons_zero, List.set_cons_succ, i64_w, i32_w]
       rfl
      refine pure_ (i := 10) (N := some 41) (v := ?_) (a' := ?_) #[true, true, true, true, true, true, true, true, true, true, true, false, false, false, false, false, false, false, false, false, false, false, false, false, false, false] rfl rfl (any_of HT_.out (by kernel_rfl)) (fun _ _ _ h => h) (Or.inl ⟨by rfl, ?_⟩) ?_ ?_
      rotate_left
      ·intro w'
       go_simp
       with_reducible rfl
      rotate_left
      ·simp only [Act.put, List.setIfInBounds_toArray, List.set_cons_zero, List.set_cons_succ, i64_w, i32_w]
       rfl
      refine take_ (i := 11) (N := some 42) (v := ?_) (a' := ?_) #[true, true, true, true, true, true, true, true, true, true, true, true, false, false, false, false, false, false, false, false, false, false, false, false, false, false] rfl rfl (take_ofW HT_.out HW_.out (by kernel_rfl)) (fun _ _ _ h => h) (Or.inl ⟨by rfl, ?_⟩) hHeld ?_ ?_
      rotate_left
      ·rintro w' ⟨s0, s1, s2, s3, s4, s5, s6, s7, s8, s9, s10, s11⟩
       go_simp
       with_reducible rfl
      rotate_left
      ·simp only [Act.put, List.setIfInBounds_toArray, List.set_cons_zero, List.set_cons_succ, i64_w, i32_w]
       rfl
      refine take_ (i := 12) (N := some 43) (v := ?_) (a' := ?_) #[true, true, true, true, true, true, true, true, true, true, true, true, true, false, false, false, false, false, false, false, false, false, false, false, false, false] rfl rfl (take_ofW HT_.out HW_.out (by kernel_rfl)) (fun _ _ _ h => h) (Or.inl ⟨by rfl, ?_⟩) hHeld ?_ ?_
      rotate_left
      ·rintro w' ⟨s0, s1, s2, s3, s4, s5, s6, s7, s8, s9, s10, s11⟩
       go_simp
       with_reducible rfl
      rotate_left
      ·simp only [Act.put, List.setIfInBounds_toArray, List.set_cons_zero, List.set_cons_succ, i64_w, i32_w]
       rfl
      refine pure_ (i := 13) (N := some 44) (v := ?_) (a' := ?_) #[true, true, true, true, true, true, true, true, true, true, true, true, true, true, false, false, false, false, false, false, false, false, false, false, false, false] rfl rfl (any_of HT_.out (by kernel_rfl)) (fun _ _ _ h => h) (Or.inl ⟨by rfl, ?_⟩) ?_ ?_
      rotate_left
      ·intro w'
       go_simp
       with_reducible rfl
      rotate_left
      ·simp only [Act.put, List.setIfInBounds_toArray, List.set_cons_zero, List.set_cons_succ, i64_w, i32_w]
       rfl
      refine pure_ (i := 14) (N := some 45) (v := ?_) (a' := ?_) #[true, true, true, true, true, true, true, true, true, true, true, true, true, true, true, false, false, false, false, false, false, false, false, false, false, false] rfl rfl (any_of HT_.out (by kernel_rfl)) (fun _ _ _ h => h) (Or.inl ⟨by rfl, ?_⟩) ?_ ?_
      rotate_left
      ·intro w'
       go_simp
       with_reducible rfl
      rotate_left
      ·simp only [Act.put, List.setIfInBounds_toArray, List.set_cons_zero, List.set_cons_succ, i64_w, i32_w]
       rfl
      refine pure_ (i := 15) (N := some 46) (v := ?_) (a' := ?_) #[true, true, true, true, true, true, true, true, true, true, true, true, true, true, true, true, false, false, false, false, false, false, false, false, false, false] rfl rfl (any_of HT_.out (by kernel_rfl)) (fun _ _ _ h => h) (Or.inl ⟨by rfl, ?_⟩) ?_ ?_
      rotate_left
      ·intro w'
       go_simp
       with_reducible rfl
      rotate_left
      ·simp only [Act.put, List.setIfInBounds_toArray, List.set_cons_zero, List.set_cons_succ, i64_w, i32_w]
       rfl
      refine take_ (i := 16) (N := some 47) (v := ?_) (a' := ?_) #[true, true, true, true, true, true, true, true, true, true, true, true, true, true, true, true, true, false, false, false, false, false, false, false, false, false] rfl rfl (take_ofW HT_.out HW_.out (by kernel_rfl)) (fun _ _ _ h => h) (Or.inl ⟨by rfl, ?_⟩) hHeld ?_ ?_
      rotate_left
      ·rintro w' ⟨s0, s1, s2, s3, s4, s5, s6, s7, s8, s9, s10, s11⟩
       go_simp
       with_reducible rfl
      rotate_left
      ·simp only [Act.put, List.setIfInBounds_toArray, List.set_cons_zero, List.set_cons_succ, i64_w, i32_w]
       rfl
      refine take_ (i := 17) (N := some 48) (v := ?_) (a' := ?_) #[true, true, true, true, true, true, true, true, true, true, true, true, true, true, true, true, true, true, false, false, false, false, false, false, false, false] rfl rfl (take_ofW HT_.out HW_.out (by kernel_rfl)) (fun _ _ _ h => h) (Or.inl ⟨by rfl, ?_⟩) hHeld ?_ ?_
      rotate_left
      ·rintro w' ⟨s0, s1, s2, s3, s4, s5, s6, s7, s8, s9, s10, s11⟩
       go_simp
       with_reducible rfl
      rotate_left
      ·simp only [Act.put, List.setIfInBounds_toArray, List.set_cons_zero, List.set_cons_succ, i64_w, i32_w]
       rfl
      refine pure_ (i := 18) (N := some 49) (v := ?_) (a' := ?_) #[true, true, true, true, true, true, true, true, true, true, true, true, true, true, true, true, true, true, true, false, false, false, false, false, false, false] rfl rfl (any_of HT_.out (by kernel_rfl)) (fun _ _ _ h => h) (Or.inl ⟨by rfl, ?_⟩) ?_ ?_
      rotate_left
      ·intro w'
       go_simp
       with_reducible rfl
      rotate_left
      ·simp only [Act.put, List.setIfInBounds_toArray, List.set_cons_zero, List.set_cons_succ, i64_w, i32_w]
       rfl
      refine pure_ (i := 19) (N := some 50) (v := ?_) (a' := ?_) #[true, true, true, true, true, true, true, true, true, true, true, true, true, true, true, true, true, true, true, true, false, false, false, false, false, false] rfl rfl (any_of HT_.out (by kernel_rfl)) (fun _ _ _ h => h) (Or.inl ⟨by rfl, ?_⟩) ?_ ?_
      rotate_left
      ·intro w'
       go_simp
       with_reducible rfl
      rotate_left
      ·simp only [Act.put, List.setIfInBounds_toArray, List.set_cons_zero, List.set_cons_succ, i64_w, i32_w]
       rfl
      refine pure_ (i := 20) (N := some 51) (v := ?_) (a' := ?_) #[true, true, true, true, true, true, true, true, true, true, true, true, true, true, true, true, true, true, true, true, true, false, false, false, false, false] rfl rfl (any_of HT_.out (by kernel_rfl)) (fun _ _ _ h => h) (Or.inl ⟨by rfl, ?_⟩) ?_ ?_
      rotate_left
      ·intro w'
       go_simp
       with_reducible rfl
      rotate_left
      ·simp only [Act.put, List.setIfInBounds_toArray, List.set_cons_zero, List.set_cons_succ, i64_w, i32_w]
       rfl
      refine pure_ (i := 21) (N := some 52) (v := ?_) (a' := ?_) #[true, true, true, true, true, true, true, true, true, true, true, true, true, true, true, true, true, true, true, true, true, true, false, false, false, false] rfl rfl (any_of HT_.out (by kernel_rfl)) (fun _ _ _ h => h) (Or.inl ⟨by rfl, ?_⟩) ?_ ?_
      rotate_left
      ·intro w'
       go_simp
       with_reducible rfl
      rotate_left
      ·simp only [Act.put, List.setIfInBounds_toArray, List.set_cons_zero, List.set_cons_succ, i64_w, i32_w]
       rfl
      refine pure_ (i := 22) (N := some 53) (v := ?_) (a' := ?_) #[true, true, true, true, true, true, true, true, true, true, true, true, true, true, true, true, true, true, true, true, true, true, true, false, false, false] rfl rfl (any_of HT_.out (by kernel_rfl)) (fun _ _ _ h => h) (Or.inl ⟨by rfl, ?_⟩) ?_ ?_
      rotate_left
      ·intro w'
       go_simp
       with_reducible rfl
      rotate_left
      ·simp only [Act.put, List.setIfInBounds_toArray, List.set_cons_zero, List.set_cons_succ, i64_w, i32_w]
       rfl
      refine pure_ (i := 23) (N := some 54) (v := ?_) (a' := ?_) #[true, true, true, true, true, true, true, true, true, true, true, true, true, true, true, true, true, true, true, true, true, true, true, true, false, false] rfl rfl (any_of HT_.out (by kernel_rfl)) (fun _ _ _ h => h) (Or.inl ⟨by rfl, ?_⟩) ?_ ?_
      rotate_left
      ·intro w'
       go_simp
       with_reducible rfl
      rotate_left
      ·simp only [Act.put, List.setIfInBounds_toArray, List.set_cons_zero, List.set_cons_succ, i64_w, i32_w]
       rfl
      refine pure_ (i := 24) (N := some 55) (v := ?_) (a' := ?_) #[true, true, true, true, true, true, true, true, true, true, true, true, true, true, true, true, true, true, true, true, true, true, true, true, true, false] rfl rfl (any_of HT_.out (by kernel_rfl)) (fun _ _ _ h => h) (Or.inl ⟨by rfl, ?_⟩) ?_ ?_
      rotate_left
      ·intro w'
       go_simp
       with_reducible rfl
      rotate_left
      ·simp only [Act.put, List.setIfInBounds_toArray, List.set_cons_zero, List.set_cons_succ, i64_w, i32_w]
       rfl
      refine pure_ (i := 25) (N := some 4) (v := ?_) (a' := ?_) #[true, true, true, true, true, true, true, true, true, true, true, true, true, true, true, true, true, true, true, true, true, true, true, true, true, true] rfl rfl (any_of HT_.out (by kernel_rfl)) (fun _ _ _ h => h) (Or.inl ⟨by rfl, ?_⟩) ?_ ?_
      rotate_left
      ·intro w'
       go_simp
       with_reducible rfl
      rotate_left
      ·simp only [Act.put, List.setIfInBounds_toArray, List.set_cons_zero, List.set_cons_succ, i64_w, i32_w]
       rfl
      refine done_ (done_of HT_.out (by kernel_rfl)) ?_
      try go_wp2
      go_ret
      exact ⟨Q.en, Q.bw6 HB GE623 GE624 GE635 GE636 GE642 GE643⟩
     ·rw [if_neg c24] at H
      have c24b0 : (t632 == t639 && (t633.toList == t640.toList)) = false := by simpa using c24
      (try (have c24b1 : decide (t632 = t639 && (t633.toList == t640.toList)) = false := by simpa using c24))
      (try (have c24b2 : (t632 == t639 && (t633.toList == t640.toList)) = false := by simpa using c24))
      (try (have c24b3 : ¬ (t632 = t639 && (t633.toList == t640.toList)) := by simpa using c24))
      clear c24
      obtain rfl := Option.some.inj H
      exact absurd HR.out (by decide)
    ·rw [if_neg c23] at H
     have c23b0 : (t630 == t637 && (t631.toList == t638.toList)) = false := by simpa using c23
     (try (have c23b1 : decide (t630 = t637 && (t631.toList == t638.toList)) = false := by simpa using c23))
     (try (have c23b2 : (t630 == t637 && (t631.toList == t638.toList)) = false := by simpa using c23))
     (try (have c23b3 : ¬ (t630 = t637 && (t631.toList == t638.toList)) := by simpa using c23))
     clear c23
     obtain rfl := Option.some.inj H
     exact absurd HR.out (by decide)
   ·rw [if_neg c22] at H
    have c22b0 : (t645 == t647 && (t646.toList == t648.toList)) = false := by simpa using c22
    (try (have c22b1 : decide (t645 = t647 && (t646.toList == t648.toList)) = false := by simpa using c22))
    (try (have c22b2 : (t645 == t647 && (t646.toList == t648.toList)) = false := by simpa using c22))
    (try (have c22b3 : ¬ (t645 = t647 && (t646.toList == t648.toList)) := by simpa using c22))
    clear c22
    obtain rfl := Option.some.inj H
    exact absurd HR.out (by decide)
  ·replace c19 := Bool.eq_false_iff.mpr c19
   subst c19
   rw [if_neg (show ¬ (false = true) by decide)] at H
   obtain rfl := Option.some.inj H
   exact absurd HR.out (by decide)
end Go.Proofs.YtpokflilobkoaaaDoor.P
