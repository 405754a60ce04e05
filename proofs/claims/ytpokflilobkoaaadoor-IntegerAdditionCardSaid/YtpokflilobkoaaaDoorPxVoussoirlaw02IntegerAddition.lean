/- Out of what mp.py printed for this seat (squeeze.py, repack.py). Not trusted: Lean checks it. -/
import Derived.Test.YtpokflilobkoaaaDoorPx0
import Derived.Test.YtpokflilobkoaaaDoorPx1
import Derived.Test.YtpokflilobkoaaaDoorPxIA
import Derived.Test.YtpokflilobkoaaaDoorPxIC
import Derived.Test.YtpokflilobkoaaaDoorPxID
import Derived.Test.YtpokflilobkoaaaDoorPxSA
import Derived.Test.YtpokflilobkoaaaDoorPxSC
import Derived.Test.YtpokflilobkoaaaDoorPxVoussoirlaw02Fixed
import Derived.Test.YtpokflilobkoaaaDoorPxVoussoirlaw02Great
import Derived.Test.YtpokflilobkoaaaDoorXQ
-- squeezed twice
namespace Go.Proofs.YtpokflilobkoaaaDoor.P
open Go.RowKit Go.Proofs.YtpokflilobkoaaaDoorW.PrintWords Go.Proofs.YtpokflilobkoaaaDoorW.PrintLast Go.Proofs.YtpokflilobkoaaaDoorW.PrintMore
attribute [local go_sem] max2_int min2_int max_two min_two max_three min_three max_four min_four   -- for this text's walks alone
attribute [local go_sem] XW.cell_twice   -- for this text's walks alone
set_option linter.unusedVariables false
set_option linter.unusedSimpArgs false
attribute [local go_sem high] eqA36

/-! ### voussoirlaw02_IntegerAddition: function 11 -/
def voussoirlaw02_IntegerAddition.f (k : Nat) (a0_0 : Bool) (a0_1 : ByteArray) (a1_0 : Bool) (a1_1 : ByteArray) : Option (Bool) := (voussoirlaw02_Great.f k (([(⟨a0_0, a0_1⟩ : S36), (⟨a1_0, a1_1⟩ : S36)] : List (S36)))).bind fun t702 => (if t702 > 0 then ((voussoirlaw02_fixed.f k).bind fun t703 => (some t703)) else ((voussoirlaw02_fixed.f k).bind fun t704 => (if t704 = true then ((integer_Add.f k a0_0 a0_1 a1_0 a1_1).bind fun bt705 => ((voussoirref02_Add.f k a0_0 a0_1 a1_0 a1_1).bind fun bt707 => (if (bt705.1 == bt707.1 && (bt705.2.toList == bt707.2.toList)) = true then ((integer_Sub.f k a0_0 a0_1 a1_0 a1_1).bind fun bt709 => ((voussoirref02_Sub.f k a0_0 a0_1 a1_0 a1_1).bind fun bt711 => (if (bt709.1 == bt711.1 && (bt709.2.toList == bt711.2.toList)) = true then ((integer_Neg.f k a0_0 a0_1).bind fun bt713 => ((voussoirref02_Neg.f k a0_0 a0_1).bind fun bt715 => (if (bt713.1 == bt715.1 && (bt713.2.toList == bt715.2.toList)) = true then ((integer_Cmp.f k a0_0 a0_1 a1_0 a1_1).bind fun t717 => ((voussoirref02_Cmp.f k a0_0 a0_1 a1_0 a1_1).bind fun t718 => (if t717 = t718 then ((integer_Sign.f k a0_0 a0_1).bind fun t719 => ((voussoirref02_Sign.f k a0_0 a0_1).bind fun t720 => (if t719 = t720 then ((integer_Normalize.f k a0_0 a0_1).bind fun bt721 => ((voussoirref02_Norm.f k a0_0 a0_1).bind fun bt723 => (some (bt721.1 == bt723.1 && (bt721.2.toList == bt723.2.toList))))) else (some false)))) else (some false)))) else (some false)))) else (some false)))) else (some false)))) else (some false))))
theorem voussoirlaw02_IntegerAddition.mono : ∀ a0 a1 a2 a3 k, LeO (voussoirlaw02_IntegerAddition.f k a0 a1 a2 a3) (voussoirlaw02_IntegerAddition.f (k + 1) a0 a1 a2 a3) := by
 intro a0 a1 a2 a3 k
 unfold voussoirlaw02_IntegerAddition.f
 repeat' first
   | (with_reducible exact integer_Add.mono _ _ _ _ _)
   | (with_reducible exact integer_Cmp.mono _ _ _ _ _)
   | (with_reducible exact integer_Neg.mono _ _ _)
   | (with_reducible exact integer_Normalize.mono _ _ _)
   | (with_reducible exact integer_Sign.mono _ _ _)
   | (with_reducible exact integer_Sub.mono _ _ _ _ _)
   | (with_reducible exact voussoirlaw02_Great.mono _ _)
   | (with_reducible exact voussoirlaw02_fixed.mono _)
   | (with_reducible exact voussoirref02_Add.mono _ _ _ _ _)
   | (with_reducible exact voussoirref02_Cmp.mono _ _ _ _ _)
   | (with_reducible exact voussoirref02_Neg.mono _ _ _)
   | (with_reducible exact voussoirref02_Norm.mono _ _ _)
   | (with_reducible exact voussoirref02_Sign.mono _ _ _)
   | (with_reducible exact voussoirref02_Sub.mono _ _ _ _ _)
   | (with_reducible exact LeO.refl _)
   | (with_reducible exact LeO.none _)
   | (with_reducible refine LeO.ite ?_ ?_)
   | (with_reducible refine LeO.bind ?_ (fun _ => ?_))
   | exact integer_Add.mono _ _ _ _ _
   | exact integer_Cmp.mono _ _ _ _ _
   | exact integer_Neg.mono _ _ _
   | exact integer_Normalize.mono _ _ _
   | exact integer_Sign.mono _ _ _
   | exact integer_Sub.mono _ _ _ _ _
   | exact voussoirlaw02_Great.mono _ _
   | exact voussoirlaw02_fixed.mono _
   | exact voussoirref02_Add.mono _ _ _ _ _
   | exact voussoirref02_Cmp.mono _ _ _ _ _
   | exact voussoirref02_Neg.mono _ _ _
   | exact voussoirref02_Norm.mono _ _ _
   | exact voussoirref02_Sign.mono _ _ _
   | exact voussoirref02_Sub.mono _ _ _ _ _
   | exact LeO.none _
   | refine LeO.ite ?_ ?_
   | refine LeO.bind ?_ (fun _ => ?_)
def voussoirlaw02_IntegerAddition.T3 : Bool × List (List Nat × List Nat) := (true, [([], []), ([0, 0], [0]), ([1], [1]), ([1], [1]), ([2, 3, 1, 1], [1, 2, 3]), ([1], [1]), ([1], [1]), ([5, 6, 4, 1], [1, 5, 6]), ([4, 7, 1], [1, 4, 7]), ([1, 8], [1, 8]), ([9, 7], [9]), ([10], [10]), ([10], [10]), ([11, 12, 10, 10], [10, 11, 12]), ([10], [10]), ([10], [10]), ([14, 15, 13, 10], [10, 14, 15]), ([13, 16, 10], [10, 13, 16]), ([10, 17], [10, 17]), ([18, 16], [18]), ([19], [19]), ([20, 19, 19], [19, 20]), ([19], [19]), ([22, 21, 19], [19, 22]), ([21, 23, 19], [19, 21, 23]), ([19, 24], [19, 24]), ([25, 23], [25]), ([26], [26]), ([26], [26]), ([27, 28, 26, 26], [26, 27, 28]), ([26], [26]), ([26], [26]), ([30, 31, 29, 26], [26, 30, 31]), ([29, 32, 26], [26, 29, 32]), ([26, 33], [26, 33]), ([34, 32], [34]), ([35], [35]), ([36, 35, 35], [35, 36]), ([35], [35]), ([38, 37, 35], [35, 38]), ([37, 39, 35], [35, 37, 39]), ([35, 40], [35, 40]), ([41, 39], [41]), ([42], [42]), ([43, 42, 42], [42, 43]), ([42], [42]), ([45, 44, 42], [42, 45]), ([44, 46, 42], [42, 44, 46]), ([42, 47], [42, 47]), ([48, 46, 0, 1, 2, 3, 4, 5, 6, 7, 8, 9, 10, 11, 12, 13, 14, 15, 16, 17, 18, 19, 20, 21, 22, 23, 24, 25, 26, 27, 28, 29, 30, 31, 32, 33, 34, 35, 36, 37, 38, 39, 40, 41, 42, 43, 44, 45, 46, 47, 48], [48])])
def voussoirlaw02_IntegerAddition.B3 : List Nat := [0, 1, 3, 3, 15, 3, 3, 127, 255, 511, 1023, 2047, 2047, 8191, 2047, 2047, 65535, 131071, 262143, 524287, 1048575, 2097151, 1048575, 8388607, 16777215, 33554431, 67108863, 134217727, 134217727, 536870911, 134217727, 134217727, 4294967295, 8589934591, 17179869183, 34359738367, 68719476735, 137438953471, 68719476735, 549755813887, 1099511627775, 2199023255551, 4398046511103, 8796093022207, 17592186044415, 8796093022207, 70368744177663, 140737488355327, 281474976710655, 562949953421311]
theorem voussoirlaw02_IntegerAddition.tab3 : rtab .any (opsOf Tryd.f11 3) = voussoirlaw02_IntegerAddition.T3 := by kernel_rfl
theorem voussoirlaw02_IntegerAddition.bits3 : waitsOk voussoirlaw02_IntegerAddition.T3.2 voussoirlaw02_IntegerAddition.B3 = true := by kernel_rfl
set_option maxHeartbeats 8000000 in
set_option maxRecDepth 100000 in
theorem voussoirlaw02_IntegerAddition.calls (k : Nat) (a0_0 : Bool) (a0_1 : ByteArray) (a1_0 : Bool) (a1_1 : ByteArray) (r : Bool) (hr : r = true) (w : World) (hG : X.G w) (h : voussoirlaw02_IntegerAddition.f k a0_0 a0_1 a1_0 a1_1 = some r) :
  Calls Tryd.prog 11 #[.agg #[.bool a0_0, .string a0_1], .agg #[.bool a1_0, .string a1_1]] w fun e w' => e = .returned (.bool r) ∧ Below w.heap.size w w' := by
 have HR := Q.a hr
 clear hr
 have hu36 := Tryd.underlying36
 have HG := Q.a hG
 clear hG
 have HB := Q.a (Below.refl w.heap.size w)
 have H : ((voussoirlaw02_Great.f k (([(⟨a0_0, a0_1⟩ : S36), (⟨a1_0, a1_1⟩ : S36)] : List (S36)))).bind fun t702 => (if t702 > 0 then ((voussoirlaw02_fixed.f k).bind fun t703 => (some t703)) else ((voussoirlaw02_fixed.f k).bind fun t704 => (if t704 = true then ((integer_Add.f k a0_0 a0_1 a1_0 a1_1).bind fun bt705 => ((voussoirref02_Add.f k a0_0 a0_1 a1_0 a1_1).bind fun bt707 => (if (bt705.1 == bt707.1 && (bt705.2.toList == bt707.2.toList)) = true then ((integer_Sub.f k a0_0 a0_1 a1_0 a1_1).bind fun bt709 => ((voussoirref02_Sub.f k a0_0 a0_1 a1_0 a1_1).bind fun bt711 => (if (bt709.1 == bt711.1 && (bt709.2.toList == bt711.2.toList)) = true then ((integer_Neg.f k a0_0 a0_1).bind fun bt713 => ((voussoirref02_Neg.f k a0_0 a0_1).bind fun bt715 => (if (bt713.1 == bt715.1 && (bt713.2.toList == bt715.2.toList)) = true then ((integer_Cmp.f k a0_0 a0_1 a1_0 a1_1).bind fun t717 => ((voussoirref02_Cmp.f k a0_0 a0_1 a1_0 a1_1).bind fun t718 => (if t717 = t718 then ((integer_Sign.f k a0_0 a0_1).bind fun t719 => ((voussoirref02_Sign.f k a0_0 a0_1).bind fun t720 => (if t719 = t720 then ((integer_Normalize.f k a0_0 a0_1).bind fun bt721 => ((voussoirref02_Norm.f k a0_0 a0_1).bind fun bt723 => (some (bt721.1 == bt723.1 && (bt721.2.toList == bt723.2.toList))))) else (some false)))) else (some false)))) else (some false)))) else (some false)))) else (some false)))) else (some false))))) = some r := h
 clear h
 obtain ⟨y699, hy699⟩ : ∃ y_ : List (S36), y_ = (([(⟨a0_0, a0_1⟩ : S36), (⟨a1_0, a1_1⟩ : S36)] : List (S36))) := ⟨_, rfl⟩
 replace H : ((voussoirlaw02_Great.f k y699).bind fun t702 => (if t702 > 0 then ((voussoirlaw02_fixed.f k).bind fun t703 => (some t703)) else ((voussoirlaw02_fixed.f k).bind fun t704 => (if t704 = true then ((integer_Add.f k a0_0 a0_1 a1_0 a1_1).bind fun bt705 => ((voussoirref02_Add.f k a0_0 a0_1 a1_0 a1_1).bind fun bt707 => (if (bt705.1 == bt707.1 && (bt705.2.toList == bt707.2.toList)) = true then ((integer_Sub.f k a0_0 a0_1 a1_0 a1_1).bind fun bt709 => ((voussoirref02_Sub.f k a0_0 a0_1 a1_0 a1_1).bind fun bt711 => (if (bt709.1 == bt711.1 && (bt709.2.toList == bt711.2.toList)) = true then ((integer_Neg.f k a0_0 a0_1).bind fun bt713 => ((voussoirref02_Neg.f k a0_0 a0_1).bind fun bt715 => (if (bt713.1 == bt715.1 && (bt713.2.toList == bt715.2.toList)) = true then ((integer_Cmp.f k a0_0 a0_1 a1_0 a1_1).bind fun t717 => ((voussoirref02_Cmp.f k a0_0 a0_1 a1_0 a1_1).bind fun t718 => (if t717 = t718 then ((integer_Sign.f k a0_0 a0_1).bind fun t719 => ((voussoirref02_Sign.f k a0_0 a0_1).bind fun t720 => (if t719 = t720 then ((integer_Normalize.f k a0_0 a0_1).bind fun bt721 => ((voussoirref02_Norm.f k a0_0 a0_1).bind fun bt723 => (some (bt721.1 == bt723.1 && (bt721.2.toList == bt723.2.toList))))) else (some false)))) else (some false)))) else (some false)))) else (some false)))) else (some false)))) else (some false))))) = some r := by first | (rw [hy699]; with_reducible exact H) | (have H2_ := (Option.bind_some _ _).symm.trans H; rw [hy699]; with_reducible exact H2_) | (have H2_ := (Option.bind_some _ _).symm.trans H; with_reducible exact H2_) | with_reducible exact H | (rw [hy699]; exact H) | exact H
 have Ny699 := Q.a hy699
 clear hy699
 replace H := Option.bind_eq_some_iff.mp H
 obtain ⟨t702, A30, H⟩ := H
 try dsimp only at H
 have A3 := Q.a A30
 clear A30
 by_cases c4 : t702 > 0
 ·rw [if_pos c4] at H
  have c4b0 : decide (0 < t702) = true := decide_eq_true c4
  clear c4
  replace H := Option.bind_eq_some_iff.mp H
  obtain ⟨t703, A50, H⟩ := H
  try dsimp only at H
  have A5 := Q.a A50
  clear A50
  obtain rfl := Option.some.inj H
  go_enter Tryd.func11, Tryd.ntmps11
  go_wp2_with (first | ((with_reducible refine gate_dst (N := 2) rfl ?_); refine Q.bx 2 #[.bool a0_0, .string a0_1] 36 rfl rfl ?_; intro gb697 hg w6 hbox hb; replace BK697 := Q.a (hbox); replace GW697 := Q.a (Q.gs hg (below_size (Q.bw HB))); replace GE697 := GW697; replace HB := Q.a (below_step (Q.bw HB) hb); clear hb hbox hg) | ((with_reducible refine gate_dst (N := 3) rfl ?_); refine Q.bx 3 #[.bool a1_0, .string a1_1] 36 rfl rfl ?_; intro gb698 hg w7 hbox hb; replace BK698 := Q.a (hbox); replace GW698 := Q.a (Q.gs hg (below_size (Q.bw1 HB GE697))); replace GE698 := GW698; replace HB := Q.a (below_step (Q.bw1 HB GE697) hb); replace NB697_698 := Q.a (Q.nl hg BK697); replace NB698_697 := Q.a (Q.ng hg BK697); replace BK697 := Q.a (Q.bb BK697 hb); clear hb hbox hg; have hnb8 := NB697_698.out; have hnc8 := NB698_697.out; have hcz9_0 : w7.cell? ⟨gb697, 0, none⟩ = some (.bool a0_0) := (blk_cell BK697.out 0).trans rfl; have hcz9_1 : w7.cell? ⟨gb697, 1, none⟩ = some (.string a0_1) := (blk_cell BK697.out 1).trans rfl; have hfz9_0 := blk_frozen BK697.out 0; have hfz9_1 := blk_frozen BK697.out 1; have hcz10_0 : w7.cell? ⟨gb698, 0, none⟩ = some (.bool a1_0) := (blk_cell BK698.out 0).trans rfl; have hcz10_1 : w7.cell? ⟨gb698, 1, none⟩ = some (.string a1_1) := (blk_cell BK698.out 1).trans rfl; have hfz10_0 := blk_frozen BK698.out 0; have hfz10_1 := blk_frozen BK698.out 1) | ((with_reducible refine gate_dst (N := 7) rfl ?_); refine Kd.R_lit k36 _ 36 ?hg (N := 7) ?hd (xs := ([(⟨a0_0, a0_1⟩ : S36), (⟨a1_0, a1_1⟩ : S36)] : List (S36))) (inner := [.bool a0_0, .string a0_1, .bool a1_0, .string a1_1]) (ok := fun _ => True) (okp := fun _ => True) ?hr ?hp (fun _ hk => hk) trivial (Below.refl _ _) (Nat.le_refl _) (by simp) ?_; (case hd => rfl); (case hg => rfl); (case hr => first | (go_simp; done) | (go_simp; rfl)); (case hp => exact (Reps.c2 (show Kd.M k36 _ _ _ (⟨a0_0, a0_1⟩ : S36) [.bool a0_0, .string a0_1] from (k36_mkM _ _ _ (⟨a0_0, a0_1⟩ : S36) )) (Reps.c2 (show Kd.M k36 _ _ _ (⟨a1_0, a1_1⟩ : S36) [.bool a1_0, .string a1_1] from (k36_mkM _ _ _ (⟨a1_0, a1_1⟩ : S36) )) (Reps.none _ _)))); intro v700 w11 ho12 hb hg_ hnew_; clear hg_ hnew_; (first | rw [← Ny699.out] at ho12 | (simp only [Int.reduceToNat] at ho12; rw [← Ny699.out] at ho12)); replace HO701 := Q.a (Kd.R_lower (Kd.R_newB (Kd.R_newB ho12 (g := gb697) (o := .cells #[.bool a0_0, .string a0_1] 36 (0, 0)) (Q.kb BK697)) (g := gb698) (o := .cells #[.bool a1_0, .string a1_1] 36 (0, 0)) (Q.kb BK698)) (below_size (Q.bw2 HB GE697 GE698))); replace BK697 := Q.a (Q.bb BK697 hb); replace BK698 := Q.a (Q.bb BK698 hb); replace HB := Q.a (below_step (Q.bw2 HB GE697 GE698) hb); clear hb ho12; obtain ⟨Ao13, co13, eo13⟩ := Kd.R_slice HO701.out; subst eo13) | ((with_reducible refine gate_callee (f := 36) rfl ?_); refine Q.gl 8 Tryd.func36 #[.slice Ao13 y699.length co13] rfl rfl rfl rfl ?_; (with_reducible refine (voussoirlaw02_Great.calls k _ _ y699 t702 _ ?side1 ?side2 A3.out).mono ?_); (case side1 => repeat (first | exact (Kd.R_reads' HO701.out).2.2 | (with_reducible refine Kd.C_alloc ?_ _) | (with_reducible refine Kd.C_drewN ?_ _) | (with_reducible refine Kd.C_drew ?_))); (case side2 => exact (Kd.R_reads' HO701.out).2.1); rintro e w14 ⟨rfl, hb⟩; refine ⟨_, rfl, ?_⟩; replace HO701 := Q.a (Kd.R_below (Q.kr HO701) hb); replace BK697 := Q.a (Q.bb BK697 hb); replace BK698 := Q.a (Q.bb BK698 hb); replace HB := Q.a (below_step (Q.bw2 HB GE697 GE698) hb); (try clear hb)) | ((with_reducible refine gate_callee (f := 37) rfl ?_); refine Q.gl 10 Tryd.func37 #[] rfl rfl rfl rfl ?_; (with_reducible refine (voussoirlaw02_fixed.calls k  t703 HR.out _ ?side1 A5.out).mono ?_); (case side1 => exact X.G.below HG.out (Q.bw2 HB GE697 GE698)); rintro e w15 ⟨rfl, hb⟩; refine ⟨_, rfl, ?_⟩; replace HO701 := Q.a (Kd.R_below (Q.kr HO701) hb); replace BK697 := Q.a (Q.bb BK697 hb); replace BK698 := Q.a (Q.bb BK698 hb); replace HB := Q.a (below_step (Q.bw2 HB GE697 GE698) hb); (try clear hb)))
  go_ret
  exact ⟨Q.en, Q.bw2 HB GE697 GE698⟩
 ·rw [if_neg c4] at H
  have c4b0 : decide (0 < t702) = false := decide_eq_false c4
  clear c4
  replace H := Option.bind_eq_some_iff.mp H
  obtain ⟨t704, A160, H⟩ := H
  try dsimp only at H
  have A16 := Q.a A160
  clear A160
  by_cases c17 : t704 = true
  ·subst c17
   rw [if_pos rfl] at H
   replace H := Option.bind_eq_some_iff.mp H
   obtain ⟨⟨t705, t706⟩, A180, H⟩ := H
   try dsimp only at H
   have A18 := Q.a A180
   clear A180
   replace H := Option.bind_eq_some_iff.mp H
   obtain ⟨⟨t707, t708⟩, A190, H⟩ := H
   try dsimp only at H
   have A19 := Q.a A190
   clear A190
   by_cases c20 : (t705 == t707 && (t706.toList == t708.toList)) = true
   ·rw [if_pos c20] at H
    have c20b0 : (t705 == t707 && (t706.toList == t708.toList)) = true := c20
    (try (have c20b1 : decide (t705 = t707 && (t706.toList == t708.toList)) = true := by simpa using c20))
    (try (have c20b2 : (t705 == t707 && (t706.toList == t708.toList)) = true := by simpa using c20))
    clear c20
    replace H := Option.bind_eq_some_iff.mp H
    obtain ⟨⟨t709, t710⟩, A210, H⟩ := H
    try dsimp only at H
    have A21 := Q.a A210
    clear A210
    replace H := Option.bind_eq_some_iff.mp H
    obtain ⟨⟨t711, t712⟩, A220, H⟩ := H
    try dsimp only at H
    have A22 := Q.a A220
    clear A220
    by_cases c23 : (t709 == t711 && (t710.toList == t712.toList)) = true
    ·rw [if_pos c23] at H
     have c23b0 : (t709 == t711 && (t710.toList == t712.toList)) = true := c23
     (try (have c23b1 : decide (t709 = t711 && (t710.toList == t712.toList)) = true := by simpa using c23))
     (try (have c23b2 : (t709 == t711 && (t710.toList == t712.toList)) = true := by simpa using c23))
     clear c23
     replace H := Option.bind_eq_some_iff.mp H
     obtain ⟨⟨t713, t714⟩, A240, H⟩ := H
     try dsimp only at H
     have A24 := Q.a A240
     clear A240
     replace H := Option.bind_eq_some_iff.mp H
     obtain ⟨⟨t715, t716⟩, A250, H⟩ := H
     try dsimp only at H
     have A25 := Q.a A250
     clear A250
     by_cases c26 : (t713 == t715 && (t714.toList == t716.toList)) = true
     ·rw [if_pos c26] at H
      have c26b0 : (t713 == t715 && (t714.toList == t716.toList)) = true := c26
      (try (have c26b1 : decide (t713 = t715 && (t714.toList == t716.toList)) = true := by simpa using c26))
      (try (have c26b2 : (t713 == t715 && (t714.toList == t716.toList)) = true := by simpa using c26))
      clear c26
      replace H := Option.bind_eq_some_iff.mp H
      obtain ⟨t717, A270, H⟩ := H
      try dsimp only at H
      have A27 := Q.a A270
      clear A270
      replace H := Option.bind_eq_some_iff.mp H
      obtain ⟨t718, A280, H⟩ := H
      try dsimp only at H
      have A28 := Q.a A280
      clear A280
      by_cases c29 : t717 = t718
      ·rw [if_pos c29] at H
       have c29b0 : (t717 == t718) = true := beq_iff_eq.mpr c29
       have c29b1 : (t717 != t718) = false := bne_eq_false_iff_eq.mpr c29
       clear c29
       replace H := Option.bind_eq_some_iff.mp H
       obtain ⟨t719, A300, H⟩ := H
       try dsimp only at H
       have A30 := Q.a A300
       clear A300
       replace H := Option.bind_eq_some_iff.mp H
       obtain ⟨t720, A310, H⟩ := H
       try dsimp only at H
       have A31 := Q.a A310
       clear A310
       by_cases c32 : t719 = t720
       ·rw [if_pos c32] at H
        have c32b0 : (t719 == t720) = true := beq_iff_eq.mpr c32
        have c32b1 : (t719 != t720) = false := bne_eq_false_iff_eq.mpr c32
        clear c32
        replace H := Option.bind_eq_some_iff.mp H
        obtain ⟨⟨t721, t722⟩, A330, H⟩ := H
        try dsimp only at H
        have A33 := Q.a A330
        clear A330
        replace H := Option.bind_eq_some_iff.mp H
        obtain ⟨⟨t723, t724⟩, A340, H⟩ := H
        try dsimp only at H
        have A34 := Q.a A340
        clear A340
        obtain rfl := Option.some.inj H
        go_enter Tryd.func11, Tryd.ntmps11
        try go_wp2_with (first | ((with_reducible refine gate_dst (N := 2) rfl ?_); refine Q.bx 2 #[.bool a0_0, .string a0_1] 36 rfl rfl ?_; intro gb697 hg w35 hbox hb; replace BK697 := Q.a (hbox); replace GW697 := Q.a (Q.gs hg (below_size (Q.bw HB))); replace GE697 := GW697; replace HB := Q.a (below_step (Q.bw HB) hb); clear hb hbox hg) | ((with_reducible refine gate_dst (N := 3) rfl ?_); refine Q.bx 3 #[.bool a1_0, .string a1_1] 36 rfl rfl ?_; intro gb698 hg w36 hbox hb; replace BK698 := Q.a (hbox); replace GW698 := Q.a (Q.gs hg (below_size (Q.bw1 HB GE697))); replace GE698 := GW698; replace HB := Q.a (below_step (Q.bw1 HB GE697) hb); replace NB697_698 := Q.a (Q.nl hg BK697); replace NB698_697 := Q.a (Q.ng hg BK697); replace BK697 := Q.a (Q.bb BK697 hb); clear hb hbox hg; have hnb37 := NB697_698.out; have hnc37 := NB698_697.out; have hcz38_0 : w36.cell? ⟨gb697, 0, none⟩ = some (.bool a0_0) := (blk_cell BK697.out 0).trans rfl; have hcz38_1 : w36.cell? ⟨gb697, 1, none⟩ = some (.string a0_1) := (blk_cell BK697.out 1).trans rfl; have hfz38_0 := blk_frozen BK697.out 0; have hfz38_1 := blk_frozen BK697.out 1; have hcz39_0 : w36.cell? ⟨gb698, 0, none⟩ = some (.bool a1_0) := (blk_cell BK698.out 0).trans rfl; have hcz39_1 : w36.cell? ⟨gb698, 1, none⟩ = some (.string a1_1) := (blk_cell BK698.out 1).trans rfl; have hfz39_0 := blk_frozen BK698.out 0; have hfz39_1 := blk_frozen BK698.out 1) | ((with_reducible refine gate_dst (N := 7) rfl ?_); refine Kd.R_lit k36 _ 36 ?hg (N := 7) ?hd (xs := ([(⟨a0_0, a0_1⟩ : S36), (⟨a1_0, a1_1⟩ : S36)] : List (S36))) (inner := [.bool a0_0, .string a0_1, .bool a1_0, .string a1_1]) (ok := fun _ => True) (okp := fun _ => True) ?hr ?hp (fun _ hk => hk) trivial (Below.refl _ _) (Nat.le_refl _) (by simp) ?_; (case hd => rfl); (case hg => rfl); (case hr => first | (go_simp; done) | (go_simp; rfl)); (case hp => exact (Reps.c2 (show Kd.M k36 _ _ _ (⟨a0_0, a0_1⟩ : S36) [.bool a0_0, .string a0_1] from (k36_mkM _ _ _ (⟨a0_0, a0_1⟩ : S36) )) (Reps.c2 (show Kd.M k36 _ _ _ (⟨a1_0, a1_1⟩ : S36) [.bool a1_0, .string a1_1] from (k36_mkM _ _ _ (⟨a1_0, a1_1⟩ : S36) )) (Reps.none _ _)))); intro v700 w40 ho41 hb hg_ hnew_; clear hg_ hnew_; (first | rw [← Ny699.out] at ho41 | (simp only [Int.reduceToNat] at ho41; rw [← Ny699.out] at ho41)); replace HO701 := Q.a (Kd.R_lower (Kd.R_newB (Kd.R_newB ho41 (g := gb697) (o := .cells #[.bool a0_0, .string a0_1] 36 (0, 0)) (Q.kb BK697)) (g := gb698) (o := .cells #[.bool a1_0, .string a1_1] 36 (0, 0)) (Q.kb BK698)) (below_size (Q.bw2 HB GE697 GE698))); replace BK697 := Q.a (Q.bb BK697 hb); replace BK698 := Q.a (Q.bb BK698 hb); replace HB := Q.a (below_step (Q.bw2 HB GE697 GE698) hb); clear hb ho41; obtain ⟨Ao42, co42, eo42⟩ := Kd.R_slice HO701.out; subst eo42) | ((with_reducible refine gate_callee (f := 36) rfl ?_); refine Q.gl 8 Tryd.func36 #[.slice Ao42 y699.length co42] rfl rfl rfl rfl ?_; (with_reducible refine (voussoirlaw02_Great.calls k _ _ y699 t702 _ ?side1 ?side2 A3.out).mono ?_); (case side1 => repeat (first | exact (Kd.R_reads' HO701.out).2.2 | (with_reducible refine Kd.C_alloc ?_ _) | (with_reducible refine Kd.C_drewN ?_ _) | (with_reducible refine Kd.C_drew ?_))); (case side2 => exact (Kd.R_reads' HO701.out).2.1); rintro e w43 ⟨rfl, hb⟩; refine ⟨_, rfl, ?_⟩; replace HO701 := Q.a (Kd.R_below (Q.kr HO701) hb); replace BK697 := Q.a (Q.bb BK697 hb); replace BK698 := Q.a (Q.bb BK698 hb); replace HB := Q.a (below_step (Q.bw2 HB GE697 GE698) hb); (try clear hb)))
        replace HO701 := Q.a (Kd.R_drew HO701.out)
        replace BK697 := Q.a (blk_drew BK697.out)
        replace BK698 := Q.a (blk_drew BK698.out)
        replace HB := Q.a (below_drew1 HB.out)
        refine start_ (n := 50) (S := fun w' => w'.cell? ⟨gb697, 0, none⟩ = some (.bool a0_0) ∧ w'.cell? ⟨gb697, 1, none⟩ = some (.string a0_1) ∧ w'.cell? ⟨gb698, 0, none⟩ = some (.bool a1_0) ∧ w'.cell? ⟨gb698, 1, none⟩ = some (.string a1_1)) (ds := []) #[false, false, false, false, false, false, false, false, false, false, false, false, false, false, false, false, false, false, false, false, false, false, false, false, false, false, false, false, false, false, false, false, false, false, false, false, false, false, false, false, false, false, false, false, false, false, false, false, false, false] (by kernel_rfl) rfl rfl ⟨(blk_cell BK697.out 0).trans rfl, (blk_cell BK697.out 1).trans rfl, (blk_cell BK698.out 0).trans rfl, (blk_cell BK698.out 1).trans rfl⟩ (fun hHeld => ?_); refine with_tabW voussoirlaw02_IntegerAddition.tab3 voussoirlaw02_IntegerAddition.bits3 (fun HT_ HW_ => ?_)
        generalize w43.drew = w44 at HO701 BK697 BK698 HB hHeld ⊢
        refine one_ (i := 0) (N := some 11) #[true, false, false, false, false, false, false, false, false, false, false, false, false, false, false, false, false, false, false, false, false, false, false, false, false, false, false, false, false, false, false, false, false, false, false, false, false, false, false, false, false, false, false, false, false, false, false, false, false, false] rfl rfl (one_of HT_.out (by kernel_rfl)) (by decide) (fun K hK => ?_)
        refine goes_ Tryd.func37 (by kernel_rfl) rfl #[] (by rfl) rfl rfl (by (try simp only [List.map_toArray, List.map_cons, List.map_nil]); first | done | rfl | (simp only [List.length_drop, List.length_take]; rfl)) ?_
        with_reducible refine (voussoirlaw02_fixed.calls k  true rfl _ ?side1 A16.out).mono ?_
        (case side1 => exact X.G.below HG.out (Q.bw2 HB GE697 GE698))
        rintro e w45 ⟨rfl, hb⟩
        refine ⟨_, rfl, ?_⟩
        replace HO701 := Q.a (Kd.R_below (Q.kr HO701) hb)
        replace BK697 := Q.a (Q.bb BK697 hb)
        replace BK698 := Q.a (Q.bb BK698 hb)
        replace HB := Q.a (below_step (Q.bw2 HB GE697 GE698) hb)
        (try clear hb)
        (try clear hb2)
        (try clear hk)
        (try clear hi)
        refine hK.out _ _ ⟨(blk_cell BK697.out 0).trans rfl, (blk_cell BK697.out 1).trans rfl, (blk_cell BK698.out 0).trans rfl, (blk_cell BK698.out 1).trans rfl⟩ (fun hHeld => ?_)
        clear hK K
        refine norm_ (a' := ?_) ?_ ?_
        rotate_left
        ·show Act.put _ (some 11) _ = _
         simp only [Act.put, List.setIfInBounds_toArray, List.set_cons_zero, List.set_cons_succ, i64_w, i32_w]
         rfl
        refine pure_ (i := 1) (N := some 12) (v := ?_) (a' := ?_) #[true, true, false, false, false, false, false, false, false, false, false, false, false, false, false, false, false, false, false, false, false, false, false, false, false, false, false, false, false, false, false, false, false, false, false, false, false, false, false, false, false, false, false, false, false, false, false, false, false, false] rfl rfl (any_of HT_.out (by kernel_rfl)) (fun _ _ _ h => h) (Or.inl ⟨by rfl, ?_⟩) ?_ ?_
        rotate_left
        ·intro w'
         go_simp
         with_reducible rfl
        rotate_left
        ·simp only [Act.put, List.setIfInBounds_toArray, List.set_cons_zero, List.set_cons_succ, i64_w, i32_w]
         rfl
        refine take_ (i := 2) (N := some 13) (v := ?_) (a' := ?_) #[true, true, true, false, false, false, false, false, false, false, false, false, false, false, false, false, false, false, false, false, false, false, false, false, false, false, false, false, false, false, false, false, false, false, false, false, false, false, false, false, false, false, false, false, false, false, false, false, false, false] rfl rfl (take_ofW HT_.out HW_.out (by kernel_rfl)) (fun _ _ _ h => h) (Or.inl ⟨by rfl, ?_⟩) hHeld ?_ ?_
        rotate_left
        ·rintro w' ⟨s0, s1, s2, s3⟩
         go_simp
         with_reducible rfl
        rotate_left
        ·simp only [Act.put, List.setIfInBounds_toArray, List.set_cons_zero, List.set_cons_succ, i64_w, i32_w]
         rfl
        refine take_ (i := 3) (N := some 14) (v := ?_) (a' := ?_) #[true, true, true, true, false, false, false, false, false, false, false, false, false, false, false, false, false, false, false, false, false, false, false, false, false, false, false, false, false, false, false, false, false, false, false, false, false, false, false, false, false, false, false, false, false, false, false, false, false, false] rfl rfl (take_ofW HT_.out HW_.out (by kernel_rfl)) (fun _ _ _ h => h) (Or.inl ⟨by rfl, ?_⟩) hHeld ?_ ?_
        rotate_left
        ·rintro w' ⟨s0, s1, s2, s3⟩
         go_simp
         with_reducible rfl
        rotate_left
        ·simp only [Act.put, List.setIfInBounds_toArray, List.set_cons_zero, List.set_cons_succ, i64_w, i32_w]
         rfl
        refine take_ (i := 5) (N := some 16) (v := ?_) (a' := ?_) #[true, true, true, true, false, true, false, false, false, false, false, false, false, false, false, false, false, false, false, false, false, false, false, false, false, false, false, false, false, false, false, false, false, false, false, false, false, false, false, false, false, false, false, false, false, false, false, false, false, false] rfl rfl (take_ofW HT_.out HW_.out (by kernel_rfl)) (fun _ _ _ h => h) (Or.inl ⟨by rfl, ?_⟩) hHeld ?_ ?_
        rotate_left
        ·rintro w' ⟨s0, s1, s2, s3⟩
         go_simp
         with_reducible rfl
        rotate_left
        ·simp only [Act.put, List.setIfInBounds_toArray, List.set_cons_zero, List.set_cons_succ, i64_w, i32_w]
         rfl
        refine take_ (i := 6) (N := some 17) (v := ?_) (a' := ?_) #[true, true, true, true, false, true, true, false, false, false, false, false, false, false, false, false, false, false, false, false, false, false, false, false, false, false, false, false, false, false, false, false, false, false, false, false, false, false, false, false, false, false, false, false, false, false, false, false, false, false] rfl rfl (take_ofW HT_.out HW_.out (by kernel_rfl)) (fun _ _ _ h => h) (Or.inl ⟨by rfl, ?_⟩) hHeld ?_ ?_
        rotate_left
        ·rintro w' ⟨s0, s1, s2, s3⟩
         go_simp
         with_reducible rfl
        rotate_left
        ·simp only [Act.put, List.setIfInBounds_toArray, List.set_cons_zero, List.set_cons_succ, i64_w, i32_w]
         rfl
        refine one_ (i := 4) (N := some 15) #[true, true, true, true, true, true, true, false, false, false, false, false, false, false, false, false, false, false, false, false, false, false, false, false, false, false, false, false, false, false, false, false, false, false, false, false, false, false, false, false, false, false, false, false, false, false, false, false, false, false] rfl rfl (one_of HT_.out (by kernel_rfl)) (by decide) (fun K hK => ?_)
        refine goes_ Tryd.func42 (by kernel_rfl) rfl #[.agg #[.bool a0_0, .string a0_1], .agg #[.bool a1_0, .string a1_1]] (by rfl) rfl rfl (by (try simp only [List.map_toArray, List.map_cons, List.map_nil]); first | done | rfl | (simp only [List.length_drop, List.length_take]; rfl)) ?_
        with_reducible refine (integer_Add.calls k a0_0 a0_1 a1_0 a1_1 t705 t706 _ A18.out).mono ?_
        rintro e w46 ⟨rfl, hb⟩
        refine ⟨_, rfl, ?_⟩
        replace HO701 := Q.a (Kd.R_below (Q.kr HO701) hb)
        replace BK697 := Q.a (Q.bb BK697 hb)
        replace BK698 := Q.a (Q.bb BK698 hb)
        replace HB := Q.a (below_step (Q.bw2 HB GE697 GE698) hb)
        (try clear hb)
        (try clear hb2)
        (try clear hk)
        (try clear hi)
        refine hK.out _ _ ⟨(blk_cell BK697.out 0).trans rfl, (blk_cell BK697.out 1).trans rfl, (blk_cell BK698.out 0).trans rfl, (blk_cell BK698.out 1).trans rfl⟩ (fun hHeld => ?_)
        clear hK K
        refine norm_ (a' := ?_) ?_ ?_
        rotate_left
        ·show Act.put _ (some 15) _ = _
         simp only [Act.put, List.setIfInBounds_toArray, List.set_cons_zero, List.set_cons_succ, i64_w, i32_w]
         rfl
        refine one_ (i := 7) (N := some 18) #[true, true, true, true, true, true, true, true, false, false, false, false, false, false, false, false, false, false, false, false, false, false, false, false, false, false, false, false, false, false, false, false, false, false, false, false, false, false, false, false, false, false, false, false, false, false, false, false, false, false] rfl rfl (one_of HT_.out (by kernel_rfl)) (by decide) (fun K hK => ?_)
        refine goes_ Tryd.func43 (by kernel_rfl) rfl #[.agg #[.bool a0_0, .string a0_1], .agg #[.bool a1_0, .string a1_1]] (by rfl) rfl rfl (by (try simp only [List.map_toArray, List.map_cons, List.map_nil]); first | done | rfl | (simp only [List.length_drop, List.length_take]; rfl)) ?_
        with_reducible refine (voussoirref02_Add.calls k a0_0 a0_1 a1_0 a1_1 t707 t708 _ A19.out).mono ?_
        rintro e w47 ⟨rfl, hb⟩
        refine ⟨_, rfl, ?_⟩
        replace HO701 := Q.a (Kd.R_below (Q.kr HO701) hb)
        replace BK697 := Q.a (Q.bb BK697 hb)
        replace BK698 := Q.a (Q.bb BK698 hb)
        replace HB := Q.a (below_step (Q.bw2 HB GE697 GE698) hb)
        (try clear hb)
        (try clear hb2)
        (try clear hk)
        (try clear hi)
        refine hK.out _ _ ⟨(blk_cell BK697.out 0).trans rfl, (blk_cell BK697.out 1).trans rfl, (blk_cell BK698.out 0).trans rfl, (blk_cell BK698.out 1).trans rfl⟩ (fun hHeld => ?_)
        clear hK K
        refine norm_ (a' := ?_) ?_ ?_
        rotate_left
        ·show Act.put _ (some 18) _ = _
         simp only [Act.put, List.setIfInBounds_toArray, List.set_cons_zero, List.set_cons_succ, i64_w, i32_w]
         rfl
        refine pure_ (i := 8) (N := some 19) (v := ?_) (a' := ?_) #[true, true, true, true, true, true, true, true, true, false, false, false, false, false, false, false, false, false, false, false, false, false, false, false, false, false, false, false, false, false, false, false, false, false, false, false, false, false, false, false, false, false, false, false, false, false, false, false, false, false] rfl rfl (any_of HT_.out (by kernel_rfl)) (fun _ _ _ h => h) (Or.inl ⟨by rfl, ?_⟩) ?_ ?_
        rotate_left
        ·intro w'
         go_simp
         with_reducible rfl
        rotate_left
        ·simp only [Act.put, List.setIfInBounds_toArray, List.set_cons_zero, List.set_cons_succ, i64_w, i32_w]
         rfl
        refine pure_ (i := 9) (N := some 20) (v := ?_) (a' := ?_) #[true, true, true, true, true, true, true, true, true, true, false, false, false, false, false, false, false, false, false, false, false, false, false, false, false, false, false, false, false, false, false, false, false, false, false, false, false, false, false, false, false, false, false, false, false, false, false, false, false, false] rfl rfl (any_of HT_.out (by kernel_rfl)) (fun _ _ _ h => h) (Or.inl ⟨by rfl, ?_⟩) ?_ ?_
        rotate_left
        ·intro w'
         go_simp
         with_reducible rfl
        rotate_left
        ·simp only [Act.put, List.setIfInBounds_toArray, List.set_cons_zero, List.set_cons_succ, i64_w, i32_w]
         rfl
        refine pure_ (i := 10) (N := some 21) (v := ?_) (a' := ?_) #[true, true, true, true, true, true, true, true, true, true, true, false, false, false, false, false, false, false, false, false, false, false, false, false, false, false, false, false, false, false, false, false, false, false, false, false, false, false, false, false, false, false, false, false, false, false, false, false, false, false] rfl rfl (any_of HT_.out (by kernel_rfl)) (fun _ _ _ h => h) (Or.inl ⟨by rfl, ?_⟩) ?_ ?_
        rotate_left
        ·intro w'
         go_simp
         with_reducible rfl
        rotate_left
        ·simp only [Act.put, List.setIfInBounds_toArray, List.set_cons_zero, List.set_cons_succ, i64_w, i32_w]
         rfl
        refine take_ (i := 11) (N := some 22) (v := ?_) (a' := ?_) #[true, true, true, true, true, true, true, true, true, true, true, true, false, false, false, false, false, false, false, false, false, false, false, false, false, false, false, false, false, false, false, false, false, false, false, false, false, false, false, false, false, false, false, false, false, false, false, false, false, false] rfl rfl (take_ofW HT_.out HW_.out (by kernel_rfl)) (fun _ _ _ h => h) (Or.inl ⟨by rfl, ?_⟩) hHeld ?_ ?_
        rotate_left
        ·rintro w' ⟨s0, s1, s2, s3⟩
         go_simp
         with_reducible rfl
        rotate_left
        ·simp only [Act.put, List.setIfInBounds_toArray, List.set_cons_zero, List.set_cons_succ, i64_w, i32_w]
         rfl
        refine take_ (i := 12) (N := some 23) (v := ?_) (a' := ?_) #[true, true, true, true, true, true, true, true, true, true, true, true, true, false, false, false, false, false, false, false, false, false, false, false, false, false, false, false, false, false, false, false, false, false, false, false, false, false, false, false, false, false, false, false, false, false, false, false, false, false] rfl rfl (take_ofW HT_.out HW_.out (by kernel_rfl)) (fun _ _ _ h => h) (Or.inl ⟨by rfl, ?_⟩) hHeld ?_ ?_
        rotate_left
        ·rintro w' ⟨s0, s1, s2, s3⟩
         go_simp
         with_reducible rfl
        rotate_left
        ·simp only [Act.put, List.setIfInBounds_toArray, List.set_cons_zero, List.set_cons_succ, i64_w, i32_w]
         rfl
        refine take_ (i := 14) (N := some 25) (v := ?_) (a' := ?_) #[true, true, true, true, true, true, true, true, true, true, true, true, true, false, true, false, false, false, false, false, false, false, false, false, false, false, false, false, false, false, false, false, false, false, false, false, false, false, false, false, false, false, false, false, false, false, false, false, false, false] rfl rfl (take_ofW HT_.out HW_.out (by kernel_rfl)) (fun _ _ _ h => h) (Or.inl ⟨by rfl, ?_⟩) hHeld ?_ ?_
        rotate_left
        ·rintro w' ⟨s0, s1, s2, s3⟩
         go_simp
         with_reducible rfl
        rotate_left
        ·simp only [Act.put, List.setIfInBounds_toArray, List.set_cons_zero, List.set_cons_succ, i64_w, i32_w]
         rfl
        refine take_ (i := 15) (N := some 26) (v := ?_) (a' := ?_) #[true, true, true, true, true, true, true, true, true, true, true, true, true, false, true, true, false, false, false, false, false, false, false, false, false, false, false, false, false, false, false, false, false, false, false, false, false, false, false, false, false, false, false, false, false, false, false, false, false, false] rfl rfl (take_ofW HT_.out HW_.out (by kernel_rfl)) (fun _ _ _ h => h) (Or.inl ⟨by rfl, ?_⟩) hHeld ?_ ?_
        rotate_left
        ·rintro w' ⟨s0, s1, s2, s3⟩
         go_simp
         with_reducible rfl
        rotate_left
        ·simp only [Act.put, List.setIfInBounds_toArray, List.set_cons_zero, List.set_cons_succ, i64_w, i32_w]
         rfl
        refine one_ (i := 13) (N := some 24) #[true, true, true, true, true, true, true, true, true, true, true, true, true, true, true, true, false, false, false, false, false, false, false, false, false, false, false, false, false, false, false, false, false, false, false, false, false, false, false, false, false, false, false, false, false, false, false, false, false, false] rfl rfl (one_of HT_.out (by kernel_rfl)) (by decide) (fun K hK => ?_)
        refine goes_ Tryd.func44 (by kernel_rfl) rfl #[.agg #[.bool a0_0, .string a0_1], .agg #[.bool a1_0, .string a1_1]] (by rfl) rfl rfl (by (try simp only [List.map_toArray, List.map_cons, List.map_nil]); first | done | rfl | (simp only [List.length_drop, List.length_take]; rfl)) ?_
        with_reducible refine (integer_Sub.calls k a0_0 a0_1 a1_0 a1_1 t709 t710 _ A21.out).mono ?_
        rintro e w48 ⟨rfl, hb⟩
        refine ⟨_, rfl, ?_⟩
        replace HO701 := Q.a (Kd.R_below (Q.kr HO701) hb)
        replace BK697 := Q.a (Q.bb BK697 hb)
        replace BK698 := Q.a (Q.bb BK698 hb)
        replace HB := Q.a (below_step (Q.bw2 HB GE697 GE698) hb)
        (try clear hb)
        (try clear hb2)
        (try clear hk)
        (try clear hi)
        refine hK.out _ _ ⟨(blk_cell BK697.out 0).trans rfl, (blk_cell BK697.out 1).trans rfl, (blk_cell BK698.out 0).trans rfl, (blk_cell BK698.out 1).trans rfl⟩ (fun hHeld => ?_)
        clear hK K
        refine norm_ (a' := ?_) ?_ ?_
        rotate_left
        ·show Act.put _ (some 24) _ = _
         simp only [Act.put, List.setIfInBounds_toArray, List.set_cons_zero, List.set_cons_succ, i64_w, i32_w]
         rfl
        refine one_ (i := 16) (N := some 27) #[true, true, true, true, true, true, true, true, true, true, true, true, true, true, true, true, true, false, false, false, false, false, false, false, false, false, false, false, false, false, false, false, false, false, false, false, false, false, false, false, false, false, false, false, false, false, false, false, false, false] rfl rfl (one_of HT_.out (by kernel_rfl)) (by decide) (fun K hK => ?_)
        refine goes_ Tryd.func45 (by kernel_rfl) rfl #[.agg #[.bool a0_0, .string a0_1], .agg #[.bool a1_0, .string a1_1]] (by rfl) rfl rfl (by (try simp only [List.map_toArray, List.map_cons, List.map_nil]); first | done | rfl | (simp only [List.length_drop, List.length_take]; rfl)) ?_
        with_reducible refine (voussoirref02_Sub.calls k a0_0 a0_1 a1_0 a1_1 t711 t712 _ A22.out).mono ?_
        rintro e w49 ⟨rfl, hb⟩
        refine ⟨_, rfl, ?_⟩
        replace HO701 := Q.a (Kd.R_below (Q.kr HO701) hb)
        replace BK697 := Q.a (Q.bb BK697 hb)
        replace BK698 := Q.a (Q.bb BK698 hb)
        replace HB := Q.a (below_step (Q.bw2 HB GE697 GE698) hb)
        (try clear hb)
        (try clear hb2)
        (try clear hk)
        (try clear hi)
        refine hK.out _ _ ⟨(blk_cell BK697.out 0).trans rfl, (blk_cell BK697.out 1).trans rfl, (blk_cell BK698.out 0).trans rfl, (blk_cell BK698.out 1).trans rfl⟩ (fun hHeld => ?_)
        clear hK K
        refine norm_ (a' := ?_) ?_ ?_
        rotate_left
        ·show Act.put _ (some 27) _ = _
         simp only [Act.put, List.setIfInBounds_toArray, List.set_cons_zero, List.set_cons_succ, i64_w, i32_w]
         rfl
        refine pure_ (i := 17) (N := some 28) (v := ?_) (a' := ?_) #[true, true, true, true, true, true, true, true, true, true, true, true, true, true, true, true, true, true, false, false, false, false, false, false, false, false, false, false, false, false, false, false, false, false, false, false, false, false, false, false, false, false, false, false, false, false, false, false, false, false] rfl rfl (any_of HT_.out (by kernel_rfl)) (fun _ _ _ h => h) (Or.inl ⟨by rfl, ?_⟩) ?_ ?_
        rotate_left
        ·intro w'
         go_simp
         with_reducible rfl
        rotate_left
        ·simp only [Act.put, List.setIfInBounds_toArray, List.set_cons_zero, List.set_cons_succ, i64_w, i32_w]
         rfl
        refine pure_ (i := 18) (N := some 29) (v := ?_) (a' := ?_) #[true, true, true, true, true, true, true, true, true, true, true, true, true, true, true, true, true, true, true, false, false, false, false, false, false, false, false, false, false, false, false, false, false, false, false, false, false, false, false, false, false, false, false, false, false, false, false, false, false, false] rfl rfl (any_of HT_.out (by kernel_rfl)) (fun _ _ _ h => h) (Or.inl ⟨by rfl, ?_⟩) ?_ ?_
        rotate_left
        ·intro w'
         go_simp
         with_reducible rfl
        rotate_left
        ·simp only [Act.put, List.setIfInBounds_toArray, List.set_cons_zero, List.set_cons_succ, i64_w, i32_w]
         rfl
        refine pure_ (i := 19) (N := some 30) (v := ?_) (a' := ?_) #[true, true, true, true, true, true, true, true, true, true, true, true, true, true, true, true, true, true, true, true, false, false, false, false, false, false, false, false, false, false, false, false, false, false, false, false, false, false, false, false, false, false, false, false, false, false, false, false, false, false] rfl rfl (any_of HT_.out (by kernel_rfl)) (fun _ _ _ h => h) (Or.inl ⟨by rfl, ?_⟩) ?_ ?_
        rotate_left
        ·intro w'
         go_simp
         with_reducible rfl
        rotate_left
        ·simp only [Act.put, List.setIfInBounds_toArray, List.set_cons_zero, List.set_cons_succ, i64_w, i32_w]
         rfl
        refine take_ (i := 20) (N := some 31) (v := ?_) (a' := ?_) #[true, true, true, true, true, true, true, true, true, true, true, true, true, true, true, true, true, true, true, true, true, false, false, false, false, false, false, false, false, false, false, false, false, false, false, false, false, false, false, false, false, false, false, false, false, false, false, false, false, false] rfl rfl (take_ofW HT_.out HW_.out (by kernel_rfl)) (fun _ _ _ h => h) (Or.inl ⟨by rfl, ?_⟩) hHeld ?_ ?_
        rotate_left
        ·rintro w' ⟨s0, s1, s2, s3⟩
         go_simp
         with_reducible rfl
        rotate_left
        ·simp only [Act.put, List.setIfInBounds_toArray, List.set_cons_zero, List.set_cons_succ, i64_w, i32_w]
         rfl
        refine take_ (i := 22) (N := some 33) (v := ?_) (a' := ?_) #[true, true, true, true, true, true, true, true, true, true, true, true, true, true, true, true, true, true, true, true, true, false, true, false, false, false, false, false, false, false, false, false, false, false, false, false, false, false, false, false, false, false, false, false, false, false, false, false, false, false] rfl rfl (take_ofW HT_.out HW_.out (by kernel_rfl)) (fun _ _ _ h => h) (Or.inl ⟨by rfl, ?_⟩) hHeld ?_ ?_
        rotate_left
        ·rintro w' ⟨s0, s1, s2, s3⟩
         go_simp
         with_reducible rfl
        rotate_left
        ·simp only [Act.put, List.setIfInBounds_toArray, List.set_cons_zero, List.set_cons_succ, i64_w, i32_w]
         rfl
        refine one_ (i := 21) (N := some 32) #[true, true, true, true, true, true, true, true, true, true, true, true, true, true, true, true, true, true, true, true, true, true, true, false, false, false, false, false, false, false, false, false, false, false, false, false, false, false, false, false, false, false, false, false, false, false, false, false, false, false] rfl rfl (one_of HT_.out (by kernel_rfl)) (by decide) (fun K hK => ?_)
        refine goes_ Tryd.func46 (by kernel_rfl) rfl #[.agg #[.bool a0_0, .string a0_1]] (by rfl) rfl rfl (by (try simp only [List.map_toArray, List.map_cons, List.map_nil]); first | done | rfl | (simp only [List.length_drop, List.length_take]; rfl)) ?_
        with_reducible refine (integer_Neg.calls k a0_0 a0_1 t713 t714 _ A24.out).mono ?_
        rintro e w50 ⟨rfl, hb⟩
        refine ⟨_, rfl, ?_⟩
        replace HO701 := Q.a (Kd.R_below (Q.kr HO701) hb)
        replace BK697 := Q.a (Q.bb BK697 hb)
        replace BK698 := Q.a (Q.bb BK698 hb)
        replace HB := Q.a (below_step (Q.bw2 HB GE697 GE698) hb)
        (try clear hb)
        (try clear hb2)
        (try clear hk)
        (try clear hi)
        refine hK.out _ _ ⟨(blk_cell BK697.out 0).trans rfl, (blk_cell BK697.out 1).trans rfl, (blk_cell BK698.out 0).trans rfl, (blk_cell BK698.out 1).trans rfl⟩ (fun hHeld => ?_)
        clear hK K
        refine norm_ (a' := ?_) ?_ ?_
        rotate_left
        ·show Act.put _ (some 32) _ = _
         simp only [Act.put, List.setIfInBounds_toArray, List.set_cons_zero, List.set_cons_succ, i64_w, i32_w]
         rfl
        refine one_ (i := 23) (N := some 34) #[true, true, true, true, true, true, true, true, true, true, true, true, true, true, true, true, true, true, true, true, true, true, true, true, false, false, false, false, false, false, false, false, false, false, false, false, false, false, false, false, false, false, false, false, false, false, false, false, false, false] rfl rfl (one_of HT_.out (by kernel_rfl)) (by decide) (fun K hK => ?_)
        refine goes_ Tryd.func47 (by kernel_rfl) rfl #[.agg #[.bool a0_0, .string a0_1]] (by rfl) rfl rfl (by (try simp only [List.map_toArray, List.map_cons, List.map_nil]); first | done | rfl | (simp only [List.length_drop, List.length_take]; rfl)) ?_
        with_reducible refine (voussoirref02_Neg.calls k a0_0 a0_1 t715 t716 _ A25.out).mono ?_
        rintro e w51 ⟨rfl, hb⟩
        refine ⟨_, rfl, ?_⟩
        replace HO701 := Q.a (Kd.R_below (Q.kr HO701) hb)
        replace BK697 := Q.a (Q.bb BK697 hb)
        replace BK698 := Q.a (Q.bb BK698 hb)
        replace HB := Q.a (below_step (Q.bw2 HB GE697 GE698) hb)
        (try clear hb)
        (try clear hb2)
        (try clear hk)
        (try clear hi)
        refine hK.out _ _ ⟨(blk_cell BK697.out 0).trans rfl, (blk_cell BK697.out 1).trans rfl, (blk_cell BK698.out 0).trans rfl, (blk_cell BK698.out 1).trans rfl⟩ (fun hHeld => ?_)
        clear hK K
        refine norm_ (a' := ?_) ?_ ?_
        rotate_left
        ·show Act.put _ (some 34) _ = _
         simp only [Act.put, List.setIfInBounds_toArray, List.set_cons_zero, List.set_cons_succ, i64_w, i32_w]
         rfl
        refine pure_ (i := 24) (N := some 35) (v := ?_) (a' := ?_) #[true, true, true, true, true, true, true, true, true, true, true, true, true, true, true, true, true, true, true, true, true, true, true, true, true, false, false, false, false, false, false, false, false, false, false, false, false, false, false, false, false, false, false, false, false, false, false, false, false, false] rfl rfl (any_of HT_.out (by kernel_rfl)) (fun _ _ _ h => h) (Or.inl ⟨by rfl, ?_⟩) ?_ ?_
        rotate_left
        ·intro w'
         go_simp
         with_reducible rfl
        rotate_left
        ·simp only [Act.put, List.setIfInBounds_toArray, List.set_cons_zero, List.set_cons_succ, i64_w, i32_w]
         rfl
        refine pure_ (i := 25) (N := some 36) (v := ?_) (a' := ?_) #[true, true, true, true, true, true, true, true, true, true, true, true, true, true, true, true, true, true, true, true, true, true, true, true, true, true, false, false, false, false, false, false, false, false, false, false, false, false, false, false, false, false, false, false, false, false, false, false, false, false] rfl rfl (any_of HT_.out (by kernel_rfl)) (fun _ _ _ h => h) (Or.inl ⟨by rfl, ?_⟩) ?_ ?_
        rotate_left
        ·intro w'
         go_simp
         with_reducible rfl
        rotate_left
        ·simp only [Act.put, List.setIfInBounds_toArray, List.set_cons_zero, List.set_cons_succ, i64_w, i32_w]
         rfl
        refine pure_ (i := 26) (N := some 37) (v := ?_) (a' := ?_) #[true, true, true, true, true, true, true, true, true, true, true, true, true, true, true, true, true, true, true, true, true, true, true, true, true, true, true, false, false, false, false, false, false, false, false, false, false, false, false, false, false, false, false, false, false, false, false, false, false, false] rfl rfl (any_of HT_.out (by kernel_rfl)) (fun _ _ _ h => h) (Or.inl ⟨by rfl, ?_⟩) ?_ ?_
        rotate_left
        ·intro w'
         go_simp
         with_reducible rfl
        rotate_left
        ·simp only [Act.put, List.setIfInBounds_toArray, List.set_cons_zero, List.set_cons_succ, i64_w, i32_w]
         rfl
        refine take_ (i := 27) (N := some 38) (v := ?_) (a' := ?_) #[true, true, true, true, true, true, true, true, true, true, true, true, true, true, true, true, true, true, true, true, true, true, true, true, true, true, true, true, false, false, false, false, false, false, false, false, false, false, false, false, false, false, false, false, false, false, false, false, false, false] rfl rfl (take_ofW HT_.out HW_.out (by kernel_rfl)) (fun _ _ _ h => h) (Or.inl ⟨by rfl, ?_⟩) hHeld ?_ ?_
        rotate_left
        ·rintro w' ⟨s0, s1, s2, s3⟩
         go_simp
         with_reducible rfl
        rotate_left
        ·simp only [Act.put, List.setIfInBounds_toArray, List.set_cons_zero, List.set_cons_succ, i64_w, i32_w]
         rfl
        refine take_ (i := 28) (N := some 39) (v := ?_) (a' := ?_) #[true, true, true, true, true, true, true, true, true, true, true, true, true, true, true, true, true, true, true, true, true, true, true, true, true, true, true, true, true, false, false, false, false, false, false, false, false, false, false, false, false, false, false, false, false, false, false, false, false, false] rfl rfl (take_ofW HT_.out HW_.out (by kernel_rfl)) (fun _ _ _ h => h) (Or.inl ⟨by rfl, ?_⟩) hHeld ?_ ?_
        rotate_left
        ·rintro w' ⟨s0, s1, s2, s3⟩
         go_simp
         with_reducible rfl
        rotate_left
        ·simp only [Act.put, List.setIfInBounds_toArray, List.set_cons_zero, List.set_cons_succ, i64_w, i32_w]
         rfl
        refine take_ (i := 30) (N := some 41) (v := ?_) (a' := ?_) #[true, true, true, true, true, true, true, true, true, true, true, true, true, true, true, true, true, true, true, true, true, true, true, true, true, true, true, true, true, false, true, false, false, false, false, false, false, false, false, false, false, false, false, false, false, false, false, false, false, false] rfl rfl (take_ofW HT_.out HW_.out (by kernel_rfl)) (fun _ _ _ h => h) (Or.inl ⟨by rfl, ?_⟩) hHeld ?_ ?_
        rotate_left
        ·rintro w' ⟨s0, s1, s2, s3⟩
         go_simp
         with_reducible rfl
        rotate_left
        ·simp only [Act.put, List.setIfInBounds_toArray, List.set_cons_zero, List.set_cons_succ, i64_w, i32_w]
         rfl
        refine take_ (i := 31) (N := some 42) (v := ?_) (a' := ?_) #[true, true, true, true, true, true, true, true, true, true, true, true, true, true, true, true, true, true, true, true, true, true, true, true, true, true, true, true, true, false, true, true, false, false, false, false, false, false, false, false, false, false, false, false, false, false, false, false, false, false] rfl rfl (take_ofW HT_.out HW_.out (by kernel_rfl)) (fun _ _ _ h => h) (Or.inl ⟨by rfl, ?_⟩) hHeld ?_ ?_
        rotate_left
        ·rintro w' ⟨s0, s1, s2, s3⟩
         go_simp
         with_reducible rfl
        rotate_left
        ·simp only [Act.put, List.setIfInBounds_toArray, List.set_cons_zero, List.set_cons_succ, i64_w, i32_w]
         rfl
        refine one_ (i := 29) (N := some 40) #[true, true, true, true, true, true, true, true, true, true, true, true, true, true, true, true, true, true, true, true, true, true, true, true, true, true, true, true, true, true, true, true, false, false, false, false, false, false, false, false, false, false, false, false, false, false, false, false, false, false] rfl rfl (one_of HT_.out (by kernel_rfl)) (by decide) (fun K hK => ?_)
        refine goes_ Tryd.func48 (by kernel_rfl) rfl #[.agg #[.bool a0_0, .string a0_1], .agg #[.bool a1_0, .string a1_1]] (by rfl) rfl rfl (by (try simp only [List.map_toArray, List.map_cons, List.map_nil]); first | done | rfl | (simp only [List.length_drop, List.length_take]; rfl)) ?_
        with_reducible refine (integer_Cmp.calls k a0_0 a0_1 a1_0 a1_1 t717 _ A27.out).mono ?_
        rintro e w52 ⟨rfl, hb⟩
        refine ⟨_, rfl, ?_⟩
        replace HO701 := Q.a (Kd.R_below (Q.kr HO701) hb)
        replace BK697 := Q.a (Q.bb BK697 hb)
        replace BK698 := Q.a (Q.bb BK698 hb)
        replace HB := Q.a (below_step (Q.bw2 HB GE697 GE698) hb)
        (try clear hb)
        (try clear hb2)
        (try clear hk)
        (try clear hi)
        refine hK.out _ _ ⟨(blk_cell BK697.out 0).trans rfl, (blk_cell BK697.out 1).trans rfl, (blk_cell BK698.out 0).trans rfl, (blk_cell BK698.out 1).trans rfl⟩ (fun hHeld => ?_)
        clear hK K
        refine norm_ (a' := ?_) ?_ ?_
        rotate_left
        ·show Act.put _ (some 40) _ = _
         simp only [Act.put, List.setIfInBounds_toArray, List.set_cons_zero, List.set_cons_succ, i64_w, i32_w]
         rfl
        refine one_ (i := 32) (N := some 43) #[true, true, true, true, true, true, true, true, true, true, true, true, true, true, true, true, true, true, true, true, true, true, true, true, true, true, true, true, true, true, true, true, true, false, false, false, false, false, false, false, false, false, false, false, false, false, false, false, false, false] rfl rfl (one_of HT_.out (by kernel_rfl)) (by decide) (fun K hK => ?_)
        refine goes_ Tryd.func49 (by kernel_rfl) rfl #[.agg #[.bool a0_0, .string a0_1], .agg #[.bool a1_0, .string a1_1]] (by rfl) rfl rfl (by (try simp only [List.map_toArray, List.map_cons, List.map_nil]); first | done | rfl | (simp only [List.length_drop, List.length_take]; rfl)) ?_
        with_reducible refine (voussoirref02_Cmp.calls k a0_0 a0_1 a1_0 a1_1 t718 _ A28.out).mono ?_
        rintro e w53 ⟨rfl, hb⟩
        refine ⟨_, rfl, ?_⟩
        replace HO701 := Q.a (Kd.R_below (Q.kr HO701) hb)
        replace BK697 := Q.a (Q.bb BK697 hb)
        replace BK698 := Q.a (Q.bb BK698 hb)
        replace HB := Q.a (below_step (Q.bw2 HB GE697 GE698) hb)
        (try clear hb)
        (try clear hb2)
        (try clear hk)
        (try clear hi)
        refine hK.out _ _ ⟨(blk_cell BK697.out 0).trans rfl, (blk_cell BK697.out 1).trans rfl, (blk_cell BK698.out 0).trans rfl, (blk_cell BK698.out 1).trans rfl⟩ (fun hHeld => ?_)
        clear hK K
        refine norm_ (a' := ?_) ?_ ?_
        rotate_left
        ·show Act.put _ (some 43) _ = _
         simp only [Act.put, List.setIfInBounds_toArray, List.set_cons_zero, List.set_cons_succ, i64_w, i32_w]
         rfl
        refine pure_ (i := 33) (N := some 44) (v := ?_) (a' := ?_) #[true, true, true, true, true, true, true, true, true, true, true, true, true, true, true, true, true, true, true, true, true, true, true, true, true, true, true, true, true, true, true, true, true, true, false, false, false, false, false, false, false, false, false, false, false, false, false, false, false, false] rfl rfl (any_of HT_.out (by kernel_rfl)) (fun _ _ _ h => h) (Or.inl ⟨by rfl, ?_⟩) ?_ ?_
        rotate_left
        ·intro w'
         go_simp
         with_reducible rfl
        rotate_left
        ·simp only [Act.put, List.setIfInBounds_toArray, List.set_cons_zero, List.set_cons_succ, i64_w, i32_w]
         rfl
        refine pure_ (i := 34) (N := some 45) (v := ?_) (a' := ?_) #[true, true, true, true, true, true, true, true, true, true, true, true, true, true, true, true, true, true, true, true, true, true, true, true, true, true, true, true, true, true, true, true, true, true, true, false, false, false, false, false, false, false, false, false, false, false, false, false, false, false] rfl rfl (any_of HT_.out (by kernel_rfl)) (fun _ _ _ h => h) (Or.inl ⟨by rfl, ?_⟩) ?_ ?_
        rotate_left
        ·intro w'
         go_simp
         with_reducible rfl
        rotate_left
        ·simp only [Act.put, List.setIfInBounds_toArray, List.set_cons_zero, List.set_cons_succ, i64_w, i32_w]
         rfl
        refine pure_ (i := 35) (N := some 46) (v := ?_) (a' := ?_) #[true, true, true, true, true, true, true, true, true, true, true, true, true, true, true, true, true, true, true, true, true, true, true, true, true, true, true, true, true, true, true, true, true, true, true, true, false, false, false, false, false, false, false, false, false, false, false, false, false, false] rfl rfl (any_of HT_.out (by kernel_rfl)) (fun _ _ _ h => h) (Or.inl ⟨by rfl, ?_⟩) ?_ ?_
        rotate_left
        ·intro w'
         go_simp
         with_reducible rfl
        rotate_left
        ·simp only [Act.put, List.setIfInBounds_toArray, List.set_cons_zero, List.set_cons_succ, i64_w, i32_w]
         rfl
        refine take_ (i := 36) (N := some 47) (v := ?_) (a' := ?_) #[true, true, true, true, true, true, true, true, true, true, true, true, true, true, true, true, true, true, true, true, true, true, true, true, true, true, true, true, true, true, true, true, true, true, true, true, true, false, false, false, false, false, false, false, false, false, false, false, false, false] rfl rfl (take_ofW HT_.out HW_.out (by kernel_rfl)) (fun _ _ _ h => h) (Or.inl ⟨by rfl, ?_⟩) hHeld ?_ ?_
        rotate_left
        ·rintro w' ⟨s0, s1, s2, s3⟩
         go_simp
         with_reducible rfl
        rotate_left
        ·simp only [Act.put, List.setIfInBounds_toArray, List.set_cons_zero, List.set_cons_succ, i64_w, i32_w]
         rfl
        refine take_ (i := 38) (N := some 49) (v := ?_) (a' := ?_) #[true, true, true, true, true, true, true, true, true, true, true, true, true, true, true, true, true, true, true, true, true, true, true, true, true, true, true, true, true, true, true, true, true, true, true, true, true, false, true, false, false, false, false, false, false, false, false, false, false, false] rfl rfl (take_ofW HT_.out HW_.out (by kernel_rfl)) (fun _ _ _ h => h) (Or.inl ⟨by rfl, ?_⟩) hHeld ?_ ?_
        rotate_left
        ·rintro w' ⟨s0, s1, s2, s3⟩
         go_simp
         with_reducible rfl
        rotate_left
        ·simp only [Act.put, List.setIfInBounds_toArray, List.set_cons_zero, List.set_cons_succ, i64_w, i32_w]
         rfl
        refine one_ (i := 37) (N := some 48) #[true, true, true, true, true, true, true, true, true, true, true, true, true, true, true, true, true, true, true, true, true, true, true, true, true, true, true, true, true, true, true, true, true, true, true, true, true, true, true, false, false, false, false, false, false, false, false, false, false, false] rfl rfl (one_of HT_.out (by kernel_rfl)) (by decide) (fun K hK => ?_)
        refine goes_ Tryd.func50 (by kernel_rfl) rfl #[.agg #[.bool a0_0, .string a0_1]] (by rfl) rfl rfl (by (try simp only [List.map_toArray, List.map_cons, List.map_nil]); first | done | rfl | (simp only [List.length_drop, List.length_take]; rfl)) ?_
        with_reducible refine (integer_Sign.calls k a0_0 a0_1 t719 _ A30.out).mono ?_
        rintro e w54 ⟨rfl, hb⟩
        refine ⟨_, rfl, ?_⟩
        replace HO701 := Q.a (Kd.R_below (Q.kr HO701) hb)
        replace BK697 := Q.a (Q.bb BK697 hb)
        replace BK698 := Q.a (Q.bb BK698 hb)
        replace HB := Q.a (below_step (Q.bw2 HB GE697 GE698) hb)
        (try clear hb)
        (try clear hb2)
        (try clear hk)
        (try clear hi)
        refine hK.out _ _ ⟨(blk_cell BK697.out 0).trans rfl, (blk_cell BK697.out 1).trans rfl, (blk_cell BK698.out 0).trans rfl, (blk_cell BK698.out 1).trans rfl⟩ (fun hHeld => ?_)
        clear hK K
        refine norm_ (a' := ?_) ?_ ?_
        rotate_left
        ·show Act.put _ (some 48) _ = _
         simp only [Act.put, List.setIfInBounds_toArray, List.set_cons_zero, List.set_cons_succ, i64_w, i32_w]
         rfl
        refine one_ (i := 39) (N := some 50) #[true, true, true, true, true, true, true, true, true, true, true, true, true, true, true, true, true, true, true, true, true, true, true, true, true, true, true, true, true, true, true, true, true, true, true, true, true, true, true, true, false, false, false, false, false, false, false, false, false, false] rfl rfl (one_of HT_.out (by kernel_rfl)) (by decide) (fun K hK => ?_)
        refine goes_ Tryd.func51 (by kernel_rfl) rfl #[.agg #[.bool a0_0, .string a0_1]] (by rfl) rfl rfl (by (try simp only [List.map_toArray, List.map_cons, List.map_nil]); first | done | rfl | (simp only [List.length_drop, List.length_take]; rfl)) ?_
        with_reducible refine (voussoirref02_Sign.calls k a0_0 a0_1 t720 _ A31.out).mono ?_
        rintro e w55 ⟨rfl, hb⟩
        refine ⟨_, rfl, ?_⟩
        replace HO701 := Q.a (Kd.R_below (Q.kr HO701) hb)
        replace BK697 := Q.a (Q.bb BK697 hb)
        replace BK698 := Q.a (Q.bb BK698 hb)
        replace HB := Q.a (below_step (Q.bw2 HB GE697 GE698) hb)
        (try clear hb)
        (try clear hb2)
        (try clear hk)
        (try clear hi)
        refine hK.out _ _ ⟨(blk_cell BK697.out 0).trans rfl, (blk_cell BK697.out 1).trans rfl, (blk_cell BK698.out 0).trans rfl, (blk_cell BK698.out 1).trans rfl⟩ (fun hHeld => ?_)
        clear hK K
        refine norm_ (a' := ?_) ?_ ?_
        rotate_left
        ·show Act.put _ (some 50) _ = _
         simp only [Act.put, List.setIfInBounds_toArray, List.set_cons_zero, List.set_cons_succ, i64_w, i32_w]
         rfl
        refine pure_ (i := 40) (N := some 51) (v := ?_) (a' := ?_) #[true, true, true, true, true, true, true, true, true, true, true, true, true, true, true, true, true, true, true, true, true, true, true, true, true, true, true, true, true, true, true, true, true, true, true, true, true, true, true, true, true, false, false, false, false, false, false, false, false, false] rfl rfl (any_of HT_.out (by kernel_rfl)) (fun _ _ _ h => h) (Or.inl ⟨by rfl, ?_⟩) ?_ ?_
        rotate_left
        ·intro w'
         go_simp
         with_reducible rfl
        rotate_left
        ·simp only [Act.put, List.setIfInBounds_toArray, List.set_cons_zero, List.set_cons_succ, i64_w, i32_w]
         rfl
        refine pure_ (i := 41) (N := some 52) (v := ?_) (a' := ?_) #[true, true, true, true, true, true, true, true, true, true, true, true, true, true, true, true, true, true, true, true, true, true, true, true, true, true, true, true, true, true, true, true, true, true, true, true, true, true, true, true, true, true, false, false, false, false, false, false, false, false] rfl rfl (any_of HT_.out (by kernel_rfl)) (fun _ _ _ h => h) (Or.inl ⟨by rfl, ?_⟩) ?_ ?_
        rotate_left
        ·intro w'
         go_simp
         with_reducible rfl
        rotate_left
        ·simp only [Act.put, List.setIfInBounds_toArray, List.set_cons_zero, List.set_cons_succ, i64_w, i32_w]
         rfl
        refine pure_ (i := 42) (N := some 53) (v := ?_) (a' := ?_) #[true, true, true, true, true, true, true, true, true, true, true, true, true, true, true, true, true, true, true, true, true, true, true, true, true, true, true, true, true, true, true, true, true, true, true, true, true, true, true, true, true, true, true, false, false, false, false, false, false, false] rfl rfl (any_of HT_.out (by kernel_rfl)) (fun _ _ _ h => h) (Or.inl ⟨by rfl, ?_⟩) ?_ ?_
        rotate_left
        ·intro w'
         go_simp
         with_reducible rfl
        rotate_left
        ·simp only [Act.put, List.setIfInBounds_toArray, List.set_cons_zero, List.set_cons_succ, i64_w, i32_w]
         rfl
        refine take_ (i := 43) (N := some 54) (v := ?_) (a' := ?_) #[true, true, true, true, true, true, true, true, true, true, true, true, true, true, true, true, true, true, true, true, true, true, true, true, true, true, true, true, true, true, true, true, true, true, true, true, true, true, true, true, true, true, true, true, false, false, false, false, false, false] rfl rfl (take_ofW HT_.out HW_.out (by kernel_rfl)) (fun _ _ _ h => h) (Or.inl ⟨by rfl, ?_⟩) hHeld ?_ ?_
        rotate_left
        ·rintro w' ⟨s0, s1, s2, s3⟩
         go_simp
         with_reducible rfl
        rotate_left
        ·simp only [Act.put, List.setIfInBounds_toArray, List.set_cons_zero, List.set_cons_succ, i64_w, i32_w]
         rfl
        refine take_ (i := 45) (N := some 56) (v := ?_) (a' := ?_) #[true, true, true, true, true, true, true, true, true, true, true, true, true, true, true, true, true, true, true, true, true, true, true, true, true, true, true, true, true, true, true, true, true, true, true, true, true, true, true, true, true, true, true, true, false, true, false, false, false, false] rfl rfl (take_ofW HT_.out HW_.out (by kernel_rfl)) (fun _ _ _ h => h) (Or.inl ⟨by rfl, ?_⟩) hHeld ?_ ?_
        rotate_left
        ·rintro w' ⟨s0, s1, s2, s3⟩
         go_simp
         with_reducible rfl
        rotate_left
        ·simp only [Act.put, List.setIfInBounds_toArray, List.set_cons_zero, List.set_cons_succ, i64_w, i32_w]
         rfl
        refine one_ (i := 44) (N := some 55) #[true, true, true, true, true, true, true, true, true, true, true, true, true, true, true, true, true, true, true, true, true, true, true, true, true, true, true, true, true, true, true, true, true, true, true, true, true, true, true, true, true, true, true, true, true, true, false, false, false, false] rfl rfl (one_of HT_.out (by kernel_rfl)) (by decide) (fun K hK => ?_)
        refine goes_ Tryd.func52 (by kernel_rfl) rfl #[.agg #[.bool a0_0, .string a0_1]] (by rfl) rfl rfl (by (try simp only [List.map_toArray, List.map_cons, List.map_nil]); first | done | rfl | (simp only [List.length_drop, List.length_take]; rfl)) ?_
        with_reducible refine (integer_Normalize.calls k a0_0 a0_1 t721 t722 _ A33.out).mono ?_
        rintro e w56 ⟨rfl, hb⟩
        refine ⟨_, rfl, ?_⟩
        replace HO701 := Q.a (Kd.R_below (Q.kr HO701) hb)
        replace BK697 := Q.a (Q.bb BK697 hb)
        replace BK698 := Q.a (Q.bb BK698 hb)
        replace HB := Q.a (below_step (Q.bw2 HB GE697 GE698) hb)
        (try clear hb)
        (try clear hb2)
        (try clear hk)
        (try clear hi)
        refine hK.out _ _ ⟨(blk_cell BK697.out 0).trans rfl, (blk_cell BK697.out 1).trans rfl, (blk_cell BK698.out 0).trans rfl, (blk_cell BK698.out 1).trans rfl⟩ (fun hHeld => ?_)
        clear hK K
        refine norm_ (a' := ?_) ?_ ?_
        rotate_left
        ·show Act.put _ (some 55) _ = _
         simp only [Act.put, List.setIfInBounds_toArray, List.set_cons_zero, List.set_cons_succ, i64_w, i32_w]
         rfl
        refine one_ (i := 46) (N := some 57) #[true, true, true, true, true, true, true, true, true, true, true, true, true, true, true, true, true, true, true, true, true, true, true, true, true, true, true, true, true, true, true, true, true, true, true, true, true, true, true, true, true, true, true, true, true, true, true, false, false, false] rfl rfl (one_of HT_.out (by kernel_rfl)) (by decide) (fun K hK => ?_)
        refine goes_ Tryd.func53 (by kernel_rfl) rfl #[.agg #[.bool a0_0, .string a0_1]] (by rfl) rfl rfl (by (try simp only [List.map_toArray, List.map_cons, List.map_nil]); first | done | rfl | (simp only [List.length_drop, List.length_take]; rfl)) ?_
        with_reducible refine (voussoirref02_Norm.calls k a0_0 a0_1 t723 t724 _ A34.out).mono ?_
        rintro e w57 ⟨rfl, hb⟩
        refine ⟨_, rfl, ?_⟩
        replace HO701 := Q.a (Kd.R_below (Q.kr HO701) hb)
        replace BK697 := Q.a (Q.bb BK697 hb)
        replace BK698 := Q.a (Q.bb BK698 hb)
        replace HB := Q.a (below_step (Q.bw2 HB GE697 GE698) hb)
        (try clear hb)
        (try clear hb2)
        (try clear hk)
        (try clear hi)
        refine hK.out _ _ ⟨(blk_cell BK697.out 0).trans rfl, (blk_cell BK697.out 1).trans rfl, (blk_cell BK698.out 0).trans rfl, (blk_cell BK698.out 1).trans rfl⟩ (fun hHeld => ?_)
        clear hK K
        refine norm_ (a' := ?_) ?_ ?_
        rotate_left
        ·show Act.put _ (some 57) _ = _
         simp only [Act.put, List.setIfInBounds_toArray, List.set_cons_zero, List.set_cons_succ, i64_w, i32_w]
         rfl
        refine pure_ (i := 47) (N := some 58) (v := ?_) (a' := ?_) #[true, true, true, true, true, true, true, true, true, true, true, true, true, true, true, true, true, true, true, true, true, true, true, true, true, true, true, true, true, true, true, true, true, true, true, true, true, true, true, true, true, true, true, true, true, true, true, true, false, false] rfl rfl (any_of HT_.out (by kernel_rfl)) (fun _ _ _ h => h) (Or.inl ⟨by rfl, ?_⟩) ?_ ?_
        rotate_left
        ·intro w'
         go_simp
         with_reducible rfl
        rotate_left
        ·simp only [Act.put, List.setIfInBounds_toArray, List.set_cons_zero, List.set_cons_succ, i64_w, i32_w]
         rfl
        refine pure_ (i := 48) (N := some 59) (v := ?_) (a' := ?_) #[true, true, true, true, true, true, true, true, true, true, true, true, true, true, true, true, true, true, true, true, true, true, true, true, true, true, true, true, true, true, true, true, true, true, true, true, true, true, true, true, true, true, true, true, true, true, true, true, true, false] rfl rfl (any_of HT_.out (by kernel_rfl)) (fun _ _ _ h => h) (Or.inl ⟨by rfl, ?_⟩) ?_ ?_
        rotate_left
        ·intro w'
         go_simp
         with_reducible rfl
        rotate_left
        ·simp only [Act.put, List.setIfInBounds_toArray, List.set_cons_zero, List.set_cons_succ, i64_w, i32_w]
         rfl
        refine pure_ (i := 49) (N := some 4) (v := ?_) (a' := ?_) #[true, true, true, true, true, true, true, true, true, true, true, true, true, true, true, true, true, true, true, true, true, true, true, true, true, true, true, true, true, true, true, true, true, true, true, true, true, true, true, true, true, true, true, true, true, true, true, true, true, true] rfl rfl (any_of HT_.out (by kernel_rfl)) (fun _ _ _ h => h) (Or.inl ⟨by rfl, ?_⟩) ?_ ?_
        rotate_left
        ·intro w'
         go_simp
         with_reducible rfl
        rotate_left
        ·simp only [Act.put, List.setIfInBounds_toArray, List.set_cons_zero, List.set_cons_succ, i64_w, i32_w]
         rfl
        refine done_ (done_of HT_.out (by kernel_rfl)) ?_
        try go_wp2
        go_ret
        exact ⟨Q.en, Q.bw2 HB GE697 GE698⟩
       ·rw [if_neg c32] at H
        have c32b0 : (t719 == t720) = false := beq_eq_false_iff_ne.mpr c32
        have c32b1 : (t719 != t720) = true := bne_iff_ne.mpr c32
        obtain rfl := Option.some.inj H
        exact absurd HR.out (by decide)
      ·rw [if_neg c29] at H
       have c29b0 : (t717 == t718) = false := beq_eq_false_iff_ne.mpr c29
       have c29b1 : (t717 != t718) = true := bne_iff_ne.mpr c29
       obtain rfl := Option.some.inj H
       exact absurd HR.out (by decide)
     ·rw [if_neg c26] at H
      have c26b0 : (t713 == t715 && (t714.toList == t716.toList)) = false := by simpa using c26
      (try (have c26b1 : decide (t713 = t715 && (t714.toList == t716.toList)) = false := by simpa using c26))
      (try (have c26b2 : (t713 == t715 && (t714.toList == t716.toList)) = false := by simpa using c26))
      (try (have c26b3 : ¬ (t713 = t715 && (t714.toList == t716.toList)) := by simpa using c26))
      clear c26
      obtain rfl := Option.some.inj H
      exact absurd HR.out (by decide)
    ·rw [if_neg c23] at H
     have c23b0 : (t709 == t711 && (t710.toList == t712.toList)) = false := by simpa using c23
     (try (have c23b1 : decide (t709 = t711 && (t710.toList == t712.toList)) = false := by simpa using c23))
     (try (have c23b2 : (t709 == t711 && (t710.toList == t712.toList)) = false := by simpa using c23))
     (try (have c23b3 : ¬ (t709 = t711 && (t710.toList == t712.toList)) := by simpa using c23))
     clear c23
     obtain rfl := Option.some.inj H
     exact absurd HR.out (by decide)
   ·rw [if_neg c20] at H
    have c20b0 : (t705 == t707 && (t706.toList == t708.toList)) = false := by simpa using c20
    (try (have c20b1 : decide (t705 = t707 && (t706.toList == t708.toList)) = false := by simpa using c20))
    (try (have c20b2 : (t705 == t707 && (t706.toList == t708.toList)) = false := by simpa using c20))
    (try (have c20b3 : ¬ (t705 = t707 && (t706.toList == t708.toList)) := by simpa using c20))
    clear c20
    obtain rfl := Option.some.inj H
    exact absurd HR.out (by decide)
  ·replace c17 := Bool.eq_false_iff.mpr c17
   subst c17
   rw [if_neg (show ¬ (false = true) by decide)] at H
   obtain rfl := Option.some.inj H
   exact absurd HR.out (by decide)
end Go.Proofs.YtpokflilobkoaaaDoor.P
