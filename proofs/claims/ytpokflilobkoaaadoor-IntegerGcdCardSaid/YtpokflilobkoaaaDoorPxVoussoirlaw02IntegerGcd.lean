/- Out of what mp.py printed for this seat (squeeze.py, repack.py). Not trusted: Lean checks it. -/
import Derived.Test.YtpokflilobkoaaaDoorPx0
import Derived.Test.YtpokflilobkoaaaDoorPx1
import Derived.Test.YtpokflilobkoaaaDoorPxIB
import Derived.Test.YtpokflilobkoaaaDoorPxID
import Derived.Test.YtpokflilobkoaaaDoorPxIntegerGcd
import Derived.Test.YtpokflilobkoaaaDoorPxVoussoirlaw02Fixed
import Derived.Test.YtpokflilobkoaaaDoorXQ
-- squeezed twice
namespace Go.Proofs.YtpokflilobkoaaaDoor.P
open Go.RowKit Go.Proofs.YtpokflilobkoaaaDoorW.PrintWords Go.Proofs.YtpokflilobkoaaaDoorW.PrintLast Go.Proofs.YtpokflilobkoaaaDoorW.PrintMore
attribute [local go_sem] max2_int min2_int max_two min_two max_three min_three max_four min_four   -- for this text's walks alone
attribute [local go_sem] XW.cell_twice   -- for this text's walks alone
set_option linter.unusedVariables false
set_option linter.unusedSimpArgs false
attribute [local go_sem high] eqA36

/-! ### voussoirlaw02_IntegerGcd: function 13 -/
mutual
def voussoirlaw02_IntegerGcd.j0 : Nat → Bool → Bool → ByteArray → Bool → ByteArray → Bool → ByteArray → Option (Bool)
 | 0, _, _, _, _, _, _, _ => none
 | k + 1, x29, x790000, x790001, x791000, x791001, x792000, x792001 => if x29 = true then ((voussoirlaw02_fixed.f k).bind fun t792 => (some t792)) else ((integer_Gcd.f k (([(⟨x790000, x790001⟩ : S36), (⟨x791000, x791001⟩ : S36), (⟨x792000, x792001⟩ : S36)] : List (S36)))).bind fun bt796 => ((integer_Gcd.f k (([(⟨x792000, x792001⟩ : S36), (⟨x790000, x790001⟩ : S36), (⟨x791000, x791001⟩ : S36), (⟨x790000, x790001⟩ : S36)] : List (S36)))).bind fun bt802 => (if (!(bt796.1 == bt802.1) || (!(bt796.2.toList == bt802.2.toList))) = true then (voussoirlaw02_IntegerGcd.j1 k true x790000 x790001 x791000 x791001 x792000 x792001 bt796.1 bt796.2) else ((integer_Sign.f k bt796.1 bt796.2).bind fun t804 => (voussoirlaw02_IntegerGcd.j1 k (decide (t804 < 0)) x790000 x790001 x791000 x791001 x792000 x792001 bt796.1 bt796.2)))))
def voussoirlaw02_IntegerGcd.j1 : Nat → Bool → Bool → ByteArray → Bool → ByteArray → Bool → ByteArray → Bool → ByteArray → Option (Bool)
 | 0, _, _, _, _, _, _, _, _, _ => none
 | k + 1, x48, x790000, x790001, x791000, x791001, x792000, x792001, x799000, x799001 => if x48 = true then (some false) else ((integer_Sign.f k x799000 x799001).bind fun t805 => (if t805 = 0 then ((voussoirlaw02_fixed.f k).bind fun t806 => (if t806 = true then ((integer_Sign.f k x790000 x790001).bind fun t807 => (if t807 = 0 then ((integer_Sign.f k x791000 x791001).bind fun t808 => (if t808 = 0 then ((integer_Sign.f k x792000 x792001).bind fun t809 => (some (t809 == 0))) else (some false))) else (some false))) else (some false))) else ((some (([(⟨x790000, x790001⟩ : S36), (⟨x791000, x791001⟩ : S36), (⟨x792000, x792001⟩ : S36)] : List (S36)) : List (S36))).bind fun y810 => (voussoirlaw02_IntegerGcd.l0 k ([] : List (S36)) y810 (y810.length : Int) 0 x799000 x799001))))
def voussoirlaw02_IntegerGcd.l0 : Nat → List (S36) → List (S36) → Int → Int → Bool → ByteArray → Option (Bool)
 | 0, _, _, _, _, _, _ => none
 | k + 1, x8, x71, x72, x73, x799000, x799001 => if x73 < x72 then (if 0 ≤ x73 then (if x73 < (x71.length : Int) then ((integer_Div.f k ((rd_T36 x71 x73).f0) ((rd_T36 x71 x73).f1) x799000 x799001).bind fun bt820 => (if bt820.2.2.2.2 = true then ((integer_Sign.f k bt820.2.2.1 bt820.2.2.2.1).bind fun t827 => (if t827 = 0 then (if x8.length < 5864062014805 then (voussoirlaw02_IntegerGcd.l0 k (x8 ++ [(⟨bt820.1, bt820.2.1⟩ : S36)]) x71 x72 (wrap64 (x73 + 1)) x799000 x799001) else (none)) else (some false))) else (some false))) else (none)) else (none)) else ((voussoirlaw02_fixed.f k).bind fun t813 => (if t813 = true then ((integer_Gcd.f k x8).bind fun bt814 => ((integer_FromInt64.f k 1).bind fun bt816 => (some (bt814.1 == bt816.1 && (bt814.2.toList == bt816.2.toList))))) else (some false)))
end
def voussoirlaw02_IntegerGcd.f (k : Nat) (a0_0 : Bool) (a0_1 : ByteArray) (a1_0 : Bool) (a1_1 : ByteArray) (a2_0 : Bool) (a2_1 : ByteArray) : Option (Bool) := if (a0_1.size : Int) > 20 then (voussoirlaw02_IntegerGcd.j0 k true a0_0 a0_1 a1_0 a1_1 a2_0 a2_1) else (if (a1_1.size : Int) > 20 then (voussoirlaw02_IntegerGcd.j0 k true a0_0 a0_1 a1_0 a1_1 a2_0 a2_1) else (voussoirlaw02_IntegerGcd.j0 k (decide ((a2_1.size : Int) > 20)) a0_0 a0_1 a1_0 a1_1 a2_0 a2_1))
theorem voussoirlaw02_IntegerGcd.mono_l : ∀ k, (∀ y0 y1 y2 y3 y4 y5 y6, LeO (voussoirlaw02_IntegerGcd.j0 k y0 y1 y2 y3 y4 y5 y6) (voussoirlaw02_IntegerGcd.j0 (k + 1) y0 y1 y2 y3 y4 y5 y6)) ∧ (∀ y0 y1 y2 y3 y4 y5 y6 y7 y8, LeO (voussoirlaw02_IntegerGcd.j1 k y0 y1 y2 y3 y4 y5 y6 y7 y8) (voussoirlaw02_IntegerGcd.j1 (k + 1) y0 y1 y2 y3 y4 y5 y6 y7 y8)) ∧ (∀ y0 y1 y2 y3 y4 y5, LeO (voussoirlaw02_IntegerGcd.l0 k y0 y1 y2 y3 y4 y5) (voussoirlaw02_IntegerGcd.l0 (k + 1) y0 y1 y2 y3 y4 y5))
 | 0 => ⟨fun _ _ _ _ _ _ _ r h => by simp [voussoirlaw02_IntegerGcd.j0] at h, fun _ _ _ _ _ _ _ _ _ r h => by simp [voussoirlaw02_IntegerGcd.j1] at h, fun _ _ _ _ _ _ r h => by simp [voussoirlaw02_IntegerGcd.l0] at h⟩
 | k + 1 => by
  obtain ⟨ih0, ih1, ih2⟩ := voussoirlaw02_IntegerGcd.mono_l k
  refine ⟨?_, ?_, ?_⟩
  ·intro y0 y1 y2 y3 y4 y5 y6
   unfold voussoirlaw02_IntegerGcd.j0
   repeat' first
   | (with_reducible exact ih0 _ _ _ _ _ _ _)
   | (with_reducible exact ih1 _ _ _ _ _ _ _ _ _)
   | (with_reducible exact ih2 _ _ _ _ _ _)
   | (with_reducible exact integer_Div.mono _ _ _ _ _)
   | (with_reducible exact integer_FromInt64.mono _ _)
   | (with_reducible exact integer_Gcd.mono _ _)
   | (with_reducible exact integer_Sign.mono _ _ _)
   | (with_reducible exact voussoirlaw02_fixed.mono _)
   | (with_reducible exact LeO.refl _)
   | (with_reducible exact LeO.none _)
   | (with_reducible refine LeO.ite ?_ ?_)
   | (with_reducible refine LeO.bind ?_ (fun _ => ?_))
   | exact ih0 _ _ _ _ _ _ _
   | exact ih1 _ _ _ _ _ _ _ _ _
   | exact ih2 _ _ _ _ _ _
   | exact integer_Div.mono _ _ _ _ _
   | exact integer_FromInt64.mono _ _
   | exact integer_Gcd.mono _ _
   | exact integer_Sign.mono _ _ _
   | exact voussoirlaw02_fixed.mono _
   | exact LeO.none _
   | refine LeO.ite ?_ ?_
   | refine LeO.bind ?_ (fun _ => ?_)
  ·intro y0 y1 y2 y3 y4 y5 y6 y7 y8
   unfold voussoirlaw02_IntegerGcd.j1
   repeat' first
   | (with_reducible exact ih0 _ _ _ _ _ _ _)
   | (with_reducible exact ih1 _ _ _ _ _ _ _ _ _)
   | (with_reducible exact ih2 _ _ _ _ _ _)
   | (with_reducible exact integer_Div.mono _ _ _ _ _)
   | (with_reducible exact integer_FromInt64.mono _ _)
   | (with_reducible exact integer_Gcd.mono _ _)
   | (with_reducible exact integer_Sign.mono _ _ _)
   | (with_reducible exact voussoirlaw02_fixed.mono _)
   | (with_reducible exact LeO.refl _)
   | (with_reducible exact LeO.none _)
   | (with_reducible refine LeO.ite ?_ ?_)
   | (with_reducible refine LeO.bind ?_ (fun _ => ?_))
   | exact ih0 _ _ _ _ _ _ _
   | exact ih1 _ _ _ _ _ _ _ _ _
   | exact ih2 _ _ _ _ _ _
   | exact integer_Div.mono _ _ _ _ _
   | exact integer_FromInt64.mono _ _
   | exact integer_Gcd.mono _ _
   | exact integer_Sign.mono _ _ _
   | exact voussoirlaw02_fixed.mono _
   | exact LeO.none _
   | refine LeO.ite ?_ ?_
   | refine LeO.bind ?_ (fun _ => ?_)
  ·intro y0 y1 y2 y3 y4 y5
   unfold voussoirlaw02_IntegerGcd.l0
   repeat' first
   | (with_reducible exact ih0 _ _ _ _ _ _ _)
   | (with_reducible exact ih1 _ _ _ _ _ _ _ _ _)
   | (with_reducible exact ih2 _ _ _ _ _ _)
   | (with_reducible exact integer_Div.mono _ _ _ _ _)
   | (with_reducible exact integer_FromInt64.mono _ _)
   | (with_reducible exact integer_Gcd.mono _ _)
   | (with_reducible exact integer_Sign.mono _ _ _)
   | (with_reducible exact voussoirlaw02_fixed.mono _)
   | (with_reducible exact LeO.refl _)
   | (with_reducible exact LeO.none _)
   | (with_reducible refine LeO.ite ?_ ?_)
   | (with_reducible refine LeO.bind ?_ (fun _ => ?_))
   | exact ih0 _ _ _ _ _ _ _
   | exact ih1 _ _ _ _ _ _ _ _ _
   | exact ih2 _ _ _ _ _ _
   | exact integer_Div.mono _ _ _ _ _
   | exact integer_FromInt64.mono _ _
   | exact integer_Gcd.mono _ _
   | exact integer_Sign.mono _ _ _
   | exact voussoirlaw02_fixed.mono _
   | exact LeO.none _
   | refine LeO.ite ?_ ?_
   | refine LeO.bind ?_ (fun _ => ?_)
theorem voussoirlaw02_IntegerGcd.mono : ∀ a0 a1 a2 a3 a4 a5 k, LeO (voussoirlaw02_IntegerGcd.f k a0 a1 a2 a3 a4 a5) (voussoirlaw02_IntegerGcd.f (k + 1) a0 a1 a2 a3 a4 a5) := by
 intro a0 a1 a2 a3 a4 a5 k
 obtain ⟨ih0, ih1, ih2⟩ := voussoirlaw02_IntegerGcd.mono_l k
 unfold voussoirlaw02_IntegerGcd.f
 repeat' first
   | (with_reducible exact ih0 _ _ _ _ _ _ _)
   | (with_reducible exact ih1 _ _ _ _ _ _ _ _ _)
   | (with_reducible exact ih2 _ _ _ _ _ _)
   | (with_reducible exact integer_Div.mono _ _ _ _ _)
   | (with_reducible exact integer_FromInt64.mono _ _)
   | (with_reducible exact integer_Gcd.mono _ _)
   | (with_reducible exact integer_Sign.mono _ _ _)
   | (with_reducible exact voussoirlaw02_fixed.mono _)
   | (with_reducible exact LeO.refl _)
   | (with_reducible exact LeO.none _)
   | (with_reducible refine LeO.ite ?_ ?_)
   | (with_reducible refine LeO.bind ?_ (fun _ => ?_))
   | exact ih0 _ _ _ _ _ _ _
   | exact ih1 _ _ _ _ _ _ _ _ _
   | exact ih2 _ _ _ _ _ _
   | exact integer_Div.mono _ _ _ _ _
   | exact integer_FromInt64.mono _ _
   | exact integer_Gcd.mono _ _
   | exact integer_Sign.mono _ _ _
   | exact voussoirlaw02_fixed.mono _
   | exact LeO.none _
   | refine LeO.ite ?_ ?_
   | refine LeO.bind ?_ (fun _ => ?_)
def voussoirlaw02_IntegerGcd.T4 : Bool × List (List Nat × List Nat) := (true, [([], []), ([], []), ([], []), ([], []), ([], []), ([1, 2, 3, 4], [1, 2, 3, 4]), ([5], [5]), ([0, 6], [0, 6]), ([7, 6], [7]), ([8], [8]), ([9, 8, 8], [8, 9]), ([10, 8], [8, 10]), ([8, 11], [8, 11])])
def voussoirlaw02_IntegerGcd.B4 : List Nat := [0, 0, 0, 0, 0, 30, 62, 127, 255, 511, 1023, 2047, 4095]
theorem voussoirlaw02_IntegerGcd.tab4 : rtab .any (opsOf Tryd.f13 4) = voussoirlaw02_IntegerGcd.T4 := by kernel_rfl
theorem voussoirlaw02_IntegerGcd.bits4 : waitsOk voussoirlaw02_IntegerGcd.T4.2 voussoirlaw02_IntegerGcd.B4 = true := by kernel_rfl
set_option maxHeartbeats 8000000 in
set_option maxRecDepth 100000 in
theorem voussoirlaw02_IntegerGcd.calls (k : Nat) (a0_0 : Bool) (a0_1 : ByteArray) (a1_0 : Bool) (a1_1 : ByteArray) (a2_0 : Bool) (a2_1 : ByteArray) (r : Bool) (hr : r = true) (w : World) (hG : X.G w) (h : voussoirlaw02_IntegerGcd.f k a0_0 a0_1 a1_0 a1_1 a2_0 a2_1 = some r) :
  Calls Tryd.prog 13 #[.agg #[.bool a0_0, .string a0_1], .agg #[.bool a1_0, .string a1_1], .agg #[.bool a2_0, .string a2_1]] w fun e w' => e = .returned (.bool r) ∧ Below w.heap.size w w' := by
 have HR := Q.a hr
 clear hr
 have hu36 := Tryd.underlying36
 have HG := Q.a hG
 clear hG
 have HB := Q.a (Below.refl w.heap.size w)
 have H : (if (a0_1.size : Int) > 20 then (voussoirlaw02_IntegerGcd.j0 k true a0_0 a0_1 a1_0 a1_1 a2_0 a2_1) else (if (a1_1.size : Int) > 20 then (voussoirlaw02_IntegerGcd.j0 k true a0_0 a0_1 a1_0 a1_1 a2_0 a2_1) else (voussoirlaw02_IntegerGcd.j0 k (decide ((a2_1.size : Int) > 20)) a0_0 a0_1 a1_0 a1_1 a2_0 a2_1))) = some r := h
 clear h
 have HC4 := Q.a H
 clear H
 go_enter Tryd.func13, Tryd.ntmps13
 go_upto_region 1 with (first | ((with_reducible refine gate_dst (N := 3) rfl ?_); (try (refine gate_guard (by rfl) ?_; dsimp only)); refine Q.bx 3 #[.bool a0_0, .string a0_1] 36 rfl rfl ?_; intro gb789 hg w5 hbox hb; replace BK789 := Q.a (hbox); replace GW789 := Q.a (Q.gs hg (below_size (Q.bw HB))); replace GE789 := GW789; replace HB := Q.a (below_step (Q.bw HB) hb); clear hb hbox hg) | ((with_reducible refine gate_dst (N := 4) rfl ?_); (try (refine gate_guard (by rfl) ?_; dsimp only)); refine Q.bx 4 #[.bool a1_0, .string a1_1] 36 rfl rfl ?_; intro gb790 hg w6 hbox hb; replace BK790 := Q.a (hbox); replace GW790 := Q.a (Q.gs hg (below_size (Q.bw1 HB GE789))); replace GE790 := GW790; replace HB := Q.a (below_step (Q.bw1 HB GE789) hb); replace NB789_790 := Q.a (Q.nl hg BK789); replace NB790_789 := Q.a (Q.ng hg BK789); replace BK789 := Q.a (Q.bb BK789 hb); clear hb hbox hg) | ((with_reducible refine gate_dst (N := 5) rfl ?_); (try (refine gate_guard (by rfl) ?_; dsimp only)); refine Q.bx 5 #[.bool a2_0, .string a2_1] 36 rfl rfl ?_; intro gb791 hg w7 hbox hb; replace BK791 := Q.a (hbox); replace GW791 := Q.a (Q.gs hg (below_size (Q.bw2 HB GE789 GE790))); replace GE791 := GW791; replace HB := Q.a (below_step (Q.bw2 HB GE789 GE790) hb); replace NB789_791 := Q.a (Q.nl hg BK789); replace NB791_789 := Q.a (Q.ng hg BK789); replace BK789 := Q.a (Q.bb BK789 hb); replace NB790_791 := Q.a (Q.nl hg BK790); replace NB791_790 := Q.a (Q.ng hg BK790); replace BK790 := Q.a (Q.bb BK790 hb); clear hb hbox hg))
 (try simp only [Act.put, List.setIfInBounds_toArray, List.set_cons_zero, List.set_cons_succ])
 go_cut [29] (fun v29 wc => ∃ (kq : Nat) (x29_3 : Bool), v29 = .bool x29_3 ∧ Aside0 (voussoirlaw02_IntegerGcd.j0 kq x29_3 a0_0 a0_1 a1_0 a1_1 a2_0 a2_1 = some r) ∧ Aside0 (kq ≤ k) ∧ Aside0 (wc.heap[gb789]? = some (.cells #[.bool a0_0, .string a0_1] 36 (0, 0))) ∧ Aside0 (wc.heap[gb790]? = some (.cells #[.bool a1_0, .string a1_1] 36 (0, 0))) ∧ Aside0 (wc.heap[gb791]? = some (.cells #[.bool a2_0, .string a2_1] 36 (0, 0))) ∧ Aside0 (Below w.heap.size w wc))
 case first =>
  have H := HC4.out
  clear HC4
  by_cases c8 : (a0_1.size : Int) > 20
  ·rw [if_pos c8] at H
   have c8b0 : decide (20 < (a0_1.size : Int)) = true := decide_eq_true c8
   have c8b1 : decide (20 < a0_1.size) = true := decide_eq_true (by omega)
   clear c8
   (first | rw [c8b0] | (simp only [i64_w, i32_w]; rw [c8b0]) | skip)
   have H' := Q.a H
   clear H
   have hnb9 := NB789_790.out
   have hnc9 := NB790_789.out
   have hnb10 := NB789_791.out
   have hnc10 := NB791_789.out
   have hcz11_0 : w7.cell? ⟨gb789, 0, none⟩ = some (.bool a0_0) := (blk_cell BK789.out 0).trans rfl
   have hcz11_1 : w7.cell? ⟨gb789, 1, none⟩ = some (.string a0_1) := (blk_cell BK789.out 1).trans rfl
   have hfz11_0 := blk_frozen BK789.out 0
   have hfz11_1 := blk_frozen BK789.out 1
   go_wp2
   go_meet
   case rel => exact ⟨_, (true), Q.rs, H', ⟨by first | omega | exact Nat.le_refl _⟩, ⟨Q.kb BK789⟩, ⟨Q.kb BK790⟩, ⟨Q.kb BK791⟩, ⟨Q.bw3 HB GE789 GE790 GE791⟩⟩
  ·rw [if_neg c8] at H
   have c8b0 : decide (20 < (a0_1.size : Int)) = false := decide_eq_false c8
   have c8b1 : decide (20 < a0_1.size) = false := decide_eq_false (by omega)
   clear c8
   (first | rw [c8b0] | (simp only [i64_w, i32_w]; rw [c8b0]) | skip)
   by_cases c12 : (a1_1.size : Int) > 20
   ·rw [if_pos c12] at H
    have c12b0 : decide (20 < (a1_1.size : Int)) = true := decide_eq_true c12
    have c12b1 : decide (20 < a1_1.size) = true := decide_eq_true (by omega)
    clear c12
    have H' := Q.a H
    clear H
    have hnb13 := NB789_790.out
    have hnc13 := NB790_789.out
    have hnb14 := NB789_791.out
    have hnc14 := NB791_789.out
    have hcz15_0 : w7.cell? ⟨gb789, 0, none⟩ = some (.bool a0_0) := (blk_cell BK789.out 0).trans rfl
    have hcz15_1 : w7.cell? ⟨gb789, 1, none⟩ = some (.string a0_1) := (blk_cell BK789.out 1).trans rfl
    have hfz15_0 := blk_frozen BK789.out 0
    have hfz15_1 := blk_frozen BK789.out 1
    have hnb16 := NB790_791.out
    have hnc16 := NB791_790.out
    have hcz17_0 : w7.cell? ⟨gb790, 0, none⟩ = some (.bool a1_0) := (blk_cell BK790.out 0).trans rfl
    have hcz17_1 : w7.cell? ⟨gb790, 1, none⟩ = some (.string a1_1) := (blk_cell BK790.out 1).trans rfl
    have hfz17_0 := blk_frozen BK790.out 0
    have hfz17_1 := blk_frozen BK790.out 1
    go_wp2
    go_meet
    case rel => exact ⟨_, (true), Q.rs, H', ⟨by first | omega | exact Nat.le_refl _⟩, ⟨Q.kb BK789⟩, ⟨Q.kb BK790⟩, ⟨Q.kb BK791⟩, ⟨Q.bw3 HB GE789 GE790 GE791⟩⟩
   ·rw [if_neg c12] at H
    have c12b0 : decide (20 < (a1_1.size : Int)) = false := decide_eq_false c12
    have c12b1 : decide (20 < a1_1.size) = false := decide_eq_false (by omega)
    clear c12
    have H' := Q.a H
    clear H
    have hnb18 := NB789_790.out
    have hnc18 := NB790_789.out
    have hnb19 := NB789_791.out
    have hnc19 := NB791_789.out
    have hcz20_0 : w7.cell? ⟨gb789, 0, none⟩ = some (.bool a0_0) := (blk_cell BK789.out 0).trans rfl
    have hcz20_1 : w7.cell? ⟨gb789, 1, none⟩ = some (.string a0_1) := (blk_cell BK789.out 1).trans rfl
    have hfz20_0 := blk_frozen BK789.out 0
    have hfz20_1 := blk_frozen BK789.out 1
    have hnb21 := NB790_791.out
    have hnc21 := NB791_790.out
    have hcz22_0 : w7.cell? ⟨gb790, 0, none⟩ = some (.bool a1_0) := (blk_cell BK790.out 0).trans rfl
    have hcz22_1 : w7.cell? ⟨gb790, 1, none⟩ = some (.string a1_1) := (blk_cell BK790.out 1).trans rfl
    have hfz22_0 := blk_frozen BK790.out 0
    have hfz22_1 := blk_frozen BK790.out 1
    have hcz23_0 : w7.cell? ⟨gb791, 0, none⟩ = some (.bool a2_0) := (blk_cell BK791.out 0).trans rfl
    have hcz23_1 : w7.cell? ⟨gb791, 1, none⟩ = some (.string a2_1) := (blk_cell BK791.out 1).trans rfl
    have hfz23_0 := blk_frozen BK791.out 0
    have hfz23_1 := blk_frozen BK791.out 1
    go_wp2
    go_meet
    case rel => exact ⟨_, (decide ((a2_1.size : Int) > 20)), Q.rs, H', ⟨by first | omega | exact Nat.le_refl _⟩, ⟨Q.kb BK789⟩, ⟨Q.kb BK790⟩, ⟨Q.kb BK791⟩, ⟨Q.bw3 HB GE789 GE790 GE791⟩⟩
 case rest =>
  clear HC4
  try clear c1
  try clear c2
  try clear p2
  try clear c8
  try clear c8b0
  try clear c8b1
  try clear c9
  try clear c10
  try clear c12
  try clear c12b0
  try clear c12b1
  try clear c13
  try clear c14
  try clear c16
  try clear c18
  try clear c19
  try clear c21
  try clear hcz11_0
  try clear hcz11_1
  try clear hcz15_0
  try clear hcz15_1
  try clear hcz17_0
  try clear hcz17_1
  try clear hcz20_0
  try clear hcz20_1
  try clear hcz22_0
  try clear hcz22_1
  try clear hcz23_0
  try clear hcz23_1
  try clear hfz11_0
  try clear hfz11_1
  try clear hfz15_0
  try clear hfz15_1
  try clear hfz17_0
  try clear hfz17_1
  try clear hfz20_0
  try clear hfz20_1
  try clear hfz22_0
  try clear hfz22_1
  try clear hfz23_0
  try clear hfz23_1
  obtain ⟨kq, x29_3, rfl, HA, HJ3, BK789, BK790, BK791, HB⟩ := hcut
  cases kq with
  | zero => exact absurd HA.out (by simp [voussoirlaw02_IntegerGcd.j0])
  | succ kj3 =>
   have H := HA.out
   clear HA
   simp only [voussoirlaw02_IntegerGcd.j0] at H
   by_cases c24 : x29_3 = true
   ·subst c24
    rw [if_pos rfl] at H
    replace H := Option.bind_eq_some_iff.mp H
    obtain ⟨t792, A250, H⟩ := H
    try dsimp only at H
    have A25 := Q.a A250
    clear A250
    obtain rfl := Option.some.inj H
    go_wp2_with (first | ((with_reducible refine gate_callee (f := 37) rfl ?_); refine Q.gl 30 Tryd.func37 #[] rfl rfl rfl rfl ?_; (with_reducible refine (voussoirlaw02_fixed.calls kj3  t792 HR.out _ ?side1 A25.out).mono ?_); (case side1 => exact X.G.below HG.out (Q.bw3 HB GE789 GE790 GE791)); rintro e w26 ⟨rfl, hb⟩; refine ⟨_, rfl, ?_⟩; replace BK789 := Q.a (Q.bb BK789 hb); replace BK790 := Q.a (Q.bb BK790 hb); replace BK791 := Q.a (Q.bb BK791 hb); replace HB := Q.a (below_step (Q.bw3 HB GE789 GE790 GE791) hb); (try clear hb)))
    go_ret
    exact ⟨Q.en, Q.bw3 HB GE789 GE790 GE791⟩
   ·replace c24 := Bool.eq_false_iff.mpr c24
    subst c24
    rw [if_neg (show ¬ (false = true) by decide)] at H
    obtain ⟨y793, hy793⟩ : ∃ y_ : List (S36), y_ = (([(⟨a0_0, a0_1⟩ : S36), (⟨a1_0, a1_1⟩ : S36), (⟨a2_0, a2_1⟩ : S36)] : List (S36))) := ⟨_, rfl⟩
    replace H : ((integer_Gcd.f kj3 y793).bind fun bt796 => ((integer_Gcd.f kj3 (([(⟨a2_0, a2_1⟩ : S36), (⟨a0_0, a0_1⟩ : S36), (⟨a1_0, a1_1⟩ : S36), (⟨a0_0, a0_1⟩ : S36)] : List (S36)))).bind fun bt802 => (if (!(bt796.1 == bt802.1) || (!(bt796.2.toList == bt802.2.toList))) = true then (voussoirlaw02_IntegerGcd.j1 kj3 true a0_0 a0_1 a1_0 a1_1 a2_0 a2_1 bt796.1 bt796.2) else ((integer_Sign.f kj3 bt796.1 bt796.2).bind fun t804 => (voussoirlaw02_IntegerGcd.j1 kj3 (decide (t804 < 0)) a0_0 a0_1 a1_0 a1_1 a2_0 a2_1 bt796.1 bt796.2))))) = some r := by first | (rw [hy793]; with_reducible exact H) | (have H2_ := (Option.bind_some _ _).symm.trans H; rw [hy793]; with_reducible exact H2_) | (have H2_ := (Option.bind_some _ _).symm.trans H; with_reducible exact H2_) | with_reducible exact H | (rw [hy793]; exact H) | exact H
    have Ny793 := Q.a hy793
    clear hy793
    replace H := Option.bind_eq_some_iff.mp H
    obtain ⟨⟨t796, t797⟩, A270, H⟩ := H
    try dsimp only at H
    have A27 := Q.a A270
    clear A270
    have HC28 := Q.a H
    clear H
    have hnb29 := NB789_790.out
    have hnc29 := NB790_789.out
    have hnb30 := NB789_791.out
    have hnc30 := NB791_789.out
    have hcz31_0 : wc.cell? ⟨gb789, 0, none⟩ = some (.bool a0_0) := (blk_cell BK789.out 0).trans rfl
    have hcz31_1 : wc.cell? ⟨gb789, 1, none⟩ = some (.string a0_1) := (blk_cell BK789.out 1).trans rfl
    have hfz31_0 := blk_frozen BK789.out 0
    have hfz31_1 := blk_frozen BK789.out 1
    have hnb32 := NB790_791.out
    have hnc32 := NB791_790.out
    have hcz33_0 : wc.cell? ⟨gb790, 0, none⟩ = some (.bool a1_0) := (blk_cell BK790.out 0).trans rfl
    have hcz33_1 : wc.cell? ⟨gb790, 1, none⟩ = some (.string a1_1) := (blk_cell BK790.out 1).trans rfl
    have hfz33_0 := blk_frozen BK790.out 0
    have hfz33_1 := blk_frozen BK790.out 1
    have hcz34_0 : wc.cell? ⟨gb791, 0, none⟩ = some (.bool a2_0) := (blk_cell BK791.out 0).trans rfl
    have hcz34_1 : wc.cell? ⟨gb791, 1, none⟩ = some (.string a2_1) := (blk_cell BK791.out 1).trans rfl
    have hfz34_0 := blk_frozen BK791.out 0
    have hfz34_1 := blk_frozen BK791.out 1
    go_upto_region 4 with (first | ((with_reducible refine gate_dst (N := 34) rfl ?_); (try (refine gate_guard (by rfl) ?_; dsimp only)); refine Kd.R_lit k36 _ 36 ?hg (N := 34) ?hd (xs := ([(⟨a0_0, a0_1⟩ : S36), (⟨a1_0, a1_1⟩ : S36), (⟨a2_0, a2_1⟩ : S36)] : List (S36))) (inner := [.bool a0_0, .string a0_1, .bool a1_0, .string a1_1, .bool a2_0, .string a2_1]) (ok := fun _ => True) (okp := fun _ => True) ?hr ?hp (fun _ hk => hk) trivial (Below.refl _ _) (Nat.le_refl _) (by simp) ?_; (case hd => rfl); (case hg => rfl); (case hr => first | (go_simp; done) | (go_simp; rfl)); (case hp => exact (Reps.c2 (show Kd.M k36 _ _ _ (⟨a0_0, a0_1⟩ : S36) [.bool a0_0, .string a0_1] from (k36_mkM _ _ _ (⟨a0_0, a0_1⟩ : S36) )) (Reps.c2 (show Kd.M k36 _ _ _ (⟨a1_0, a1_1⟩ : S36) [.bool a1_0, .string a1_1] from (k36_mkM _ _ _ (⟨a1_0, a1_1⟩ : S36) )) (Reps.c2 (show Kd.M k36 _ _ _ (⟨a2_0, a2_1⟩ : S36) [.bool a2_0, .string a2_1] from (k36_mkM _ _ _ (⟨a2_0, a2_1⟩ : S36) )) (Reps.none _ _))))); intro v794 w35 ho36 hb hg_ hnew_; clear hg_ hnew_; (first | rw [← Ny793.out] at ho36 | (simp only [Int.reduceToNat] at ho36; rw [← Ny793.out] at ho36)); replace HO795 := Q.a (Kd.R_lower (Kd.R_newB (Kd.R_newB (Kd.R_newB ho36 (g := gb789) (o := .cells #[.bool a0_0, .string a0_1] 36 (0, 0)) (Q.kb BK789)) (g := gb790) (o := .cells #[.bool a1_0, .string a1_1] 36 (0, 0)) (Q.kb BK790)) (g := gb791) (o := .cells #[.bool a2_0, .string a2_1] 36 (0, 0)) (Q.kb BK791)) (below_size (Q.bw3 HB GE789 GE790 GE791))); replace BK789 := Q.a (Q.bb BK789 hb); replace BK790 := Q.a (Q.bb BK790 hb); replace BK791 := Q.a (Q.bb BK791 hb); replace HB := Q.a (below_step (Q.bw3 HB GE789 GE790 GE791) hb); clear hb ho36; obtain ⟨Ao37, co37, eo37⟩ := Kd.R_slice HO795.out; subst eo37) | ((with_reducible refine gate_callee (f := 55) rfl ?_); refine Q.gl 35 Tryd.func55 #[.slice Ao37 y793.length co37] rfl rfl rfl rfl ?_; (with_reducible refine (integer_Gcd.calls kj3 _ _ y793 t796 t797 _ ?side1 ?side2 A27.out).mono ?_); (case side1 => repeat (first | exact (Kd.R_reads' HO795.out).2.2 | (with_reducible refine Kd.C_alloc ?_ _) | (with_reducible refine Kd.C_drewN ?_ _) | (with_reducible refine Kd.C_drew ?_))); (case side2 => exact (Kd.R_reads' HO795.out).2.1); rintro e w38 ⟨rfl, hb⟩; refine ⟨_, rfl, ?_⟩; replace HO795 := Q.a (Kd.R_below (Q.kr HO795) hb); replace BK789 := Q.a (Q.bb BK789 hb); replace BK790 := Q.a (Q.bb BK790 hb); replace BK791 := Q.a (Q.bb BK791 hb); replace HB := Q.a (below_step (Q.bw3 HB GE789 GE790 GE791) hb); (try clear hb)) | ((with_reducible refine gate_dst (N := 7) rfl ?_); (try (refine gate_guard (by rfl) ?_; dsimp only)); refine Q.bx 7 #[.bool false, .string (⟨#[]⟩ : ByteArray)] 36 rfl rfl ?_; intro gb798 hg w39 hbox hb; replace HO795 := Q.a (Kd.R_below (Kd.R_elderB (Q.kr HO795) gb798 (Nat.le_of_eq hg.symm)) hb); replace BK798 := Q.a (hbox); replace GW798 := Q.a (Q.gs hg (below_size (Q.bw3 HB GE789 GE790 GE791))); replace GE798 := GW798; replace HB := Q.a (below_step (Q.bw3 HB GE789 GE790 GE791) hb); replace NB789_798 := Q.a (Q.nl hg BK789); replace NB798_789 := Q.a (Q.ng hg BK789); replace BK789 := Q.a (Q.bb BK789 hb); replace NB790_798 := Q.a (Q.nl hg BK790); replace NB798_790 := Q.a (Q.ng hg BK790); replace BK790 := Q.a (Q.bb BK790 hb); replace NB791_798 := Q.a (Q.nl hg BK791); replace NB798_791 := Q.a (Q.ng hg BK791); replace BK791 := Q.a (Q.bb BK791 hb); clear hb hbox hg; have hnb40 := NB798_789.out; have hnc40 := NB789_798.out; have hnb41 := NB798_790.out; have hnc41 := NB790_798.out; have hnb42 := NB798_791.out; have hnc42 := NB791_798.out; have hcz43_0 : w39.cell? ⟨gb798, 0, none⟩ = some (.bool false) := (blk_cell BK798.out 0).trans rfl; have hcz43_1 : w39.cell? ⟨gb798, 1, none⟩ = some (.string (⟨#[]⟩ : ByteArray)) := (blk_cell BK798.out 1).trans rfl; have hfz43_0 := blk_frozen BK798.out 0; have hfz43_1 := blk_frozen BK798.out 1))
    (try simp only [Act.put, List.setIfInBounds_toArray, List.set_cons_zero, List.set_cons_succ])
    go_cut [48] (fun v48 wc => ∃ (kq : Nat) (x48_27 : Bool), v48 = .bool x48_27 ∧ Aside0 (voussoirlaw02_IntegerGcd.j1 kq x48_27 a0_0 a0_1 a1_0 a1_1 a2_0 a2_1 t796 t797 = some r) ∧ Aside0 (kq ≤ kj3) ∧ Aside0 (wc.heap[gb789]? = some (.cells #[.bool a0_0, .string a0_1] 36 (0, 0))) ∧ Aside0 (wc.heap[gb790]? = some (.cells #[.bool a1_0, .string a1_1] 36 (0, 0))) ∧ Aside0 (wc.heap[gb791]? = some (.cells #[.bool a2_0, .string a2_1] 36 (0, 0))) ∧ Aside0 (wc.heap[gb798]? = some (.cells #[.bool t796, .string t797] 36 (0, 0))) ∧ Aside0 (Below w.heap.size w wc))
    case first =>
     have H := HC28.out
     clear HC28
     obtain ⟨y799, hy799⟩ : ∃ y_ : List (S36), y_ = (([(⟨a2_0, a2_1⟩ : S36), (⟨a0_0, a0_1⟩ : S36), (⟨a1_0, a1_1⟩ : S36), (⟨a0_0, a0_1⟩ : S36)] : List (S36))) := ⟨_, rfl⟩
     replace H : ((integer_Gcd.f kj3 y799).bind fun bt802 => (if (!(t796 == bt802.1) || (!(t797.toList == bt802.2.toList))) = true then (voussoirlaw02_IntegerGcd.j1 kj3 true a0_0 a0_1 a1_0 a1_1 a2_0 a2_1 t796 t797) else ((integer_Sign.f kj3 t796 t797).bind fun t804 => (voussoirlaw02_IntegerGcd.j1 kj3 (decide (t804 < 0)) a0_0 a0_1 a1_0 a1_1 a2_0 a2_1 t796 t797)))) = some r := by first | (rw [hy799]; with_reducible exact H) | (have H2_ := (Option.bind_some _ _).symm.trans H; rw [hy799]; with_reducible exact H2_) | (have H2_ := (Option.bind_some _ _).symm.trans H; with_reducible exact H2_) | with_reducible exact H | (rw [hy799]; exact H) | exact H
     have Ny799 := Q.a hy799
     clear hy799
     replace H := Option.bind_eq_some_iff.mp H
     obtain ⟨⟨t802, t803⟩, A440, H⟩ := H
     try dsimp only at H
     have A44 := Q.a A440
     clear A440
     by_cases c45 : (!(t796 == t802) || (!(t797.toList == t803.toList))) = true
     ·rw [if_pos c45] at H
      have c45b0 : (!(t796 == t802) || (!(t797.toList == t803.toList))) = true := c45
      clear c45
      (first | rw [c45b0] | (simp only [i64_w, i32_w]; rw [c45b0]) | skip)
      have H' := Q.a H
      clear H
      try go_wp2
      have n0_ : Aside0 (Kd.R k36 36 ((w39.setCell ⟨gb798, 0, none⟩ (.bool t796)).setCell ⟨gb798, 1, none⟩ (.string t797)) w.heap.size (fun k_ => k_ ≠ gb789 ∧ k_ ≠ gb790 ∧ k_ ≠ gb791 ∧ k_ ≠ gb798) (.slice Ao37 y793.length co37) y793) := ⟨by (with_reducible repeat (first | apply Kd.R_alloc | apply Kd.R_drewN | apply Kd.R_drew)); exact Kd.R_mono (Kd.R_far (p := ⟨gb798, 1, none⟩) (Kd.R_far (p := ⟨gb798, 0, none⟩) (Kd.R_mono HO795.out (fun k_ hk => (⟨hk, hk.2⟩ : _ ∧ k_ ≠ gb798))) (fun _ hk => hk.2) (.bool t796)) (fun _ hk => hk.2) (.string t797)) (fun _ hk => ⟨hk.1.1.1.1.2, ⟨hk.1.1.1.2, ⟨hk.1.1.2, hk.1.2⟩⟩⟩)⟩
      have n1_ : Aside0 (((w39.setCell ⟨gb798, 0, none⟩ (.bool t796)).setCell ⟨gb798, 1, none⟩ (.string t797)).heap[gb789]? = some (.cells #[.bool a0_0, .string a0_1] 36 (0, 0))) := ⟨Q.kf BK789 NB789_798⟩
      have n2_ : Aside0 (((w39.setCell ⟨gb798, 0, none⟩ (.bool t796)).setCell ⟨gb798, 1, none⟩ (.string t797)).heap[gb790]? = some (.cells #[.bool a1_0, .string a1_1] 36 (0, 0))) := ⟨Q.kf BK790 NB790_798⟩
      have n3_ : Aside0 (((w39.setCell ⟨gb798, 0, none⟩ (.bool t796)).setCell ⟨gb798, 1, none⟩ (.string t797)).heap[gb791]? = some (.cells #[.bool a2_0, .string a2_1] 36 (0, 0))) := ⟨Q.kf BK791 NB791_798⟩
      have n4_ : Aside0 (((w39.setCell ⟨gb798, 0, none⟩ (.bool t796)).setCell ⟨gb798, 1, none⟩ (.string t797)).heap[gb798]? = some (.cells #[.bool t796, .string t797] 36 (0, 0))) := ⟨by (with_reducible repeat (first | refine blk_drewN ?_ _ | refine blk_drew ?_ | refine blk_alloc ?_ _)); refine blk_put (cs := #[.bool t796, .string (⟨#[]⟩ : ByteArray)]) ?_ 1 _ (by first | rfl | (cases a0.toList <;> rfl) | (cases a1.toList <;> rfl)); (with_reducible repeat (first | refine blk_drewN ?_ _ | refine blk_drew ?_ | refine blk_alloc ?_ _)); refine blk_put (cs := #[.bool false, .string (⟨#[]⟩ : ByteArray)]) ?_ 0 _ (by first | rfl | (cases a0.toList <;> rfl) | (cases a1.toList <;> rfl)); (with_reducible repeat (first | refine blk_drewN ?_ _ | refine blk_drew ?_ | refine blk_alloc ?_ _)); exact BK798.out⟩
      have n5_ : Aside0 (Below w.heap.size w ((w39.setCell ⟨gb798, 0, none⟩ (.bool t796)).setCell ⟨gb798, 1, none⟩ (.string t797))) := ⟨Q.bw4 HB GE789 GE790 GE791 GE798⟩
      (try clear HO795)
      (try clear BK789)
      (try clear BK790)
      (try clear BK791)
      (try clear BK798)
      (try clear HB)
      generalize ((w39.setCell ⟨gb798, 0, none⟩ (.bool t796)).setCell ⟨gb798, 1, none⟩ (.string t797)) = w46 at n0_ n1_ n2_ n3_ n4_ n5_ ⊢
      have HO795 := n0_
      have BK789 := n1_
      have BK790 := n2_
      have BK791 := n3_
      have BK798 := n4_
      have HB := n5_
      clear n0_ n1_ n2_ n3_ n4_ n5_
      replace HO795 := Q.a (Kd.R_drew HO795.out)
      replace BK789 := Q.a (blk_drew BK789.out)
      replace BK790 := Q.a (blk_drew BK790.out)
      replace BK791 := Q.a (blk_drew BK791.out)
      replace BK798 := Q.a (blk_drew BK798.out)
      replace HB := Q.a (below_drew1 HB.out)
      refine start_ (n := 13) (S := fun w' => w'.cell? ⟨gb798, 0, none⟩ = some (.bool t796) ∧ w'.cell? ⟨gb798, 1, none⟩ = some (.string t797) ∧ w'.cell? ⟨gb791, 0, none⟩ = some (.bool a2_0) ∧ w'.cell? ⟨gb791, 1, none⟩ = some (.string a2_1) ∧ w'.cell? ⟨gb789, 0, none⟩ = some (.bool a0_0) ∧ w'.cell? ⟨gb789, 1, none⟩ = some (.string a0_1) ∧ w'.cell? ⟨gb790, 0, none⟩ = some (.bool a1_0) ∧ w'.cell? ⟨gb790, 1, none⟩ = some (.string a1_1)) (ds := []) #[false, false, false, false, false, false, false, false, false, false, false, false, false] (by kernel_rfl) rfl rfl ⟨(blk_cell BK798.out 0).trans rfl, (blk_cell BK798.out 1).trans rfl, (blk_cell BK791.out 0).trans rfl, (blk_cell BK791.out 1).trans rfl, (blk_cell BK789.out 0).trans rfl, (blk_cell BK789.out 1).trans rfl, (blk_cell BK790.out 0).trans rfl, (blk_cell BK790.out 1).trans rfl⟩ (fun hHeld => ?_); refine with_tabW voussoirlaw02_IntegerGcd.tab4 voussoirlaw02_IntegerGcd.bits4 (fun HT_ HW_ => ?_)
      generalize w46.drew = w47 at HO795 BK789 BK790 BK791 BK798 HB hHeld ⊢
      refine take_ (i := 0) (N := some 36) (v := ?_) (a' := ?_) #[true, false, false, false, false, false, false, false, false, false, false, false, false] rfl rfl (take_ofW HT_.out HW_.out (by kernel_rfl)) (fun _ _ _ h => h) (Or.inl ⟨by rfl, ?_⟩) hHeld ?_ ?_
      rotate_left
      ·rintro w' ⟨s0, s1, s2, s3, s4, s5, s6, s7⟩
       go_simp
       with_reducible rfl
      rotate_left
      ·simp only [Act.put, List.setIfInBounds_toArray, List.set_cons_zero, List.set_cons_succ, i64_w, i32_w]
       rfl
      refine take_ (i := 1) (N := some 37) (v := ?_) (a' := ?_) #[true, true, false, false, false, false, false, false, false, false, false, false, false] rfl rfl (take_ofW HT_.out HW_.out (by kernel_rfl)) (fun _ _ _ h => h) (Or.inl ⟨by rfl, ?_⟩) hHeld ?_ ?_
      rotate_left
      ·rintro w' ⟨s0, s1, s2, s3, s4, s5, s6, s7⟩
       go_simp
       with_reducible rfl
      rotate_left
      ·simp only [Act.put, List.setIfInBounds_toArray, List.set_cons_zero, List.set_cons_succ, i64_w, i32_w]
       rfl
      refine take_ (i := 2) (N := some 38) (v := ?_) (a' := ?_) #[true, true, true, false, false, false, false, false, false, false, false, false, false] rfl rfl (take_ofW HT_.out HW_.out (by kernel_rfl)) (fun _ _ _ h => h) (Or.inl ⟨by rfl, ?_⟩) hHeld ?_ ?_
      rotate_left
      ·rintro w' ⟨s0, s1, s2, s3, s4, s5, s6, s7⟩
       go_simp
       with_reducible rfl
      rotate_left
      ·simp only [Act.put, List.setIfInBounds_toArray, List.set_cons_zero, List.set_cons_succ, i64_w, i32_w]
       rfl
      refine take_ (i := 3) (N := some 39) (v := ?_) (a' := ?_) #[true, true, true, true, false, false, false, false, false, false, false, false, false] rfl rfl (take_ofW HT_.out HW_.out (by kernel_rfl)) (fun _ _ _ h => h) (Or.inl ⟨by rfl, ?_⟩) hHeld ?_ ?_
      rotate_left
      ·rintro w' ⟨s0, s1, s2, s3, s4, s5, s6, s7⟩
       go_simp
       with_reducible rfl
      rotate_left
      ·simp only [Act.put, List.setIfInBounds_toArray, List.set_cons_zero, List.set_cons_succ, i64_w, i32_w]
       rfl
      refine take_ (i := 4) (N := some 40) (v := ?_) (a' := ?_) #[true, true, true, true, true, false, false, false, false, false, false, false, false] rfl rfl (take_ofW HT_.out HW_.out (by kernel_rfl)) (fun _ _ _ h => h) (Or.inl ⟨by rfl, ?_⟩) hHeld ?_ ?_
      rotate_left
      ·rintro w' ⟨s0, s1, s2, s3, s4, s5, s6, s7⟩
       go_simp
       with_reducible rfl
      rotate_left
      ·simp only [Act.put, List.setIfInBounds_toArray, List.set_cons_zero, List.set_cons_succ, i64_w, i32_w]
       rfl
      refine one_ (i := 5) (N := some 41) #[true, true, true, true, true, true, false, false, false, false, false, false, false] rfl rfl (one_of HT_.out (by kernel_rfl)) (by decide) (fun K hK => ?_)
      refine Kd.R_lit_step k36 _ 36 ?hg (N := 41) ?hd (xs := ([(⟨a2_0, a2_1⟩ : S36), (⟨a0_0, a0_1⟩ : S36), (⟨a1_0, a1_1⟩ : S36), (⟨a0_0, a0_1⟩ : S36)] : List (S36))) (inner := [.bool a2_0, .string a2_1, .bool a0_0, .string a0_1, .bool a1_0, .string a1_1, .bool a0_0, .string a0_1]) (ok := fun _ => True) (okp := fun _ => True) ?hr ?hp (fun _ hk => hk) trivial (Below.refl _ _) (Nat.le_refl _) (by simp) ?_; (case hd => rfl); (case hg => rfl); (case hr => first | (go_simp; done) | (go_simp; rfl)); (case hp => exact (Reps.c2 (show Kd.M k36 _ _ _ (⟨a2_0, a2_1⟩ : S36) [.bool a2_0, .string a2_1] from (k36_mkM _ _ _ (⟨a2_0, a2_1⟩ : S36) )) (Reps.c2 (show Kd.M k36 _ _ _ (⟨a0_0, a0_1⟩ : S36) [.bool a0_0, .string a0_1] from (k36_mkM _ _ _ (⟨a0_0, a0_1⟩ : S36) )) (Reps.c2 (show Kd.M k36 _ _ _ (⟨a1_0, a1_1⟩ : S36) [.bool a1_0, .string a1_1] from (k36_mkM _ _ _ (⟨a1_0, a1_1⟩ : S36) )) (Reps.c2 (show Kd.M k36 _ _ _ (⟨a0_0, a0_1⟩ : S36) [.bool a0_0, .string a0_1] from (k36_mkM _ _ _ (⟨a0_0, a0_1⟩ : S36) )) (Reps.none _ _))))))
      intro v800 w48 ho49 hb hg_ hnew_
      clear hg_ hnew_
      (first | rw [← Ny799.out] at ho49 | (simp only [Int.reduceToNat] at ho49; rw [← Ny799.out] at ho49))
      replace HO801 := Q.a (Kd.R_lower (Kd.R_newB (Kd.R_newB (Kd.R_newB (Kd.R_newB (Kd.R_new' ho49 (Kd.R_lt (Q.kr HO795))) (g := gb789) (o := .cells #[.bool a0_0, .string a0_1] 36 (0, 0)) (Q.kb BK789)) (g := gb790) (o := .cells #[.bool a1_0, .string a1_1] 36 (0, 0)) (Q.kb BK790)) (g := gb791) (o := .cells #[.bool a2_0, .string a2_1] 36 (0, 0)) (Q.kb BK791)) (g := gb798) (o := .cells #[.bool t796, .string t797] 36 (0, 0)) (Q.kb BK798)) (below_size (Q.bw4 HB GE789 GE790 GE791 GE798)))
      replace HO795 := Q.a (Kd.R_elder' (Q.kr HO795) (Kd.R_base ho49) hb)
      replace BK789 := Q.a (Q.bb BK789 hb)
      replace BK790 := Q.a (Q.bb BK790 hb)
      replace BK791 := Q.a (Q.bb BK791 hb)
      replace BK798 := Q.a (Q.bb BK798 hb)
      replace HB := Q.a (below_step (Q.bw4 HB GE789 GE790 GE791 GE798) hb)
      clear hb ho49
      obtain ⟨Ao50, co50, eo50⟩ := Kd.R_slice HO801.out
      (first | subst eo50 | (injection eo50 with f1_ f2_ f3_; have f4_ := f1_.symm; have f5_ := f3_.symm; clear f1_ f2_ f3_; subst f4_; subst f5_))
      refine hK.out _ _ ⟨(blk_cell BK798.out 0).trans rfl, (blk_cell BK798.out 1).trans rfl, (blk_cell BK791.out 0).trans rfl, (blk_cell BK791.out 1).trans rfl, (blk_cell BK789.out 0).trans rfl, (blk_cell BK789.out 1).trans rfl, (blk_cell BK790.out 0).trans rfl, (blk_cell BK790.out 1).trans rfl⟩ (fun hHeld => ?_)
      clear hK K
      refine norm_ (a' := ?_) ?_ ?_
      rotate_left
      ·show Act.put _ (some 41) _ = _
       simp only [Act.put, List.setIfInBounds_toArray, List.set_cons_zero, List.set_cons_succ, i64_w, i32_w]
       rfl
      refine one_ (i := 6) (N := some 42) #[true, true, true, true, true, true, true, false, false, false, false, false, false] rfl rfl (one_of HT_.out (by kernel_rfl)) (by decide) (fun K hK => ?_)
      refine goes_ Tryd.func55 (by kernel_rfl) rfl #[.slice Ao50 y799.length co50] (by rfl) rfl rfl (by (try simp only [List.map_toArray, List.map_cons, List.map_nil]); first | done | rfl | (simp only [List.length_drop, List.length_take]; rfl)) ?_
      with_reducible refine (integer_Gcd.calls kj3 _ _ y799 t802 t803 _ ?side1 ?side2 A44.out).mono ?_
      (case side1 => repeat (first | exact (Kd.R_reads' HO801.out).2.2 | (with_reducible refine Kd.C_alloc ?_ _) | (with_reducible refine Kd.C_drewN ?_ _) | (with_reducible refine Kd.C_drew ?_)))
      (case side2 => exact (Kd.R_reads' HO801.out).2.1)
      rintro e w51 ⟨rfl, hb⟩
      refine ⟨_, rfl, ?_⟩
      replace HO795 := Q.a (Kd.R_below (Q.kr HO795) hb)
      replace HO801 := Q.a (Kd.R_below (Q.kr HO801) hb)
      replace BK789 := Q.a (Q.bb BK789 hb)
      replace BK790 := Q.a (Q.bb BK790 hb)
      replace BK791 := Q.a (Q.bb BK791 hb)
      replace BK798 := Q.a (Q.bb BK798 hb)
      replace HB := Q.a (below_step (Q.bw4 HB GE789 GE790 GE791 GE798) hb)
      (try clear hb)
      (try clear hb2)
      (try clear hk)
      (try clear hi)
      refine hK.out _ _ ⟨(blk_cell BK798.out 0).trans rfl, (blk_cell BK798.out 1).trans rfl, (blk_cell BK791.out 0).trans rfl, (blk_cell BK791.out 1).trans rfl, (blk_cell BK789.out 0).trans rfl, (blk_cell BK789.out 1).trans rfl, (blk_cell BK790.out 0).trans rfl, (blk_cell BK790.out 1).trans rfl⟩ (fun hHeld => ?_)
      clear hK K
      refine norm_ (a' := ?_) ?_ ?_
      rotate_left
      ·show Act.put _ (some 42) _ = _
       simp only [Act.put, List.setIfInBounds_toArray, List.set_cons_zero, List.set_cons_succ, i64_w, i32_w]
       rfl
      refine pure_ (i := 7) (N := some 43) (v := ?_) (a' := ?_) #[true, true, true, true, true, true, true, true, false, false, false, false, false] rfl rfl (any_of HT_.out (by kernel_rfl)) (fun _ _ _ h => h) (Or.inl ⟨by rfl, ?_⟩) ?_ ?_
      rotate_left
      ·intro w'
       go_simp
       with_reducible rfl
      rotate_left
      ·simp only [Act.put, List.setIfInBounds_toArray, List.set_cons_zero, List.set_cons_succ, i64_w, i32_w]
       rfl
      refine pure_ (i := 8) (N := some 44) (v := ?_) (a' := ?_) #[true, true, true, true, true, true, true, true, true, false, false, false, false] rfl rfl (any_of HT_.out (by kernel_rfl)) (fun _ _ _ h => h) (Or.inl ⟨by rfl, ?_⟩) ?_ ?_
      rotate_left
      ·intro w'
       go_simp
       with_reducible rfl
      rotate_left
      ·simp only [Act.put, List.setIfInBounds_toArray, List.set_cons_zero, List.set_cons_succ, i64_w, i32_w]
       rfl
      refine pure_ (i := 9) (N := some 45) (v := undef) (a' := ?_) #[true, true, true, true, true, true, true, true, true, true, false, false, false] rfl rfl (any_of HT_.out (by kernel_rfl)) (fun _ _ _ h => h) (Or.inr ⟨by rfl, rfl⟩) ?_ ?_
      rotate_left
      ·simp only [Act.put, List.setIfInBounds_toArray, List.set_cons_zero, List.set_cons_succ, i64_w, i32_w]
       rfl
      refine pure_ (i := 10) (N := some 46) (v := undef) (a' := ?_) #[true, true, true, true, true, true, true, true, true, true, true, false, false] rfl rfl (any_of HT_.out (by kernel_rfl)) (fun _ _ _ h => h) (Or.inr ⟨by rfl, rfl⟩) ?_ ?_
      rotate_left
      ·simp only [Act.put, List.setIfInBounds_toArray, List.set_cons_zero, List.set_cons_succ, i64_w, i32_w]
       rfl
      refine pure_ (i := 11) (N := some 47) (v := undef) (a' := ?_) #[true, true, true, true, true, true, true, true, true, true, true, true, false] rfl rfl (any_of HT_.out (by kernel_rfl)) (fun _ _ _ h => h) (Or.inr ⟨by rfl, rfl⟩) ?_ ?_
      rotate_left
      ·simp only [Act.put, List.setIfInBounds_toArray, List.set_cons_zero, List.set_cons_succ, i64_w, i32_w]
       rfl
      refine pure_ (i := 12) (N := some 48) (v := ?_) (a' := ?_) #[true, true, true, true, true, true, true, true, true, true, true, true, true] rfl rfl (any_of HT_.out (by kernel_rfl)) (fun _ _ _ h => h) (Or.inl ⟨by rfl, ?_⟩) ?_ ?_
      rotate_left
      ·intro w'
       go_simp
       with_reducible rfl
      rotate_left
      ·simp only [Act.put, List.setIfInBounds_toArray, List.set_cons_zero, List.set_cons_succ, i64_w, i32_w]
       rfl
      refine done_ (done_of HT_.out (by kernel_rfl)) ?_
      try go_wp2
      go_meet
      case rel => exact ⟨_, (true), Q.rs, H', ⟨by have := HJ3.out; first | omega | exact Nat.le_refl _⟩, ⟨Q.kb BK789⟩, ⟨Q.kb BK790⟩, ⟨Q.kb BK791⟩, ⟨Q.kb BK798⟩, ⟨Q.bw4 HB GE789 GE790 GE791 GE798⟩⟩
     ·rw [if_neg c45] at H
      have c45b0 : (!(t796 == t802) || (!(t797.toList == t803.toList))) = false := by simpa using c45
      clear c45
      (first | rw [c45b0] | (simp only [i64_w, i32_w]; rw [c45b0]) | skip)
      replace H := Option.bind_eq_some_iff.mp H
      obtain ⟨t804, A520, H⟩ := H
      try dsimp only at H
      have A52 := Q.a A520
      clear A520
      have H' := Q.a H
      clear H
      try go_wp2
      have n0_ : Aside0 (Kd.R k36 36 ((w39.setCell ⟨gb798, 0, none⟩ (.bool t796)).setCell ⟨gb798, 1, none⟩ (.string t797)) w.heap.size (fun k_ => k_ ≠ gb789 ∧ k_ ≠ gb790 ∧ k_ ≠ gb791 ∧ k_ ≠ gb798) (.slice Ao37 y793.length co37) y793) := ⟨by (with_reducible repeat (first | apply Kd.R_alloc | apply Kd.R_drewN | apply Kd.R_drew)); exact Kd.R_mono (Kd.R_far (p := ⟨gb798, 1, none⟩) (Kd.R_far (p := ⟨gb798, 0, none⟩) (Kd.R_mono HO795.out (fun k_ hk => (⟨hk, hk.2⟩ : _ ∧ k_ ≠ gb798))) (fun _ hk => hk.2) (.bool t796)) (fun _ hk => hk.2) (.string t797)) (fun _ hk => ⟨hk.1.1.1.1.2, ⟨hk.1.1.1.2, ⟨hk.1.1.2, hk.1.2⟩⟩⟩)⟩
      have n1_ : Aside0 (((w39.setCell ⟨gb798, 0, none⟩ (.bool t796)).setCell ⟨gb798, 1, none⟩ (.string t797)).heap[gb789]? = some (.cells #[.bool a0_0, .string a0_1] 36 (0, 0))) := ⟨Q.kf BK789 NB789_798⟩
      have n2_ : Aside0 (((w39.setCell ⟨gb798, 0, none⟩ (.bool t796)).setCell ⟨gb798, 1, none⟩ (.string t797)).heap[gb790]? = some (.cells #[.bool a1_0, .string a1_1] 36 (0, 0))) := ⟨Q.kf BK790 NB790_798⟩
      have n3_ : Aside0 (((w39.setCell ⟨gb798, 0, none⟩ (.bool t796)).setCell ⟨gb798, 1, none⟩ (.string t797)).heap[gb791]? = some (.cells #[.bool a2_0, .string a2_1] 36 (0, 0))) := ⟨Q.kf BK791 NB791_798⟩
      have n4_ : Aside0 (((w39.setCell ⟨gb798, 0, none⟩ (.bool t796)).setCell ⟨gb798, 1, none⟩ (.string t797)).heap[gb798]? = some (.cells #[.bool t796, .string t797] 36 (0, 0))) := ⟨by (with_reducible repeat (first | refine blk_drewN ?_ _ | refine blk_drew ?_ | refine blk_alloc ?_ _)); refine blk_put (cs := #[.bool t796, .string (⟨#[]⟩ : ByteArray)]) ?_ 1 _ (by first | rfl | (cases a0.toList <;> rfl) | (cases a1.toList <;> rfl)); (with_reducible repeat (first | refine blk_drewN ?_ _ | refine blk_drew ?_ | refine blk_alloc ?_ _)); refine blk_put (cs := #[.bool false, .string (⟨#[]⟩ : ByteArray)]) ?_ 0 _ (by first | rfl | (cases a0.toList <;> rfl) | (cases a1.toList <;> rfl)); (with_reducible repeat (first | refine blk_drewN ?_ _ | refine blk_drew ?_ | refine blk_alloc ?_ _)); exact BK798.out⟩
      have n5_ : Aside0 (Below w.heap.size w ((w39.setCell ⟨gb798, 0, none⟩ (.bool t796)).setCell ⟨gb798, 1, none⟩ (.string t797))) := ⟨Q.bw4 HB GE789 GE790 GE791 GE798⟩
      (try clear HO795)
      (try clear BK789)
      (try clear BK790)
      (try clear BK791)
      (try clear BK798)
      (try clear HB)
      generalize ((w39.setCell ⟨gb798, 0, none⟩ (.bool t796)).setCell ⟨gb798, 1, none⟩ (.string t797)) = w53 at n0_ n1_ n2_ n3_ n4_ n5_ ⊢
      have HO795 := n0_
      have BK789 := n1_
      have BK790 := n2_
      have BK791 := n3_
      have BK798 := n4_
      have HB := n5_
      clear n0_ n1_ n2_ n3_ n4_ n5_
      replace HO795 := Q.a (Kd.R_drew HO795.out)
      replace BK789 := Q.a (blk_drew BK789.out)
      replace BK790 := Q.a (blk_drew BK790.out)
      replace BK791 := Q.a (blk_drew BK791.out)
      replace BK798 := Q.a (blk_drew BK798.out)
      replace HB := Q.a (below_drew1 HB.out)
      refine start_ (n := 13) (S := fun w' => w'.cell? ⟨gb798, 0, none⟩ = some (.bool t796) ∧ w'.cell? ⟨gb798, 1, none⟩ = some (.string t797) ∧ w'.cell? ⟨gb791, 0, none⟩ = some (.bool a2_0) ∧ w'.cell? ⟨gb791, 1, none⟩ = some (.string a2_1) ∧ w'.cell? ⟨gb789, 0, none⟩ = some (.bool a0_0) ∧ w'.cell? ⟨gb789, 1, none⟩ = some (.string a0_1) ∧ w'.cell? ⟨gb790, 0, none⟩ = some (.bool a1_0) ∧ w'.cell? ⟨gb790, 1, none⟩ = some (.string a1_1)) (ds := []) #[false, false, false, false, false, false, false, false, false, false, false, false, false] (by kernel_rfl) rfl rfl ⟨(blk_cell BK798.out 0).trans rfl, (blk_cell BK798.out 1).trans rfl, (blk_cell BK791.out 0).trans rfl, (blk_cell BK791.out 1).trans rfl, (blk_cell BK789.out 0).trans rfl, (blk_cell BK789.out 1).trans rfl, (blk_cell BK790.out 0).trans rfl, (blk_cell BK790.out 1).trans rfl⟩ (fun hHeld => ?_); refine with_tabW voussoirlaw02_IntegerGcd.tab4 voussoirlaw02_IntegerGcd.bits4 (fun HT_ HW_ => ?_)
      generalize w53.drew = w54 at HO795 BK789 BK790 BK791 BK798 HB hHeld ⊢
      refine take_ (i := 0) (N := some 36) (v := ?_) (a' := ?_) #[true, false, false, false, false, false, false, false, false, false, false, false, false] rfl rfl (take_ofW HT_.out HW_.out (by kernel_rfl)) (fun _ _ _ h => h) (Or.inl ⟨by rfl, ?_⟩) hHeld ?_ ?_
      rotate_left
      ·rintro w' ⟨s0, s1, s2, s3, s4, s5, s6, s7⟩
       go_simp
       with_reducible rfl
      rotate_left
      ·simp only [Act.put, List.setIfInBounds_toArray, List.set_cons_zero, List.set_cons_succ, i64_w, i32_w]
       rfl
      refine take_ (i := 1) (N := some 37) (v := ?_) (a' := ?_) #[true, true, false, false, false, false, false, false, false, false, false, false, false] rfl rfl (take_ofW HT_.out HW_.out (by kernel_rfl)) (fun _ _ _ h => h) (Or.inl ⟨by rfl, ?_⟩) hHeld ?_ ?_
      rotate_left
      ·rintro w' ⟨s0, s1, s2, s3, s4, s5, s6, s7⟩
       go_simp
       with_reducible rfl
      rotate_left
      ·simp only [Act.put, List.setIfInBounds_toArray, List.set_cons_zero, List.set_cons_succ, i64_w, i32_w]
       rfl
      refine take_ (i := 2) (N := some 38) (v := ?_) (a' := ?_) #[true, true, true, false, false, false, false, false, false, false, false, false, false] rfl rfl (take_ofW HT_.out HW_.out (by kernel_rfl)) (fun _ _ _ h => h) (Or.inl ⟨by rfl, ?_⟩) hHeld ?_ ?_
      rotate_left
      ·rintro w' ⟨s0, s1, s2, s3, s4, s5, s6, s7⟩
       go_simp
       with_reducible rfl
      rotate_left
      ·simp only [Act.put, List.setIfInBounds_toArray, List.set_cons_zero, List.set_cons_succ, i64_w, i32_w]
       rfl
      refine take_ (i := 3) (N := some 39) (v := ?_) (a' := ?_) #[true, true, true, true, false, false, false, false, false, false, false, false, false] rfl rfl (take_ofW HT_.out HW_.out (by kernel_rfl)) (fun _ _ _ h => h) (Or.inl ⟨by rfl, ?_⟩) hHeld ?_ ?_
      rotate_left
      ·rintro w' ⟨s0, s1, s2, s3, s4, s5, s6, s7⟩
       go_simp
       with_reducible rfl
      rotate_left
      ·simp only [Act.put, List.setIfInBounds_toArray, List.set_cons_zero, List.set_cons_succ, i64_w, i32_w]
       rfl
      refine take_ (i := 4) (N := some 40) (v := ?_) (a' := ?_) #[true, true, true, true, true, false, false, false, false, false, false, false, false] rfl rfl (take_ofW HT_.out HW_.out (by kernel_rfl)) (fun _ _ _ h => h) (Or.inl ⟨by rfl, ?_⟩) hHeld ?_ ?_
      rotate_left
      ·rintro w' ⟨s0, s1, s2, s3, s4, s5, s6, s7⟩
       go_simp
       with_reducible rfl
      rotate_left
      ·simp only [Act.put, List.setIfInBounds_toArray, List.set_cons_zero, List.set_cons_succ, i64_w, i32_w]
       rfl
      refine one_ (i := 5) (N := some 41) #[true, true, true, true, true, true, false, false, false, false, false, false, false] rfl rfl (one_of HT_.out (by kernel_rfl)) (by decide) (fun K hK => ?_)
      refine Kd.R_lit_step k36 _ 36 ?hg (N := 41) ?hd (xs := ([(⟨a2_0, a2_1⟩ : S36), (⟨a0_0, a0_1⟩ : S36), (⟨a1_0, a1_1⟩ : S36), (⟨a0_0, a0_1⟩ : S36)] : List (S36))) (inner := [.bool a2_0, .string a2_1, .bool a0_0, .string a0_1, .bool a1_0, .string a1_1, .bool a0_0, .string a0_1]) (ok := fun _ => True) (okp := fun _ => True) ?hr ?hp (fun _ hk => hk) trivial (Below.refl _ _) (Nat.le_refl _) (by simp) ?_; (case hd => rfl); (case hg => rfl); (case hr => first | (go_simp; done) | (go_simp; rfl)); (case hp => exact (Reps.c2 (show Kd.M k36 _ _ _ (⟨a2_0, a2_1⟩ : S36) [.bool a2_0, .string a2_1] from (k36_mkM _ _ _ (⟨a2_0, a2_1⟩ : S36) )) (Reps.c2 (show Kd.M k36 _ _ _ (⟨a0_0, a0_1⟩ : S36) [.bool a0_0, .string a0_1] from (k36_mkM _ _ _ (⟨a0_0, a0_1⟩ : S36) )) (Reps.c2 (show Kd.M k36 _ _ _ (⟨a1_0, a1_1⟩ : S36) [.bool a1_0, .string a1_1] from (k36_mkM _ _ _ (⟨a1_0, a1_1⟩ : S36) )) (Reps.c2 (show Kd.M k36 _ _ _ (⟨a0_0, a0_1⟩ : S36) [.bool a0_0, .string a0_1] from (k36_mkM _ _ _ (⟨a0_0, a0_1⟩ : S36) )) (Reps.none _ _))))))
      intro v800 w55 ho56 hb hg_ hnew_
      clear hg_ hnew_
      (first | rw [← Ny799.out] at ho56 | (simp only [Int.reduceToNat] at ho56; rw [← Ny799.out] at ho56))
      replace HO801 := Q.a (Kd.R_lower (Kd.R_newB (Kd.R_newB (Kd.R_newB (Kd.R_newB (Kd.R_new' ho56 (Kd.R_lt (Q.kr HO795))) (g := gb789) (o := .cells #[.bool a0_0, .string a0_1] 36 (0, 0)) (Q.kb BK789)) (g := gb790) (o := .cells #[.bool a1_0, .string a1_1] 36 (0, 0)) (Q.kb BK790)) (g := gb791) (o := .cells #[.bool a2_0, .string a2_1] 36 (0, 0)) (Q.kb BK791)) (g := gb798) (o := .cells #[.bool t796, .string t797] 36 (0, 0)) (Q.kb BK798)) (below_size (Q.bw4 HB GE789 GE790 GE791 GE798)))
      replace HO795 := Q.a (Kd.R_elder' (Q.kr HO795) (Kd.R_base ho56) hb)
      replace BK789 := Q.a (Q.bb BK789 hb)
      replace BK790 := Q.a (Q.bb BK790 hb)
      replace BK791 := Q.a (Q.bb BK791 hb)
      replace BK798 := Q.a (Q.bb BK798 hb)
      replace HB := Q.a (below_step (Q.bw4 HB GE789 GE790 GE791 GE798) hb)
      clear hb ho56
      obtain ⟨Ao57, co57, eo57⟩ := Kd.R_slice HO801.out
      (first | subst eo57 | (injection eo57 with f1_ f2_ f3_; have f4_ := f1_.symm; have f5_ := f3_.symm; clear f1_ f2_ f3_; subst f4_; subst f5_))
      refine hK.out _ _ ⟨(blk_cell BK798.out 0).trans rfl, (blk_cell BK798.out 1).trans rfl, (blk_cell BK791.out 0).trans rfl, (blk_cell BK791.out 1).trans rfl, (blk_cell BK789.out 0).trans rfl, (blk_cell BK789.out 1).trans rfl, (blk_cell BK790.out 0).trans rfl, (blk_cell BK790.out 1).trans rfl⟩ (fun hHeld => ?_)
      clear hK K
      refine norm_ (a' := ?_) ?_ ?_
      rotate_left
      ·show Act.put _ (some 41) _ = _
       simp only [Act.put, List.setIfInBounds_toArray, List.set_cons_zero, List.set_cons_succ, i64_w, i32_w]
       rfl
      refine one_ (i := 6) (N := some 42) #[true, true, true, true, true, true, true, false, false, false, false, false, false] rfl rfl (one_of HT_.out (by kernel_rfl)) (by decide) (fun K hK => ?_)
      refine goes_ Tryd.func55 (by kernel_rfl) rfl #[.slice Ao57 y799.length co57] (by rfl) rfl rfl (by (try simp only [List.map_toArray, List.map_cons, List.map_nil]); first | done | rfl | (simp only [List.length_drop, List.length_take]; rfl)) ?_
      with_reducible refine (integer_Gcd.calls kj3 _ _ y799 t802 t803 _ ?side1 ?side2 A44.out).mono ?_
      (case side1 => repeat (first | exact (Kd.R_reads' HO801.out).2.2 | (with_reducible refine Kd.C_alloc ?_ _) | (with_reducible refine Kd.C_drewN ?_ _) | (with_reducible refine Kd.C_drew ?_)))
      (case side2 => exact (Kd.R_reads' HO801.out).2.1)
      rintro e w58 ⟨rfl, hb⟩
      refine ⟨_, rfl, ?_⟩
      replace HO795 := Q.a (Kd.R_below (Q.kr HO795) hb)
      replace HO801 := Q.a (Kd.R_below (Q.kr HO801) hb)
      replace BK789 := Q.a (Q.bb BK789 hb)
      replace BK790 := Q.a (Q.bb BK790 hb)
      replace BK791 := Q.a (Q.bb BK791 hb)
      replace BK798 := Q.a (Q.bb BK798 hb)
      replace HB := Q.a (below_step (Q.bw4 HB GE789 GE790 GE791 GE798) hb)
      (try clear hb)
      (try clear hb2)
      (try clear hk)
      (try clear hi)
      refine hK.out _ _ ⟨(blk_cell BK798.out 0).trans rfl, (blk_cell BK798.out 1).trans rfl, (blk_cell BK791.out 0).trans rfl, (blk_cell BK791.out 1).trans rfl, (blk_cell BK789.out 0).trans rfl, (blk_cell BK789.out 1).trans rfl, (blk_cell BK790.out 0).trans rfl, (blk_cell BK790.out 1).trans rfl⟩ (fun hHeld => ?_)
      clear hK K
      refine norm_ (a' := ?_) ?_ ?_
      rotate_left
      ·show Act.put _ (some 42) _ = _
       simp only [Act.put, List.setIfInBounds_toArray, List.set_cons_zero, List.set_cons_succ, i64_w, i32_w]
       rfl
      refine pure_ (i := 7) (N := some 43) (v := ?_) (a' := ?_) #[true, true, true, true, true, true, true, true, false, false, false, false, false] rfl rfl (any_of HT_.out (by kernel_rfl)) (fun _ _ _ h => h) (Or.inl ⟨by rfl, ?_⟩) ?_ ?_
      rotate_left
      ·intro w'
       go_simp
       with_reducible rfl
      rotate_left
      ·simp only [Act.put, List.setIfInBounds_toArray, List.set_cons_zero, List.set_cons_succ, i64_w, i32_w]
       rfl
      refine pure_ (i := 8) (N := some 44) (v := ?_) (a' := ?_) #[true, true, true, true, true, true, true, true, true, false, false, false, false] rfl rfl (any_of HT_.out (by kernel_rfl)) (fun _ _ _ h => h) (Or.inl ⟨by rfl, ?_⟩) ?_ ?_
      rotate_left
      ·intro w'
       go_simp
       with_reducible rfl
      rotate_left
      ·simp only [Act.put, List.setIfInBounds_toArray, List.set_cons_zero, List.set_cons_succ, i64_w, i32_w]
       rfl
      refine take_ (i := 9) (N := some 45) (v := ?_) (a' := ?_) #[true, true, true, true, true, true, true, true, true, true, false, false, false] rfl rfl (take_ofW HT_.out HW_.out (by kernel_rfl)) (fun _ _ _ h => h) (Or.inl ⟨by rfl, ?_⟩) hHeld ?_ ?_
      rotate_left
      ·rintro w' ⟨s0, s1, s2, s3, s4, s5, s6, s7⟩
       go_simp
       with_reducible rfl
      rotate_left
      ·simp only [Act.put, List.setIfInBounds_toArray, List.set_cons_zero, List.set_cons_succ, i64_w, i32_w]
       rfl
      refine one_ (i := 10) (N := some 46) #[true, true, true, true, true, true, true, true, true, true, true, false, false] rfl rfl (one_of HT_.out (by kernel_rfl)) (by decide) (fun K hK => ?_)
      refine goes_ Tryd.func50 (by kernel_rfl) rfl #[.agg #[.bool t796, .string t797]] (by rfl) rfl rfl (by (try simp only [List.map_toArray, List.map_cons, List.map_nil]); first | done | rfl | (simp only [List.length_drop, List.length_take]; rfl)) ?_
      with_reducible refine (integer_Sign.calls kj3 t796 t797 t804 _ A52.out).mono ?_
      rintro e w59 ⟨rfl, hb⟩
      refine ⟨_, rfl, ?_⟩
      replace HO795 := Q.a (Kd.R_below (Q.kr HO795) hb)
      replace HO801 := Q.a (Kd.R_below (Q.kr HO801) hb)
      replace BK789 := Q.a (Q.bb BK789 hb)
      replace BK790 := Q.a (Q.bb BK790 hb)
      replace BK791 := Q.a (Q.bb BK791 hb)
      replace BK798 := Q.a (Q.bb BK798 hb)
      replace HB := Q.a (below_step (Q.bw4 HB GE789 GE790 GE791 GE798) hb)
      (try clear hb)
      (try clear hb2)
      (try clear hk)
      (try clear hi)
      refine hK.out _ _ ⟨(blk_cell BK798.out 0).trans rfl, (blk_cell BK798.out 1).trans rfl, (blk_cell BK791.out 0).trans rfl, (blk_cell BK791.out 1).trans rfl, (blk_cell BK789.out 0).trans rfl, (blk_cell BK789.out 1).trans rfl, (blk_cell BK790.out 0).trans rfl, (blk_cell BK790.out 1).trans rfl⟩ (fun hHeld => ?_)
      clear hK K
      refine norm_ (a' := ?_) ?_ ?_
      rotate_left
      ·show Act.put _ (some 46) _ = _
       simp only [Act.put, List.setIfInBounds_toArray, List.set_cons_zero, List.set_cons_succ, i64_w, i32_w]
       rfl
      refine pure_ (i := 11) (N := some 47) (v := ?_) (a' := ?_) #[true, true, true, true, true, true, true, true, true, true, true, true, false] rfl rfl (any_of HT_.out (by kernel_rfl)) (fun _ _ _ h => h) (Or.inl ⟨by rfl, ?_⟩) ?_ ?_
      rotate_left
      ·intro w'
       go_simp
       with_reducible rfl
      rotate_left
      ·simp only [Act.put, List.setIfInBounds_toArray, List.set_cons_zero, List.set_cons_succ, i64_w, i32_w]
       rfl
      refine pure_ (i := 12) (N := some 48) (v := ?_) (a' := ?_) #[true, true, true, true, true, true, true, true, true, true, true, true, true] rfl rfl (any_of HT_.out (by kernel_rfl)) (fun _ _ _ h => h) (Or.inl ⟨by rfl, ?_⟩) ?_ ?_
      rotate_left
      ·intro w'
       go_simp
       with_reducible rfl
      rotate_left
      ·simp only [Act.put, List.setIfInBounds_toArray, List.set_cons_zero, List.set_cons_succ, i64_w, i32_w]
       rfl
      refine done_ (done_of HT_.out (by kernel_rfl)) ?_
      try go_wp2
      go_meet
      case rel => exact ⟨_, (decide (t804 < 0)), Q.rs, H', ⟨by have := HJ3.out; first | omega | exact Nat.le_refl _⟩, ⟨Q.kb BK789⟩, ⟨Q.kb BK790⟩, ⟨Q.kb BK791⟩, ⟨Q.kb BK798⟩, ⟨Q.bw4 HB GE789 GE790 GE791 GE798⟩⟩
    case rest =>
     clear HC28
     try clear c1
     try clear c2
     try clear p2
     try clear c3
     try clear c4
     try clear c5
     try clear c8
     try clear c8b0
     try clear c8b1
     try clear c9
     try clear c10
     try clear c12
     try clear c12b0
     try clear c12b1
     try clear c13
     try clear c14
     try clear c16
     try clear c18
     try clear c19
     try clear c21
     try clear c24
     try clear c29
     try clear c30
     try clear c32
     try clear c37
     try clear c40
     try clear c41
     try clear c42
     try clear c45
     try clear c45b0
     try clear c50
     try clear c55
     try clear hcz11_0
     try clear hcz11_1
     try clear hcz15_0
     try clear hcz15_1
     try clear hcz17_0
     try clear hcz17_1
     try clear hcz20_0
     try clear hcz20_1
     try clear hcz22_0
     try clear hcz22_1
     try clear hcz23_0
     try clear hcz23_1
     try clear hcz31_0
     try clear hcz31_1
     try clear hcz33_0
     try clear hcz33_1
     try clear hcz34_0
     try clear hcz34_1
     try clear hcz43_0
     try clear hcz43_1
     try clear hfz11_0
     try clear hfz11_1
     try clear hfz15_0
     try clear hfz15_1
     try clear hfz17_0
     try clear hfz17_1
     try clear hfz20_0
     try clear hfz20_1
     try clear hfz22_0
     try clear hfz22_1
     try clear hfz23_0
     try clear hfz23_1
     try clear hfz31_0
     try clear hfz31_1
     try clear hfz33_0
     try clear hfz33_1
     try clear hfz34_0
     try clear hfz34_1
     try clear hfz43_0
     try clear hfz43_1
     try clear p2
     obtain ⟨kq, x48_27, rfl, HA, HJ27, BK789, BK790, BK791, BK798, HB⟩ := hcut
     cases kq with
     | zero => exact absurd HA.out (by simp [voussoirlaw02_IntegerGcd.j1])
     | succ kj27 =>
      have H := HA.out
      clear HA
      simp only [voussoirlaw02_IntegerGcd.j1] at H
      by_cases c60 : x48_27 = true
      ·subst c60
       rw [if_pos rfl] at H
       obtain rfl := Option.some.inj H
       exact absurd HR.out (by decide)
      ·replace c60 := Bool.eq_false_iff.mpr c60
       subst c60
       rw [if_neg (show ¬ (false = true) by decide)] at H
       replace H := Option.bind_eq_some_iff.mp H
       obtain ⟨t805, A610, H⟩ := H
       try dsimp only at H
       have A61 := Q.a A610
       clear A610
       by_cases c62 : t805 = 0
       ·rw [if_pos c62] at H
        have c62b0 : (t805 == 0) = true := beq_iff_eq.mpr c62
        have c62b1 : (t805 != 0) = false := bne_eq_false_iff_eq.mpr c62
        clear c62
        replace H := Option.bind_eq_some_iff.mp H
        obtain ⟨t806, A630, H⟩ := H
        try dsimp only at H
        have A63 := Q.a A630
        clear A630
        by_cases c64 : t806 = true
        ·subst c64
         rw [if_pos rfl] at H
         replace H := Option.bind_eq_some_iff.mp H
         obtain ⟨t807, A650, H⟩ := H
         try dsimp only at H
         have A65 := Q.a A650
         clear A650
         by_cases c66 : t807 = 0
         ·rw [if_pos c66] at H
          have c66b0 : (t807 == 0) = true := beq_iff_eq.mpr c66
          have c66b1 : (t807 != 0) = false := bne_eq_false_iff_eq.mpr c66
          clear c66
          replace H := Option.bind_eq_some_iff.mp H
          obtain ⟨t808, A670, H⟩ := H
          try dsimp only at H
          have A67 := Q.a A670
          clear A670
          by_cases c68 : t808 = 0
          ·rw [if_pos c68] at H
           have c68b0 : (t808 == 0) = true := beq_iff_eq.mpr c68
           have c68b1 : (t808 != 0) = false := bne_eq_false_iff_eq.mpr c68
           clear c68
           replace H := Option.bind_eq_some_iff.mp H
           obtain ⟨t809, A690, H⟩ := H
           try dsimp only at H
           have A69 := Q.a A690
           clear A690
           obtain rfl := Option.some.inj H
           have hnb70 := NB798_789.out
           have hnc70 := NB789_798.out
           have hnb71 := NB798_790.out
           have hnc71 := NB790_798.out
           have hnb72 := NB798_791.out
           have hnc72 := NB791_798.out
           have hcz73_0 : wc.cell? ⟨gb798, 0, none⟩ = some (.bool t796) := (blk_cell BK798.out 0).trans rfl
           have hcz73_1 : wc.cell? ⟨gb798, 1, none⟩ = some (.string t797) := (blk_cell BK798.out 1).trans rfl
           have hfz73_0 := blk_frozen BK798.out 0
           have hfz73_1 := blk_frozen BK798.out 1
           go_wp2_with (first | ((with_reducible refine gate_callee (f := 50) rfl ?_); refine Q.gl 50 Tryd.func50 #[.agg #[.bool t796, .string t797]] rfl rfl rfl rfl ?_; (with_reducible refine (integer_Sign.calls kj27 t796 t797 t805 _ A61.out).mono ?_); rintro e w74 ⟨rfl, hb⟩; refine ⟨_, rfl, ?_⟩; replace BK789 := Q.a (Q.bb BK789 hb); replace BK790 := Q.a (Q.bb BK790 hb); replace BK791 := Q.a (Q.bb BK791 hb); replace BK798 := Q.a (Q.bb BK798 hb); replace HB := Q.a (below_step (Q.bw4 HB GE789 GE790 GE791 GE798) hb); (try clear hb)) | ((with_reducible refine gate_callee (f := 37) rfl ?_); refine Q.gl 52 Tryd.func37 #[] rfl rfl rfl rfl ?_; (with_reducible refine (voussoirlaw02_fixed.calls kj27  true rfl _ ?side1 A63.out).mono ?_); (case side1 => exact X.G.below HG.out (Q.bw4 HB GE789 GE790 GE791 GE798)); rintro e w75 ⟨rfl, hb⟩; refine ⟨_, rfl, ?_⟩; replace BK789 := Q.a (Q.bb BK789 hb); replace BK790 := Q.a (Q.bb BK790 hb); replace BK791 := Q.a (Q.bb BK791 hb); replace BK798 := Q.a (Q.bb BK798 hb); replace HB := Q.a (below_step (Q.bw4 HB GE789 GE790 GE791 GE798) hb); (try clear hb); have hnb76 := NB789_790.out; have hnc76 := NB790_789.out; have hnb77 := NB789_791.out; have hnc77 := NB791_789.out; have hcz78_0 : w75.cell? ⟨gb789, 0, none⟩ = some (.bool a0_0) := (blk_cell BK789.out 0).trans rfl; have hcz78_1 : w75.cell? ⟨gb789, 1, none⟩ = some (.string a0_1) := (blk_cell BK789.out 1).trans rfl; have hfz78_0 := blk_frozen BK789.out 0; have hfz78_1 := blk_frozen BK789.out 1) | (go_at_call 50; (with_reducible refine (integer_Sign.calls kj27 a0_0 a0_1 t807 _ A65.out).mono ?_); rintro e w79 ⟨rfl, hb⟩; replace BK789 := Q.a (Q.bb BK789 hb); replace BK790 := Q.a (Q.bb BK790 hb); replace BK791 := Q.a (Q.bb BK791 hb); replace BK798 := Q.a (Q.bb BK798 hb); replace HB := Q.a (below_step (Q.bw4 HB GE789 GE790 GE791 GE798) hb); (try clear hb); have hnb80 := NB790_791.out; have hnc80 := NB791_790.out; have hcz81_0 : w79.cell? ⟨gb790, 0, none⟩ = some (.bool a1_0) := (blk_cell BK790.out 0).trans rfl; have hcz81_1 : w79.cell? ⟨gb790, 1, none⟩ = some (.string a1_1) := (blk_cell BK790.out 1).trans rfl; have hfz81_0 := blk_frozen BK790.out 0; have hfz81_1 := blk_frozen BK790.out 1) | (go_at_call 50; (with_reducible refine (integer_Sign.calls kj27 a1_0 a1_1 t808 _ A67.out).mono ?_); rintro e w82 ⟨rfl, hb⟩; replace BK789 := Q.a (Q.bb BK789 hb); replace BK790 := Q.a (Q.bb BK790 hb); replace BK791 := Q.a (Q.bb BK791 hb); replace BK798 := Q.a (Q.bb BK798 hb); replace HB := Q.a (below_step (Q.bw4 HB GE789 GE790 GE791 GE798) hb); (try clear hb); have hcz83_0 : w82.cell? ⟨gb791, 0, none⟩ = some (.bool a2_0) := (blk_cell BK791.out 0).trans rfl; have hcz83_1 : w82.cell? ⟨gb791, 1, none⟩ = some (.string a2_1) := (blk_cell BK791.out 1).trans rfl; have hfz83_0 := blk_frozen BK791.out 0; have hfz83_1 := blk_frozen BK791.out 1) | (go_at_call 50; (with_reducible refine (integer_Sign.calls kj27 a2_0 a2_1 t809 _ A69.out).mono ?_); rintro e w84 ⟨rfl, hb⟩; replace BK789 := Q.a (Q.bb BK789 hb); replace BK790 := Q.a (Q.bb BK790 hb); replace BK791 := Q.a (Q.bb BK791 hb); replace BK798 := Q.a (Q.bb BK798 hb); replace HB := Q.a (below_step (Q.bw4 HB GE789 GE790 GE791 GE798) hb); (try clear hb)))
           go_ret
           exact ⟨Q.en, Q.bw4 HB GE789 GE790 GE791 GE798⟩
          ·rw [if_neg c68] at H
           have c68b0 : (t808 == 0) = false := beq_eq_false_iff_ne.mpr c68
           have c68b1 : (t808 != 0) = true := bne_iff_ne.mpr c68
           obtain rfl := Option.some.inj H
           exact absurd HR.out (by decide)
         ·rw [if_neg c66] at H
          have c66b0 : (t807 == 0) = false := beq_eq_false_iff_ne.mpr c66
          have c66b1 : (t807 != 0) = true := bne_iff_ne.mpr c66
          obtain rfl := Option.some.inj H
          exact absurd HR.out (by decide)
        ·replace c64 := Bool.eq_false_iff.mpr c64
         subst c64
         rw [if_neg (show ¬ (false = true) by decide)] at H
         obtain rfl := Option.some.inj H
         exact absurd HR.out (by decide)
       ·rw [if_neg c62] at H
        have c62b0 : (t805 == 0) = false := beq_eq_false_iff_ne.mpr c62
        have c62b1 : (t805 != 0) = true := bne_iff_ne.mpr c62
        obtain ⟨y810, hy810⟩ : ∃ y_ : List (S36), y_ = (([(⟨a0_0, a0_1⟩ : S36), (⟨a1_0, a1_1⟩ : S36), (⟨a2_0, a2_1⟩ : S36)] : List (S36))) := ⟨_, rfl⟩
        replace H : (voussoirlaw02_IntegerGcd.l0 kj27 ([] : List (S36)) y810 (y810.length : Int) 0 t796 t797) = some r := by first | (rw [hy810]; with_reducible exact H) | (have H2_ := (Option.bind_some _ _).symm.trans H; rw [hy810]; with_reducible exact H2_) | (have H2_ := (Option.bind_some _ _).symm.trans H; with_reducible exact H2_) | with_reducible exact H | (rw [hy810]; exact H) | exact H
        have Ny810 := Q.a hy810
        clear hy810
        have H' := Q.a H
        clear H
        have hnb114 := NB798_789.out
        have hnc114 := NB789_798.out
        have hnb115 := NB798_790.out
        have hnc115 := NB790_798.out
        have hnb116 := NB798_791.out
        have hnc116 := NB791_798.out
        have hcz117_0 : wc.cell? ⟨gb798, 0, none⟩ = some (.bool t796) := (blk_cell BK798.out 0).trans rfl
        have hcz117_1 : wc.cell? ⟨gb798, 1, none⟩ = some (.string t797) := (blk_cell BK798.out 1).trans rfl
        have hfz117_0 := blk_frozen BK798.out 0
        have hfz117_1 := blk_frozen BK798.out 1
        go_wp2_with (first | ((with_reducible refine gate_callee (f := 50) rfl ?_); refine Q.gl 50 Tryd.func50 #[.agg #[.bool t796, .string t797]] rfl rfl rfl rfl ?_; (with_reducible refine (integer_Sign.calls kj27 t796 t797 t805 _ A61.out).mono ?_); rintro e w118 ⟨rfl, hb⟩; refine ⟨_, rfl, ?_⟩; replace BK789 := Q.a (Q.bb BK789 hb); replace BK790 := Q.a (Q.bb BK790 hb); replace BK791 := Q.a (Q.bb BK791 hb); replace BK798 := Q.a (Q.bb BK798 hb); replace HB := Q.a (below_step (Q.bw4 HB GE789 GE790 GE791 GE798) hb); (try clear hb); have hnb119 := NB789_790.out; have hnc119 := NB790_789.out; have hnb120 := NB789_791.out; have hnc120 := NB791_789.out; have hcz121_0 : w118.cell? ⟨gb789, 0, none⟩ = some (.bool a0_0) := (blk_cell BK789.out 0).trans rfl; have hcz121_1 : w118.cell? ⟨gb789, 1, none⟩ = some (.string a0_1) := (blk_cell BK789.out 1).trans rfl; have hfz121_0 := blk_frozen BK789.out 0; have hfz121_1 := blk_frozen BK789.out 1; have hnb122 := NB790_791.out; have hnc122 := NB791_790.out; have hcz123_0 : w118.cell? ⟨gb790, 0, none⟩ = some (.bool a1_0) := (blk_cell BK790.out 0).trans rfl; have hcz123_1 : w118.cell? ⟨gb790, 1, none⟩ = some (.string a1_1) := (blk_cell BK790.out 1).trans rfl; have hfz123_0 := blk_frozen BK790.out 0; have hfz123_1 := blk_frozen BK790.out 1; have hcz124_0 : w118.cell? ⟨gb791, 0, none⟩ = some (.bool a2_0) := (blk_cell BK791.out 0).trans rfl; have hcz124_1 : w118.cell? ⟨gb791, 1, none⟩ = some (.string a2_1) := (blk_cell BK791.out 1).trans rfl; have hfz124_0 := blk_frozen BK791.out 0; have hfz124_1 := blk_frozen BK791.out 1) | ((with_reducible refine gate_dst (N := 71) rfl ?_); (try (refine gate_guard (by rfl) ?_; dsimp only)); refine Kd.R_lit k36 _ 36 ?hg (N := 71) ?hd (xs := ([(⟨a0_0, a0_1⟩ : S36), (⟨a1_0, a1_1⟩ : S36), (⟨a2_0, a2_1⟩ : S36)] : List (S36))) (inner := [.bool a0_0, .string a0_1, .bool a1_0, .string a1_1, .bool a2_0, .string a2_1]) (ok := fun _ => True) (okp := fun _ => True) ?hr ?hp (fun _ hk => hk) trivial (Below.refl _ _) (Nat.le_refl _) (by simp) ?_; (case hd => rfl); (case hg => rfl); (case hr => first | (go_simp; done) | (go_simp; rfl)); (case hp => exact (Reps.c2 (show Kd.M k36 _ _ _ (⟨a0_0, a0_1⟩ : S36) [.bool a0_0, .string a0_1] from (k36_mkM _ _ _ (⟨a0_0, a0_1⟩ : S36) )) (Reps.c2 (show Kd.M k36 _ _ _ (⟨a1_0, a1_1⟩ : S36) [.bool a1_0, .string a1_1] from (k36_mkM _ _ _ (⟨a1_0, a1_1⟩ : S36) )) (Reps.c2 (show Kd.M k36 _ _ _ (⟨a2_0, a2_1⟩ : S36) [.bool a2_0, .string a2_1] from (k36_mkM _ _ _ (⟨a2_0, a2_1⟩ : S36) )) (Reps.none _ _))))); intro v811 w125 ho126 hb hg_ hnew_; clear hg_ hnew_; (first | rw [← Ny810.out] at ho126 | (simp only [Int.reduceToNat] at ho126; rw [← Ny810.out] at ho126)); replace HO812 := Q.a (Kd.R_lower (Kd.R_newB (Kd.R_newB (Kd.R_newB (Kd.R_newB ho126 (g := gb789) (o := .cells #[.bool a0_0, .string a0_1] 36 (0, 0)) (Q.kb BK789)) (g := gb790) (o := .cells #[.bool a1_0, .string a1_1] 36 (0, 0)) (Q.kb BK790)) (g := gb791) (o := .cells #[.bool a2_0, .string a2_1] 36 (0, 0)) (Q.kb BK791)) (g := gb798) (o := .cells #[.bool t796, .string t797] 36 (0, 0)) (Q.kb BK798)) (below_size (Q.bw4 HB GE789 GE790 GE791 GE798))); replace BK789 := Q.a (Q.bb BK789 hb); replace BK790 := Q.a (Q.bb BK790 hb); replace BK791 := Q.a (Q.bb BK791 hb); replace BK798 := Q.a (Q.bb BK798 hb); replace HB := Q.a (below_step (Q.bw4 HB GE789 GE790 GE791 GE798) hb); clear hb ho126; obtain ⟨Ao127, co127, eo127⟩ := Kd.R_slice HO812.out; subst eo127))
        go_loopg [8, 73] kj27 (fun kq v8 v73 w' => ∃ (x8_3 : List (S36)) (x73_3 : Int), v73 = .int .i64 x73_3 ∧ Aside0 (voussoirlaw02_IntegerGcd.l0 kq x8_3 y810 (y810.length : Int) x73_3 t796 t797 = some r) ∧ Aside0 (kq ≤ kj27) ∧ Aside0 (Kd.R k36 36 w' w.heap.size (fun k_ => some k_ ≠ ((.slice Ao127 y810.length co127) : Value).ownBlock ∧ k_ ≠ gb789 ∧ k_ ≠ gb790 ∧ k_ ≠ gb791 ∧ k_ ≠ gb798) v8 x8_3) ∧ Aside0 (Kd.R k36 36 w' w.heap.size (fun k_ => some k_ ≠ (v8 : Value).ownBlock ∧ k_ ≠ gb789 ∧ k_ ≠ gb790 ∧ k_ ≠ gb791 ∧ k_ ≠ gb798) (.slice Ao127 y810.length co127) y810) ∧ Aside0 (w'.heap[gb789]? = some (.cells #[.bool a0_0, .string a0_1] 36 (0, 0))) ∧ Aside0 (w'.heap[gb790]? = some (.cells #[.bool a1_0, .string a1_1] 36 (0, 0))) ∧ Aside0 (w'.heap[gb791]? = some (.cells #[.bool a2_0, .string a2_1] 36 (0, 0))) ∧ Aside0 (w'.heap[gb798]? = some (.cells #[.bool t796, .string t797] 36 (0, 0))) ∧ Aside0 (Below w.heap.size w w'))
        case atStart => exact ⟨(([] : List (S36))), (0), Q.rs, H', ⟨Nat.le_refl _⟩, ⟨by first | exact Kd.R_nil _ _ _ _ _ | exact Kd.N_nil _ _ _ _ _ | exact Kd.V_nil _ _ _ _ _ | exact Kd.Q_nil _ _ _ _ _ | exact Kd.S_nil _ _ _ _ _⟩, ⟨by (with_reducible repeat (first | apply Kd.R_alloc | apply Kd.R_drewN | apply Kd.R_drew)); exact Kd.R_mono HO812.out (fun _ hk => ⟨(by simp [Value.ownBlock]), ⟨hk.1.1.1.2, ⟨hk.1.1.2, ⟨hk.1.2, hk.2⟩⟩⟩⟩)⟩, ⟨Q.kb BK789⟩, ⟨Q.kb BK790⟩, ⟨Q.kb BK791⟩, ⟨Q.kb BK798⟩, ⟨Q.bw4 HB GE789 GE790 GE791 GE798⟩⟩
        case round =>
         clear H'
         try clear c1
         try clear c2
         try clear p2
         try clear c3
         try clear c4
         try clear c5
         try clear c6
         try clear c7
         try clear c8
         try clear c8b0
         try clear c8b1
         try clear c9
         try clear c10
         try clear c11
         try clear c12
         try clear c12b0
         try clear c12b1
         try clear c13
         try clear c14
         try clear c16
         try clear c18
         try clear c19
         try clear c21
         try clear c24
         try clear c29
         try clear c30
         try clear c32
         try clear c37
         try clear c40
         try clear c41
         try clear c42
         try clear c45
         try clear c45b0
         try clear c50
         try clear c55
         try clear c60
         try clear c62
         try clear c62b0
         try clear c62b1
         try clear c64
         try clear c66
         try clear c66b0
         try clear c66b1
         try clear c68
         try clear c68b0
         try clear c68b1
         try clear c70
         try clear c71
         try clear c72
         try clear c76
         try clear c77
         try clear c80
         try clear c85
         try clear c86
         try clear c87
         try clear c91
         try clear c92
         try clear c95
         try clear c98
         try clear c99
         try clear c100
         try clear c104
         try clear c105
         try clear c108
         try clear c109
         try clear c110
         try clear c114
         try clear c115
         try clear c116
         try clear c119
         try clear c120
         try clear c122
         try clear hcz101_0
         try clear hcz101_1
         try clear hcz106_0
         try clear hcz106_1
         try clear hcz111_0
         try clear hcz111_1
         try clear hcz117_0
         try clear hcz117_1
         try clear hcz11_0
         try clear hcz11_1
         try clear hcz121_0
         try clear hcz121_1
         try clear hcz123_0
         try clear hcz123_1
         try clear hcz124_0
         try clear hcz124_1
         try clear hcz15_0
         try clear hcz15_1
         try clear hcz17_0
         try clear hcz17_1
         try clear hcz20_0
         try clear hcz20_1
         try clear hcz22_0
         try clear hcz22_1
         try clear hcz23_0
         try clear hcz23_1
         try clear hcz31_0
         try clear hcz31_1
         try clear hcz33_0
         try clear hcz33_1
         try clear hcz34_0
         try clear hcz34_1
         try clear hcz43_0
         try clear hcz43_1
         try clear hcz73_0
         try clear hcz73_1
         try clear hcz78_0
         try clear hcz78_1
         try clear hcz81_0
         try clear hcz81_1
         try clear hcz83_0
         try clear hcz83_1
         try clear hcz88_0
         try clear hcz88_1
         try clear hcz93_0
         try clear hcz93_1
         try clear hcz96_0
         try clear hcz96_1
         try clear hfz101_0
         try clear hfz101_1
         try clear hfz106_0
         try clear hfz106_1
         try clear hfz111_0
         try clear hfz111_1
         try clear hfz117_0
         try clear hfz117_1
         try clear hfz11_0
         try clear hfz11_1
         try clear hfz121_0
         try clear hfz121_1
         try clear hfz123_0
         try clear hfz123_1
         try clear hfz124_0
         try clear hfz124_1
         try clear hfz15_0
         try clear hfz15_1
         try clear hfz17_0
         try clear hfz17_1
         try clear hfz20_0
         try clear hfz20_1
         try clear hfz22_0
         try clear hfz22_1
         try clear hfz23_0
         try clear hfz23_1
         try clear hfz31_0
         try clear hfz31_1
         try clear hfz33_0
         try clear hfz33_1
         try clear hfz34_0
         try clear hfz34_1
         try clear hfz43_0
         try clear hfz43_1
         try clear hfz73_0
         try clear hfz73_1
         try clear hfz78_0
         try clear hfz78_1
         try clear hfz81_0
         try clear hfz81_1
         try clear hfz83_0
         try clear hfz83_1
         try clear hfz88_0
         try clear hfz88_1
         try clear hfz93_0
         try clear hfz93_1
         try clear hfz96_0
         try clear hfz96_1
         try clear p2
         obtain ⟨x8_3, x73_3, rfl, HA, HK3, HO_8, HO_71, BK789, BK790, BK791, BK798, HB⟩ := hrel
         cases gk with
         | zero => exact absurd HA.out (by simp [voussoirlaw02_IntegerGcd.l0])
         | succ k3 =>
          have H := HA.out
          clear HA
          simp only [voussoirlaw02_IntegerGcd.l0] at H
          by_cases c128 : x73_3 < (y810.length : Int)
          ·rw [if_pos c128] at H
           have c128b0 : decide (x73_3 < (y810.length : Int)) = true := decide_eq_true c128
           clear c128
           by_cases c129 : 0 ≤ x73_3
           ·rw [if_pos c129] at H
            have c129b0 : decide (0 ≤ x73_3) = true := decide_eq_true c129
            clear c129
            by_cases c130 : x73_3 < (y810.length : Int)
            ·rw [if_pos c130] at H
             have c130b0 : decide (x73_3 < (y810.length : Int)) = true := decide_eq_true c130
             clear c130
             replace H := Option.bind_eq_some_iff.mp H
             obtain ⟨⟨t820, t821, t822, t823, t824⟩, A1310, H⟩ := H
             try dsimp only at H
             have A131 := Q.a A1310
             clear A1310
             by_cases c132 : t824 = true
             ·subst c132
              rw [if_pos rfl] at H
              replace H := Option.bind_eq_some_iff.mp H
              obtain ⟨t827, A1330, H⟩ := H
              try dsimp only at H
              have A133 := Q.a A1330
              clear A1330
              by_cases c134 : t827 = 0
              ·rw [if_pos c134] at H
               have c134b0 : (t827 == 0) = true := beq_iff_eq.mpr c134
               have c134b1 : (t827 != 0) = false := bne_eq_false_iff_eq.mpr c134
               clear c134
               by_cases c135 : x8_3.length < 5864062014805
               ·rw [if_pos c135] at H
                have LMc135 := Q.a c135
                clear c135
                obtain ⟨y828, hy828⟩ : ∃ y_ : List (S36), y_ = (x8_3 ++ [(⟨t820, t821⟩ : S36)]) := ⟨_, rfl⟩
                replace H : (voussoirlaw02_IntegerGcd.l0 k3 y828 y810 (y810.length : Int) (wrap64 (x73_3 + 1)) t796 t797) = some r := by first | (rw [hy828]; with_reducible exact H) | (have H2_ := (Option.bind_some _ _).symm.trans H; rw [hy828]; with_reducible exact H2_) | (have H2_ := (Option.bind_some _ _).symm.trans H; with_reducible exact H2_) | with_reducible exact H | (rw [hy828]; exact H) | exact H
                have Ny828 := Q.a hy828
                clear hy828
                have H' := Q.a H
                clear H
                have p818 : 0 ≤ (x73_3 : Int) := of_decide_eq_true (by first | (with_reducible assumption) | assumption)
                have q818 : x73_3 < (y810.length : Int) := of_decide_eq_true (by first | (with_reducible assumption) | assumption)
                obtain ⟨ad818, e818, hx818_0, hx818_1⟩ := at_T36 (Kd.R_reads' HO_71.out).2.2 x73_3 p818 q818
                cases e818
                replace p818 := eq_true p818
                replace q818 := eq_true q818
                go_wp2_with (first | ((with_reducible refine gate_dst (N := 10) rfl ?_); (try (refine gate_guard (by rfl) ?_; dsimp only)); refine Q.bx 10 #[.bool false, .string (⟨#[]⟩ : ByteArray)] 36 rfl rfl ?_; intro gb819 hg w136 hbox hb; replace HO_8 := Q.a (Kd.R_below (Kd.R_elderB (Q.kr HO_8) gb819 (Nat.le_of_eq hg.symm)) hb); replace HO_71 := Q.a (Kd.R_below (Kd.R_elderB (Q.kr HO_71) gb819 (Nat.le_of_eq hg.symm)) hb); replace BK819 := Q.a (hbox); replace GW819 := Q.a (Q.gs hg (below_size (Q.bw4 HB GE789 GE790 GE791 GE798))); replace GE819 := GW819; replace HB := Q.a (below_step (Q.bw4 HB GE789 GE790 GE791 GE798) hb); replace NB789_819 := Q.a (Q.nl hg BK789); replace NB819_789 := Q.a (Q.ng hg BK789); replace BK789 := Q.a (Q.bb BK789 hb); replace NB790_819 := Q.a (Q.nl hg BK790); replace NB819_790 := Q.a (Q.ng hg BK790); replace BK790 := Q.a (Q.bb BK790 hb); replace NB791_819 := Q.a (Q.nl hg BK791); replace NB819_791 := Q.a (Q.ng hg BK791); replace BK791 := Q.a (Q.bb BK791 hb); replace NB798_819 := Q.a (Q.nl hg BK798); replace NB819_798 := Q.a (Q.ng hg BK798); replace BK798 := Q.a (Q.bb BK798 hb); clear hb hbox hg; have hnb137 := NB819_789.out; have hnc137 := NB789_819.out; have hnb138 := NB819_790.out; have hnc138 := NB790_819.out; have hnb139 := NB819_791.out; have hnc139 := NB791_819.out; have hnb140 := NB819_798.out; have hnc140 := NB798_819.out; have hcz141_0 : w136.cell? ⟨gb819, 0, none⟩ = some (.bool false) := (blk_cell BK819.out 0).trans rfl; have hcz141_1 : w136.cell? ⟨gb819, 1, none⟩ = some (.string (⟨#[]⟩ : ByteArray)) := (blk_cell BK819.out 1).trans rfl; have hfz141_0 := blk_frozen BK819.out 0; have hfz141_1 := blk_frozen BK819.out 1; have hnb142 := NB798_789.out; have hnc142 := NB789_798.out; have hnb143 := NB798_790.out; have hnc143 := NB790_798.out; have hnb144 := NB798_791.out; have hnc144 := NB791_798.out; have hcz145_0 : w136.cell? ⟨gb798, 0, none⟩ = some (.bool t796) := (blk_cell BK798.out 0).trans rfl; have hcz145_1 : w136.cell? ⟨gb798, 1, none⟩ = some (.string t797) := (blk_cell BK798.out 1).trans rfl; have hfz145_0 := blk_frozen BK798.out 0; have hfz145_1 := blk_frozen BK798.out 1) | ((with_reducible refine gate_callee (f := 38) rfl ?_); refine Q.gl 80 Tryd.func38 #[.agg #[.bool ((rd_T36 y810 x73_3).f0), .string ((rd_T36 y810 x73_3).f1)], .agg #[.bool t796, .string t797]] rfl rfl rfl rfl ?_; (with_reducible refine (integer_Div.calls k3 ((rd_T36 y810 x73_3).f0) ((rd_T36 y810 x73_3).f1) t796 t797 t820 t821 t822 t823 true _ A131.out).mono ?_); rintro e w146 ⟨rfl, hb⟩; refine ⟨_, rfl, ?_⟩; replace HO_8 := Q.a (Kd.R_below (by (with_reducible repeat (first | apply Kd.R_alloc | apply Kd.R_drewN | apply Kd.R_drew)); exact (Kd.R_mono (Kd.R_far (p := ⟨gb819, 1, none⟩) (Kd.R_far (p := ⟨gb819, 0, none⟩) (Kd.R_mono HO_8.out (fun k_ hk => (⟨hk, hk.2⟩ : _ ∧ k_ ≠ gb819))) (fun _ hk => hk.2) (.bool ((rd_T36 y810 x73_3).f0))) (fun _ hk => hk.2) (.string ((rd_T36 y810 x73_3).f1))) (fun _ h_ => h_.1))) hb); replace HO_71 := Q.a (Kd.R_below (by (with_reducible repeat (first | apply Kd.R_alloc | apply Kd.R_drewN | apply Kd.R_drew)); exact (Kd.R_mono (Kd.R_far (p := ⟨gb819, 1, none⟩) (Kd.R_far (p := ⟨gb819, 0, none⟩) (Kd.R_mono HO_71.out (fun k_ hk => (⟨hk, hk.2⟩ : _ ∧ k_ ≠ gb819))) (fun _ hk => hk.2) (.bool ((rd_T36 y810 x73_3).f0))) (fun _ hk => hk.2) (.string ((rd_T36 y810 x73_3).f1))) (fun _ h_ => h_.1))) hb); replace BK789 := Q.a (Q.bf BK789 NB789_819 hb); replace BK790 := Q.a (Q.bf BK790 NB790_819 hb); replace BK791 := Q.a (Q.bf BK791 NB791_819 hb); replace BK798 := Q.a (Q.bf BK798 NB798_819 hb); replace BK819 := Q.a (blk_below (g := gb819) (o := .cells #[.bool ((rd_T36 y810 x73_3).f0), .string ((rd_T36 y810 x73_3).f1)] 36 (0, 0)) (by (with_reducible repeat (first | refine blk_drewN ?_ _ | refine blk_drew ?_ | refine blk_alloc ?_ _)); refine blk_put (cs := #[.bool ((rd_T36 y810 x73_3).f0), .string (⟨#[]⟩ : ByteArray)]) ?_ 1 _ rfl; (with_reducible repeat (first | refine blk_drewN ?_ _ | refine blk_drew ?_ | refine blk_alloc ?_ _)); refine blk_put (cs := #[.bool false, .string (⟨#[]⟩ : ByteArray)]) ?_ 0 _ (by first | rfl | (cases a0.toList <;> rfl) | (cases a1.toList <;> rfl)); (with_reducible repeat (first | refine blk_drewN ?_ _ | refine blk_drew ?_ | refine blk_alloc ?_ _)); exact BK819.out) hb); replace HB := Q.a (below_step (Q.bw5 HB GE789 GE790 GE791 GE798 GE819) hb); (try clear hb); (try clear hk)) | ((with_reducible refine gate_dst (N := 11) rfl ?_); (try (refine gate_guard (by rfl) ?_; dsimp only)); refine Q.bx 11 #[.bool false, .string (⟨#[]⟩ : ByteArray)] 36 rfl rfl ?_; intro gb825 hg w147 hbox hb; replace HO_8 := Q.a (Kd.R_below (Kd.R_elderB (Q.kr HO_8) gb825 (Nat.le_of_eq hg.symm)) hb); replace HO_71 := Q.a (Kd.R_below (Kd.R_elderB (Q.kr HO_71) gb825 (Nat.le_of_eq hg.symm)) hb); replace BK825 := Q.a (hbox); replace GW825 := Q.a (Q.gs hg (below_size (Q.bw5 HB GE789 GE790 GE791 GE798 GE819))); replace GE825 := GW825; replace HB := Q.a (below_step (Q.bw5 HB GE789 GE790 GE791 GE798 GE819) hb); replace NB789_825 := Q.a (Q.nl hg BK789); replace NB825_789 := Q.a (Q.ng hg BK789); replace BK789 := Q.a (Q.bb BK789 hb); replace NB790_825 := Q.a (Q.nl hg BK790); replace NB825_790 := Q.a (Q.ng hg BK790); replace BK790 := Q.a (Q.bb BK790 hb); replace NB791_825 := Q.a (Q.nl hg BK791); replace NB825_791 := Q.a (Q.ng hg BK791); replace BK791 := Q.a (Q.bb BK791 hb); replace NB798_825 := Q.a (Q.nl hg BK798); replace NB825_798 := Q.a (Q.ng hg BK798); replace BK798 := Q.a (Q.bb BK798 hb); replace NB819_825 := Q.a (Q.nl hg BK819); replace NB825_819 := Q.a (Q.ng hg BK819); replace BK819 := Q.a (Q.bb BK819 hb); clear hb hbox hg) | ((with_reducible refine gate_dst (N := 12) rfl ?_); (try (refine gate_guard (by rfl) ?_; dsimp only)); refine Q.bx 12 #[.bool false, .string (⟨#[]⟩ : ByteArray)] 36 rfl rfl ?_; intro gb826 hg w148 hbox hb; replace HO_8 := Q.a (Kd.R_below (Kd.R_elderB (Q.kr HO_8) gb826 (Nat.le_of_eq hg.symm)) hb); replace HO_71 := Q.a (Kd.R_below (Kd.R_elderB (Q.kr HO_71) gb826 (Nat.le_of_eq hg.symm)) hb); replace BK826 := Q.a (hbox); replace GW826 := Q.a (Q.gs hg (below_size (Q.bw6 HB GE789 GE790 GE791 GE798 GE819 GE825))); replace GE826 := GW826; replace HB := Q.a (below_step (Q.bw6 HB GE789 GE790 GE791 GE798 GE819 GE825) hb); replace NB789_826 := Q.a (Q.nl hg BK789); replace NB826_789 := Q.a (Q.ng hg BK789); replace BK789 := Q.a (Q.bb BK789 hb); replace NB790_826 := Q.a (Q.nl hg BK790); replace NB826_790 := Q.a (Q.ng hg BK790); replace BK790 := Q.a (Q.bb BK790 hb); replace NB791_826 := Q.a (Q.nl hg BK791); replace NB826_791 := Q.a (Q.ng hg BK791); replace BK791 := Q.a (Q.bb BK791 hb); replace NB798_826 := Q.a (Q.nl hg BK798); replace NB826_798 := Q.a (Q.ng hg BK798); replace BK798 := Q.a (Q.bb BK798 hb); replace NB819_826 := Q.a (Q.nl hg BK819); replace NB826_819 := Q.a (Q.ng hg BK819); replace BK819 := Q.a (Q.bb BK819 hb); replace NB825_826 := Q.a (Q.nl hg BK825); replace NB826_825 := Q.a (Q.ng hg BK825); replace BK825 := Q.a (Q.bb BK825 hb); clear hb hbox hg; have hnb149 := NB825_789.out; have hnc149 := NB789_825.out; have hnb150 := NB825_790.out; have hnc150 := NB790_825.out; have hnb151 := NB825_791.out; have hnc151 := NB791_825.out; have hnb152 := NB825_798.out; have hnc152 := NB798_825.out; have hnb153 := NB825_819.out; have hnc153 := NB819_825.out; have hnb154 := NB825_826.out; have hnc154 := NB826_825.out; have hcz155_0 : w148.cell? ⟨gb825, 0, none⟩ = some (.bool false) := (blk_cell BK825.out 0).trans rfl; have hcz155_1 : w148.cell? ⟨gb825, 1, none⟩ = some (.string (⟨#[]⟩ : ByteArray)) := (blk_cell BK825.out 1).trans rfl; have hfz155_0 := blk_frozen BK825.out 0; have hfz155_1 := blk_frozen BK825.out 1; have hnb156 := NB826_789.out; have hnc156 := NB789_826.out; have hnb157 := NB826_790.out; have hnc157 := NB790_826.out; have hnb158 := NB826_791.out; have hnc158 := NB791_826.out; have hnb159 := NB826_798.out; have hnc159 := NB798_826.out; have hnb160 := NB826_819.out; have hnc160 := NB819_826.out; have hcz161_0 : w148.cell? ⟨gb826, 0, none⟩ = some (.bool false) := (blk_cell BK826.out 0).trans rfl; have hcz161_1 : w148.cell? ⟨gb826, 1, none⟩ = some (.string (⟨#[]⟩ : ByteArray)) := (blk_cell BK826.out 1).trans rfl; have hfz161_0 := blk_frozen BK826.out 0; have hfz161_1 := blk_frozen BK826.out 1) | (go_at_call 50; (with_reducible refine (integer_Sign.calls k3 t822 t823 t827 _ A133.out).mono ?_); rintro e w162 ⟨rfl, hb⟩; replace HO_8 := Q.a (Kd.R_below (by (with_reducible repeat (first | apply Kd.R_alloc | apply Kd.R_drewN | apply Kd.R_drew)); exact (Kd.R_mono (Kd.R_mono (Kd.R_far (p := ⟨gb826, 1, none⟩) (Kd.R_far (p := ⟨gb826, 0, none⟩) (Kd.R_far (p := ⟨gb825, 1, none⟩) (Kd.R_far (p := ⟨gb825, 0, none⟩) (Kd.R_mono (Kd.R_mono HO_8.out (fun k_ hk => (⟨hk, hk.1.2⟩ : _ ∧ k_ ≠ gb825))) (fun k_ hk => (⟨hk, hk.1.2⟩ : _ ∧ k_ ≠ gb826))) (fun _ hk => hk.1.2) (.bool t820)) (fun _ hk => hk.1.2) (.string t821)) (fun _ hk => hk.2) (.bool t822)) (fun _ hk => hk.2) (.string t823)) (fun _ h_ => h_.1)) (fun _ h_ => h_.1))) hb); replace HO_71 := Q.a (Kd.R_below (by (with_reducible repeat (first | apply Kd.R_alloc | apply Kd.R_drewN | apply Kd.R_drew)); exact (Kd.R_mono (Kd.R_mono (Kd.R_far (p := ⟨gb826, 1, none⟩) (Kd.R_far (p := ⟨gb826, 0, none⟩) (Kd.R_far (p := ⟨gb825, 1, none⟩) (Kd.R_far (p := ⟨gb825, 0, none⟩) (Kd.R_mono (Kd.R_mono HO_71.out (fun k_ hk => (⟨hk, hk.1.2⟩ : _ ∧ k_ ≠ gb825))) (fun k_ hk => (⟨hk, hk.1.2⟩ : _ ∧ k_ ≠ gb826))) (fun _ hk => hk.1.2) (.bool t820)) (fun _ hk => hk.1.2) (.string t821)) (fun _ hk => hk.2) (.bool t822)) (fun _ hk => hk.2) (.string t823)) (fun _ h_ => h_.1)) (fun _ h_ => h_.1))) hb); replace BK789 := Q.a (blk_below (g := gb789) (o := .cells #[.bool a0_0, .string a0_1] 36 (0, 0)) (by (with_reducible repeat (first | refine blk_drewN ?_ _ | refine blk_drew ?_ | refine blk_alloc ?_ _)); refine blk_far ?_ NB789_826.out _; (with_reducible repeat (first | refine blk_drewN ?_ _ | refine blk_drew ?_ | refine blk_alloc ?_ _)); refine blk_far ?_ NB789_826.out _; (with_reducible repeat (first | refine blk_drewN ?_ _ | refine blk_drew ?_ | refine blk_alloc ?_ _)); refine blk_far ?_ NB789_825.out _; (with_reducible repeat (first | refine blk_drewN ?_ _ | refine blk_drew ?_ | refine blk_alloc ?_ _)); refine blk_far ?_ NB789_825.out _; (with_reducible repeat (first | refine blk_drewN ?_ _ | refine blk_drew ?_ | refine blk_alloc ?_ _)); exact BK789.out) hb); replace BK790 := Q.a (blk_below (g := gb790) (o := .cells #[.bool a1_0, .string a1_1] 36 (0, 0)) (by (with_reducible repeat (first | refine blk_drewN ?_ _ | refine blk_drew ?_ | refine blk_alloc ?_ _)); refine blk_far ?_ NB790_826.out _; (with_reducible repeat (first | refine blk_drewN ?_ _ | refine blk_drew ?_ | refine blk_alloc ?_ _)); refine blk_far ?_ NB790_826.out _; (with_reducible repeat (first | refine blk_drewN ?_ _ | refine blk_drew ?_ | refine blk_alloc ?_ _)); refine blk_far ?_ NB790_825.out _; (with_reducible repeat (first | refine blk_drewN ?_ _ | refine blk_drew ?_ | refine blk_alloc ?_ _)); refine blk_far ?_ NB790_825.out _; (with_reducible repeat (first | refine blk_drewN ?_ _ | refine blk_drew ?_ | refine blk_alloc ?_ _)); exact BK790.out) hb); replace BK791 := Q.a (blk_below (g := gb791) (o := .cells #[.bool a2_0, .string a2_1] 36 (0, 0)) (by (with_reducible repeat (first | refine blk_drewN ?_ _ | refine blk_drew ?_ | refine blk_alloc ?_ _)); refine blk_far ?_ NB791_826.out _; (with_reducible repeat (first | refine blk_drewN ?_ _ | refine blk_drew ?_ | refine blk_alloc ?_ _)); refine blk_far ?_ NB791_826.out _; (with_reducible repeat (first | refine blk_drewN ?_ _ | refine blk_drew ?_ | refine blk_alloc ?_ _)); refine blk_far ?_ NB791_825.out _; (with_reducible repeat (first | refine blk_drewN ?_ _ | refine blk_drew ?_ | refine blk_alloc ?_ _)); refine blk_far ?_ NB791_825.out _; (with_reducible repeat (first | refine blk_drewN ?_ _ | refine blk_drew ?_ | refine blk_alloc ?_ _)); exact BK791.out) hb); replace BK798 := Q.a (blk_below (g := gb798) (o := .cells #[.bool t796, .string t797] 36 (0, 0)) (by (with_reducible repeat (first | refine blk_drewN ?_ _ | refine blk_drew ?_ | refine blk_alloc ?_ _)); refine blk_far ?_ NB798_826.out _; (with_reducible repeat (first | refine blk_drewN ?_ _ | refine blk_drew ?_ | refine blk_alloc ?_ _)); refine blk_far ?_ NB798_826.out _; (with_reducible repeat (first | refine blk_drewN ?_ _ | refine blk_drew ?_ | refine blk_alloc ?_ _)); refine blk_far ?_ NB798_825.out _; (with_reducible repeat (first | refine blk_drewN ?_ _ | refine blk_drew ?_ | refine blk_alloc ?_ _)); refine blk_far ?_ NB798_825.out _; (with_reducible repeat (first | refine blk_drewN ?_ _ | refine blk_drew ?_ | refine blk_alloc ?_ _)); exact BK798.out) hb); replace BK819 := Q.a (blk_below (g := gb819) (o := .cells #[.bool ((rd_T36 y810 x73_3).f0), .string ((rd_T36 y810 x73_3).f1)] 36 (0, 0)) (by (with_reducible repeat (first | refine blk_drewN ?_ _ | refine blk_drew ?_ | refine blk_alloc ?_ _)); refine blk_far ?_ NB819_826.out _; (with_reducible repeat (first | refine blk_drewN ?_ _ | refine blk_drew ?_ | refine blk_alloc ?_ _)); refine blk_far ?_ NB819_826.out _; (with_reducible repeat (first | refine blk_drewN ?_ _ | refine blk_drew ?_ | refine blk_alloc ?_ _)); refine blk_far ?_ NB819_825.out _; (with_reducible repeat (first | refine blk_drewN ?_ _ | refine blk_drew ?_ | refine blk_alloc ?_ _)); refine blk_far ?_ NB819_825.out _; (with_reducible repeat (first | refine blk_drewN ?_ _ | refine blk_drew ?_ | refine blk_alloc ?_ _)); exact BK819.out) hb); replace BK825 := Q.a (blk_below (g := gb825) (o := .cells #[.bool t820, .string t821] 36 (0, 0)) (by (with_reducible repeat (first | refine blk_drewN ?_ _ | refine blk_drew ?_ | refine blk_alloc ?_ _)); refine blk_far ?_ NB825_826.out _; (with_reducible repeat (first | refine blk_drewN ?_ _ | refine blk_drew ?_ | refine blk_alloc ?_ _)); refine blk_far ?_ NB825_826.out _; (with_reducible repeat (first | refine blk_drewN ?_ _ | refine blk_drew ?_ | refine blk_alloc ?_ _)); refine blk_put (cs := #[.bool t820, .string (⟨#[]⟩ : ByteArray)]) ?_ 1 _ (by first | rfl | (cases a0.toList <;> rfl) | (cases a1.toList <;> rfl)); (with_reducible repeat (first | refine blk_drewN ?_ _ | refine blk_drew ?_ | refine blk_alloc ?_ _)); refine blk_put (cs := #[.bool false, .string (⟨#[]⟩ : ByteArray)]) ?_ 0 _ (by first | rfl | (cases a0.toList <;> rfl) | (cases a1.toList <;> rfl)); (with_reducible repeat (first | refine blk_drewN ?_ _ | refine blk_drew ?_ | refine blk_alloc ?_ _)); exact BK825.out) hb); replace BK826 := Q.a (blk_below (g := gb826) (o := .cells #[.bool t822, .string t823] 36 (0, 0)) (by (with_reducible repeat (first | refine blk_drewN ?_ _ | refine blk_drew ?_ | refine blk_alloc ?_ _)); refine blk_put (cs := #[.bool t822, .string (⟨#[]⟩ : ByteArray)]) ?_ 1 _ (by first | rfl | (cases a0.toList <;> rfl) | (cases a1.toList <;> rfl)); (with_reducible repeat (first | refine blk_drewN ?_ _ | refine blk_drew ?_ | refine blk_alloc ?_ _)); refine blk_put (cs := #[.bool false, .string (⟨#[]⟩ : ByteArray)]) ?_ 0 _ (by first | rfl | (cases a0.toList <;> rfl) | (cases a1.toList <;> rfl)); (with_reducible repeat (first | refine blk_drewN ?_ _ | refine blk_drew ?_ | refine blk_alloc ?_ _)); refine blk_far ?_ NB826_825.out _; (with_reducible repeat (first | refine blk_drewN ?_ _ | refine blk_drew ?_ | refine blk_alloc ?_ _)); refine blk_far ?_ NB826_825.out _; (with_reducible repeat (first | refine blk_drewN ?_ _ | refine blk_drew ?_ | refine blk_alloc ?_ _)); exact BK826.out) hb); replace HB := Q.a (below_step (Q.bw7 HB GE789 GE790 GE791 GE798 GE819 GE825 GE826) hb); (try clear hb); (try clear hk); have hcz163_0 : w162.cell? ⟨gb825, 0, none⟩ = some (.bool t820) := (blk_cell BK825.out 0).trans rfl; have hcz163_1 : w162.cell? ⟨gb825, 1, none⟩ = some (.string t821) := (blk_cell BK825.out 1).trans rfl; have hfz163_0 := blk_frozen BK825.out 0; have hfz163_1 := blk_frozen BK825.out 1) | ((with_reducible refine gate_builtin (b := .append) (xs := #[.tmp 91, .tmp 93]) rfl ?_); (try (refine gate_guard (by rfl) ?_; dsimp only)); at_builtin; refine Kd.R_append k36 (w0 := w) w.heap.size rfl (.tmp 91) (.tmp 93) 48 36 (.agg #[(.bool false), (.string ⟨#[]⟩)]) 24 rfl Tryd.underlying48 info36 rfl (by decide) (by omega) u8 x8_3 (⟨t820, t821⟩ : S36) [.bool t820, .string t821] (fun k_ => some k_ ≠ (.slice (some ad818) y810.length co127 : Value).ownBlock ∧ k_ ≠ gb789 ∧ k_ ≠ gb790 ∧ k_ ≠ gb791 ∧ k_ ≠ gb798 ∧ k_ ≠ gb819 ∧ k_ ≠ gb825 ∧ k_ ≠ gb826) (fun _ => False) rfl rfl ?aP (fun _ hk => hk.elim) ?aF ?aO ?aB ?aS ?aL ?_; (case aP => exact k36_mkM _ _ _ (⟨t820, t821⟩ : S36)); (case aB => exact (Q.bw7 HB GE789 GE790 GE791 GE798 GE819 GE825 GE826)); (case aF => exact (fun k_ hk => ⟨Kd.fresh' (Kd.R_lt (Q.kr HO_71)) k_ hk, Kd.freshB (g := gb789) (o := .cells #[.bool a0_0, .string a0_1] 36 (0, 0)) (Q.kb BK789) k_ hk, Kd.freshB (g := gb790) (o := .cells #[.bool a1_0, .string a1_1] 36 (0, 0)) (Q.kb BK790) k_ hk, Kd.freshB (g := gb791) (o := .cells #[.bool a2_0, .string a2_1] 36 (0, 0)) (Q.kb BK791) k_ hk, Kd.freshB (g := gb798) (o := .cells #[.bool t796, .string t797] 36 (0, 0)) (Q.kb BK798) k_ hk, Kd.freshB (g := gb819) (o := .cells #[.bool ((rd_T36 y810 x73_3).f0), .string ((rd_T36 y810 x73_3).f1)] 36 (0, 0)) (Q.kb BK819) k_ hk, Kd.freshB (g := gb825) (o := .cells #[.bool t820, .string t821] 36 (0, 0)) (Q.kb BK825) k_ hk, Kd.freshB (g := gb826) (o := .cells #[.bool t822, .string t823] 36 (0, 0)) (Q.kb BK826) k_ hk⟩)); (case aO => exact (by (with_reducible repeat (first | apply Kd.R_alloc | apply Kd.R_drewN | apply Kd.R_drew)); exact Kd.R_mono HO_8.out (fun _ hk => ⟨hk.1.1.1.1, ⟨hk.1.1.1.2.1, ⟨hk.1.1.1.2.2.1, ⟨hk.1.1.1.2.2.2.1, ⟨hk.1.1.1.2.2.2.2, ⟨hk.1.1.2, ⟨hk.1.2, hk.2⟩⟩⟩⟩⟩⟩⟩))); (case aS => exact (below_size (Q.bw7 HB GE789 GE790 GE791 GE798 GE819 GE825 GE826))); (case aL => have := LMc135.out; omega); intro v829 w164 ho hb hg hat; rw [← Ny828.out] at ho; replace HO_71 := Q.a (Kd.R_after (ok := (fun k_ => k_ ≠ gb789 ∧ k_ ≠ gb790 ∧ k_ ≠ gb791 ∧ k_ ≠ gb798 ∧ k_ ≠ gb819 ∧ k_ ≠ gb825 ∧ k_ ≠ gb826)) (by (with_reducible repeat (first | apply Kd.R_alloc | apply Kd.R_drewN | apply Kd.R_drew)); exact Kd.R_mono HO_71.out (fun _ hk => ⟨⟨hk.1.1.1.2.1, ⟨hk.1.1.1.2.2.1, ⟨hk.1.1.1.2.2.2.1, ⟨hk.1.1.1.2.2.2.2, ⟨hk.1.1.2, ⟨hk.1.2, hk.2⟩⟩⟩⟩⟩⟩, hk.1.1.1.1⟩)) hg hat); replace BK789 := Q.a (blk_grown (g := gb789) (o := .cells #[.bool a0_0, .string a0_1] 36 (0, 0)) (Q.kb BK789) hg (Kd.R_away HO_8.out (fun _ hk => hk.1.1.1.2.1))); replace BK790 := Q.a (blk_grown (g := gb790) (o := .cells #[.bool a1_0, .string a1_1] 36 (0, 0)) (Q.kb BK790) hg (Kd.R_away HO_8.out (fun _ hk => hk.1.1.1.2.2.1))); replace BK791 := Q.a (blk_grown (g := gb791) (o := .cells #[.bool a2_0, .string a2_1] 36 (0, 0)) (Q.kb BK791) hg (Kd.R_away HO_8.out (fun _ hk => hk.1.1.1.2.2.2.1))); replace BK798 := Q.a (blk_grown (g := gb798) (o := .cells #[.bool t796, .string t797] 36 (0, 0)) (Q.kb BK798) hg (Kd.R_away HO_8.out (fun _ hk => hk.1.1.1.2.2.2.2))); replace BK819 := Q.a (blk_grown (g := gb819) (o := .cells #[.bool ((rd_T36 y810 x73_3).f0), .string ((rd_T36 y810 x73_3).f1)] 36 (0, 0)) (Q.kb BK819) hg (Kd.R_away HO_8.out (fun _ hk => hk.1.1.2))); replace BK825 := Q.a (blk_grown (g := gb825) (o := .cells #[.bool t820, .string t821] 36 (0, 0)) (Q.kb BK825) hg (Kd.R_away HO_8.out (fun _ hk => hk.1.2))); replace BK826 := Q.a (blk_grown (g := gb826) (o := .cells #[.bool t822, .string t823] 36 (0, 0)) (Q.kb BK826) hg (Kd.R_away HO_8.out (fun _ hk => hk.2))); replace HB := Q.a (hb); replace HO830 := Q.a (ho); clear HO_8; clear ho hb hg hat))
                go_roundg k3
                case measure => have := HJ3.out; have := HJ27.out; have := HK3.out; omega
                case rel => exact ⟨(y828), (wrap64 (x73_3 + 1)), Q.rs, H', ⟨by have := HJ3.out; have := HJ27.out; have := HK3.out; omega⟩, ⟨by (with_reducible repeat (first | apply Kd.R_alloc | apply Kd.R_drewN | apply Kd.R_drew)); exact Kd.R_mono HO830.out (fun _ hk => ⟨hk.1, ⟨hk.2.1, ⟨hk.2.2.1, ⟨hk.2.2.2.1, hk.2.2.2.2.1⟩⟩⟩⟩)⟩, ⟨by (with_reducible repeat (first | apply Kd.R_alloc | apply Kd.R_drewN | apply Kd.R_drew)); exact Kd.R_mono HO_71.out (fun _ hk => ⟨hk.2, ⟨hk.1.1, ⟨hk.1.2.1, ⟨hk.1.2.2.1, hk.1.2.2.2.1⟩⟩⟩⟩)⟩, ⟨Q.kb BK789⟩, ⟨Q.kb BK790⟩, ⟨Q.kb BK791⟩, ⟨Q.kb BK798⟩, ⟨Q.bw7 HB GE789 GE790 GE791 GE798 GE819 GE825 GE826⟩⟩
               ·rw [if_neg c135] at H
                exact absurd H (by simp)
              ·rw [if_neg c134] at H
               have c134b0 : (t827 == 0) = false := beq_eq_false_iff_ne.mpr c134
               have c134b1 : (t827 != 0) = true := bne_iff_ne.mpr c134
               obtain rfl := Option.some.inj H
               exact absurd HR.out (by decide)
             ·replace c132 := Bool.eq_false_iff.mpr c132
              subst c132
              rw [if_neg (show ¬ (false = true) by decide)] at H
              obtain rfl := Option.some.inj H
              exact absurd HR.out (by decide)
            ·rw [if_neg c130] at H
             exact absurd H (by simp)
           ·rw [if_neg c129] at H
            exact absurd H (by simp)
          ·rw [if_neg c128] at H
           have c128b0 : decide (x73_3 < (y810.length : Int)) = false := decide_eq_false c128
           clear c128
           replace H := Option.bind_eq_some_iff.mp H
           obtain ⟨t813, A2180, H⟩ := H
           try dsimp only at H
           have A218 := Q.a A2180
           clear A2180
           by_cases c219 : t813 = true
           ·subst c219
            rw [if_pos rfl] at H
            replace H := Option.bind_eq_some_iff.mp H
            obtain ⟨⟨t814, t815⟩, A2200, H⟩ := H
            try dsimp only at H
            have A220 := Q.a A2200
            clear A2200
            replace H := Option.bind_eq_some_iff.mp H
            obtain ⟨⟨t816, t817⟩, A2210, H⟩ := H
            try dsimp only at H
            have A221 := Q.a A2210
            clear A2210
            obtain rfl := Option.some.inj H
            go_wp2_with (first | ((with_reducible refine gate_callee (f := 37) rfl ?_); refine Q.gl 96 Tryd.func37 #[] rfl rfl rfl rfl ?_; (with_reducible refine (voussoirlaw02_fixed.calls k3  true rfl _ ?side1 A218.out).mono ?_); (case side1 => exact X.G.below HG.out (Q.bw4 HB GE789 GE790 GE791 GE798)); rintro e w222 ⟨rfl, hb⟩; refine ⟨_, rfl, ?_⟩; replace HO_8 := Q.a (Kd.R_below (Q.kr HO_8) hb); replace HO_71 := Q.a (Kd.R_below (Q.kr HO_71) hb); replace BK789 := Q.a (Q.bb BK789 hb); replace BK790 := Q.a (Q.bb BK790 hb); replace BK791 := Q.a (Q.bb BK791 hb); replace BK798 := Q.a (Q.bb BK798 hb); replace HB := Q.a (below_step (Q.bw4 HB GE789 GE790 GE791 GE798) hb); (try clear hb); obtain ⟨Ao223, co223, eo223⟩ := Kd.R_slice HO_8.out; subst eo223) | (go_at_call 55; (with_reducible refine (integer_Gcd.calls k3 _ _ x8_3 t814 t815 _ ?side1 ?side2 A220.out).mono ?_); (case side1 => repeat (first | exact (Kd.R_reads' HO_8.out).2.2 | (with_reducible refine Kd.C_alloc ?_ _) | (with_reducible refine Kd.C_drewN ?_ _) | (with_reducible refine Kd.C_drew ?_))); (case side2 => exact (Kd.R_reads' HO_8.out).2.1); rintro e w224 ⟨rfl, hb⟩; replace HO_8 := Q.a (Kd.R_below (Q.kr HO_8) hb); replace HO_71 := Q.a (Kd.R_below (Q.kr HO_71) hb); replace BK789 := Q.a (Q.bb BK789 hb); replace BK790 := Q.a (Q.bb BK790 hb); replace BK791 := Q.a (Q.bb BK791 hb); replace BK798 := Q.a (Q.bb BK798 hb); replace HB := Q.a (below_step (Q.bw4 HB GE789 GE790 GE791 GE798) hb); (try clear hb)) | (go_at_call 54; (with_reducible refine (integer_FromInt64.calls k3 1 t816 t817 _ A221.out).mono ?_); rintro e w225 ⟨rfl, hb⟩; replace HO_8 := Q.a (Kd.R_below (Q.kr HO_8) hb); replace HO_71 := Q.a (Kd.R_below (Q.kr HO_71) hb); replace BK789 := Q.a (Q.bb BK789 hb); replace BK790 := Q.a (Q.bb BK790 hb); replace BK791 := Q.a (Q.bb BK791 hb); replace BK798 := Q.a (Q.bb BK798 hb); replace HB := Q.a (below_step (Q.bw4 HB GE789 GE790 GE791 GE798) hb); (try clear hb)))
            go_ret
            exact ⟨Q.en, Q.bw4 HB GE789 GE790 GE791 GE798⟩
           ·replace c219 := Bool.eq_false_iff.mpr c219
            subst c219
            rw [if_neg (show ¬ (false = true) by decide)] at H
            obtain rfl := Option.some.inj H
            exact absurd HR.out (by decide)
end Go.Proofs.YtpokflilobkoaaaDoor.P
