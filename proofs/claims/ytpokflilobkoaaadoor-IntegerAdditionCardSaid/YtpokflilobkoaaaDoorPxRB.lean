/- Out of what mp.py printed for this seat (squeeze.py, repack.py). Not trusted: Lean checks it. -/
import Derived.Test.YtpokflilobkoaaaDoorPx0
import Derived.Test.YtpokflilobkoaaaDoorPxRA
import Derived.Test.YtpokflilobkoaaaDoorXQ
-- squeezed twice
namespace Go.Proofs.YtpokflilobkoaaaDoor.P
open Go.RowKit Go.Proofs.YtpokflilobkoaaaDoorW.PrintWords Go.Proofs.YtpokflilobkoaaaDoorW.PrintLast Go.Proofs.YtpokflilobkoaaaDoorW.PrintMore
attribute [local go_sem] max2_int min2_int max_two min_two max_three min_three max_four min_four   -- for this text's walks alone
attribute [local go_sem] XW.cell_twice   -- for this text's walks alone
set_option linter.unusedVariables false
set_option linter.unusedSimpArgs false

/-! ### voussoirref01_Mul: function 25 -/
mutual
def voussoirref01_Mul.l0 : Nat → ByteArray → ByteArray → List Int → Int → Option (ByteArray)
 | 0, _, _, _, _ => none
 | k + 1, x0, x1, x5, x6 => if x6 < (x0.size : Int) then (voussoirref01_Mul.l1 k x0 x1 x5 x6 0 0) else (voussoirref01_Mul.l2 k (([] : List Int)) x5 (x5.length : Int) 0)
def voussoirref01_Mul.l1 : Nat → ByteArray → ByteArray → List Int → Int → Int → Int → Option (ByteArray)
 | 0, _, _, _, _, _, _ => none
 | k + 1, x0, x1, x5, x6, x7, x8 => if x8 < (x1.size : Int) then (voussoirref01_Mul.j2 k x0 x1 x5 x6 x7 x8 true) else (voussoirref01_Mul.j2 k x0 x1 x5 x6 x7 x8 (decide (x7 > 0)))
def voussoirref01_Mul.j2 : Nat → ByteArray → ByteArray → List Int → Int → Int → Int → Bool → Option (ByteArray)
 | 0, _, _, _, _, _, _, _ => none
 | k + 1, x0, x1, x5, x6, x7, x8, x33 => if x33 = true then (if 0 ≤ (wrap64 (x6 + x8)) then (if (wrap64 (x6 + x8)) < (x5.length : Int) then ((voussoirref01_at.f x0 x6).bind fun t290 => ((voussoirref01_at.f x1 x8).bind fun t291 => (voussoirref01_Mul.l1 k x0 x1 (x5.set ((wrap64 (x6 + x8)) : Int).toNat (Int.tmod (wrap64 ((wrap64 ((rd x5 (wrap64 (x6 + x8))) + (wrap64 (t290 * t291)))) + x7)) 256)) x6 (wrap64 (Int.tdiv (wrap64 ((wrap64 ((rd x5 (wrap64 (x6 + x8))) + (wrap64 (t290 * t291)))) + x7)) 256)) (wrap64 (x8 + 1))))) else (none)) else (none)) else (voussoirref01_Mul.l0 k x0 x1 x5 (wrap64 (x6 + 1)))
def voussoirref01_Mul.l2 : Nat → List Int → List Int → Int → Int → Option (ByteArray)
 | 0, _, _, _, _ => none
 | k + 1, x10, x62, x63, x64 => if x64 < x63 then (if 0 ≤ x64 then (if x64 < (x62.length : Int) then (if x10.length < 140737488355328 then (voussoirref01_Mul.l2 k (x10 ++ [(rd x62 x64) % 256]) x62 x63 (wrap64 (x64 + 1))) else (none)) else (none)) else (none)) else ((voussoirref01_Norm.f k (strOfNums x10)).bind fun t300 => (some t300))
end
def voussoirref01_Mul.f (k : Nat) (a0 : ByteArray) (a1 : ByteArray) : Option (ByteArray) := if 0 ≤ (wrap64 ((wrap64 ((a0.size : Int) + (a1.size : Int))) + 1)) then (if (wrap64 ((wrap64 ((a0.size : Int) + (a1.size : Int))) + 1) : Int).toNat ≤ 35184372088832 then (voussoirref01_Mul.l0 k a0 a1 (List.replicate (wrap64 ((wrap64 ((a0.size : Int) + (a1.size : Int))) + 1) : Int).toNat 0) 0) else (none)) else (none)
theorem voussoirref01_Mul.mono_l : ∀ k, (∀ y0 y1 y2 y3, LeO (voussoirref01_Mul.l0 k y0 y1 y2 y3) (voussoirref01_Mul.l0 (k + 1) y0 y1 y2 y3)) ∧ (∀ y0 y1 y2 y3 y4 y5, LeO (voussoirref01_Mul.l1 k y0 y1 y2 y3 y4 y5) (voussoirref01_Mul.l1 (k + 1) y0 y1 y2 y3 y4 y5)) ∧ (∀ y0 y1 y2 y3 y4 y5 y6, LeO (voussoirref01_Mul.j2 k y0 y1 y2 y3 y4 y5 y6) (voussoirref01_Mul.j2 (k + 1) y0 y1 y2 y3 y4 y5 y6)) ∧ (∀ y0 y1 y2 y3, LeO (voussoirref01_Mul.l2 k y0 y1 y2 y3) (voussoirref01_Mul.l2 (k + 1) y0 y1 y2 y3))
 | 0 => ⟨fun _ _ _ _ r h => by simp [voussoirref01_Mul.l0] at h, fun _ _ _ _ _ _ r h => by simp [voussoirref01_Mul.l1] at h, fun _ _ _ _ _ _ _ r h => by simp [voussoirref01_Mul.j2] at h, fun _ _ _ _ r h => by simp [voussoirref01_Mul.l2] at h⟩
 | k + 1 => by
  obtain ⟨ih0, ih1, ih2, ih3⟩ := voussoirref01_Mul.mono_l k
  refine ⟨?_, ?_, ?_, ?_⟩
  ·intro y0 y1 y2 y3
   unfold voussoirref01_Mul.l0
   repeat' first
   | (with_reducible exact ih0 _ _ _ _)
   | (with_reducible exact ih1 _ _ _ _ _ _)
   | (with_reducible exact ih2 _ _ _ _ _ _ _)
   | (with_reducible exact ih3 _ _ _ _)
   | (with_reducible exact voussoirref01_Norm.mono _ _)
   | (with_reducible exact LeO.refl _)
   | (with_reducible exact LeO.none _)
   | (with_reducible refine LeO.ite ?_ ?_)
   | (with_reducible refine LeO.bind ?_ (fun _ => ?_))
   | exact ih0 _ _ _ _
   | exact ih1 _ _ _ _ _ _
   | exact ih2 _ _ _ _ _ _ _
   | exact ih3 _ _ _ _
   | exact voussoirref01_Norm.mono _ _
   | exact LeO.none _
   | refine LeO.ite ?_ ?_
   | refine LeO.bind ?_ (fun _ => ?_)
  ·intro y0 y1 y2 y3 y4 y5
   unfold voussoirref01_Mul.l1
   repeat' first
   | (with_reducible exact ih0 _ _ _ _)
   | (with_reducible exact ih1 _ _ _ _ _ _)
   | (with_reducible exact ih2 _ _ _ _ _ _ _)
   | (with_reducible exact ih3 _ _ _ _)
   | (with_reducible exact voussoirref01_Norm.mono _ _)
   | (with_reducible exact LeO.refl _)
   | (with_reducible exact LeO.none _)
   | (with_reducible refine LeO.ite ?_ ?_)
   | (with_reducible refine LeO.bind ?_ (fun _ => ?_))
   | exact ih0 _ _ _ _
   | exact ih1 _ _ _ _ _ _
   | exact ih2 _ _ _ _ _ _ _
   | exact ih3 _ _ _ _
   | exact voussoirref01_Norm.mono _ _
   | exact LeO.none _
   | refine LeO.ite ?_ ?_
   | refine LeO.bind ?_ (fun _ => ?_)
  ·intro y0 y1 y2 y3 y4 y5 y6
   unfold voussoirref01_Mul.j2
   repeat' first
   | (with_reducible exact ih0 _ _ _ _)
   | (with_reducible exact ih1 _ _ _ _ _ _)
   | (with_reducible exact ih2 _ _ _ _ _ _ _)
   | (with_reducible exact ih3 _ _ _ _)
   | (with_reducible exact voussoirref01_Norm.mono _ _)
   | (with_reducible exact LeO.refl _)
   | (with_reducible exact LeO.none _)
   | (with_reducible refine LeO.ite ?_ ?_)
   | (with_reducible refine LeO.bind ?_ (fun _ => ?_))
   | exact ih0 _ _ _ _
   | exact ih1 _ _ _ _ _ _
   | exact ih2 _ _ _ _ _ _ _
   | exact ih3 _ _ _ _
   | exact voussoirref01_Norm.mono _ _
   | exact LeO.none _
   | refine LeO.ite ?_ ?_
   | refine LeO.bind ?_ (fun _ => ?_)
  ·intro y0 y1 y2 y3
   unfold voussoirref01_Mul.l2
   repeat' first
   | (with_reducible exact ih0 _ _ _ _)
   | (with_reducible exact ih1 _ _ _ _ _ _)
   | (with_reducible exact ih2 _ _ _ _ _ _ _)
   | (with_reducible exact ih3 _ _ _ _)
   | (with_reducible exact voussoirref01_Norm.mono _ _)
   | (with_reducible exact LeO.refl _)
   | (with_reducible exact LeO.none _)
   | (with_reducible refine LeO.ite ?_ ?_)
   | (with_reducible refine LeO.bind ?_ (fun _ => ?_))
   | exact ih0 _ _ _ _
   | exact ih1 _ _ _ _ _ _
   | exact ih2 _ _ _ _ _ _ _
   | exact ih3 _ _ _ _
   | exact voussoirref01_Norm.mono _ _
   | exact LeO.none _
   | refine LeO.ite ?_ ?_
   | refine LeO.bind ?_ (fun _ => ?_)
theorem voussoirref01_Mul.mono : ∀ a0 a1 k, LeO (voussoirref01_Mul.f k a0 a1) (voussoirref01_Mul.f (k + 1) a0 a1) := by
 intro a0 a1 k
 obtain ⟨ih0, ih1, ih2, ih3⟩ := voussoirref01_Mul.mono_l k
 unfold voussoirref01_Mul.f
 repeat' first
   | (with_reducible exact ih0 _ _ _ _)
   | (with_reducible exact ih1 _ _ _ _ _ _)
   | (with_reducible exact ih2 _ _ _ _ _ _ _)
   | (with_reducible exact ih3 _ _ _ _)
   | (with_reducible exact voussoirref01_Norm.mono _ _)
   | (with_reducible exact LeO.refl _)
   | (with_reducible exact LeO.none _)
   | (with_reducible refine LeO.ite ?_ ?_)
   | (with_reducible refine LeO.bind ?_ (fun _ => ?_))
   | exact ih0 _ _ _ _
   | exact ih1 _ _ _ _ _ _
   | exact ih2 _ _ _ _ _ _ _
   | exact ih3 _ _ _ _
   | exact voussoirref01_Norm.mono _ _
   | exact LeO.none _
   | refine LeO.ite ?_ ?_
   | refine LeO.bind ?_ (fun _ => ?_)
set_option maxHeartbeats 8000000 in
set_option maxRecDepth 100000 in
theorem voussoirref01_Mul.calls (k : Nat) (a0 : ByteArray) (a1 : ByteArray) (r : ByteArray) (w : World) (h : voussoirref01_Mul.f k a0 a1 = some r) :
  Calls Tryd.prog 25 #[.string a0, .string a1] w fun e w' => e = .returned (.string r) ∧ Below w.heap.size w w' := by
 have HB := Q.a (Below.refl w.heap.size w)
 have H : (if 0 ≤ (wrap64 ((wrap64 ((a0.size : Int) + (a1.size : Int))) + 1)) then (if (wrap64 ((wrap64 ((a0.size : Int) + (a1.size : Int))) + 1) : Int).toNat ≤ 35184372088832 then (voussoirref01_Mul.l0 k a0 a1 (List.replicate (wrap64 ((wrap64 ((a0.size : Int) + (a1.size : Int))) + 1) : Int).toNat 0) 0) else (none)) else (none)) = some r := h
 clear h
 obtain ⟨ji3, hji3⟩ : ∃ j_ : Int, (wrap64 ((wrap64 ((a0.size : Int) + (a1.size : Int))) + 1)) = j_ := ⟨_, rfl⟩
 replace H : (if 0 ≤ (ji3) then (if (ji3 : Int).toNat ≤ 35184372088832 then (voussoirref01_Mul.l0 k a0 a1 (List.replicate (ji3 : Int).toNat 0) 0) else (none)) else (none)) = some r := by first | (rw [hji3] at H; exact H) | (simp only [hji3] at H ⊢; exact H)
 have hji3w : (IntKind.i64.wrap ((wrap64 ((a0.size : Int) + (a1.size : Int))) + 1)) = ji3 := (i64_w _).trans hji3
 by_cases c4 : 0 ≤ (ji3)
 ·rw [if_pos c4] at H
  have c4b0 := eq_true c4
  have c4b1 : decide (0 ≤ (ji3)) = true := decide_eq_true c4
  clear c4
  by_cases c5 : (ji3 : Int).toNat ≤ 35184372088832
  ·rw [if_pos c5] at H
   have c5b0 := eq_true c5
   have c5b1 : decide ((ji3 : Int).toNat ≤ 35184372088832) = true := decide_eq_true c5
   clear c5
   obtain ⟨y286, hy286⟩ : ∃ y_ : List Int, y_ = (List.replicate (ji3 : Int).toNat 0) := ⟨_, rfl⟩
   replace H : (voussoirref01_Mul.l0 k a0 a1 y286 0) = some r := by first | (rw [hy286]; with_reducible exact H) | (have H2_ := (Option.bind_some _ _).symm.trans H; rw [hy286]; with_reducible exact H2_) | (have H2_ := (Option.bind_some _ _).symm.trans H; with_reducible exact H2_) | with_reducible exact H | (rw [hy286]; exact H) | exact H
   have Ny286 := Q.a hy286
   clear hy286
   have H' := Q.a H
   clear H
   go_enter Tryd.func25, Tryd.ntmps25
   go_wp2_with (first | ((with_reducible refine gate_dst (N := 19) rfl ?_); refine Kd.R_make (Kd.int .i64) _ 3 rfl (N := 19) rfl 72 _ _ rfl ji3 rfl rfl Tryd.underlying72 (.int .i64 0) 8 info3 rfl (by decide) (by omega) 0 (ok := fun _ => True) (okp := fun _ => True) rfl (fun _ hk => hk) trivial Q.od (Nat.le_trans (Nat.mul_le_mul_right _ (of_decide_eq_true (by first | (with_reducible assumption) | assumption) : ji3.toNat ≤ 35184372088832)) (by omega)) (Below.refl _ _) (Nat.le_refl _) ?_; intro v287 w6 ho7 hb hg_ hnew_; clear hg_ hnew_; (first | rw [← Ny286.out] at ho7 | (simp only [Int.reduceToNat] at ho7; rw [← Ny286.out] at ho7)); replace HO288 := Q.a (Kd.R_lower ho7 (below_size (Q.bw HB))); replace HB := Q.a (below_step (Q.bw HB) hb); clear hb ho7))
   repeat (go_quiet (first | ((with_reducible refine gate_dst (N := 19) rfl ?_); refine Kd.R_make (Kd.int .i64) _ 3 rfl (N := 19) rfl 72 _ _ rfl ji3 rfl rfl Tryd.underlying72 (.int .i64 0) 8 info3 rfl (by decide) (by omega) 0 (ok := fun _ => True) (okp := fun _ => True) rfl (fun _ hk => hk) trivial Q.od (Nat.le_trans (Nat.mul_le_mul_right _ (of_decide_eq_true (by first | (with_reducible assumption) | assumption) : ji3.toNat ≤ 35184372088832)) (by omega)) (Below.refl _ _) (Nat.le_refl _) ?_; intro v287 w6 ho7 hb hg_ hnew_; clear hg_ hnew_; (first | rw [← Ny286.out] at ho7 | (simp only [Int.reduceToNat] at ho7; rw [← Ny286.out] at ho7)); replace HO288 := Q.a (Kd.R_lower ho7 (below_size (Q.bw HB))); replace HB := Q.a (below_step (Q.bw HB) hb); clear hb ho7)); try go_wp2_with (first | ((with_reducible refine gate_dst (N := 19) rfl ?_); refine Kd.R_make (Kd.int .i64) _ 3 rfl (N := 19) rfl 72 _ _ rfl ji3 rfl rfl Tryd.underlying72 (.int .i64 0) 8 info3 rfl (by decide) (by omega) 0 (ok := fun _ => True) (okp := fun _ => True) rfl (fun _ hk => hk) trivial Q.od (Nat.le_trans (Nat.mul_le_mul_right _ (of_decide_eq_true (by first | (with_reducible assumption) | assumption) : ji3.toNat ≤ 35184372088832)) (by omega)) (Below.refl _ _) (Nat.le_refl _) ?_; intro v287 w6 ho7 hb hg_ hnew_; clear hg_ hnew_; (first | rw [← Ny286.out] at ho7 | (simp only [Int.reduceToNat] at ho7; rw [← Ny286.out] at ho7)); replace HO288 := Q.a (Kd.R_lower ho7 (below_size (Q.bw HB))); replace HB := Q.a (below_step (Q.bw HB) hb); clear hb ho7)))
   go_loopg [6] k (fun kq v6 w' => ∃ (x5_1 : List Int) (x6_1 : Int), v6 = .int .i64 x6_1 ∧ Aside0 (voussoirref01_Mul.l0 kq a0 a1 x5_1 x6_1 = some r) ∧ Aside0 (kq ≤ k) ∧ Aside0 (Kd.R (Kd.int .i64) 3 w' w.heap.size (fun _ => True) v287 x5_1) ∧ Aside0 (Below w.heap.size w w'))
   case atStart => exact ⟨(y286), (0), Q.rs, H', ⟨Nat.le_refl _⟩, ⟨Q.kr HO288⟩, ⟨Q.bw HB⟩⟩
   case round =>
    clear H'
    try clear c2
    try clear p2
    try clear c4
    try clear c4b0
    try clear c4b1
    try clear c5
    try clear c5b0
    try clear c5b1
    try clear p6
    obtain ⟨x5_1, x6_1, rfl, HA, HK1, HO_5, HB⟩ := hrel
    cases gk with
    | zero => exact absurd HA.out (by simp [voussoirref01_Mul.l0])
    | succ k1 =>
     have H := HA.out
     clear HA
     simp only [voussoirref01_Mul.l0] at H
     by_cases c8 : x6_1 < (a0.size : Int)
     ·rw [if_pos c8] at H
      have c8b0 : decide (x6_1 < (a0.size : Int)) = true := decide_eq_true c8
      clear c8
      have H' := Q.a H
      clear H
      go_wp2
      repeat (go_quiet (fail); try go_wp2)
      go_loopg [7, 8] k1 (fun kq v7 v8 w' => ∃ (x5_2 : List Int) (x7_2 : Int) (x8_2 : Int), v7 = .int .i64 x7_2 ∧ v8 = .int .i64 x8_2 ∧ Aside0 (voussoirref01_Mul.l1 kq a0 a1 x5_2 x6_1 x7_2 x8_2 = some r) ∧ Aside0 (kq ≤ k1) ∧ Aside0 (Kd.R (Kd.int .i64) 3 w' w.heap.size (fun _ => True) v287 x5_2) ∧ Aside0 (Below w.heap.size w w'))
      case atStart => exact ⟨(x5_1), (0), (0), Q.rs, Q.rs, H', ⟨Nat.le_refl _⟩, ⟨Q.kr HO_5⟩, ⟨Q.bw HB⟩⟩
      case round =>
       clear H'
       try clear c2
       try clear p2
       try clear c4
       try clear c4b0
       try clear c4b1
       try clear c5
       try clear c5b0
       try clear c5b1
       try clear p6
       try clear c8
       try clear c8b0
       try clear p2
       try clear p6
       obtain ⟨x5_2, x7_2, x8_2, rfl, rfl, HA, HK2, HO_5, HB⟩ := hrel
       cases gk with
       | zero => exact absurd HA.out (by simp [voussoirref01_Mul.l1])
       | succ k2 =>
        have H := HA.out
        clear HA
        simp only [voussoirref01_Mul.l1] at H
        have HC9 := Q.a H
        clear H
        go_upto_region 7 with (fail)
        repeat (go_quiet (fail); go_upto_region 7 with (fail))
        go_cut [33] (fun v33 wc => ∃ (kq : Nat) (x33_8 : Bool), v33 = .bool x33_8 ∧ Aside0 (voussoirref01_Mul.j2 kq a0 a1 x5_2 x6_1 x7_2 x8_2 x33_8 = some r) ∧ Aside0 (kq ≤ k2) ∧ Aside0 (Kd.R (Kd.int .i64) 3 wc w.heap.size (fun _ => True) v287 x5_2) ∧ Aside0 (Below w.heap.size w wc))
        case first =>
         have H := HC9.out
         clear HC9
         by_cases c10 : x8_2 < (a1.size : Int)
         ·rw [if_pos c10] at H
          have c10b0 : decide (x8_2 < (a1.size : Int)) = true := decide_eq_true c10
          clear c10
          (first | rw [c10b0] | (simp only [i64_w, i32_w]; rw [c10b0]) | skip)
          have H' := Q.a H
          clear H
          go_wp2
          repeat (go_quiet (fail); try go_wp2)
          go_meet
          case rel => exact ⟨_, (true), Q.rs, H', ⟨by have := HK1.out; have := HK2.out; first | omega | exact Nat.le_refl _⟩, ⟨Q.kr HO_5⟩, ⟨Q.bw HB⟩⟩
         ·rw [if_neg c10] at H
          have c10b0 : decide (x8_2 < (a1.size : Int)) = false := decide_eq_false c10
          clear c10
          (first | rw [c10b0] | (simp only [i64_w, i32_w]; rw [c10b0]) | skip)
          have H' := Q.a H
          clear H
          go_wp2
          repeat (go_quiet (fail); try go_wp2)
          go_meet
          case rel => exact ⟨_, (decide (x7_2 > 0)), Q.rs, H', ⟨by have := HK1.out; have := HK2.out; first | omega | exact Nat.le_refl _⟩, ⟨Q.kr HO_5⟩, ⟨Q.bw HB⟩⟩
        case rest =>
         clear HC9
         try clear c1
         try clear c2
         try clear p2
         try clear c4
         try clear c4b0
         try clear c4b1
         try clear c5
         try clear c5b0
         try clear c5b1
         try clear p6
         try clear c8
         try clear c8b0
         try clear c10
         try clear c10b0
         try clear p2
         try clear p6
         obtain ⟨kq, x33_8, rfl, HA, HJ8, HO_5, HB⟩ := hcut
         cases kq with
         | zero => exact absurd HA.out (by simp [voussoirref01_Mul.j2])
         | succ kj8 =>
          have H := HA.out
          clear HA
          simp only [voussoirref01_Mul.j2] at H
          by_cases c11 : x33_8 = true
          ·subst c11
           rw [if_pos rfl] at H
           obtain ⟨ji12, hji12⟩ : ∃ j_ : Int, (wrap64 (x6_1 + x8_2)) = j_ := ⟨_, rfl⟩
           replace H : (if 0 ≤ (ji12) then (if (ji12) < (x5_2.length : Int) then ((voussoirref01_at.f a0 x6_1).bind fun t290 => ((voussoirref01_at.f a1 x8_2).bind fun t291 => (voussoirref01_Mul.l1 kj8 a0 a1 (x5_2.set ((ji12) : Int).toNat (Int.tmod (wrap64 ((wrap64 ((rd x5_2 (ji12)) + (wrap64 (t290 * t291)))) + x7_2)) 256)) x6_1 (wrap64 (Int.tdiv (wrap64 ((wrap64 ((rd x5_2 (ji12)) + (wrap64 (t290 * t291)))) + x7_2)) 256)) (wrap64 (x8_2 + 1))))) else (none)) else (none)) = some r := by first | (rw [hji12] at H; exact H) | (simp only [hji12] at H ⊢; exact H)
           have hji12w : (IntKind.i64.wrap (x6_1 + x8_2)) = ji12 := (i64_w _).trans hji12
           by_cases c13 : 0 ≤ (ji12)
           ·rw [if_pos c13] at H
            have c13b0 : decide (0 ≤ (ji12)) = true := decide_eq_true c13
            clear c13
            by_cases c14 : (ji12) < (x5_2.length : Int)
            ·rw [if_pos c14] at H
             have c14b0 : decide ((ji12) < (x5_2.length : Int)) = true := decide_eq_true c14
             clear c14
             replace H := Option.bind_eq_some_iff.mp H
             obtain ⟨t290, A150, H⟩ := H
             try dsimp only at H
             have A15 := Q.a A150
             clear A150
             replace H := Option.bind_eq_some_iff.mp H
             obtain ⟨t291, A160, H⟩ := H
             try dsimp only at H
             have A16 := Q.a A160
             clear A160
             obtain ⟨y292, hy292⟩ : ∃ y_ : List Int, y_ = (x5_2.set ((ji12) : Int).toNat (Int.tmod (wrap64 ((wrap64 ((rd x5_2 (ji12)) + (wrap64 (t290 * t291)))) + x7_2)) 256)) := ⟨_, rfl⟩
             replace H : (voussoirref01_Mul.l1 kj8 a0 a1 y292 x6_1 (wrap64 (Int.tdiv (wrap64 ((wrap64 ((rd x5_2 (ji12)) + (wrap64 (t290 * t291)))) + x7_2)) 256)) (wrap64 (x8_2 + 1))) = some r := by first | (rw [hy292]; with_reducible exact H) | (have H2_ := (Option.bind_some _ _).symm.trans H; rw [hy292]; with_reducible exact H2_) | (have H2_ := (Option.bind_some _ _).symm.trans H; with_reducible exact H2_) | with_reducible exact H | (rw [hy292]; exact H) | exact H
             have Ny292 := Q.a hy292
             clear hy292
             have H' := Q.a H
             clear H
             obtain ⟨Ao18, co18, eo18⟩ := Kd.R_slice HO_5.out
             subst eo18
             have p289 : 0 ≤ ((ji12) : Int) := of_decide_eq_true (by first | (with_reducible assumption) | assumption)
             have q289 : (ji12) < (x5_2.length : Int) := of_decide_eq_true (by first | (with_reducible assumption) | assumption)
             obtain ⟨ad289, e289, hx289_0⟩ := Kd.at_int (Kd.R_reads' HO_5.out).2.2 (ji12) p289 q289
             cases e289
             replace p289 := eq_true p289
             replace q289 := eq_true q289
             go_wp2_with (first | (go_at_call 71; (with_reducible refine (voussoirref01_at.calls a0 x6_1 t290 _ A15.out).mono ?_); rintro e w' ⟨rfl, ⟨nd, rfl⟩⟩; (try exact Q.dd)) | (go_at_call 71; (with_reducible refine (voussoirref01_at.calls a1 x8_2 t291 _ A16.out).mono ?_); rintro e w' ⟨rfl, ⟨nd, rfl⟩⟩; (try exact Q.dd); have p17 : 0 ≤ ((ji12) : Int) := of_decide_eq_true (by first | (with_reducible assumption) | assumption); have q17 : ((ji12) : Int) < ((x5_2.length : Int) : Int) := of_decide_eq_true (by first | (with_reducible assumption) | assumption); obtain ⟨go17, co17, eo17, gb17, gl17, cl17, HG17⟩ := Kd.R_form HO_5.out (by omega); (first | cases eo17 | (injection eo17 with ea_ en_ ec_; (first | subst ea_ | (injection ea_ with ea_; subst ea_)); subst ec_; clear en_)); have GB17 := Q.a gb17; have GG17 := Q.a HG17; clear gb17 gl17 HG17; (first | simp only [add_plain] at hx289_0 | skip); obtain ⟨hx17_0, hf17_0⟩ := Kd.R_celln 0 HO_5.out ((ji12) : Int) p17 q17; replace p17 := eq_true p17; replace q17 := eq_true q17; obtain ⟨hy19_, hz19_⟩ := Kd.R_celln 0 HO_5.out ((ji12) : Int) Q.od Q.od; have HP19 := Kd.R_putg HO_5.out ((ji12) : Int) (Int.tmod (wrap64 ((wrap64 ((rd x5_2 (ji12)) + (wrap64 (t290 * t291)))) + x7_2)) 256)) | ((with_reducible refine gate_store (t := 3) (p := 58) rfl ?_); (try (rw [drewN_self wc]; generalize hq_ : World.drewN wc _ = wc; have n0_ := Q.a (Kd.R_at hq_ HO_5.out); have n1_ := Q.a (below_at hq_ HB.out); clear hq_ HO_5 HB; have HO_5 := n0_; have HB := n1_; clear n0_ n1_; (try (obtain ⟨hy19_, hz19_⟩ := Kd.R_celln 0 HO_5.out ((ji12) : Int) Q.od Q.od)); (try (have HP19 := Kd.R_putg HO_5.out ((ji12) : Int) (Int.tmod (wrap64 ((wrap64 ((rd x5_2 (ji12)) + (wrap64 (t290 * t291)))) + x7_2)) 256))))); refine store_event (t := 3) (p := 58) (v := ?vo_w20) (w1 := (wc.setCell ⟨go17, ((ji12) : Int).toNat, none⟩ (.int .i64 (Int.tmod (wrap64 ((wrap64 ((rd x5_2 (ji12)) + (wrap64 (t290 * t291)))) + x7_2)) 256)))) ?hg ?ho ?hn ?hr ?_; (case ho => rfl); (case hg => rfl); (case hn => rfl); (case hr => first | (go_simp; done) | (go_simp; rfl)); intro w20 hw; have hg : wc.grownBy w20 (some go17) := (by rw [hw]; exact HP19.2); have hp_ : Kd.R (Kd.int .i64) 3 w20 w.heap.size (fun _ => True) (.slice (some ⟨go17, 0, none⟩) x5_2.length co18) y292 := (by rw [hw, Ny292.out]; exact HP19.1); clear HP19; replace HO_5 := Q.a (hp_); replace HB := Q.a ((by rw [hw]; exact below_set (HB.out) GB17.out : Below w.heap.size w w20)); clear hg hw hp_))
             repeat (go_quiet (first | (go_at_call 71; (with_reducible refine (voussoirref01_at.calls a0 x6_1 t290 _ A15.out).mono ?_); rintro e w' ⟨rfl, ⟨nd, rfl⟩⟩; (try exact Q.dd)) | (go_at_call 71; (with_reducible refine (voussoirref01_at.calls a1 x8_2 t291 _ A16.out).mono ?_); rintro e w' ⟨rfl, ⟨nd, rfl⟩⟩; (try exact Q.dd); have p17 : 0 ≤ ((ji12) : Int) := of_decide_eq_true (by first | (with_reducible assumption) | assumption); have q17 : ((ji12) : Int) < ((x5_2.length : Int) : Int) := of_decide_eq_true (by first | (with_reducible assumption) | assumption); obtain ⟨go17, co17, eo17, gb17, gl17, cl17, HG17⟩ := Kd.R_form HO_5.out (by omega); (first | cases eo17 | (injection eo17 with ea_ en_ ec_; (first | subst ea_ | (injection ea_ with ea_; subst ea_)); subst ec_; clear en_)); have GB17 := Q.a gb17; have GG17 := Q.a HG17; clear gb17 gl17 HG17; (first | simp only [add_plain] at hx289_0 | skip); obtain ⟨hx17_0, hf17_0⟩ := Kd.R_celln 0 HO_5.out ((ji12) : Int) p17 q17; replace p17 := eq_true p17; replace q17 := eq_true q17; obtain ⟨hy19_, hz19_⟩ := Kd.R_celln 0 HO_5.out ((ji12) : Int) Q.od Q.od; have HP19 := Kd.R_putg HO_5.out ((ji12) : Int) (Int.tmod (wrap64 ((wrap64 ((rd x5_2 (ji12)) + (wrap64 (t290 * t291)))) + x7_2)) 256)) | ((with_reducible refine gate_store (t := 3) (p := 58) rfl ?_); (try (rw [drewN_self wc]; generalize hq_ : World.drewN wc _ = wc; have n0_ := Q.a (Kd.R_at hq_ HO_5.out); have n1_ := Q.a (below_at hq_ HB.out); clear hq_ HO_5 HB; have HO_5 := n0_; have HB := n1_; clear n0_ n1_; (try (obtain ⟨hy19_, hz19_⟩ := Kd.R_celln 0 HO_5.out ((ji12) : Int) Q.od Q.od)); (try (have HP19 := Kd.R_putg HO_5.out ((ji12) : Int) (Int.tmod (wrap64 ((wrap64 ((rd x5_2 (ji12)) + (wrap64 (t290 * t291)))) + x7_2)) 256))))); refine store_event (t := 3) (p := 58) (v := ?vo_w20) (w1 := (wc.setCell ⟨go17, ((ji12) : Int).toNat, none⟩ (.int .i64 (Int.tmod (wrap64 ((wrap64 ((rd x5_2 (ji12)) + (wrap64 (t290 * t291)))) + x7_2)) 256)))) ?hg ?ho ?hn ?hr ?_; (case ho => rfl); (case hg => rfl); (case hn => rfl); (case hr => first | (go_simp; done) | (go_simp; rfl)); intro w20 hw; have hg : wc.grownBy w20 (some go17) := (by rw [hw]; exact HP19.2); have hp_ : Kd.R (Kd.int .i64) 3 w20 w.heap.size (fun _ => True) (.slice (some ⟨go17, 0, none⟩) x5_2.length co18) y292 := (by rw [hw, Ny292.out]; exact HP19.1); clear HP19; replace HO_5 := Q.a (hp_); replace HB := Q.a ((by rw [hw]; exact below_set (HB.out) GB17.out : Below w.heap.size w w20)); clear hg hw hp_)); try go_wp2_with (first | (go_at_call 71; (with_reducible refine (voussoirref01_at.calls a0 x6_1 t290 _ A15.out).mono ?_); rintro e w' ⟨rfl, ⟨nd, rfl⟩⟩; (try exact Q.dd)) | (go_at_call 71; (with_reducible refine (voussoirref01_at.calls a1 x8_2 t291 _ A16.out).mono ?_); rintro e w' ⟨rfl, ⟨nd, rfl⟩⟩; (try exact Q.dd); have p17 : 0 ≤ ((ji12) : Int) := of_decide_eq_true (by first | (with_reducible assumption) | assumption); have q17 : ((ji12) : Int) < ((x5_2.length : Int) : Int) := of_decide_eq_true (by first | (with_reducible assumption) | assumption); obtain ⟨go17, co17, eo17, gb17, gl17, cl17, HG17⟩ := Kd.R_form HO_5.out (by omega); (first | cases eo17 | (injection eo17 with ea_ en_ ec_; (first | subst ea_ | (injection ea_ with ea_; subst ea_)); subst ec_; clear en_)); have GB17 := Q.a gb17; have GG17 := Q.a HG17; clear gb17 gl17 HG17; (first | simp only [add_plain] at hx289_0 | skip); obtain ⟨hx17_0, hf17_0⟩ := Kd.R_celln 0 HO_5.out ((ji12) : Int) p17 q17; replace p17 := eq_true p17; replace q17 := eq_true q17; obtain ⟨hy19_, hz19_⟩ := Kd.R_celln 0 HO_5.out ((ji12) : Int) Q.od Q.od; have HP19 := Kd.R_putg HO_5.out ((ji12) : Int) (Int.tmod (wrap64 ((wrap64 ((rd x5_2 (ji12)) + (wrap64 (t290 * t291)))) + x7_2)) 256)) | ((with_reducible refine gate_store (t := 3) (p := 58) rfl ?_); (try (rw [drewN_self wc]; generalize hq_ : World.drewN wc _ = wc; have n0_ := Q.a (Kd.R_at hq_ HO_5.out); have n1_ := Q.a (below_at hq_ HB.out); clear hq_ HO_5 HB; have HO_5 := n0_; have HB := n1_; clear n0_ n1_; (try (obtain ⟨hy19_, hz19_⟩ := Kd.R_celln 0 HO_5.out ((ji12) : Int) Q.od Q.od)); (try (have HP19 := Kd.R_putg HO_5.out ((ji12) : Int) (Int.tmod (wrap64 ((wrap64 ((rd x5_2 (ji12)) + (wrap64 (t290 * t291)))) + x7_2)) 256))))); refine store_event (t := 3) (p := 58) (v := ?vo_w20) (w1 := (wc.setCell ⟨go17, ((ji12) : Int).toNat, none⟩ (.int .i64 (Int.tmod (wrap64 ((wrap64 ((rd x5_2 (ji12)) + (wrap64 (t290 * t291)))) + x7_2)) 256)))) ?hg ?ho ?hn ?hr ?_; (case ho => rfl); (case hg => rfl); (case hn => rfl); (case hr => first | (go_simp; done) | (go_simp; rfl)); intro w20 hw; have hg : wc.grownBy w20 (some go17) := (by rw [hw]; exact HP19.2); have hp_ : Kd.R (Kd.int .i64) 3 w20 w.heap.size (fun _ => True) (.slice (some ⟨go17, 0, none⟩) x5_2.length co18) y292 := (by rw [hw, Ny292.out]; exact HP19.1); clear HP19; replace HO_5 := Q.a (hp_); replace HB := Q.a ((by rw [hw]; exact below_set (HB.out) GB17.out : Below w.heap.size w w20)); clear hg hw hp_)))
             go_roundg kj8
             case measure => have := HK1.out; have := HK2.out; have := HJ8.out; omega
             case rel => exact ⟨(y292), (wrap64 (Int.tdiv (wrap64 ((wrap64 ((rd x5_2 (ji12)) + (wrap64 (t290 * t291)))) + x7_2)) 256)), (wrap64 (x8_2 + 1)), (by first | rfl | (simp; done) | (simp only [← hji12] <;> (first | rfl | simp)) | (simp [*]; done)), Q.rs, H', ⟨by have := HK1.out; have := HK2.out; have := HJ8.out; omega⟩, ⟨Q.kr HO_5⟩, ⟨Q.bw HB⟩⟩
            ·rw [if_neg c14] at H
             exact absurd H (by simp)
           ·rw [if_neg c13] at H
            exact absurd H (by simp)
          ·replace c11 := Bool.eq_false_iff.mpr c11
           subst c11
           rw [if_neg (show ¬ (false = true) by decide)] at H
           have H' := Q.a H
           clear H
           go_wp2
           repeat (go_quiet (fail); try go_wp2)
           go_roundg kj8
           case measure => have := HK1.out; have := HK2.out; have := HJ8.out; omega
           case rel => exact ⟨(x5_2), (wrap64 (x6_1 + 1)), Q.rs, H', ⟨by have := HK1.out; have := HK2.out; have := HJ8.out; omega⟩, ⟨Q.kr HO_5⟩, ⟨Q.bw HB⟩⟩
     ·rw [if_neg c8] at H
      have c8b0 : decide (x6_1 < (a0.size : Int)) = false := decide_eq_false c8
      clear c8
      obtain ⟨y293, hy293⟩ : ∃ y_ : List Int, y_ = (([] : List Int)) := ⟨_, rfl⟩
      replace H : (voussoirref01_Mul.l2 k1 y293 x5_1 (x5_1.length : Int) 0) = some r := by first | (rw [hy293]; with_reducible exact H) | (have H2_ := (Option.bind_some _ _).symm.trans H; rw [hy293]; with_reducible exact H2_) | (have H2_ := (Option.bind_some _ _).symm.trans H; with_reducible exact H2_) | with_reducible exact H | (rw [hy293]; exact H) | exact H
      have Ny293 := Q.a hy293
      clear hy293
      have H' := Q.a H
      clear H
      go_wp2_with (first | ((with_reducible refine gate_dst (N := 61) rfl ?_); refine Kd.R_lit (Kd.int .u8) _ 5 ?hg (N := 61) ?hd (xs := ([] : List Int)) (inner := []) (ok := fun _ => True) (okp := fun _ => True) ?hr ?hp (fun _ hk => hk) trivial (Below.refl _ _) (Nat.le_refl _) (by simp) ?_; (case hd => rfl); (case hg => rfl); (case hr => first | (go_simp; done) | (go_simp; rfl)); (case hp => exact (Reps.none _ _)); intro v294 w21 ho22 hb hg_ hnew_; clear hg_ hnew_; (first | rw [← Ny293.out] at ho22 | (simp only [Int.reduceToNat] at ho22; rw [← Ny293.out] at ho22)); replace HO_5 := Q.a (Kd.R_below (Q.kr HO_5) hb); replace HO295 := Q.a (Kd.R_lower ho22 (below_size (Q.bw HB))); replace HB := Q.a (below_step (Q.bw HB) hb); clear hb ho22; obtain ⟨Ao23, co23, eo23⟩ := Kd.R_slice HO_5.out; subst eo23))
      repeat (go_quiet (first | ((with_reducible refine gate_dst (N := 61) rfl ?_); refine Kd.R_lit (Kd.int .u8) _ 5 ?hg (N := 61) ?hd (xs := ([] : List Int)) (inner := []) (ok := fun _ => True) (okp := fun _ => True) ?hr ?hp (fun _ hk => hk) trivial (Below.refl _ _) (Nat.le_refl _) (by simp) ?_; (case hd => rfl); (case hg => rfl); (case hr => first | (go_simp; done) | (go_simp; rfl)); (case hp => exact (Reps.none _ _)); intro v294 w21 ho22 hb hg_ hnew_; clear hg_ hnew_; (first | rw [← Ny293.out] at ho22 | (simp only [Int.reduceToNat] at ho22; rw [← Ny293.out] at ho22)); replace HO_5 := Q.a (Kd.R_below (Q.kr HO_5) hb); replace HO295 := Q.a (Kd.R_lower ho22 (below_size (Q.bw HB))); replace HB := Q.a (below_step (Q.bw HB) hb); clear hb ho22; obtain ⟨Ao23, co23, eo23⟩ := Kd.R_slice HO_5.out; subst eo23)); try go_wp2_with (first | ((with_reducible refine gate_dst (N := 61) rfl ?_); refine Kd.R_lit (Kd.int .u8) _ 5 ?hg (N := 61) ?hd (xs := ([] : List Int)) (inner := []) (ok := fun _ => True) (okp := fun _ => True) ?hr ?hp (fun _ hk => hk) trivial (Below.refl _ _) (Nat.le_refl _) (by simp) ?_; (case hd => rfl); (case hg => rfl); (case hr => first | (go_simp; done) | (go_simp; rfl)); (case hp => exact (Reps.none _ _)); intro v294 w21 ho22 hb hg_ hnew_; clear hg_ hnew_; (first | rw [← Ny293.out] at ho22 | (simp only [Int.reduceToNat] at ho22; rw [← Ny293.out] at ho22)); replace HO_5 := Q.a (Kd.R_below (Q.kr HO_5) hb); replace HO295 := Q.a (Kd.R_lower ho22 (below_size (Q.bw HB))); replace HB := Q.a (below_step (Q.bw HB) hb); clear hb ho22; obtain ⟨Ao23, co23, eo23⟩ := Kd.R_slice HO_5.out; subst eo23)))
      go_loopg [10, 64] k1 (fun kq v10 v64 w' => ∃ (x10_2 : List Int) (x64_2 : Int), v64 = .int .i64 x64_2 ∧ Aside0 (voussoirref01_Mul.l2 kq x10_2 x5_1 (x5_1.length : Int) x64_2 = some r) ∧ Aside0 (kq ≤ k1) ∧ Aside0 (Kd.R (Kd.int .u8) 5 w' w.heap.size (fun _ => True) v10 x10_2) ∧ Aside0 (Kd.R (Kd.int .i64) 3 w' w.heap.size (fun _ => True) (.slice Ao23 x5_1.length co23) x5_1) ∧ Aside0 (Below w.heap.size w w'))
      case atStart => exact ⟨(y293), (0), Q.rs, H', ⟨Nat.le_refl _⟩, ⟨Q.kr HO295⟩, ⟨Q.kr HO_5⟩, ⟨Q.bw HB⟩⟩
      case round =>
       clear H'
       try clear c1
       try clear p1
       try clear q1
       try clear hx1
       try clear c2
       try clear p2
       try clear q2
       try clear hx2
       try clear c4
       try clear c4b0
       try clear c4b1
       try clear c5
       try clear c5b0
       try clear c5b1
       try clear p6
       try clear c8
       try clear c8b0
       try clear c10
       try clear c10b0
       try clear c11
       try clear c13
       try clear c13b0
       try clear c14
       try clear c14b0
       try clear p17
       try clear q17
       try clear hx17
       try clear hf17
       try clear hx17_0
       try clear hx289_0
       try clear p17
       try clear p2
       try clear p289
       try clear p6
       try clear q17
       try clear q289
       obtain ⟨x10_2, x64_2, rfl, HA, HK2, HO_10, HO_62, HB⟩ := hrel
       cases gk with
       | zero => exact absurd HA.out (by simp [voussoirref01_Mul.l2])
       | succ k2 =>
        have H := HA.out
        clear HA
        simp only [voussoirref01_Mul.l2] at H
        by_cases c24 : x64_2 < (x5_1.length : Int)
        ·rw [if_pos c24] at H
         have c24b0 : decide (x64_2 < (x5_1.length : Int)) = true := decide_eq_true c24
         clear c24
         by_cases c25 : 0 ≤ x64_2
         ·rw [if_pos c25] at H
          have c25b0 : decide (0 ≤ x64_2) = true := decide_eq_true c25
          clear c25
          by_cases c26 : x64_2 < (x5_1.length : Int)
          ·rw [if_pos c26] at H
           have c26b0 : decide (x64_2 < (x5_1.length : Int)) = true := decide_eq_true c26
           clear c26
           by_cases c27 : x10_2.length < 140737488355328
           ·rw [if_pos c27] at H
            have LMc27 := Q.a c27
            clear c27
            obtain ⟨y297, hy297⟩ : ∃ y_ : List Int, y_ = (x10_2 ++ [(rd x5_1 x64_2) % 256]) := ⟨_, rfl⟩
            replace H : (voussoirref01_Mul.l2 k2 y297 x5_1 (x5_1.length : Int) (wrap64 (x64_2 + 1))) = some r := by first | (rw [hy297]; with_reducible exact H) | (have H2_ := (Option.bind_some _ _).symm.trans H; rw [hy297]; with_reducible exact H2_) | (have H2_ := (Option.bind_some _ _).symm.trans H; with_reducible exact H2_) | with_reducible exact H | (rw [hy297]; exact H) | exact H
            have Ny297 := Q.a hy297
            clear hy297
            have H' := Q.a H
            clear H
            have p296 : 0 ≤ (x64_2 : Int) := of_decide_eq_true (by first | (with_reducible assumption) | assumption)
            have q296 : x64_2 < (x5_1.length : Int) := of_decide_eq_true (by first | (with_reducible assumption) | assumption)
            obtain ⟨ad296, e296, hx296_0⟩ := Kd.at_int (Kd.R_reads' HO_62.out).2.2 x64_2 p296 q296
            cases e296
            replace p296 := eq_true p296
            replace q296 := eq_true q296
            go_wp2_with (first | ((with_reducible refine gate_builtin (b := .append) (xs := #[.tmp 68, .tmp 71]) rfl ?_); at_builtin; refine Kd.R_append (Kd.int .u8) (w0 := w) w.heap.size rfl (.tmp 68) (.tmp 71) 70 5 (.int .u8 0) 1 rfl Tryd.underlying70 info5 rfl (by decide) (by omega) u10 x10_2 ((rd x5_1 x64_2) % 256) [.int .u8 ((rd x5_1 x64_2) % 256)] (fun _ => True) (fun _ => False) rfl rfl ?aP (fun _ hk => hk.elim) ?aF ?aO ?aB ?aS ?aL ?_; (case aP => exact rfl); (case aB => exact (Q.bw HB)); (case aF => exact (fun _ _ => trivial)); (case aO => exact (Q.kr HO_10)); (case aS => exact (below_size (Q.bw HB))); (case aL => have := LMc27.out; omega); intro v298 w28 ho hb hg hat; rw [← Ny297.out] at ho; replace HO_62 := Q.a (Kd.R_over' (Q.kr HO_62) (Kd.R_typed (Q.kr HO_10)) (by decide) hg); replace HB := Q.a (hb); replace HO299 := Q.a (ho); clear HO_10; clear ho hb hg hat))
            repeat (go_quiet (first | ((with_reducible refine gate_builtin (b := .append) (xs := #[.tmp 68, .tmp 71]) rfl ?_); at_builtin; refine Kd.R_append (Kd.int .u8) (w0 := w) w.heap.size rfl (.tmp 68) (.tmp 71) 70 5 (.int .u8 0) 1 rfl Tryd.underlying70 info5 rfl (by decide) (by omega) u10 x10_2 ((rd x5_1 x64_2) % 256) [.int .u8 ((rd x5_1 x64_2) % 256)] (fun _ => True) (fun _ => False) rfl rfl ?aP (fun _ hk => hk.elim) ?aF ?aO ?aB ?aS ?aL ?_; (case aP => exact rfl); (case aB => exact (Q.bw HB)); (case aF => exact (fun _ _ => trivial)); (case aO => exact (Q.kr HO_10)); (case aS => exact (below_size (Q.bw HB))); (case aL => have := LMc27.out; omega); intro v298 w28 ho hb hg hat; rw [← Ny297.out] at ho; replace HO_62 := Q.a (Kd.R_over' (Q.kr HO_62) (Kd.R_typed (Q.kr HO_10)) (by decide) hg); replace HB := Q.a (hb); replace HO299 := Q.a (ho); clear HO_10; clear ho hb hg hat)); try go_wp2_with (first | ((with_reducible refine gate_builtin (b := .append) (xs := #[.tmp 68, .tmp 71]) rfl ?_); at_builtin; refine Kd.R_append (Kd.int .u8) (w0 := w) w.heap.size rfl (.tmp 68) (.tmp 71) 70 5 (.int .u8 0) 1 rfl Tryd.underlying70 info5 rfl (by decide) (by omega) u10 x10_2 ((rd x5_1 x64_2) % 256) [.int .u8 ((rd x5_1 x64_2) % 256)] (fun _ => True) (fun _ => False) rfl rfl ?aP (fun _ hk => hk.elim) ?aF ?aO ?aB ?aS ?aL ?_; (case aP => exact rfl); (case aB => exact (Q.bw HB)); (case aF => exact (fun _ _ => trivial)); (case aO => exact (Q.kr HO_10)); (case aS => exact (below_size (Q.bw HB))); (case aL => have := LMc27.out; omega); intro v298 w28 ho hb hg hat; rw [← Ny297.out] at ho; replace HO_62 := Q.a (Kd.R_over' (Q.kr HO_62) (Kd.R_typed (Q.kr HO_10)) (by decide) hg); replace HB := Q.a (hb); replace HO299 := Q.a (ho); clear HO_10; clear ho hb hg hat)))
            go_roundg k2
            case measure => have := HK1.out; have := HK2.out; omega
            case rel => exact ⟨(y297), (wrap64 (x64_2 + 1)), Q.rs, H', ⟨by have := HK1.out; have := HK2.out; omega⟩, ⟨Q.kr HO299⟩, ⟨Q.kr HO_62⟩, ⟨Q.bw HB⟩⟩
           ·rw [if_neg c27] at H
            exact absurd H (by simp)
          ·rw [if_neg c26] at H
           exact absurd H (by simp)
         ·rw [if_neg c25] at H
          exact absurd H (by simp)
        ·rw [if_neg c24] at H
         have c24b0 : decide (x64_2 < (x5_1.length : Int)) = false := decide_eq_false c24
         clear c24
         replace H := Option.bind_eq_some_iff.mp H
         obtain ⟨t300, A290, H⟩ := H
         try dsimp only at H
         have A29 := Q.a A290
         clear A290
         obtain rfl := Option.some.inj H
         have hcv30 := own_string (P := Tryd.prog) Tryd.underlying70 Tryd.underlying5 Tryd.underlying9 (Kd.own_of_R HO_10.out)
         go_wp2_with (first | (go_at_call 31; (with_reducible refine (voussoirref01_Norm.calls k2 (strOfNums x10_2) t300 _ A29.out).mono ?_); rintro e w' ⟨rfl, ⟨nd, rfl⟩⟩; (try exact Q.dd)))
         repeat (go_quiet (first | (go_at_call 31; (with_reducible refine (voussoirref01_Norm.calls k2 (strOfNums x10_2) t300 _ A29.out).mono ?_); rintro e w' ⟨rfl, ⟨nd, rfl⟩⟩; (try exact Q.dd))); try go_wp2_with (first | (go_at_call 31; (with_reducible refine (voussoirref01_Norm.calls k2 (strOfNums x10_2) t300 _ A29.out).mono ?_); rintro e w' ⟨rfl, ⟨nd, rfl⟩⟩; (try exact Q.dd))))
         go_ret
         exact ⟨by first | rfl | (simp [errW_none, errW_some] <;> rfl) | (simp only [← hji3]; first | rfl | (simp [errW_none, errW_some] <;> rfl)) | (simp [*, errW_none, errW_some] <;> rfl), Q.bw HB⟩
  ·rw [if_neg c5] at H
   exact absurd H (by simp)
 ·rw [if_neg c4] at H
  exact absurd H (by simp)

/-! ### voussoirref01_small: function 70 -/
def voussoirref01_small.f (k : Nat) (a0 : ByteArray) (a1 : Int) : Option (ByteArray) := (voussoirref01_Mul.f k a0 (strOfNums (([(a1) % 256] : List Int)))).bind fun t304 => (some t304)
theorem voussoirref01_small.mono : ∀ a0 a1 k, LeO (voussoirref01_small.f k a0 a1) (voussoirref01_small.f (k + 1) a0 a1) := by
 intro a0 a1 k
 unfold voussoirref01_small.f
 repeat' first
   | (with_reducible exact voussoirref01_Mul.mono _ _ _)
   | (with_reducible exact LeO.refl _)
   | (with_reducible exact LeO.none _)
   | (with_reducible refine LeO.ite ?_ ?_)
   | (with_reducible refine LeO.bind ?_ (fun _ => ?_))
   | exact voussoirref01_Mul.mono _ _ _
   | exact LeO.none _
   | refine LeO.ite ?_ ?_
   | refine LeO.bind ?_ (fun _ => ?_)
set_option maxHeartbeats 8000000 in
set_option maxRecDepth 100000 in
theorem voussoirref01_small.calls (k : Nat) (a0 : ByteArray) (a1 : Int) (r : ByteArray) (w : World) (h : voussoirref01_small.f k a0 a1 = some r) :
  Calls Tryd.prog 70 #[.string a0, .int .i64 a1] w fun e w' => e = .returned (.string r) ∧ Below w.heap.size w w' := by
 have HB := Q.a (Below.refl w.heap.size w)
 have H : ((voussoirref01_Mul.f k a0 (strOfNums (([(a1) % 256] : List Int)))).bind fun t304 => (some t304)) = some r := h
 clear h
 obtain ⟨y301, hy301⟩ : ∃ y_ : List Int, y_ = (([(a1) % 256] : List Int)) := ⟨_, rfl⟩
 replace H : ((voussoirref01_Mul.f k a0 (strOfNums y301)).bind fun t304 => (some t304)) = some r := by first | (rw [hy301]; with_reducible exact H) | (have H2_ := (Option.bind_some _ _).symm.trans H; rw [hy301]; with_reducible exact H2_) | (have H2_ := (Option.bind_some _ _).symm.trans H; with_reducible exact H2_) | with_reducible exact H | (rw [hy301]; exact H) | exact H
 have Ny301 := Q.a hy301
 clear hy301
 replace H := Option.bind_eq_some_iff.mp H
 obtain ⟨t304, A30, H⟩ := H
 try dsimp only at H
 have A3 := Q.a A30
 clear A30
 obtain rfl := Option.some.inj H
 go_enter Tryd.func70, Tryd.ntmps70
 go_wp2_with (first | ((with_reducible refine gate_dst (N := 8) rfl ?_); refine Kd.R_lit (Kd.int .u8) _ 5 ?hg (N := 8) ?hd (xs := ([(a1) % 256] : List Int)) (inner := [.int .u8 ((a1) % 256)]) (ok := fun _ => True) (okp := fun _ => True) ?hr ?hp (fun _ hk => hk) trivial (Below.refl _ _) (Nat.le_refl _) (by simp) ?_; (case hd => rfl); (case hg => rfl); (case hr => first | (go_simp; done) | (go_simp; rfl)); (case hp => exact (Reps.one (show Kd.M (Kd.int .u8) _ _ _ ((a1) % 256) [.int .u8 ((a1) % 256)] from rfl) (Reps.none _ _))); intro v302 w4 ho5 hb hg_ hnew_; clear hg_ hnew_; (first | rw [← Ny301.out] at ho5 | (simp only [Int.reduceToNat] at ho5; rw [← Ny301.out] at ho5)); replace HO303 := Q.a (Kd.R_lower ho5 (below_size (Q.bw HB))); replace HB := Q.a (below_step (Q.bw HB) hb); clear hb ho5; have hcv6 := own_string (P := Tryd.prog) Tryd.underlying70 Tryd.underlying5 Tryd.underlying9 (Kd.own_of_R HO303.out)) | ((with_reducible refine gate_callee (f := 25) rfl ?_); refine Q.gl 10 Tryd.func25 #[.string a0, .string (strOfNums y301)] rfl rfl rfl rfl ?_; (with_reducible refine (voussoirref01_Mul.calls k a0 (strOfNums y301) t304 _ A3.out).mono ?_); rintro e w7 ⟨rfl, hb⟩; refine ⟨_, rfl, ?_⟩; replace HO303 := Q.a (Kd.R_below (Q.kr HO303) hb); replace HB := Q.a (below_step (Q.bw HB) hb); (try clear hb)))
 go_ret
 exact ⟨Q.en, Q.bw HB⟩

/-! ### voussoirref01_Div: function 23 -/
mutual
def voussoirref01_Div.l0 : Nat → ByteArray → ByteArray → List Int → ByteArray → Int → Option (ByteArray × ByteArray × Bool)
 | 0, _, _, _, _, _ => none
 | k + 1, x0, x1, x7, x8, x9 => if x9 ≥ 0 then (if 0 ≤ x9 then (if x9 ≤ (wrap64 (x9 + 1)) then (if (wrap64 (x9 + 1)) ≤ (x0.size : Int) then (if (x0.extract (x9 : Int).toNat ((wrap64 (x9 + 1)) : Int).toNat).size + x8.size ≤ 9223372036854775807 then ((voussoirref01_Norm.f k ((x0.extract (x9 : Int).toNat ((wrap64 (x9 + 1)) : Int).toNat) ++ x8)).bind fun t310 => (voussoirref01_Div.l1 k x0 x1 x7 t310 x9 0 255)) else (none)) else (none)) else (none)) else (none)) else ((voussoirref01_Norm.f k (strOfNums x7)).bind fun t309 => (some (t309, x8, true)))
def voussoirref01_Div.l1 : Nat → ByteArray → ByteArray → List Int → ByteArray → Int → Int → Int → Option (ByteArray × ByteArray × Bool)
 | 0, _, _, _, _, _, _, _ => none
 | k + 1, x0, x1, x7, x8, x9, x10, x11 => if x10 < x11 then ((voussoirref01_small.f k x1 (wrap64 (Int.tdiv (wrap64 ((wrap64 (x10 + x11)) + 1)) 2))).bind fun t315 => ((voussoirref01_Cmp.f k t315 x8).bind fun t316 => (if t316 ≤ 0 then (voussoirref01_Div.l1 k x0 x1 x7 x8 x9 (wrap64 (Int.tdiv (wrap64 ((wrap64 (x10 + x11)) + 1)) 2)) x11) else (voussoirref01_Div.l1 k x0 x1 x7 x8 x9 x10 (wrap64 ((wrap64 (Int.tdiv (wrap64 ((wrap64 (x10 + x11)) + 1)) 2)) - 1)))))) else ((voussoirref01_small.f k x1 x10).bind fun t311 => ((voussoirref01_Sub.f k x8 t311).bind fun bt312 => (if 0 ≤ x9 then (if x9 < (x7.length : Int) then (voussoirref01_Div.l0 k x0 x1 (x7.set (x9 : Int).toNat ((x10) % 256)) bt312.1 (wrap64 (x9 - 1))) else (none)) else (none))))
end
def voussoirref01_Div.f (k : Nat) (a0 : ByteArray) (a1 : ByteArray) : Option (ByteArray × ByteArray × Bool) := (voussoirref01_Norm.f k a1).bind fun t305 => (if t305.toList = ([] : List UInt8) then (some ((⟨#[]⟩ : ByteArray), (⟨#[]⟩ : ByteArray), false)) else (if 0 ≤ (a0.size : Int) then (if ((a0.size : Int) : Int).toNat ≤ 281474976710656 then (voussoirref01_Div.l0 k a0 a1 (List.replicate ((a0.size : Int) : Int).toNat 0) (⟨#[]⟩ : ByteArray) (wrap64 ((a0.size : Int) - 1))) else (none)) else (none)))
theorem voussoirref01_Div.mono_l : ∀ k, (∀ y0 y1 y2 y3 y4, LeO (voussoirref01_Div.l0 k y0 y1 y2 y3 y4) (voussoirref01_Div.l0 (k + 1) y0 y1 y2 y3 y4)) ∧ (∀ y0 y1 y2 y3 y4 y5 y6, LeO (voussoirref01_Div.l1 k y0 y1 y2 y3 y4 y5 y6) (voussoirref01_Div.l1 (k + 1) y0 y1 y2 y3 y4 y5 y6))
 | 0 => ⟨fun _ _ _ _ _ r h => by simp [voussoirref01_Div.l0] at h, fun _ _ _ _ _ _ _ r h => by simp [voussoirref01_Div.l1] at h⟩
 | k + 1 => by
  obtain ⟨ih0, ih1⟩ := voussoirref01_Div.mono_l k
  refine ⟨?_, ?_⟩
  ·intro y0 y1 y2 y3 y4
   unfold voussoirref01_Div.l0
   repeat' first
   | (with_reducible exact ih0 _ _ _ _ _)
   | (with_reducible exact ih1 _ _ _ _ _ _ _)
   | (with_reducible exact voussoirref01_Cmp.mono _ _ _)
   | (with_reducible exact voussoirref01_Norm.mono _ _)
   | (with_reducible exact voussoirref01_Sub.mono _ _ _)
   | (with_reducible exact voussoirref01_small.mono _ _ _)
   | (with_reducible exact LeO.refl _)
   | (with_reducible exact LeO.none _)
   | (with_reducible refine LeO.ite ?_ ?_)
   | (with_reducible refine LeO.bind ?_ (fun _ => ?_))
   | exact ih0 _ _ _ _ _
   | exact ih1 _ _ _ _ _ _ _
   | exact voussoirref01_Cmp.mono _ _ _
   | exact voussoirref01_Norm.mono _ _
   | exact voussoirref01_Sub.mono _ _ _
   | exact voussoirref01_small.mono _ _ _
   | exact LeO.none _
   | refine LeO.ite ?_ ?_
   | refine LeO.bind ?_ (fun _ => ?_)
  ·intro y0 y1 y2 y3 y4 y5 y6
   unfold voussoirref01_Div.l1
   repeat' first
   | (with_reducible exact ih0 _ _ _ _ _)
   | (with_reducible exact ih1 _ _ _ _ _ _ _)
   | (with_reducible exact voussoirref01_Cmp.mono _ _ _)
   | (with_reducible exact voussoirref01_Norm.mono _ _)
   | (with_reducible exact voussoirref01_Sub.mono _ _ _)
   | (with_reducible exact voussoirref01_small.mono _ _ _)
   | (with_reducible exact LeO.refl _)
   | (with_reducible exact LeO.none _)
   | (with_reducible refine LeO.ite ?_ ?_)
   | (with_reducible refine LeO.bind ?_ (fun _ => ?_))
   | exact ih0 _ _ _ _ _
   | exact ih1 _ _ _ _ _ _ _
   | exact voussoirref01_Cmp.mono _ _ _
   | exact voussoirref01_Norm.mono _ _
   | exact voussoirref01_Sub.mono _ _ _
   | exact voussoirref01_small.mono _ _ _
   | exact LeO.none _
   | refine LeO.ite ?_ ?_
   | refine LeO.bind ?_ (fun _ => ?_)
theorem voussoirref01_Div.mono : ∀ a0 a1 k, LeO (voussoirref01_Div.f k a0 a1) (voussoirref01_Div.f (k + 1) a0 a1) := by
 intro a0 a1 k
 obtain ⟨ih0, ih1⟩ := voussoirref01_Div.mono_l k
 unfold voussoirref01_Div.f
 repeat' first
   | (with_reducible exact ih0 _ _ _ _ _)
   | (with_reducible exact ih1 _ _ _ _ _ _ _)
   | (with_reducible exact voussoirref01_Cmp.mono _ _ _)
   | (with_reducible exact voussoirref01_Norm.mono _ _)
   | (with_reducible exact voussoirref01_Sub.mono _ _ _)
   | (with_reducible exact voussoirref01_small.mono _ _ _)
   | (with_reducible exact LeO.refl _)
   | (with_reducible exact LeO.none _)
   | (with_reducible refine LeO.ite ?_ ?_)
   | (with_reducible refine LeO.bind ?_ (fun _ => ?_))
   | exact ih0 _ _ _ _ _
   | exact ih1 _ _ _ _ _ _ _
   | exact voussoirref01_Cmp.mono _ _ _
   | exact voussoirref01_Norm.mono _ _
   | exact voussoirref01_Sub.mono _ _ _
   | exact voussoirref01_small.mono _ _ _
   | exact LeO.none _
   | refine LeO.ite ?_ ?_
   | refine LeO.bind ?_ (fun _ => ?_)
set_option maxHeartbeats 8000000 in
set_option maxRecDepth 100000 in
theorem voussoirref01_Div.calls (k : Nat) (a0 : ByteArray) (a1 : ByteArray) (r1 : ByteArray) (r2 : ByteArray) (r3 : Bool) (w : World) (h : voussoirref01_Div.f k a0 a1 = some (r1, r2, r3)) :
  Calls Tryd.prog 23 #[.string a0, .string a1] w fun e w' => e = .returned (.tuple #[.string r1, .string r2, .bool r3]) ∧ Below w.heap.size w w' := by
 have HB := Q.a (Below.refl w.heap.size w)
 have H : ((voussoirref01_Norm.f k a1).bind fun t305 => (if t305.toList = ([] : List UInt8) then (some ((⟨#[]⟩ : ByteArray), (⟨#[]⟩ : ByteArray), false)) else (if 0 ≤ (a0.size : Int) then (if ((a0.size : Int) : Int).toNat ≤ 281474976710656 then (voussoirref01_Div.l0 k a0 a1 (List.replicate ((a0.size : Int) : Int).toNat 0) (⟨#[]⟩ : ByteArray) (wrap64 ((a0.size : Int) - 1))) else (none)) else (none)))) = some (r1, r2, r3) := h
 clear h
 replace H := Option.bind_eq_some_iff.mp H
 obtain ⟨t305, A30, H⟩ := H
 try dsimp only at H
 have A3 := Q.a A30
 clear A30
 by_cases c4 : t305.toList = ([] : List UInt8)
 ·rw [if_pos c4] at H
  have c4b0 : (t305.toList == ([] : List UInt8)) = true := beq_iff_eq.mpr c4
  have c4b1 : (t305.toList != ([] : List UInt8)) = false := bne_eq_false_iff_eq.mpr c4
  clear c4
  simp only [Option.some.injEq, Prod.mk.injEq] at H
  obtain ⟨rfl, rfl, rfl⟩ := H
  go_enter Tryd.func23, Tryd.ntmps23
  go_wp2_with (first | ((with_reducible refine gate_callee (f := 31) rfl ?_); refine Q.gl 14 Tryd.func31 #[.string a1] rfl rfl rfl rfl ?_; (with_reducible refine (voussoirref01_Norm.calls k a1 t305 _ A3.out).mono ?_); rintro e w' ⟨rfl, ⟨nd, rfl⟩⟩; refine ⟨_, rfl, ?_⟩))
  go_ret3
  exact ⟨Q.en, Q.bw HB⟩
 ·rw [if_neg c4] at H
  have c4b0 : (t305.toList == ([] : List UInt8)) = false := beq_eq_false_iff_ne.mpr c4
  have c4b1 : (t305.toList != ([] : List UInt8)) = true := bne_iff_ne.mpr c4
  by_cases c5 : 0 ≤ (a0.size : Int)
  ·rw [if_pos c5] at H
   have c5b0 := eq_true c5
   have c5b1 : decide (0 ≤ (a0.size : Int)) = true := decide_eq_true c5
   clear c5
   by_cases c6 : ((a0.size : Int) : Int).toNat ≤ 281474976710656
   ·rw [if_pos c6] at H
    have c6b0 := eq_true c6
    have c6b1 : decide (((a0.size : Int) : Int).toNat ≤ 281474976710656) = true := decide_eq_true c6
    clear c6
    obtain ⟨y306, hy306⟩ : ∃ y_ : List Int, y_ = (List.replicate ((a0.size : Int) : Int).toNat 0) := ⟨_, rfl⟩
    replace H : (voussoirref01_Div.l0 k a0 a1 y306 (⟨#[]⟩ : ByteArray) (wrap64 ((a0.size : Int) - 1))) = some (r1, r2, r3) := by first | (rw [hy306]; with_reducible exact H) | (have H2_ := (Option.bind_some _ _).symm.trans H; rw [hy306]; with_reducible exact H2_) | (have H2_ := (Option.bind_some _ _).symm.trans H; with_reducible exact H2_) | with_reducible exact H | (rw [hy306]; exact H) | exact H
    have Ny306 := Q.a hy306
    clear hy306
    have H' := Q.a H
    clear H
    go_enter Tryd.func23, Tryd.ntmps23
    go_wp2_with (first | ((with_reducible refine gate_callee (f := 31) rfl ?_); refine Q.gl 14 Tryd.func31 #[.string a1] rfl rfl rfl rfl ?_; (with_reducible refine (voussoirref01_Norm.calls k a1 t305 _ A3.out).mono ?_); rintro e w' ⟨rfl, ⟨nd, rfl⟩⟩; refine ⟨_, rfl, ?_⟩) | ((with_reducible refine gate_dst (N := 18) rfl ?_); refine Kd.R_make (Kd.int .u8) _ 5 rfl (N := 18) rfl 70 _ _ rfl (a0.size : Int) rfl rfl Tryd.underlying70 (.int .u8 0) 1 info5 rfl (by decide) (by omega) 0 (ok := fun _ => True) (okp := fun _ => True) rfl (fun _ hk => hk) trivial Q.od (Nat.le_trans (Nat.mul_le_mul_right _ (of_decide_eq_true (by first | (with_reducible assumption) | assumption) : (a0.size : Int).toNat ≤ 281474976710656)) (by omega)) (Below.refl _ _) (Nat.le_refl _) ?_; intro v307 w7 ho8 hb hg_ hnew_; clear hg_ hnew_; (first | rw [← Ny306.out] at ho8 | (simp only [Int.reduceToNat] at ho8; rw [← Ny306.out] at ho8)); replace HO308 := Q.a (Kd.R_lower ho8 (below_size (Q.bw HB))); replace HB := Q.a (below_step (Q.bw HB) hb); clear hb ho8))
    go_loopg [8, 9] k (fun kq v8 v9 w' => ∃ (x7_1 : List Int) (x8_1 : ByteArray) (x9_1 : Int), v8 = .string x8_1 ∧ v9 = .int .i64 x9_1 ∧ Aside0 (voussoirref01_Div.l0 kq a0 a1 x7_1 x8_1 x9_1 = some (r1, r2, r3)) ∧ Aside0 (kq ≤ k) ∧ Aside0 (Kd.R (Kd.int .u8) 5 w' w.heap.size (fun _ => True) v307 x7_1) ∧ Aside0 (Below w.heap.size w w'))
    case atStart => exact ⟨(y306), ((⟨#[]⟩ : ByteArray)), (wrap64 ((a0.size : Int) - 1)), Q.rs, Q.rs, H', ⟨Nat.le_refl _⟩, ⟨Q.kr HO308⟩, ⟨Q.bw HB⟩⟩
    case round =>
     clear H'
     try clear c2
     try clear p2
     try clear c3
     try clear c4
     try clear c4b0
     try clear c4b1
     try clear c5
     try clear c5b0
     try clear c5b1
     try clear c6
     try clear c6b0
     try clear c6b1
     try clear p6
     obtain ⟨x7_1, x8_1, x9_1, rfl, rfl, HA, HK1, HO_7, HB⟩ := hrel
     cases gk with
     | zero => exact absurd HA.out (by simp [voussoirref01_Div.l0])
     | succ k1 =>
      have H := HA.out
      clear HA
      simp only [voussoirref01_Div.l0] at H
      by_cases c9 : x9_1 ≥ 0
      ·rw [if_pos c9] at H
       have c9b0 : decide (0 ≤ x9_1) = true := decide_eq_true c9
       clear c9
       by_cases c10 : 0 ≤ x9_1
       ·rw [if_pos c10] at H
        have c10b0 := eq_true c10
        have c10b1 : decide (0 ≤ x9_1) = true := decide_eq_true c10
        clear c10
        by_cases c11 : x9_1 ≤ (wrap64 (x9_1 + 1))
        ·rw [if_pos c11] at H
         have c11b0 := eq_true c11
         have c11b1 : decide (x9_1 ≤ (wrap64 (x9_1 + 1))) = true := decide_eq_true c11
         by_cases c12 : (wrap64 (x9_1 + 1)) ≤ (a0.size : Int)
         ·rw [if_pos c12] at H
          have c12b0 := eq_true c12
          have c12b1 : decide ((wrap64 (x9_1 + 1)) ≤ (a0.size : Int)) = true := decide_eq_true c12
          by_cases c13 : (a0.extract (x9_1 : Int).toNat ((wrap64 (x9_1 + 1)) : Int).toNat).size + x8_1.size ≤ 9223372036854775807
          ·rw [if_pos c13] at H
           have c13b0 := eq_true c13
           have c13b1 : decide ((a0.extract (x9_1 : Int).toNat ((wrap64 (x9_1 + 1)) : Int).toNat).size + x8_1.size ≤ 9223372036854775807) = true := decide_eq_true c13
           try have c13b2 : (9223372036854775807 < (a0.extract (x9_1 : Int).toNat ((wrap64 (x9_1 + 1)) : Int).toNat).size + x8_1.size) = False := eq_false (Nat.not_lt.2 c13)
           replace H := Option.bind_eq_some_iff.mp H
           obtain ⟨t310, A140, H⟩ := H
           try dsimp only at H
           have A14 := Q.a A140
           clear A140
           have H' := Q.a H
           clear H
           go_wp2_with (first | ((with_reducible refine gate_callee (f := 31) rfl ?_); refine Q.gl 33 Tryd.func31 #[.string ((a0.extract (x9_1 : Int).toNat ((wrap64 (x9_1 + 1)) : Int).toNat) ++ x8_1)] rfl rfl rfl rfl ?_; (with_reducible refine (voussoirref01_Norm.calls k1 ((a0.extract (x9_1 : Int).toNat ((wrap64 (x9_1 + 1)) : Int).toNat) ++ x8_1) t310 _ A14.out).mono ?_); rintro e w' ⟨rfl, ⟨nd, rfl⟩⟩; refine ⟨_, rfl, ?_⟩))
           go_loopg [10, 11] k1 (fun kq v10 v11 w' => ∃ (x10_2 : Int) (x11_2 : Int), v10 = .int .i64 x10_2 ∧ v11 = .int .i64 x11_2 ∧ Aside0 (voussoirref01_Div.l1 kq a0 a1 x7_1 t310 x9_1 x10_2 x11_2 = some (r1, r2, r3)) ∧ Aside0 (kq ≤ k1) ∧ Aside0 (Kd.R (Kd.int .u8) 5 w' w.heap.size (fun _ => True) v307 x7_1) ∧ Aside0 (Below w.heap.size w w'))
           case atStart => exact ⟨(0), (255), Q.rs, Q.rs, H', ⟨Nat.le_refl _⟩, ⟨Q.kr HO_7⟩, ⟨Q.bw HB⟩⟩
           case round =>
            clear H'
            try clear c1
            try clear c2
            try clear p2
            try clear c3
            try clear c4
            try clear c4b0
            try clear c4b1
            try clear c5
            try clear c5b0
            try clear c5b1
            try clear c6
            try clear c6b0
            try clear c6b1
            try clear p6
            try clear c9
            try clear c9b0
            try clear c10
            try clear c10b0
            try clear c10b1
            try clear c11
            try clear c11b0
            try clear c11b1
            try clear c12
            try clear c12b0
            try clear c12b1
            try clear c13
            try clear c13b0
            try clear c13b1
            try clear c13b2
            try clear p2
            try clear p6
            obtain ⟨x10_2, x11_2, rfl, rfl, HA, HK2, HO_7, HB⟩ := hrel
            cases gk with
            | zero => exact absurd HA.out (by simp [voussoirref01_Div.l1])
            | succ k2 =>
             have H := HA.out
             clear HA
             simp only [voussoirref01_Div.l1] at H
             by_cases c15 : x10_2 < x11_2
             ·rw [if_pos c15] at H
              have c15b0 : decide (x10_2 < x11_2) = true := decide_eq_true c15
              clear c15
              replace H := Option.bind_eq_some_iff.mp H
              obtain ⟨t315, A160, H⟩ := H
              try dsimp only at H
              have A16 := Q.a A160
              clear A160
              replace H := Option.bind_eq_some_iff.mp H
              obtain ⟨t316, A170, H⟩ := H
              try dsimp only at H
              have A17 := Q.a A170
              clear A170
              by_cases c18 : t316 ≤ 0
              ·rw [if_pos c18] at H
               have c18b0 : decide (t316 ≤ 0) = true := decide_eq_true c18
               clear c18
               have H' := Q.a H
               clear H
               go_wp2_with (first | ((with_reducible refine gate_callee (f := 70) rfl ?_); refine Q.gl 44 Tryd.func70 #[.string a1, .int .i64 (wrap64 (Int.tdiv (wrap64 ((wrap64 (x10_2 + x11_2)) + 1)) 2))] rfl rfl rfl rfl ?_; (with_reducible refine (voussoirref01_small.calls k2 a1 (wrap64 (Int.tdiv (wrap64 ((wrap64 (x10_2 + x11_2)) + 1)) 2)) t315 _ A16.out).mono ?_); rintro e w19 ⟨rfl, hb⟩; refine ⟨_, rfl, ?_⟩; replace HO_7 := Q.a (Kd.R_below (Q.kr HO_7) hb); replace HB := Q.a (below_step (Q.bw HB) hb); (try clear hb)) | ((with_reducible refine gate_callee (f := 32) rfl ?_); refine Q.gl 46 Tryd.func32 #[.string t315, .string t310] rfl rfl rfl rfl ?_; (with_reducible refine (voussoirref01_Cmp.calls k2 t315 t310 t316 _ A17.out).mono ?_); rintro e w' ⟨rfl, ⟨nd, rfl⟩⟩; refine ⟨_, rfl, ?_⟩))
               go_roundg k2
               case measure => have := HK1.out; have := HK2.out; omega
               case rel => exact ⟨(wrap64 (Int.tdiv (wrap64 ((wrap64 (x10_2 + x11_2)) + 1)) 2)), (x11_2), Q.rs, Q.rs, H', ⟨by have := HK1.out; have := HK2.out; omega⟩, ⟨Q.kr HO_7⟩, ⟨Q.bw HB⟩⟩
              ·rw [if_neg c18] at H
               have c18b0 : decide (t316 ≤ 0) = false := decide_eq_false c18
               clear c18
               have H' := Q.a H
               clear H
               go_wp2_with (first | ((with_reducible refine gate_callee (f := 70) rfl ?_); refine Q.gl 44 Tryd.func70 #[.string a1, .int .i64 (wrap64 (Int.tdiv (wrap64 ((wrap64 (x10_2 + x11_2)) + 1)) 2))] rfl rfl rfl rfl ?_; (with_reducible refine (voussoirref01_small.calls k2 a1 (wrap64 (Int.tdiv (wrap64 ((wrap64 (x10_2 + x11_2)) + 1)) 2)) t315 _ A16.out).mono ?_); rintro e w20 ⟨rfl, hb⟩; refine ⟨_, rfl, ?_⟩; replace HO_7 := Q.a (Kd.R_below (Q.kr HO_7) hb); replace HB := Q.a (below_step (Q.bw HB) hb); (try clear hb)) | ((with_reducible refine gate_callee (f := 32) rfl ?_); refine Q.gl 46 Tryd.func32 #[.string t315, .string t310] rfl rfl rfl rfl ?_; (with_reducible refine (voussoirref01_Cmp.calls k2 t315 t310 t316 _ A17.out).mono ?_); rintro e w' ⟨rfl, ⟨nd, rfl⟩⟩; refine ⟨_, rfl, ?_⟩))
               go_roundg k2
               case measure => have := HK1.out; have := HK2.out; omega
               case rel => exact ⟨(x10_2), (wrap64 ((wrap64 (Int.tdiv (wrap64 ((wrap64 (x10_2 + x11_2)) + 1)) 2)) - 1)), Q.rs, Q.rs, H', ⟨by have := HK1.out; have := HK2.out; omega⟩, ⟨Q.kr HO_7⟩, ⟨Q.bw HB⟩⟩
             ·rw [if_neg c15] at H
              have c15b0 : decide (x10_2 < x11_2) = false := decide_eq_false c15
              clear c15
              replace H := Option.bind_eq_some_iff.mp H
              obtain ⟨t311, A210, H⟩ := H
              try dsimp only at H
              have A21 := Q.a A210
              clear A210
              replace H := Option.bind_eq_some_iff.mp H
              obtain ⟨⟨t312, t313⟩, A220, H⟩ := H
              try dsimp only at H
              have A22 := Q.a A220
              clear A220
              by_cases c23 : 0 ≤ x9_1
              ·rw [if_pos c23] at H
               have c23b0 : decide (0 ≤ x9_1) = true := decide_eq_true c23
               clear c23
               by_cases c24 : x9_1 < (x7_1.length : Int)
               ·rw [if_pos c24] at H
                have c24b0 : decide (x9_1 < (x7_1.length : Int)) = true := decide_eq_true c24
                clear c24
                obtain ⟨y314, hy314⟩ : ∃ y_ : List Int, y_ = (x7_1.set (x9_1 : Int).toNat ((x10_2) % 256)) := ⟨_, rfl⟩
                replace H : (voussoirref01_Div.l0 k2 a0 a1 y314 t312 (wrap64 (x9_1 - 1))) = some (r1, r2, r3) := by first | (rw [hy314]; with_reducible exact H) | (have H2_ := (Option.bind_some _ _).symm.trans H; rw [hy314]; with_reducible exact H2_) | (have H2_ := (Option.bind_some _ _).symm.trans H; with_reducible exact H2_) | with_reducible exact H | (rw [hy314]; exact H) | exact H
                have Ny314 := Q.a hy314
                clear hy314
                have H' := Q.a H
                clear H
                go_wp2_with (first | ((with_reducible refine gate_callee (f := 70) rfl ?_); refine Q.gl 55 Tryd.func70 #[.string a1, .int .i64 x10_2] rfl rfl rfl rfl ?_; (with_reducible refine (voussoirref01_small.calls k2 a1 x10_2 t311 _ A21.out).mono ?_); rintro e w26 ⟨rfl, hb⟩; refine ⟨_, rfl, ?_⟩; replace HO_7 := Q.a (Kd.R_below (Q.kr HO_7) hb); replace HB := Q.a (below_step (Q.bw HB) hb); (try clear hb)) | ((with_reducible refine gate_callee (f := 30) rfl ?_); refine Q.gl 56 Tryd.func30 #[.string t310, .string t311] rfl rfl rfl rfl ?_; (with_reducible refine (voussoirref01_Sub.calls k2 t310 t311 t312 t313 _ A22.out).mono ?_); rintro e w27 ⟨rfl, hb⟩; refine ⟨_, rfl, ?_⟩; replace HO_7 := Q.a (Kd.R_below (Q.kr HO_7) hb); replace HB := Q.a (below_step (Q.bw HB) hb); (try clear hb); have p25 : 0 ≤ (x9_1 : Int) := of_decide_eq_true (by first | (with_reducible assumption) | assumption); have q25 : (x9_1 : Int) < ((x7_1.length : Int) : Int) := of_decide_eq_true (by first | (with_reducible assumption) | assumption); obtain ⟨go25, co25, eo25, gb25, gl25, cl25, HG25⟩ := Kd.R_form HO_7.out (by omega); (first | cases eo25 | (injection eo25 with ea_ en_ ec_; (first | subst ea_ | (injection ea_ with ea_; subst ea_)); subst ec_; clear en_)); have GB25 := Q.a gb25; have GG25 := Q.a HG25; clear gb25 gl25 HG25; obtain ⟨hx25_0, hf25_0⟩ := Kd.R_celln 0 HO_7.out (x9_1 : Int) p25 q25; replace p25 := eq_true p25; replace q25 := eq_true q25; obtain ⟨hy28_, hz28_⟩ := Kd.R_celln 0 HO_7.out (x9_1 : Int) Q.od Q.od; have HP28 := Kd.R_putg HO_7.out (x9_1 : Int) ((x10_2) % 256)) | ((with_reducible refine gate_store (t := 5) (p := 63) rfl ?_); refine store_event (t := 5) (p := 63) (v := ?vo_w29) (w1 := (w27.setCell ⟨go25, (x9_1 : Int).toNat, none⟩ (.int .u8 ((x10_2) % 256)))) ?hg ?ho ?hn ?hr ?_; (case ho => rfl); (case hg => rfl); (case hn => rfl); (case hr => first | (go_simp; done) | (go_simp; rfl)); intro w29 hw; have hg : w27.grownBy w29 (some go25) := (by rw [hw]; exact HP28.2); have hp_ : Kd.R (Kd.int .u8) 5 w29 w.heap.size (fun _ => True) (.slice (some ⟨go25, 0, none⟩) x7_1.length co25) y314 := (by rw [hw, Ny314.out]; exact HP28.1); clear HP28; replace HO_7 := Q.a (hp_); replace HB := Q.a ((by rw [hw]; exact below_set (HB.out) GB25.out : Below w.heap.size w w29)); clear hg hw hp_))
                go_roundg k2
                case measure => have := HK1.out; have := HK2.out; omega
                case rel => exact ⟨(y314), (t312), (wrap64 (x9_1 - 1)), Q.rs, Q.rs, H', ⟨by have := HK1.out; have := HK2.out; omega⟩, ⟨Q.kr HO_7⟩, ⟨Q.bw HB⟩⟩
               ·rw [if_neg c24] at H
                exact absurd H (by simp)
              ·rw [if_neg c23] at H
               exact absurd H (by simp)
          ·rw [if_neg c13] at H
           exact absurd H (by simp)
         ·rw [if_neg c12] at H
          exact absurd H (by simp)
        ·rw [if_neg c11] at H
         exact absurd H (by simp)
       ·rw [if_neg c10] at H
        exact absurd H (by simp)
      ·rw [if_neg c9] at H
       have c9b0 : decide (0 ≤ x9_1) = false := decide_eq_false c9
       clear c9
       replace H := Option.bind_eq_some_iff.mp H
       obtain ⟨t309, A300, H⟩ := H
       try dsimp only at H
       have A30 := Q.a A300
       clear A300
       simp only [Option.some.injEq, Prod.mk.injEq] at H
       obtain ⟨rfl, rfl, rfl⟩ := H
       have hcv31 := own_string (P := Tryd.prog) Tryd.underlying70 Tryd.underlying5 Tryd.underlying9 (Kd.own_of_R HO_7.out)
       go_wp2_with (first | ((with_reducible refine gate_callee (f := 31) rfl ?_); refine Q.gl 66 Tryd.func31 #[.string (strOfNums x7_1)] rfl rfl rfl rfl ?_; (with_reducible refine (voussoirref01_Norm.calls k1 (strOfNums x7_1) t309 _ A30.out).mono ?_); rintro e w' ⟨rfl, ⟨nd, rfl⟩⟩; refine ⟨_, rfl, ?_⟩))
       go_ret3
       exact ⟨Q.en, Q.bw HB⟩
   ·rw [if_neg c6] at H
    exact absurd H (by simp)
  ·rw [if_neg c5] at H
   exact absurd H (by simp)
end Go.Proofs.YtpokflilobkoaaaDoor.P
