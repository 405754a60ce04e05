-- Written by mp.py (a program of this session's, over the kit's printer). Not trusted: Lean checks it.
import Derived.Test.YtpokflilobkoaaaDoorPx0
import Derived.Test.YtpokflilobkoaaaDoorPx8
import Derived.Test.YtpokflilobkoaaaDoorXQ
namespace Go.Proofs.YtpokflilobkoaaaDoor.P
open Go.RowKit Go.Proofs.YtpokflilobkoaaaDoorW.PrintWords Go.Proofs.YtpokflilobkoaaaDoorW.PrintLast Go.Proofs.YtpokflilobkoaaaDoorW.PrintMore
attribute [local go_sem] max2_int min2_int max_two min_two max_three min_three max_four min_four   -- for this text's walks alone
attribute [local go_sem] XW.cell_twice   -- for this text's walks alone
set_option linter.unusedVariables false
set_option linter.unusedSimpArgs false

/-! ### voussoirref01_Add: function 33 -/
mutual
def voussoirref01_Add.l0 : Nat → ByteArray → ByteArray → List Int → Int → Int → Option (ByteArray)
  | 0, _, _, _, _, _ => none
  | k + 1, x0, x1, x5, x6, x7 => if x7 < (x0.size : Int) then (voussoirref01_Add.j1 k x0 x1 x5 x6 x7 true) else (if x7 < (x1.size : Int) then (voussoirref01_Add.j1 k x0 x1 x5 x6 x7 true) else (voussoirref01_Add.j1 k x0 x1 x5 x6 x7 (decide (x6 > 0))))
def voussoirref01_Add.j1 : Nat → ByteArray → ByteArray → List Int → Int → Int → Bool → Option (ByteArray)
  | 0, _, _, _, _, _, _ => none
  | k + 1, x0, x1, x5, x6, x7, x22 => if x22 = true then ((voussoirref01_at.f x0 x7).bind fun t411 => ((voussoirref01_at.f x1 x7).bind fun t412 => (if x5.length < 140737488355328 then (voussoirref01_Add.l0 k x0 x1 (x5 ++ [(Int.tmod (wrap64 (x6 + (wrap64 (t411 + t412)))) 256) % 256]) (wrap64 (Int.tdiv (wrap64 (x6 + (wrap64 (t411 + t412)))) 256)) (wrap64 (x7 + 1))) else (none)))) else ((voussoirref01_Norm.f k (strOfNums x5)).bind fun t416 => (some t416))
end
def voussoirref01_Add.f (k : Nat) (a0 : ByteArray) (a1 : ByteArray) : Option (ByteArray) := voussoirref01_Add.l0 k a0 a1 (([] : List Int)) 0 0
theorem voussoirref01_Add.mono_l : ∀ k, (∀ y0 y1 y2 y3 y4, LeO (voussoirref01_Add.l0 k y0 y1 y2 y3 y4) (voussoirref01_Add.l0 (k + 1) y0 y1 y2 y3 y4)) ∧ (∀ y0 y1 y2 y3 y4 y5, LeO (voussoirref01_Add.j1 k y0 y1 y2 y3 y4 y5) (voussoirref01_Add.j1 (k + 1) y0 y1 y2 y3 y4 y5))
  | 0 => ⟨fun _ _ _ _ _ r h => by simp [voussoirref01_Add.l0] at h, fun _ _ _ _ _ _ r h => by simp [voussoirref01_Add.j1] at h⟩
  | k + 1 => by
    obtain ⟨ih0, ih1⟩ := voussoirref01_Add.mono_l k
    refine ⟨?_, ?_⟩
    · intro y0 y1 y2 y3 y4
      unfold voussoirref01_Add.l0
      repeat' first
      | (with_reducible exact ih0 _ _ _ _ _)
      | (with_reducible exact ih1 _ _ _ _ _ _)
      | (with_reducible exact voussoirref01_Norm.mono _ _)
      | (with_reducible exact LeO.refl _)
      | (with_reducible exact LeO.none _)
      | (with_reducible refine LeO.ite ?_ ?_)
      | (with_reducible refine LeO.bind ?_ (fun _ => ?_))
      | exact ih0 _ _ _ _ _
      | exact ih1 _ _ _ _ _ _
      | exact voussoirref01_Norm.mono _ _
      | exact LeO.none _
      | refine LeO.ite ?_ ?_
      | refine LeO.bind ?_ (fun _ => ?_)
    · intro y0 y1 y2 y3 y4 y5
      unfold voussoirref01_Add.j1
      repeat' first
      | (with_reducible exact ih0 _ _ _ _ _)
      | (with_reducible exact ih1 _ _ _ _ _ _)
      | (with_reducible exact voussoirref01_Norm.mono _ _)
      | (with_reducible exact LeO.refl _)
      | (with_reducible exact LeO.none _)
      | (with_reducible refine LeO.ite ?_ ?_)
      | (with_reducible refine LeO.bind ?_ (fun _ => ?_))
      | exact ih0 _ _ _ _ _
      | exact ih1 _ _ _ _ _ _
      | exact voussoirref01_Norm.mono _ _
      | exact LeO.none _
      | refine LeO.ite ?_ ?_
      | refine LeO.bind ?_ (fun _ => ?_)
theorem voussoirref01_Add.mono : ∀ a0 a1 k, LeO (voussoirref01_Add.f k a0 a1) (voussoirref01_Add.f (k + 1) a0 a1) := by
  intro a0 a1 k
  obtain ⟨ih0, ih1⟩ := voussoirref01_Add.mono_l k
  unfold voussoirref01_Add.f
  repeat' first
      | (with_reducible exact ih0 _ _ _ _ _)
      | (with_reducible exact ih1 _ _ _ _ _ _)
      | (with_reducible exact voussoirref01_Norm.mono _ _)
      | (with_reducible exact LeO.refl _)
      | (with_reducible exact LeO.none _)
      | (with_reducible refine LeO.ite ?_ ?_)
      | (with_reducible refine LeO.bind ?_ (fun _ => ?_))
      | exact ih0 _ _ _ _ _
      | exact ih1 _ _ _ _ _ _
      | exact voussoirref01_Norm.mono _ _
      | exact LeO.none _
      | refine LeO.ite ?_ ?_
      | refine LeO.bind ?_ (fun _ => ?_)
set_option maxHeartbeats 8000000 in
set_option maxRecDepth 100000 in
theorem voussoirref01_Add.calls (k : Nat) (a0 : ByteArray) (a1 : ByteArray) (r : ByteArray) (w : World) (h : voussoirref01_Add.f k a0 a1 = some r) :
    Calls Tryd.prog 33 #[.string a0, .string a1] w fun e w' => e = .returned (.string r) ∧ Below w.heap.size w w' := by
  have HB := Q.a (Below.refl w.heap.size w)
  have H : (voussoirref01_Add.l0 k a0 a1 (([] : List Int)) 0 0) = some r := h
  clear h
  obtain ⟨y408, hy408⟩ : ∃ y_ : List Int, y_ = (([] : List Int)) := ⟨_, rfl⟩
  replace H : (voussoirref01_Add.l0 k a0 a1 y408 0 0) = some r := by first | (rw [hy408]; with_reducible exact H) | (have H2_ := (Option.bind_some _ _).symm.trans H; rw [hy408]; with_reducible exact H2_) | (have H2_ := (Option.bind_some _ _).symm.trans H; with_reducible exact H2_) | with_reducible exact H | (rw [hy408]; exact H) | exact H
  have Ny408 := Q.a hy408
  clear hy408
  have H' := Q.a H
  clear H
  go_enter Tryd.func33, Tryd.ntmps33
  go_wp2_with (first | ((with_reducible refine gate_dst (N := 8) rfl ?_); (try (refine gate_guard (by rfl) ?_; dsimp only)); refine Kd.R_lit (Kd.int .u8) _ 5 ?hg (N := 8) ?hd (xs := ([] : List Int)) (inner := []) (ok := fun _ => True) (okp := fun _ => True) ?hr ?hp (fun _ hk => hk) trivial (Below.refl _ _) (Nat.le_refl _) (by simp) ?_; (case hd => rfl); (case hg => rfl); (case hr => first | (go_simp; done) | (go_simp; rfl)); (case hp => exact (Reps.none _ _)); intro v409 w3 ho4 hb hg_ hnew_; clear hg_ hnew_; (first | rw [← Ny408.out] at ho4 | (simp only [Int.reduceToNat] at ho4; rw [← Ny408.out] at ho4)); replace HO410 := Q.a (Kd.R_lower ho4 (below_size (Q.bw HB))); replace HB := Q.a (below_step (Q.bw HB) hb); clear hb ho4))
  go_loopg [5, 6, 7] k (fun kq v5 v6 v7 w' => ∃ (x5_1 : List Int) (x6_1 : Int) (x7_1 : Int), v6 = .int .i64 x6_1 ∧ v7 = .int .i64 x7_1 ∧ Aside0 (voussoirref01_Add.l0 kq a0 a1 x5_1 x6_1 x7_1 = some r) ∧ Aside0 (kq ≤ k) ∧ Aside0 (Kd.R (Kd.int .u8) 5 w' w.heap.size (fun _ => True) v5 x5_1) ∧ Aside0 (Below w.heap.size w w'))
  case atStart => exact ⟨(y408), (0), (0), Q.rs, Q.rs, H', ⟨Nat.le_refl _⟩, ⟨Q.kr HO410⟩, ⟨Q.bw HB⟩⟩
  case round =>
    clear H'
    try clear p2
    try clear c3
    obtain ⟨x5_1, x6_1, x7_1, rfl, rfl, HA, HK1, HO_5, HB⟩ := hrel
    cases gk with
    | zero => exact absurd HA.out (by simp [voussoirref01_Add.l0])
    | succ k1 =>
      have H := HA.out
      clear HA
      simp only [voussoirref01_Add.l0] at H
      have HC5 := Q.a H
      clear H
      go_upto_region 4 with (fail)
      go_cut [22] (fun v22 wc => ∃ (kq : Nat) (x22_4 : Bool), v22 = .bool x22_4 ∧ Aside0 (voussoirref01_Add.j1 kq a0 a1 x5_1 x6_1 x7_1 x22_4 = some r) ∧ Aside0 (kq ≤ k1) ∧ Aside0 (Kd.R (Kd.int .u8) 5 wc w.heap.size (fun _ => True) u5 x5_1) ∧ Aside0 (Below w.heap.size w wc))
      case first =>
        have H := HC5.out
        clear HC5
        by_cases c6 : x7_1 < (a0.size : Int)
        · rw [if_pos c6] at H
          have c6b0 : decide (x7_1 < (a0.size : Int)) = true := decide_eq_true c6
          clear c6
          (first | rw [c6b0] | (simp only [i64_w, i32_w]; rw [c6b0]) | skip)
          have H' := Q.a H
          clear H
          go_wp2
          go_meet
          case rel => exact ⟨_, (true), Q.rs, H', ⟨by have := HK1.out; first | omega | exact Nat.le_refl _⟩, ⟨Q.kr HO_5⟩, ⟨Q.bw HB⟩⟩
        · rw [if_neg c6] at H
          have c6b0 : decide (x7_1 < (a0.size : Int)) = false := decide_eq_false c6
          clear c6
          (first | rw [c6b0] | (simp only [i64_w, i32_w]; rw [c6b0]) | skip)
          by_cases c7 : x7_1 < (a1.size : Int)
          · rw [if_pos c7] at H
            have c7b0 : decide (x7_1 < (a1.size : Int)) = true := decide_eq_true c7
            clear c7
            have H' := Q.a H
            clear H
            go_wp2
            go_meet
            case rel => exact ⟨_, (true), Q.rs, H', ⟨by have := HK1.out; first | omega | exact Nat.le_refl _⟩, ⟨Q.kr HO_5⟩, ⟨Q.bw HB⟩⟩
          · rw [if_neg c7] at H
            have c7b0 : decide (x7_1 < (a1.size : Int)) = false := decide_eq_false c7
            clear c7
            have H' := Q.a H
            clear H
            go_wp2
            go_meet
            case rel => exact ⟨_, (decide (x6_1 > 0)), Q.rs, H', ⟨by have := HK1.out; first | omega | exact Nat.le_refl _⟩, ⟨Q.kr HO_5⟩, ⟨Q.bw HB⟩⟩
      case rest =>
        clear HC5
        try clear p2
        try clear c3
        try clear c6
        try clear c6b0
        try clear c7
        try clear c7b0
        try clear p2
        obtain ⟨kq, x22_4, rfl, HA, HJ4, HO_5, HB⟩ := hcut
        cases kq with
        | zero => exact absurd HA.out (by simp [voussoirref01_Add.j1])
        | succ kj4 =>
          have H := HA.out
          clear HA
          simp only [voussoirref01_Add.j1] at H
          by_cases c8 : x22_4 = true
          · subst c8
            rw [if_pos rfl] at H
            replace H := Option.bind_eq_some_iff.mp H
            obtain ⟨t411, A90, H⟩ := H
            try dsimp only at H
            have A9 := Q.a A90
            clear A90
            replace H := Option.bind_eq_some_iff.mp H
            obtain ⟨t412, A100, H⟩ := H
            try dsimp only at H
            have A10 := Q.a A100
            clear A100
            by_cases c11 : x5_1.length < 140737488355328
            · rw [if_pos c11] at H
              have LMc11 := Q.a c11
              clear c11
              obtain ⟨y413, hy413⟩ : ∃ y_ : List Int, y_ = (x5_1 ++ [(Int.tmod (wrap64 (x6_1 + (wrap64 (t411 + t412)))) 256) % 256]) := ⟨_, rfl⟩
              replace H : (voussoirref01_Add.l0 kj4 a0 a1 y413 (wrap64 (Int.tdiv (wrap64 (x6_1 + (wrap64 (t411 + t412)))) 256)) (wrap64 (x7_1 + 1))) = some r := by first | (rw [hy413]; with_reducible exact H) | (have H2_ := (Option.bind_some _ _).symm.trans H; rw [hy413]; with_reducible exact H2_) | (have H2_ := (Option.bind_some _ _).symm.trans H; with_reducible exact H2_) | with_reducible exact H | (rw [hy413]; exact H) | exact H
              have Ny413 := Q.a hy413
              clear hy413
              have H' := Q.a H
              clear H
              go_wp2_with (first | ((with_reducible refine gate_callee (f := 71) rfl ?_); refine Q.gl 28 Tryd.func71 #[.string a0, .int .i64 x7_1] rfl rfl rfl rfl ?_; (with_reducible refine (voussoirref01_at.calls a0 x7_1 t411 _ A9.out).mono ?_); rintro e w' ⟨rfl, ⟨nd, rfl⟩⟩; refine ⟨_, rfl, ?_⟩) | ((with_reducible refine gate_callee (f := 71) rfl ?_); refine Q.gl 31 Tryd.func71 #[.string a1, .int .i64 x7_1] rfl rfl rfl rfl ?_; (with_reducible refine (voussoirref01_at.calls a1 x7_1 t412 _ A10.out).mono ?_); rintro e w' ⟨rfl, ⟨nd, rfl⟩⟩; refine ⟨_, rfl, ?_⟩) | ((with_reducible refine gate_builtin (b := .append) (xs := #[.tmp 34, .tmp 38]) rfl ?_); (try (refine gate_guard (by rfl) ?_; dsimp only)); at_builtin; refine Kd.R_append (Kd.int .u8) (w0 := w) w.heap.size rfl (.tmp 34) (.tmp 38) 70 5 (.int .u8 0) 1 rfl Tryd.underlying70 info5 rfl (by decide) (by omega) u5 x5_1 ((Int.tmod (wrap64 (x6_1 + (wrap64 (t411 + t412)))) 256) % 256) [.int .u8 ((Int.tmod (wrap64 (x6_1 + (wrap64 (t411 + t412)))) 256) % 256)] (fun _ => True) (fun _ => False) rfl rfl ?aP (fun _ hk => hk.elim) ?aF ?aO ?aB ?aS ?aL ?_; (case aP => exact rfl); (case aB => exact (Q.bw HB)); (case aF => exact (fun _ _ => trivial)); (case aO => exact (Q.kr HO_5)); (case aS => exact (below_size (Q.bw HB))); (case aL => have := LMc11.out; omega); intro v414 w12 ho hb hg hat; rw [← Ny413.out] at ho; replace HB := Q.a (hb); replace HO415 := Q.a (ho); clear HO_5; clear ho hb hg hat))
              go_roundg kj4
              case measure => have := HK1.out; have := HJ4.out; omega
              case rel => exact ⟨(y413), (wrap64 (Int.tdiv (wrap64 (x6_1 + (wrap64 (t411 + t412)))) 256)), (wrap64 (x7_1 + 1)), Q.rs, Q.rs, H', ⟨by have := HK1.out; have := HJ4.out; omega⟩, ⟨Q.kr HO415⟩, ⟨Q.bw HB⟩⟩
            · rw [if_neg c11] at H
              exact absurd H (by simp)
          · replace c8 := Bool.eq_false_iff.mpr c8
            subst c8
            rw [if_neg (show ¬ (false = true) by decide)] at H
            replace H := Option.bind_eq_some_iff.mp H
            obtain ⟨t416, A130, H⟩ := H
            try dsimp only at H
            have A13 := Q.a A130
            clear A130
            obtain rfl := Option.some.inj H
            have hcv14 := own_string (P := Tryd.prog) Tryd.underlying70 Tryd.underlying5 Tryd.underlying9 (Kd.own_of_R HO_5.out)
            go_wp2_with (first | ((with_reducible refine gate_callee (f := 31) rfl ?_); refine Q.gl 44 Tryd.func31 #[.string (strOfNums x5_1)] rfl rfl rfl rfl ?_; (with_reducible refine (voussoirref01_Norm.calls kj4 (strOfNums x5_1) t416 _ A13.out).mono ?_); rintro e w' ⟨rfl, ⟨nd, rfl⟩⟩; refine ⟨_, rfl, ?_⟩))
            go_ret
            exact ⟨Q.en, Q.bw HB⟩

end Go.Proofs.YtpokflilobkoaaaDoor.P
